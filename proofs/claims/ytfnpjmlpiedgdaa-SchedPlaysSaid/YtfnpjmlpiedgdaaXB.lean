/-
  Walks: the reference's queue.
-/
import Derived.Test.YtfnpjmlpiedgdaaXA
namespace Go.Proofs.Ytfnpjmlpiedgdaa
open Go.Eng

set_option maxHeartbeats 1000000 in
theorem first_raw (b : Nat) (age : Int) (R : List (It Int)) (oc : Option Addr × Nat) (ha : 0 ≤ age ∧ age ≤ 1000000) (hl : R.length ≤ 1000000) (hok : ∀ x ∈ R, 0 ≤ x.rank ∧ x.rank ≤ 9 ∧ 0 ≤ x.tm ∧ x.tm ≤ 1000000000) (hne : 0 < R.length) :
    Ctr Try.prog 61 #[ptr b] [] (refRaw b age R oc) (fun k : Nat => FirstTo age R R.length k) (fun k => vI k) (fun _ => refRaw b age R oc) := by
  refine spec_start (n := 61) [(0, ptr b)] Try.func61 rfl rfl ⟨rfl, trivial⟩ rfl ?_
  intro w0 K hR
  refine wc_seq ?_
  refine wc_region ?_
  refine wl_y rfl (y_assign rfl) ?_
  refine wl_nil ?_
  refine wq_then ?_
  refine wc_seq ?_
  refine wc_region ?_
  refine wl_y rfl (y_assign rfl) ?_
  refine wl_nil ?_
  refine wq_then ?_
  refine wc_seq ?_
  refine wc_seq ?_
  refine wc_region ?_
  refine wl_y rfl (y_assign rfl) ?_
  refine wl_nil ?_
  refine wq_then ?_
  refine wc_block ?_
  refine wc_loop (α := Nat × Nat) (fun y => y.1 ≤ R.length ∧ FirstTo age R y.1 y.2) [(0, _)] (fun y => [(4, vI y.1), (3, vI y.2)]) (fun y => Hp w0 K (refRaw b age R oc)) (fun y => R.length - y.1) (1, 0) ?_ ⟨rfl, rfl, rfl, trivial⟩ ?_ ?_
  · exact ⟨hne, R[0], List.getElem?_eq_getElem hne, by simp, fun j y hj hy => by
  obtain rfl : j = 0 := by simp only at hj; omega
  rw [List.getElem?_eq_getElem hne] at hy; cases hy; exact ⟨Int.le_refl _, fun h => absurd h (Nat.lt_irrefl 0)⟩⟩
  · exact fun w hw => hw
  · rintro ⟨i, k⟩ ⟨hi, hF⟩; simp only at hi hF
    have hF2 := hF
    obtain ⟨x, hx, hki, _⟩ := hF2
    refine wc_seq ?_
    refine wc_seq ?_
    refine wc_region ?_
    refine wl_y rfl (y_move rfl) ?_
    refine wl_y rfl (y_move rfl) ?_
    refine wl_y rfl (y_nilCheck rfl) ?_
    refine wl_y rfl (y_fieldAddr F89_1 rfl) ?_
    refine wl_y rfl (y_load NA87 rfl (by first | exact cell_blk [] rfl | exact cell_blk [_] rfl | exact cell_blk [_, _] rfl | exact cellR_blk (by assumption) rfl)) ?_
    refine wl_y rfl (y_lenSl Try.underlying87 rfl) ?_
    refine wl_y rfl (y_lss rfl rfl) ?_
    refine wl_nil ?_
    refine wq_then ?_
    refine wc_cond rfl (fun hc11 => ?_) (fun hc11 => ?_)
    ·
      simp at hc11
      refine wc_skip ?_
      refine wq_then ?_
      refine wc_seq ?_
      refine wc_block ?_
      refine wc_seq ?_
      refine wc_quiet MO (by kernel_rfl) (Hp.drawless _ _ _) ?_
      obtain ⟨y, hy⟩ : ∃ y, R[i]? = some y := ⟨_, List.getElem?_eq_getElem (by omega)⟩
      obtain ⟨x1, x2, x3, x4⟩ := hok x (List.mem_of_getElem? hx)
      obtain ⟨y1, y2, y3, y4⟩ := hok y (List.mem_of_getElem? hy)
      have m1 : 0 ≤ age * x.rank := Int.mul_nonneg ha.1 x1
      have m2 : age * x.rank ≤ 1000000 * 9 := Int.mul_le_mul ha.2 x2 x1 (by omega)
      have m3 : 0 ≤ age * y.rank := Int.mul_nonneg ha.1 y1
      have m4 : age * y.rank ≤ 1000000 * 9 := Int.mul_le_mul ha.2 y2 y1 (by omega)
      refine wt_y rfl (y_move rfl) ?_
      refine wt_y rfl (y_nilCheck rfl) ?_
      refine wt_y rfl (y_fieldAddr F89_1 rfl) ?_
      refine wt_y rfl (y_load NA87 rfl (by first | exact cell_blk [] rfl | exact cell_blk [_] rfl | exact cell_blk [_, _] rfl | exact cellR_blk (by assumption) rfl)) ?_
      refine wt_y rfl (y_move rfl) ?_
      refine wt_y rfl (y_indexAddr (i := i) Try.underlying87 T112 rfl rfl rfl (by omega) (fun w hw => hw.slc_isSome [_] (by omega))) ?_
      refine wt_y rfl (y_fieldAddr_adr F112_2 rfl) ?_
      refine wt_y rfl (y_load NA3 rfl (cell_own [_] (rows_get encR_len hy rfl))) ?_
      refine wt_y rfl (y_move rfl) ?_
      refine wt_y rfl (y_nilCheck rfl) ?_
      refine wt_y rfl (y_fieldAddr F89_0 rfl) ?_
      refine wt_y rfl (y_load NA3 rfl (by first | exact cell_blk [] rfl | exact cell_blk [_] rfl | exact cell_blk [_, _] rfl | exact cellR_blk (by assumption) rfl)) ?_
      refine wt_y rfl (y_move rfl) ?_
      refine wt_y rfl (y_nilCheck rfl) ?_
      refine wt_y rfl (y_fieldAddr F89_1 rfl) ?_
      refine wt_y rfl (y_load NA87 rfl (by first | exact cell_blk [] rfl | exact cell_blk [_] rfl | exact cell_blk [_, _] rfl | exact cellR_blk (by assumption) rfl)) ?_
      refine wt_y rfl (y_move rfl) ?_
      refine wt_y rfl (y_indexAddr (i := i) Try.underlying87 T112 rfl rfl rfl (by omega) (fun w hw => hw.slc_isSome [_] (by omega))) ?_
      refine wt_y rfl (y_fieldAddr_adr F112_1 rfl) ?_
      refine wt_y rfl (y_load NA3 rfl (cell_own [_] (rows_get encR_len hy rfl))) ?_
      refine wt_y rfl (y_mul rfl rfl (by omega)) ?_
      refine wt_y rfl (y_add rfl rfl (by omega)) ?_
      refine wt_y rfl (y_move rfl) ?_
      refine wt_y rfl (y_nilCheck rfl) ?_
      refine wt_y rfl (y_fieldAddr F89_1 rfl) ?_
      refine wt_y rfl (y_load NA87 rfl (by first | exact cell_blk [] rfl | exact cell_blk [_] rfl | exact cell_blk [_, _] rfl | exact cellR_blk (by assumption) rfl)) ?_
      refine wt_y rfl (y_move rfl) ?_
      refine wt_y rfl (y_indexAddr (i := k) Try.underlying87 T112 rfl rfl rfl (by omega) (fun w hw => hw.slc_isSome [_] (by omega))) ?_
      refine wt_y rfl (y_fieldAddr_adr F112_2 rfl) ?_
      refine wt_y rfl (y_load NA3 rfl (cell_own [_] (rows_get encR_len hx rfl))) ?_
      refine wt_y rfl (y_move rfl) ?_
      refine wt_y rfl (y_nilCheck rfl) ?_
      refine wt_y rfl (y_fieldAddr F89_0 rfl) ?_
      refine wt_y rfl (y_load NA3 rfl (by first | exact cell_blk [] rfl | exact cell_blk [_] rfl | exact cell_blk [_, _] rfl | exact cellR_blk (by assumption) rfl)) ?_
      refine wt_y rfl (y_move rfl) ?_
      refine wt_y rfl (y_nilCheck rfl) ?_
      refine wt_y rfl (y_fieldAddr F89_1 rfl) ?_
      refine wt_y rfl (y_load NA87 rfl (by first | exact cell_blk [] rfl | exact cell_blk [_] rfl | exact cell_blk [_, _] rfl | exact cellR_blk (by assumption) rfl)) ?_
      refine wt_y rfl (y_move rfl) ?_
      refine wt_y rfl (y_indexAddr (i := k) Try.underlying87 T112 rfl rfl rfl (by omega) (fun w hw => hw.slc_isSome [_] (by omega))) ?_
      refine wt_y rfl (y_fieldAddr_adr F112_1 rfl) ?_
      refine wt_y rfl (y_load NA3 rfl (cell_own [_] (rows_get encR_len hx rfl))) ?_
      refine wt_y rfl (y_mul rfl rfl (by omega)) ?_
      refine wt_y rfl (y_add rfl rfl (by omega)) ?_
      refine wt_y rfl (y_lss rfl rfl) ?_
      refine wt_nil ?_
      refine wq_then ?_
      refine wc_cond rfl (fun hc58 => ?_) (fun hc58 => ?_)
      ·
        simp at hc58
        refine wc_region ?_
        refine wl_y rfl (y_move rfl) ?_
        refine wl_y rfl (y_assign rfl) ?_
        refine wl_nil ?_
        refine wq_block_normal ?_
        refine wq_then ?_
        refine wc_region ?_
        refine wl_y rfl (y_move rfl) ?_
        refine wl_y rfl (y_add rfl rfl (by omega)) ?_
        refine wl_y rfl (y_assign rfl) ?_
        refine wl_nil ?_
        exact wq_round (i + 1, i) (by simp only; omega) ⟨by simp only; omega, hF.step hx hy (by simpa [key] using hc58)⟩ ⟨rfl, rfl, rfl, trivial⟩ (fun w hw => hw)
      ·
        simp at hc58
        refine wc_skip ?_
        refine wq_block_normal ?_
        refine wq_then ?_
        refine wc_region ?_
        refine wl_y rfl (y_move rfl) ?_
        refine wl_y rfl (y_add rfl rfl (by omega)) ?_
        refine wl_y rfl (y_assign rfl) ?_
        refine wl_nil ?_
        exact wq_round (i + 1, k) (by simp only; omega) ⟨by simp only; omega, hF.stay hx hy (by simpa [key] using hc58)⟩ ⟨rfl, rfl, rfl, trivial⟩ (fun w hw => hw)
    ·
      simp at hc11
      refine wc_exit ?_
      refine wq_then_exit (wq_then_exit (wq_block_exit ?_))
      refine wq_then ?_
      refine wc_seq ?_
      refine wc_region ?_
      refine wl_y rfl (y_move rfl) ?_
      refine wl_y rfl (y_assign rfl) ?_
      refine wl_nil ?_
      refine wq_then ?_
      refine wc_ret ?_
      refine wq_ret1 rfl rfl (fun w hw => ?_)
      exact ⟨k, by rw [show R.length = i by omega]; exact hF, rfl, hw⟩

set_option maxHeartbeats 1000000 in
theorem xnew_lo (w : Int) (hw : w < 1) :
    Ctr Try.prog 37 #[vI w] [] [] (fun _ : Unit => True) (fun _ => .tuple #[.pointer none, vI 1]) (fun _ => []) := by
  refine spec_start (n := 13) [(0, vI w)] Try.func37 rfl rfl ⟨rfl, trivial⟩ rfl ?_
  intro w0 K hR
  refine wc_seq ?_
  refine wc_region ?_
  refine wl_y rfl (y_assign rfl) ?_
  refine wl_y rfl (y_assign rfl) ?_
  refine wl_nil ?_
  refine wq_then ?_
  refine wc_seq ?_
  refine wc_seq ?_
  refine wc_region ?_
  refine wl_y rfl (y_move rfl) ?_
  refine wl_y rfl (y_lss rfl rfl) ?_
  refine wl_y rfl (y_move rfl) ?_
  refine wl_known 6 true rfl (by simp; omega) ?_
  refine wl_sk rfl rfl rfl rfl ?_
  refine wl_sk rfl rfl rfl rfl ?_
  refine wl_y rfl (y_pick_t rfl rfl) ?_
  refine wl_nil ?_
  refine wq_then ?_
  refine wc_cond_true rfl ?_
  refine wc_seq ?_
  refine wc_region ?_
  refine wl_y rfl (y_assign rfl) ?_
  refine wl_y rfl (y_assign rfl) ?_
  refine wl_nil ?_
  refine wq_then ?_
  refine wc_ret ?_
  refine wq_then_ret ?_
  refine wq_ret2 rfl rfl rfl (fun w hw => ?_)
  exact ⟨(), trivial, rfl, hw⟩

set_option maxHeartbeats 1000000 in
theorem xnew_hi (w : Int) (hw : 1000000 < w) :
    Ctr Try.prog 37 #[vI w] [] [] (fun _ : Unit => True) (fun _ => .tuple #[.pointer none, vI 1]) (fun _ => []) := by
  refine spec_start (n := 13) [(0, vI w)] Try.func37 rfl rfl ⟨rfl, trivial⟩ rfl ?_
  intro w0 K hR
  refine wc_seq ?_
  refine wc_region ?_
  refine wl_y rfl (y_assign rfl) ?_
  refine wl_y rfl (y_assign rfl) ?_
  refine wl_nil ?_
  refine wq_then ?_
  refine wc_seq ?_
  refine wc_seq ?_
  refine wc_region ?_
  refine wl_y rfl (y_move rfl) ?_
  refine wl_y rfl (y_lss rfl rfl) ?_
  refine wl_y rfl (y_move rfl) ?_
  refine wl_known 6 false rfl (by simp; omega) ?_
  refine wl_yg rfl rfl rfl (y_move rfl) ?_
  refine wl_yg rfl rfl rfl (y_gtr rfl rfl) ?_
  refine wl_y rfl (y_pick_f rfl rfl) ?_
  refine wl_nil ?_
  refine wq_then ?_
  refine wc_known 9 true rfl (by simp; omega) ?_
  refine wc_cond_true rfl ?_
  refine wc_seq ?_
  refine wc_region ?_
  refine wl_y rfl (y_assign rfl) ?_
  refine wl_y rfl (y_assign rfl) ?_
  refine wl_nil ?_
  refine wq_then ?_
  refine wc_ret ?_
  refine wq_then_ret ?_
  refine wq_ret2 rfl rfl rfl (fun w hw => ?_)
  exact ⟨(), trivial, rfl, hw⟩

set_option maxHeartbeats 1000000 in
theorem xnew_ok (age : Int) (h1 : 1 ≤ age) (h2 : age ≤ 1000000) :
    Ctr Try.prog 37 #[vI age] [] [] (fun _ : Nat => True) (fun b => .tuple #[ptr b, vI 0]) (fun b => [refA b age []]) := by
  refine spec_start (n := 13) [(0, vI age)] Try.func37 rfl rfl ⟨rfl, trivial⟩ rfl ?_
  intro w0 K hR
  refine wc_seq ?_
  refine wc_region ?_
  refine wl_y rfl (y_assign rfl) ?_
  refine wl_y rfl (y_assign rfl) ?_
  refine wl_nil ?_
  refine wq_then ?_
  refine wc_seq ?_
  refine wc_seq ?_
  refine wc_region ?_
  refine wl_y rfl (y_move rfl) ?_
  refine wl_y rfl (y_lss rfl rfl) ?_
  refine wl_y rfl (y_move rfl) ?_
  refine wl_known 6 false rfl (by simp; omega) ?_
  refine wl_yg rfl rfl rfl (y_move rfl) ?_
  refine wl_yg rfl rfl rfl (y_gtr rfl rfl) ?_
  refine wl_y rfl (y_pick_f rfl rfl) ?_
  refine wl_nil ?_
  refine wq_then ?_
  refine wc_known 9 false rfl (by simp; omega) ?_
  refine wc_cond_false rfl ?_
  refine wc_skip ?_
  refine wq_then ?_
  refine wc_seq ?_
  refine wc_region ?_
  refine wl_y rfl (y_move rfl) ?_
  refine wl_y rfl (y_build (cs := [_, _]) T89 PL89 rfl rfl rfl) ?_
  refine wl_w (fun _ _ => want_none) rfl (yw_box rfl rfl) (wl_ex fun b12 _ => ?_)
  refine wl_y rfl (y_assign rfl) ?_
  refine wl_y rfl (y_assign rfl) ?_
  refine wl_nil ?_
  refine wq_then ?_
  refine wc_ret ?_
  refine wq_ret2 rfl rfl rfl (fun w hw => ?_)
  exact ⟨_, trivial, rfl, exA_shut (none, 0) trivial (Hp.addNil [_] [] hw)⟩

set_option maxHeartbeats 1000000 in
theorem xpush_bad (b : Nat) (age : Int) (R : List (It Int)) (oc : Option Addr × Nat) (v : Int) (rank tm : Int) (hb : rank < 0 ∨ 9 < rank ∨ tm < 0 ∨ 1000000000 < tm) :
    Ctr Try.prog 59 #[ptr b, vI v, vI rank, vI tm] [] (refRaw b age R oc) (fun _ : Unit => True) (fun _ => vI 1) (fun _ => refRaw b age R oc) := by
  refine spec_start (n := 36) [(0, ptr b), (1, vI v), (2, vI rank), (3, vI tm)] Try.func59 rfl rfl ⟨rfl, rfl, rfl, rfl, trivial⟩ rfl ?_
  intro w0 K hR
  refine wc_seq ?_
  refine wc_region ?_
  refine wl_y rfl (y_assign rfl) ?_
  refine wl_nil ?_
  refine wq_then ?_
  refine wc_seq ?_
  refine wc_seq ?_
  refine wc_region ?_
  refine wl_y rfl (y_move rfl) ?_
  refine wl_y rfl (y_lss rfl rfl) ?_
  refine wl_y rfl (y_move rfl) ?_
  refine wl_case 11 rfl (fun hg11 => ?_) (fun hg11 => ?_)
  ·
    simp at hg11
    refine wl_sk rfl rfl rfl rfl ?_
    refine wl_sk rfl rfl rfl rfl ?_
    refine wl_y rfl (y_pick_t rfl rfl) ?_
    refine wl_y rfl (y_move rfl) ?_
    refine wl_sk rfl rfl rfl rfl ?_
    refine wl_sk rfl rfl rfl rfl ?_
    refine wl_y rfl (y_pick_t rfl rfl) ?_
    refine wl_y rfl (y_move rfl) ?_
    refine wl_sk rfl rfl rfl rfl ?_
    refine wl_sk rfl rfl rfl rfl ?_
    refine wl_y rfl (y_pick_t rfl rfl) ?_
    refine wl_nil ?_
    refine wq_then ?_
    refine wc_known 22 true rfl (by first | rfl | (simp; omega)) ?_
    refine wc_cond_true rfl ?_
    refine wc_seq ?_
    refine wc_region ?_
    refine wl_y rfl (y_assign rfl) ?_
    refine wl_nil ?_
    refine wq_then ?_
    refine wc_ret ?_
    refine wq_then_ret ?_
    refine wq_ret1 rfl rfl (fun w hw => ?_)
    exact ⟨(), trivial, rfl, hw⟩
  ·
    simp at hg11
    refine wl_yg rfl rfl rfl (y_move rfl) ?_
    refine wl_yg rfl rfl rfl (y_gtr rfl rfl) ?_
    refine wl_y rfl (y_pick_f rfl rfl) ?_
    refine wl_y rfl (y_move rfl) ?_
    refine wl_case 15 rfl (fun hg15 => ?_) (fun hg15 => ?_)
    ·
      simp at hg15
      refine wl_sk rfl rfl rfl rfl ?_
      refine wl_sk rfl rfl rfl rfl ?_
      refine wl_y rfl (y_pick_t rfl rfl) ?_
      refine wl_y rfl (y_move rfl) ?_
      refine wl_sk rfl rfl rfl rfl ?_
      refine wl_sk rfl rfl rfl rfl ?_
      refine wl_y rfl (y_pick_t rfl rfl) ?_
      refine wl_nil ?_
      refine wq_then ?_
      refine wc_known 22 true rfl (by first | rfl | (simp; omega)) ?_
      refine wc_cond_true rfl ?_
      refine wc_seq ?_
      refine wc_region ?_
      refine wl_y rfl (y_assign rfl) ?_
      refine wl_nil ?_
      refine wq_then ?_
      refine wc_ret ?_
      refine wq_then_ret ?_
      refine wq_ret1 rfl rfl (fun w hw => ?_)
      exact ⟨(), trivial, rfl, hw⟩
    ·
      simp at hg15
      refine wl_yg rfl rfl rfl (y_move rfl) ?_
      refine wl_yg rfl rfl rfl (y_lss rfl rfl) ?_
      refine wl_y rfl (y_pick_f rfl rfl) ?_
      refine wl_y rfl (y_move rfl) ?_
      refine wl_case 19 rfl (fun hg19 => ?_) (fun hg19 => ?_)
      ·
        simp at hg19
        refine wl_sk rfl rfl rfl rfl ?_
        refine wl_sk rfl rfl rfl rfl ?_
        refine wl_y rfl (y_pick_t rfl rfl) ?_
        refine wl_nil ?_
        refine wq_then ?_
        refine wc_known 22 true rfl (by first | rfl | (simp; omega)) ?_
        refine wc_cond_true rfl ?_
        refine wc_seq ?_
        refine wc_region ?_
        refine wl_y rfl (y_assign rfl) ?_
        refine wl_nil ?_
        refine wq_then ?_
        refine wc_ret ?_
        refine wq_then_ret ?_
        refine wq_ret1 rfl rfl (fun w hw => ?_)
        exact ⟨(), trivial, rfl, hw⟩
      ·
        simp at hg19
        refine wl_yg rfl rfl rfl (y_move rfl) ?_
        refine wl_yg rfl rfl rfl (y_gtr rfl rfl) ?_
        refine wl_y rfl (y_pick_f rfl rfl) ?_
        refine wl_nil ?_
        refine wq_then ?_
        refine wc_known 22 true rfl (by first | rfl | (simp; omega)) ?_
        refine wc_cond_true rfl ?_
        refine wc_seq ?_
        refine wc_region ?_
        refine wl_y rfl (y_assign rfl) ?_
        refine wl_nil ?_
        refine wq_then ?_
        refine wc_ret ?_
        refine wq_then_ret ?_
        refine wq_ret1 rfl rfl (fun w hw => ?_)
        exact ⟨(), trivial, rfl, hw⟩

set_option maxHeartbeats 1000000 in
theorem xpush_raw (b : Nat) (age : Int) (R : List (It Int)) (oc : Option Addr × Nat) (v : Int) (rank tm : Int) (n : Int) (hr : 0 ≤ rank ∧ rank ≤ 9) (ht : 0 ≤ tm ∧ tm ≤ 1000000000) (hl : R.length ≤ 1000000) :
    Ctr Try.prog 59 #[ptr b, vI v, vI rank, vI tm] [] (refRaw b age R oc) (fun _ : Option Addr × Nat => True) (fun _ => vI 0) (fun oc => refRaw b age (R ++ [(⟨v, rank, tm, tm + age * rank, n + 1⟩ : It Int)]) oc) := by
  refine spec_start (n := 36) [(0, ptr b), (1, vI v), (2, vI rank), (3, vI tm)] Try.func59 rfl rfl ⟨rfl, rfl, rfl, rfl, trivial⟩ rfl ?_
  intro w0 K hR
  refine wc_seq ?_
  refine wc_region ?_
  refine wl_y rfl (y_assign rfl) ?_
  refine wl_nil ?_
  refine wq_then ?_
  refine wc_seq ?_
  refine wc_seq ?_
  refine wc_region ?_
  refine wl_y rfl (y_move rfl) ?_
  refine wl_y rfl (y_lss rfl rfl) ?_
  refine wl_y rfl (y_move rfl) ?_
  refine wl_known 11 false rfl (by simp; omega) ?_
  refine wl_yg rfl rfl rfl (y_move rfl) ?_
  refine wl_yg rfl rfl rfl (y_gtr rfl rfl) ?_
  refine wl_y rfl (y_pick_f rfl rfl) ?_
  refine wl_y rfl (y_move rfl) ?_
  refine wl_known 15 false rfl (by simp; omega) ?_
  refine wl_yg rfl rfl rfl (y_move rfl) ?_
  refine wl_yg rfl rfl rfl (y_lss rfl rfl) ?_
  refine wl_y rfl (y_pick_f rfl rfl) ?_
  refine wl_y rfl (y_move rfl) ?_
  refine wl_known 19 false rfl (by simp; omega) ?_
  refine wl_yg rfl rfl rfl (y_move rfl) ?_
  refine wl_yg rfl rfl rfl (y_gtr rfl rfl) ?_
  refine wl_y rfl (y_pick_f rfl rfl) ?_
  refine wl_nil ?_
  refine wq_then ?_
  refine wc_known 22 false rfl (by simp; omega) ?_
  refine wc_cond_false rfl ?_
  refine wc_skip ?_
  refine wq_then ?_
  refine wc_seq ?_
  refine wc_region ?_
  refine wl_y rfl (y_move rfl) ?_
  refine wl_y rfl (y_move rfl) ?_
  refine wl_y rfl (y_nilCheck rfl) ?_
  refine wl_y rfl (y_fieldAddr F89_1 rfl) ?_
  refine wl_y rfl (y_load NA87 rfl (by first | exact cell_blk [] rfl | exact cell_blk [_] rfl | exact cell_blk [_, _] rfl | exact cellR_blk (by assumption) rfl)) ?_
  refine wl_y rfl (y_move rfl) ?_
  refine wl_y rfl (y_move rfl) ?_
  refine wl_y rfl (y_move rfl) ?_
  refine wl_y rfl (y_build (cs := [_, _, _]) T112 PL112 rfl rfl rfl) ?_
  refine wl_w (fun _ _ => want_none) rfl (yw_buildSlice (cs := encR (⟨v, rank, tm, tm + age * rank, n + 1⟩ : It Int)) Try.underlying87 T112 rfl rfl rfl rfl rfl rfl rfl) (wl_ex fun b32 _ => ?_)
  refine wl_w (fun _ _ => want_none) rfl (yw_append [_, _] Try.underlying87 Try.underlying87 (.inl ⟨_, rfl⟩) T112 rfl rfl rfl (fun w hw => Src.slice ((hw.seen []).mono fun _ => slc_rsl)) (by omega) (by unfold maxLen; omega) (by simp [Value.oneCell', encR]) rfl) (wl_ex fun p hp => ?_)
  refine wl_y rfl (y_nilCheck rfl) ?_
  refine wl_y rfl (y_fieldAddr F89_1 rfl) ?_
  first | refine wl_u (yu_store [] (l' := [_, _]) T87 rfl rfl rfl rfl rfl rfl rfl) ?_ | refine wl_u (yu_store [_] (l' := [_, _]) T87 rfl rfl rfl rfl rfl rfl rfl) ?_ | refine wl_u (yu_store [_, _] (l' := [_, _]) T87 rfl rfl rfl rfl rfl rfl rfl) ?_
  refine wl_nil ?_
  refine wq_then ?_
  refine wc_seq ?_
  refine wc_region ?_
  refine wl_y rfl (y_assign rfl) ?_
  refine wl_nil ?_
  refine wq_then ?_
  refine wc_ret ?_
  refine wq_ret1 rfl rfl (fun w hw => ?_)
  have h3 := hw.drop
  have e : (R ++ [(⟨v, rank, tm, tm + age * rank, n + 1⟩ : It Int)]).length = R.length + 1 := by simp
  exact ⟨p, trivial, rfl, by rw [refRaw, e, List.flatMap_append, List.flatMap_singleton]; exact h3⟩

set_option maxHeartbeats 1000000 in
theorem xpop_no (b : Nat) (age : Int) (oc : Option Addr × Nat) :
    Ctr Try.prog 44 #[ptr b] [] (refRaw b age [] oc) (fun _ : Unit => True) (fun _ => .tuple #[vI 0, .bool false]) (fun _ => refRaw b age [] oc) := by
  refine spec_start (n := 44) [(0, ptr b)] Try.func44 rfl rfl ⟨rfl, trivial⟩ rfl ?_
  intro w0 K hR
  refine wc_seq ?_
  refine wc_region ?_
  refine wl_y rfl (y_assign rfl) ?_
  refine wl_y rfl (y_assign rfl) ?_
  refine wl_nil ?_
  refine wq_then ?_
  refine wc_seq ?_
  refine wc_seq ?_
  refine wc_region ?_
  refine wl_y rfl (y_move rfl) ?_
  refine wl_y rfl (y_nilCheck rfl) ?_
  refine wl_y rfl (y_fieldAddr F89_1 rfl) ?_
  refine wl_y rfl (y_load NA87 rfl (by first | exact cell_blk [] rfl | exact cell_blk [_] rfl | exact cell_blk [_, _] rfl | exact cellR_blk (by assumption) rfl)) ?_
  refine wl_y rfl (y_lenSl Try.underlying87 rfl) ?_
  refine wl_y rfl (y_eqlI rfl rfl) ?_
  refine wl_nil ?_
  refine wq_then ?_
  refine wc_known 12 true rfl (rfl) ?_
  refine wc_cond_true rfl ?_
  refine wc_seq ?_
  refine wc_region ?_
  refine wl_y rfl (y_assign rfl) ?_
  refine wl_y rfl (y_assign rfl) ?_
  refine wl_nil ?_
  refine wq_then ?_
  refine wc_ret ?_
  refine wq_then_ret ?_
  refine wq_ret2 rfl rfl rfl (fun w hw => ?_)
  exact ⟨(), trivial, rfl, hw⟩

set_option maxHeartbeats 1000000 in
theorem xpop_raw (b : Nat) (age : Int) (R : List (It Int)) (oc : Option Addr × Nat) (ha : 0 ≤ age ∧ age ≤ 1000000) (hl : R.length ≤ 1000000) (hok : ∀ x ∈ R, 0 ≤ x.rank ∧ x.rank ≤ 9 ∧ 0 ≤ x.tm ∧ x.tm ≤ 1000000000) (hne : 0 < R.length) :
    Ctr Try.prog 44 #[ptr b] [] (refRaw b age R oc) (fun y : (Nat × It Int) × Option Addr × Nat => FirstTo age R R.length y.1.1 ∧ R[y.1.1]? = some y.1.2) (fun y => .tuple #[vI y.1.2.v, .bool true]) (fun y => refRaw b age (R.eraseIdx y.1.1) y.2) := by
  refine spec_start (n := 44) [(0, ptr b)] Try.func44 rfl rfl ⟨rfl, trivial⟩ rfl ?_
  intro w0 K hR
  refine wc_seq ?_
  refine wc_region ?_
  refine wl_y rfl (y_assign rfl) ?_
  refine wl_y rfl (y_assign rfl) ?_
  refine wl_nil ?_
  refine wq_then ?_
  refine wc_seq ?_
  refine wc_seq ?_
  refine wc_region ?_
  refine wl_y rfl (y_move rfl) ?_
  refine wl_y rfl (y_nilCheck rfl) ?_
  refine wl_y rfl (y_fieldAddr F89_1 rfl) ?_
  refine wl_y rfl (y_load NA87 rfl (by first | exact cell_blk [] rfl | exact cell_blk [_] rfl | exact cell_blk [_, _] rfl | exact cell_blk [_, _, _] rfl | exact cell_blk [_, _, _, _] rfl | exact cellR_blk (by assumption) rfl)) ?_
  refine wl_y rfl (y_lenSl Try.underlying87 rfl) ?_
  refine wl_y rfl (y_eqlI rfl rfl) ?_
  refine wl_nil ?_
  refine wq_then ?_
  refine wc_known 12 false rfl (decide_eq_false (by omega)) ?_
  refine wc_cond_false rfl ?_
  refine wc_skip ?_
  refine wq_then ?_
  refine wc_seq ?_
  refine wc_region ?_
  refine wl_y rfl (y_move rfl) ?_
  refine wl_c (fun _ _ => want_none) rfl (yc_spec (fst := []) (cap := []) _ FN61 (first_raw b age R oc ha hl hok hne) rfl rfl rfl (by (repeat (first | exact pt_nil | apply pt0 | apply pt1 | apply pt2 | apply pt3 | apply pt4 | apply pt5 | apply pt6 | apply pt7 | apply pt8 | apply pt9 | apply pt10 | apply pt11 | apply pt12 | apply pt13 | apply pt14 | apply pt15 | apply pt16 | apply pt17))) (by (repeat (first | exact ro_nil | exact ro_rest (by assumption) | refine ro_cons (by first | exact .inl (by assumption) | exact ro_f0 (fun _ h => h) | exact ro_f0 (fun _ => slc_rsl) | exact ro_f1 (fun _ h => h) | exact ro_f1 (fun _ => slc_rsl) | exact ro_f2 (fun _ h => h) | exact ro_f2 (fun _ => slc_rsl) | exact ro_f3 (fun _ h => h) | exact ro_f3 (fun _ => slc_rsl) | exact ro_f4 (fun _ h => h) | exact ro_f4 (fun _ => slc_rsl) | exact ro_f5 (fun _ h => h) | exact ro_f5 (fun _ => slc_rsl) | exact ro_f6 (fun _ h => h) | exact ro_f6 (fun _ => slc_rsl)) ?_)))) (wl_ex fun x14 hx14 => ?_)
  refine wl_have (p := oc.1.isSome = true) (fun w hw => hw.slc_isSome [_] (by omega)) (fun hos => ?_)
  refine wl_have (p := R.length ≤ oc.2) (fun w hw => hw.slc_le [_]) (fun hcap => ?_)
  obtain ⟨x, hx, hkl, _⟩ := id hx14
  refine wl_y rfl (y_assign rfl) ?_
  refine wl_nil ?_
  refine wq_then ?_
  refine wc_seq ?_
  refine wc_region ?_
  refine wl_y rfl (y_move rfl) ?_
  refine wl_y rfl (y_nilCheck rfl) ?_
  refine wl_y rfl (y_fieldAddr F89_1 rfl) ?_
  refine wl_y rfl (y_load NA87 rfl (by first | exact cell_blk [] rfl | exact cell_blk [_] rfl | exact cell_blk [_, _] rfl | exact cell_blk [_, _, _] rfl | exact cell_blk [_, _, _, _] rfl | exact cellR_blk (by assumption) rfl)) ?_
  refine wl_y rfl (y_move rfl) ?_
  refine wl_y rfl (y_indexAddr Try.underlying87 T112 rfl rfl rfl hkl (fun w hw => hos)) ?_
  refine wl_y rfl (y_loadAgg (l := encR x) AG112 rfl rfl (agg_own [_] (fun i u h => rows_get encR_len hx h))) ?_
  refine wl_w (fun _ _ => want_none) rfl (yw_alloc T112 rfl) (wl_ex fun b5 _ => ?_)
  first | refine wl_u (yu_storeAgg [] (l' := [_, _, _]) T112 rfl rfl rfl (by simp [Value.oneCell', encR]) rfl rfl) ?_ | refine wl_u (yu_storeAgg [_] (l' := [_, _, _]) T112 rfl rfl rfl (by simp [Value.oneCell', encR]) rfl rfl) ?_ | refine wl_u (yu_storeAgg [_, _] (l' := [_, _, _]) T112 rfl rfl rfl (by simp [Value.oneCell', encR]) rfl rfl) ?_ | refine wl_u (yu_storeAgg [_, _, _] (l' := [_, _, _]) T112 rfl rfl rfl (by simp [Value.oneCell', encR]) rfl rfl) ?_ | refine wl_u (yu_storeAgg [_, _, _, _] (l' := [_, _, _]) T112 rfl rfl rfl (by simp [Value.oneCell', encR]) rfl rfl) ?_
  refine wl_nil ?_
  refine wq_then ?_
  refine wc_seq ?_
  refine wc_region ?_
  refine wl_y rfl (y_assign rfl) ?_
  refine wl_nil ?_
  refine wq_then ?_
  refine wc_seq ?_
  refine wc_region ?_
  refine wl_world (fun w hw => Hp.addNil (e := 112) (sz := 3) [] _ hw) ?_
  refine wl_y rfl (y_move rfl) ?_
  refine wl_y rfl (y_move rfl) ?_
  refine wl_y rfl (y_nilCheck rfl) ?_
  refine wl_y rfl (y_fieldAddr F89_1 rfl) ?_
  refine wl_y rfl (y_load NA87 rfl (by first | exact cell_blk [] rfl | exact cell_blk [_] rfl | exact cell_blk [_, _] rfl | exact cell_blk [_, _, _] rfl | exact cell_blk [_, _, _, _] rfl | exact cellR_blk (by assumption) rfl)) ?_
  refine wl_y rfl (y_move rfl) ?_
  refine wl_y rfl (y_sliceSl (i := 0) (j := x14) Try.underlying87 T112 rfl rfl ⟨_, rfl, rfl⟩ (Nat.zero_le _) (by omega)) ?_
  refine wl_w (fun _ _ => want_none) rfl (yw_append [] Try.underlying87 Try.underlying87 (.inl ⟨_, rfl⟩) T112 rfl rfl rfl (fun w hw => Src.slice ((hw.seen [_, _, _]).mono fun _ h => slc_rsl (slc_take x14 h (by omega)))) (by omega) (by unfold maxLen; omega) (one_take (one_rows encR_one)) (by simp [rows_length encR_len]; omega)) (wl_ex fun p hp => ?_)
  refine wl_y rfl (y_assign rfl) ?_
  refine wl_nil ?_
  refine wq_then ?_
  refine wc_seq ?_
  refine wc_region ?_
  refine wl_y rfl (y_move rfl) ?_
  refine wl_y rfl (y_move rfl) ?_
  refine wl_y rfl (y_move rfl) ?_
  refine wl_y rfl (y_nilCheck rfl) ?_
  refine wl_y rfl (y_fieldAddr F89_1 rfl) ?_
  refine wl_y rfl (y_load NA87 rfl (by first | exact cell_blk [] rfl | exact cell_blk [_] rfl | exact cell_blk [_, _] rfl | exact cell_blk [_, _, _] rfl | exact cell_blk [_, _, _, _] rfl | exact cellR_blk (by assumption) rfl)) ?_
  refine wl_y rfl (y_move rfl) ?_
  refine wl_y rfl (y_add rfl rfl (by omega)) ?_
  refine wl_y rfl (y_sliceSl (i := x14 + 1) (j := R.length) Try.underlying87 T112 rfl ⟨_, rfl, rfl⟩ rfl (by omega) (by omega)) ?_
  refine wl_w (fun _ _ => want_none) rfl (yw_append [] Try.underlying87 Try.underlying87 (.inl ⟨_, rfl⟩) T112 rfl rfl rfl (fun w hw => Src.slice ((hw.seen [_, _, _]).mono fun _ h => slc_rsl (slc_cut (x14 + 1) h (by omega)))) (by omega) (by unfold maxLen; omega) (one_drop (one_rows encR_one)) (by simp [rows_length encR_len]; omega)) (wl_ex fun p' hp' => ?_)
  refine wl_y rfl (y_nilCheck rfl) ?_
  refine wl_y rfl (y_fieldAddr F89_1 rfl) ?_
  first | refine wl_u (yu_store [] (l' := [_, _]) T87 rfl rfl rfl rfl rfl rfl rfl) ?_ | refine wl_u (yu_store [_] (l' := [_, _]) T87 rfl rfl rfl rfl rfl rfl rfl) ?_ | refine wl_u (yu_store [_, _] (l' := [_, _]) T87 rfl rfl rfl rfl rfl rfl rfl) ?_ | refine wl_u (yu_store [_, _, _] (l' := [_, _]) T87 rfl rfl rfl rfl rfl rfl rfl) ?_ | refine wl_u (yu_store [_, _, _, _] (l' := [_, _]) T87 rfl rfl rfl rfl rfl rfl rfl) ?_
  refine wl_nil ?_
  refine wq_then ?_
  refine wc_seq ?_
  refine wc_region ?_
  refine wl_y rfl (y_fieldAddr F112_0 rfl) ?_
  refine wl_y rfl (y_load NA3 rfl (by first | exact cell_blk [] rfl | exact cell_blk [_] rfl | exact cell_blk [_, _] rfl | exact cell_blk [_, _, _] rfl | exact cell_blk [_, _, _, _] rfl | exact cellR_blk (by assumption) rfl)) ?_
  refine wl_y rfl (y_assign rfl) ?_
  refine wl_y rfl (y_assign rfl) ?_
  refine wl_nil ?_
  refine wq_then ?_
  refine wc_ret ?_
  refine wq_ret2 rfl rfl rfl (fun w hw => ?_)
  have e : (R.eraseIdx x14).length = 0 + (x14 - 0) + (R.length - (x14 + 1)) := by rw [List.length_eraseIdx_of_lt hkl]; omega
  have e2 : (R.eraseIdx x14).flatMap encR = [] ++ (R.flatMap encR).take (x14 * 3) ++ (R.flatMap encR).drop ((x14 + 1) * 3) := by rw [rows_take encR_len _ (by omega), rows_drop encR_len _ (by omega), List.eraseIdx_eq_take_drop_succ, List.flatMap_append]; rfl
  exact ⟨((x14, x), p'), ⟨hx14, hx⟩, rfl, by rw [refRaw, e, e2]; exact hw.sub (by (repeat (first | exact pt_nil | apply pt0 | apply pt1 | apply pt2 | apply pt3 | apply pt4 | apply pt5 | apply pt6 | apply pt7 | apply pt8 | apply pt9 | apply pt10 | apply pt11 | apply pt12 | apply pt13 | apply pt14 | apply pt15 | apply pt16 | apply pt17)))⟩

theorem first_isMin {age n : Int} {R : List (It Int)} (hq : QOk age n R) {k : Nat} {x : It Int} (hk : FirstTo age R R.length k) (hx : R[k]? = some x) : IsMin x R := by
  obtain ⟨x', hx', hkl, h⟩ := hk
  obtain rfl : x' = x := Option.some.inj (hx'.symm.trans hx)
  refine ⟨List.mem_of_getElem? hx, fun a ha => ?_⟩
  obtain ⟨j, hj⟩ := List.mem_iff_getElem?.1 ha
  have hjl := (List.getElem?_eq_some_iff.1 hj).1
  obtain ⟨h1, h2⟩ := h j a hjl hj
  rw [It.not_iff, (hq.all x' (List.mem_of_getElem? hx)).2.2.2.2.1, (hq.all a ha).2.2.2.2.1]
  have hxe : R[k] = x' := by rw [List.getElem?_eq_getElem hkl] at hx; exact Option.some.inj hx
  have hae : R[j] = a := by rw [List.getElem?_eq_getElem hjl] at hj; exact Option.some.inj hj
  unfold key at h1 h2
  have hp := List.pairwise_iff_getElem.1 hq.asc
  rcases Nat.lt_trichotomy j k with hl | rfl | hl
  · have := h2 hl; omega
  · rw [hxe] at hae; subst hae; omega
  · have := hp k j hkl hjl hl
    rw [hxe, hae] at this
    omega
theorem xpush_ok (b : Nat) (age n : Int) (R : List (It Int)) (v rank tm : Int) (hr : 0 ≤ rank ∧ rank ≤ 9) (ht : 0 ≤ tm ∧ tm ≤ 1000000000) (hl : R.length ≤ 1000000) :
    Ctr Try.prog 59 #[ptr b, vI v, vI rank, vI tm] [] [refA b age R] (fun _ : Unit => True) (fun _ => vI 0) (fun _ => [refA b age (R ++ [(⟨v, rank, tm, tm + age * rank, n + 1⟩ : It Int)])]) :=
  Ctr.open fun oc _ => (xpush_raw b age R oc v rank tm n hr ht hl).post (fun _ => ()) fun y _ => ⟨trivial, rfl, fun _ _ _ h => exA_shut y trivial h⟩
theorem xpush_no (b : Nat) (age : Int) (R : List (It Int)) (v rank tm : Int) (hb : rank < 0 ∨ 9 < rank ∨ tm < 0 ∨ 1000000000 < tm) :
    Ctr Try.prog 59 #[ptr b, vI v, vI rank, vI tm] [] [refA b age R] (fun _ : Unit => True) (fun _ => vI 1) (fun _ => [refA b age R]) :=
  Ctr.open fun oc _ => (xpush_bad b age R oc v rank tm hb).post (fun _ => ()) fun _ _ => ⟨trivial, rfl, fun _ _ _ h => exA_shut oc trivial h⟩
theorem xpop_em (b : Nat) (age : Int) : Ctr Try.prog 44 #[ptr b] [] [refA b age []] (fun _ : Unit => True) (fun _ => .tuple #[vI 0, .bool false]) (fun _ => [refA b age []]) :=
  Ctr.open fun oc _ => (xpop_no b age oc).post (fun _ => ()) fun _ _ => ⟨trivial, rfl, fun _ _ _ h => exA_shut oc trivial h⟩
theorem xpop_ok (b : Nat) (age n : Int) (R : List (It Int)) (ha : 0 ≤ age ∧ age ≤ 1000000) (hl : R.length ≤ 1000000) (hq : QOk age n R) (hne : R ≠ []) :
    Ctr Try.prog 44 #[ptr b] [] [refA b age R] (fun r : It Int => IsMin r R) (fun r => .tuple #[vI r.v, .bool true]) (fun r => [refA b age (rest R r)]) :=
  Ctr.open fun oc _ => (xpop_raw b age R oc ha hl hq.four (List.length_pos_iff.2 hne)).post (fun y => y.1.2) fun y hy => ⟨first_isMin hq hy.1 hy.2, rfl, fun _ _ _ h => exA_shut y.2 trivial (by rw [rest_erase hq hy.2]; exact h)⟩
end Go.Proofs.Ytfnpjmlpiedgdaa
