/-
  Walks: the reference's queue.
-/
import Derived.Test.YtblhphnnnihkmaaRefDef

namespace Go.Proofs.Ytblhphnnnihkmaa
open Go.Eng

set_option maxHeartbeats 1000000 in
theorem first_raw (b : Nat) (age : Int) (R : List (It Int)) (oc : Option Addr × Nat) (ha : 0 ≤ age ∧ age ≤ 1000000) (hl : R.length ≤ 1000000) (hok : ∀ x ∈ R, 0 ≤ x.rank ∧ x.rank ≤ 9 ∧ 0 ≤ x.tm ∧ x.tm ≤ 1000000000) (hne : 0 < R.length) :
    Ctr Try.prog 24 #[ptr b] [] (refRaw b age R oc) (fun k : Nat => FirstTo age R R.length k) (fun k => vI k) (fun _ => refRaw b age R oc) := by
  refine spec_start (n := 61) [(0, ptr b)] Try.func24 rfl rfl ⟨rfl, trivial⟩ rfl ?_
  intro w0 K hR
  refine wc_seq ?_
  refine wc_region ?_
  refine wl_y rfl (y_assign rfl) ?_
  refine wl_nil ?_
  refine wq_then ?_
  refine wc_seq ?_
  refine wc_region ?_
  refine wl_y rfl (y_assign rfl) ?_
  refine wl_nil ?_
  refine wq_then ?_
  refine wc_seq ?_
  refine wc_seq ?_
  refine wc_region ?_
  refine wl_y rfl (y_assign rfl) ?_
  refine wl_nil ?_
  refine wq_then ?_
  refine wc_block ?_
  refine wc_loop (α := Nat × Nat) (fun y => y.1 ≤ R.length ∧ FirstTo age R y.1 y.2) [(0, _)] (fun y => [(4, vI y.1), (3, vI y.2)]) (fun y => Hp w0 K (refRaw b age R oc)) (fun y => R.length - y.1) (1, 0) ?_ ⟨rfl, rfl, rfl, trivial⟩ ?_ ?_
  · exact ⟨hne, R[0], List.getElem?_eq_getElem hne, by simp, fun j y hj hy => by
  obtain rfl : j = 0 := by simp only at hj; omega
  rw [List.getElem?_eq_getElem hne] at hy; cases hy; exact ⟨Int.le_refl _, fun h => absurd h (Nat.lt_irrefl 0)⟩⟩
  · exact fun w hw => hw
  · rintro ⟨i, k⟩ ⟨hi, hF⟩; simp only at hi hF
    have hF2 := hF
    obtain ⟨x, hx, hki, _⟩ := hF2
    refine wc_seq ?_
    refine wc_seq ?_
    refine wc_region ?_
    refine wl_y rfl (y_move rfl) ?_
    refine wl_y rfl (y_move rfl) ?_
    refine wl_y rfl (y_nilCheck rfl) ?_
    refine wl_y rfl (y_fieldAddr F41_1 rfl) ?_
    refine wl_y rfl (y_load NA39 rfl (by first | exact cell_blk [] rfl | exact cell_blk [_] rfl | exact cell_blk [_, _] rfl)) ?_
    refine wl_y rfl (y_lenSl Try.underlying39 rfl) ?_
    refine wl_y rfl (y_lss rfl rfl) ?_
    refine wl_nil ?_
    refine wq_then ?_
    refine wc_cond rfl (fun hc11 => ?_) (fun hc11 => ?_)
    ·
      simp at hc11
      refine wc_skip ?_
      refine wq_then ?_
      refine wc_seq ?_
      refine wc_block ?_
      refine wc_seq ?_
      refine wc_quiet MO (by kernel_rfl) (Hp.drawless _ _ _) ?_
      obtain ⟨y, hy⟩ : ∃ y, R[i]? = some y := ⟨_, List.getElem?_eq_getElem (by omega)⟩
      obtain ⟨x1, x2, x3, x4⟩ := hok x (List.mem_of_getElem? hx)
      obtain ⟨y1, y2, y3, y4⟩ := hok y (List.mem_of_getElem? hy)
      have m1 : 0 ≤ age * x.rank := Int.mul_nonneg ha.1 x1
      have m2 : age * x.rank ≤ 1000000 * 9 := Int.mul_le_mul ha.2 x2 x1 (by omega)
      have m3 : 0 ≤ age * y.rank := Int.mul_nonneg ha.1 y1
      have m4 : age * y.rank ≤ 1000000 * 9 := Int.mul_le_mul ha.2 y2 y1 (by omega)
      refine wt_y rfl (y_move rfl) ?_
      refine wt_y rfl (y_nilCheck rfl) ?_
      refine wt_y rfl (y_fieldAddr F41_1 rfl) ?_
      refine wt_y rfl (y_load NA39 rfl (by first | exact cell_blk [] rfl | exact cell_blk [_] rfl | exact cell_blk [_, _] rfl)) ?_
      refine wt_y rfl (y_move rfl) ?_
      refine wt_y rfl (y_indexAddr (i := i) Try.underlying39 T61 rfl rfl rfl (by omega) (fun w hw => hw.slc_isSome [_] (by omega))) ?_
      refine wt_y rfl (y_fieldAddr_adr F61_2 rfl) ?_
      refine wt_y rfl (y_load NA3 rfl (cell_own [_] (rows_get encR_len hy rfl))) ?_
      refine wt_y rfl (y_move rfl) ?_
      refine wt_y rfl (y_nilCheck rfl) ?_
      refine wt_y rfl (y_fieldAddr F41_0 rfl) ?_
      refine wt_y rfl (y_load NA3 rfl (by first | exact cell_blk [] rfl | exact cell_blk [_] rfl | exact cell_blk [_, _] rfl)) ?_
      refine wt_y rfl (y_move rfl) ?_
      refine wt_y rfl (y_nilCheck rfl) ?_
      refine wt_y rfl (y_fieldAddr F41_1 rfl) ?_
      refine wt_y rfl (y_load NA39 rfl (by first | exact cell_blk [] rfl | exact cell_blk [_] rfl | exact cell_blk [_, _] rfl)) ?_
      refine wt_y rfl (y_move rfl) ?_
      refine wt_y rfl (y_indexAddr (i := i) Try.underlying39 T61 rfl rfl rfl (by omega) (fun w hw => hw.slc_isSome [_] (by omega))) ?_
      refine wt_y rfl (y_fieldAddr_adr F61_1 rfl) ?_
      refine wt_y rfl (y_load NA3 rfl (cell_own [_] (rows_get encR_len hy rfl))) ?_
      refine wt_y rfl (y_mul rfl rfl (by omega)) ?_
      refine wt_y rfl (y_add rfl rfl (by omega)) ?_
      refine wt_y rfl (y_move rfl) ?_
      refine wt_y rfl (y_nilCheck rfl) ?_
      refine wt_y rfl (y_fieldAddr F41_1 rfl) ?_
      refine wt_y rfl (y_load NA39 rfl (by first | exact cell_blk [] rfl | exact cell_blk [_] rfl | exact cell_blk [_, _] rfl)) ?_
      refine wt_y rfl (y_move rfl) ?_
      refine wt_y rfl (y_indexAddr (i := k) Try.underlying39 T61 rfl rfl rfl (by omega) (fun w hw => hw.slc_isSome [_] (by omega))) ?_
      refine wt_y rfl (y_fieldAddr_adr F61_2 rfl) ?_
      refine wt_y rfl (y_load NA3 rfl (cell_own [_] (rows_get encR_len hx rfl))) ?_
      refine wt_y rfl (y_move rfl) ?_
      refine wt_y rfl (y_nilCheck rfl) ?_
      refine wt_y rfl (y_fieldAddr F41_0 rfl) ?_
      refine wt_y rfl (y_load NA3 rfl (by first | exact cell_blk [] rfl | exact cell_blk [_] rfl | exact cell_blk [_, _] rfl)) ?_
      refine wt_y rfl (y_move rfl) ?_
      refine wt_y rfl (y_nilCheck rfl) ?_
      refine wt_y rfl (y_fieldAddr F41_1 rfl) ?_
      refine wt_y rfl (y_load NA39 rfl (by first | exact cell_blk [] rfl | exact cell_blk [_] rfl | exact cell_blk [_, _] rfl)) ?_
      refine wt_y rfl (y_move rfl) ?_
      refine wt_y rfl (y_indexAddr (i := k) Try.underlying39 T61 rfl rfl rfl (by omega) (fun w hw => hw.slc_isSome [_] (by omega))) ?_
      refine wt_y rfl (y_fieldAddr_adr F61_1 rfl) ?_
      refine wt_y rfl (y_load NA3 rfl (cell_own [_] (rows_get encR_len hx rfl))) ?_
      refine wt_y rfl (y_mul rfl rfl (by omega)) ?_
      refine wt_y rfl (y_add rfl rfl (by omega)) ?_
      refine wt_y rfl (y_lss rfl rfl) ?_
      refine wt_nil ?_
      refine wq_then ?_
      refine wc_cond rfl (fun hc58 => ?_) (fun hc58 => ?_)
      ·
        simp at hc58
        refine wc_region ?_
        refine wl_y rfl (y_move rfl) ?_
        refine wl_y rfl (y_assign rfl) ?_
        refine wl_nil ?_
        refine wq_block_normal ?_
        refine wq_then ?_
        refine wc_region ?_
        refine wl_y rfl (y_move rfl) ?_
        refine wl_y rfl (y_add rfl rfl (by omega)) ?_
        refine wl_y rfl (y_assign rfl) ?_
        refine wl_nil ?_
        exact wq_round (i + 1, i) (by simp only; omega) ⟨by simp only; omega, hF.step hx hy (by simpa [key] using hc58)⟩ ⟨rfl, rfl, rfl, trivial⟩ (fun w hw => hw)
      ·
        simp at hc58
        refine wc_skip ?_
        refine wq_block_normal ?_
        refine wq_then ?_
        refine wc_region ?_
        refine wl_y rfl (y_move rfl) ?_
        refine wl_y rfl (y_add rfl rfl (by omega)) ?_
        refine wl_y rfl (y_assign rfl) ?_
        refine wl_nil ?_
        exact wq_round (i + 1, k) (by simp only; omega) ⟨by simp only; omega, hF.stay hx hy (by simpa [key] using hc58)⟩ ⟨rfl, rfl, rfl, trivial⟩ (fun w hw => hw)
    ·
      simp at hc11
      refine wc_exit ?_
      refine wq_then_exit (wq_then_exit (wq_block_exit ?_))
      refine wq_then ?_
      refine wc_seq ?_
      refine wc_region ?_
      refine wl_y rfl (y_move rfl) ?_
      refine wl_y rfl (y_assign rfl) ?_
      refine wl_nil ?_
      refine wq_then ?_
      refine wc_ret ?_
      refine wq_ret1 rfl rfl (fun w hw => ?_)
      exact ⟨k, by rw [show R.length = i by omega]; exact hF, rfl, hw⟩

set_option maxHeartbeats 1000000 in
theorem rnew_lo (w : Int) (hw : w < 1) :
    Ctr Try.prog 9 #[vI w] [] [] (fun _ : Unit => True) (fun _ => .tuple #[.pointer none, vI 1]) (fun _ => []) := by
  refine spec_start (n := 13) [(0, vI w)] Try.func9 rfl rfl ⟨rfl, trivial⟩ rfl ?_
  intro w0 K hR
  refine wc_seq ?_
  refine wc_region ?_
  refine wl_y rfl (y_assign rfl) ?_
  refine wl_y rfl (y_assign rfl) ?_
  refine wl_nil ?_
  refine wq_then ?_
  refine wc_seq ?_
  refine wc_seq ?_
  refine wc_region ?_
  refine wl_y rfl (y_move rfl) ?_
  refine wl_y rfl (y_lss rfl rfl) ?_
  refine wl_y rfl (y_move rfl) ?_
  refine wl_known 6 true rfl (by simp; omega) ?_
  refine wl_sk rfl rfl rfl rfl ?_
  refine wl_sk rfl rfl rfl rfl ?_
  refine wl_y rfl (y_pick_t rfl rfl) ?_
  refine wl_nil ?_
  refine wq_then ?_
  refine wc_cond_true rfl ?_
  refine wc_seq ?_
  refine wc_region ?_
  refine wl_y rfl (y_assign rfl) ?_
  refine wl_y rfl (y_assign rfl) ?_
  refine wl_nil ?_
  refine wq_then ?_
  refine wc_ret ?_
  refine wq_then_ret ?_
  refine wq_ret2 rfl rfl rfl (fun w hw => ?_)
  exact ⟨(), trivial, rfl, hw⟩

set_option maxHeartbeats 1000000 in
theorem rnew_hi (w : Int) (hw : 1000000 < w) :
    Ctr Try.prog 9 #[vI w] [] [] (fun _ : Unit => True) (fun _ => .tuple #[.pointer none, vI 1]) (fun _ => []) := by
  refine spec_start (n := 13) [(0, vI w)] Try.func9 rfl rfl ⟨rfl, trivial⟩ rfl ?_
  intro w0 K hR
  refine wc_seq ?_
  refine wc_region ?_
  refine wl_y rfl (y_assign rfl) ?_
  refine wl_y rfl (y_assign rfl) ?_
  refine wl_nil ?_
  refine wq_then ?_
  refine wc_seq ?_
  refine wc_seq ?_
  refine wc_region ?_
  refine wl_y rfl (y_move rfl) ?_
  refine wl_y rfl (y_lss rfl rfl) ?_
  refine wl_y rfl (y_move rfl) ?_
  refine wl_known 6 false rfl (by simp; omega) ?_
  refine wl_yg rfl rfl rfl (y_move rfl) ?_
  refine wl_yg rfl rfl rfl (y_gtr rfl rfl) ?_
  refine wl_y rfl (y_pick_f rfl rfl) ?_
  refine wl_nil ?_
  refine wq_then ?_
  refine wc_known 9 true rfl (by simp; omega) ?_
  refine wc_cond_true rfl ?_
  refine wc_seq ?_
  refine wc_region ?_
  refine wl_y rfl (y_assign rfl) ?_
  refine wl_y rfl (y_assign rfl) ?_
  refine wl_nil ?_
  refine wq_then ?_
  refine wc_ret ?_
  refine wq_then_ret ?_
  refine wq_ret2 rfl rfl rfl (fun w hw => ?_)
  exact ⟨(), trivial, rfl, hw⟩

set_option maxHeartbeats 1000000 in
theorem rnew_ok (age : Int) (h1 : 1 ≤ age) (h2 : age ≤ 1000000) :
    Ctr Try.prog 9 #[vI age] [] [] (fun _ : Nat => True) (fun b => .tuple #[ptr b, vI 0]) (fun b => [refA b age []]) := by
  refine spec_start (n := 13) [(0, vI age)] Try.func9 rfl rfl ⟨rfl, trivial⟩ rfl ?_
  intro w0 K hR
  refine wc_seq ?_
  refine wc_region ?_
  refine wl_y rfl (y_assign rfl) ?_
  refine wl_y rfl (y_assign rfl) ?_
  refine wl_nil ?_
  refine wq_then ?_
  refine wc_seq ?_
  refine wc_seq ?_
  refine wc_region ?_
  refine wl_y rfl (y_move rfl) ?_
  refine wl_y rfl (y_lss rfl rfl) ?_
  refine wl_y rfl (y_move rfl) ?_
  refine wl_known 6 false rfl (by simp; omega) ?_
  refine wl_yg rfl rfl rfl (y_move rfl) ?_
  refine wl_yg rfl rfl rfl (y_gtr rfl rfl) ?_
  refine wl_y rfl (y_pick_f rfl rfl) ?_
  refine wl_nil ?_
  refine wq_then ?_
  refine wc_known 9 false rfl (by simp; omega) ?_
  refine wc_cond_false rfl ?_
  refine wc_skip ?_
  refine wq_then ?_
  refine wc_seq ?_
  refine wc_region ?_
  refine wl_y rfl (y_move rfl) ?_
  refine wl_y rfl (y_build (cs := [_, _]) T41 PL41 rfl rfl rfl) ?_
  refine wl_w (fun _ _ => want_none) rfl (yw_box rfl rfl) (wl_ex fun b12 _ => ?_)
  refine wl_y rfl (y_assign rfl) ?_
  refine wl_y rfl (y_assign rfl) ?_
  refine wl_nil ?_
  refine wq_then ?_
  refine wc_ret ?_
  refine wq_ret2 rfl rfl rfl (fun w hw => ?_)
  exact ⟨_, trivial, rfl, exA_shut (none, 0) trivial (Hp.addNil [_] [] hw)⟩

set_option maxHeartbeats 1000000 in
theorem rpush_bad (b : Nat) (age : Int) (R : List (It Int)) (oc : Option Addr × Nat) (v : Int) (rank tm : Int) (hb : rank < 0 ∨ 9 < rank ∨ tm < 0 ∨ 1000000000 < tm) :
    Ctr Try.prog 12 #[ptr b, vI v, vI rank, vI tm] [] (refRaw b age R oc) (fun _ : Unit => True) (fun _ => vI 1) (fun _ => refRaw b age R oc) := by
  refine spec_start (n := 36) [(0, ptr b), (1, vI v), (2, vI rank), (3, vI tm)] Try.func12 rfl rfl ⟨rfl, rfl, rfl, rfl, trivial⟩ rfl ?_
  intro w0 K hR
  refine wc_seq ?_
  refine wc_region ?_
  refine wl_y rfl (y_assign rfl) ?_
  refine wl_nil ?_
  refine wq_then ?_
  refine wc_seq ?_
  refine wc_seq ?_
  refine wc_region ?_
  refine wl_y rfl (y_move rfl) ?_
  refine wl_y rfl (y_lss rfl rfl) ?_
  refine wl_y rfl (y_move rfl) ?_
  refine wl_case 11 rfl (fun hg11 => ?_) (fun hg11 => ?_)
  ·
    simp at hg11
    refine wl_sk rfl rfl rfl rfl ?_
    refine wl_sk rfl rfl rfl rfl ?_
    refine wl_y rfl (y_pick_t rfl rfl) ?_
    refine wl_y rfl (y_move rfl) ?_
    refine wl_sk rfl rfl rfl rfl ?_
    refine wl_sk rfl rfl rfl rfl ?_
    refine wl_y rfl (y_pick_t rfl rfl) ?_
    refine wl_y rfl (y_move rfl) ?_
    refine wl_sk rfl rfl rfl rfl ?_
    refine wl_sk rfl rfl rfl rfl ?_
    refine wl_y rfl (y_pick_t rfl rfl) ?_
    refine wl_nil ?_
    refine wq_then ?_
    refine wc_known 22 true rfl (by first | rfl | (simp; omega)) ?_
    refine wc_cond_true rfl ?_
    refine wc_seq ?_
    refine wc_region ?_
    refine wl_y rfl (y_assign rfl) ?_
    refine wl_nil ?_
    refine wq_then ?_
    refine wc_ret ?_
    refine wq_then_ret ?_
    refine wq_ret1 rfl rfl (fun w hw => ?_)
    exact ⟨(), trivial, rfl, hw⟩
  ·
    simp at hg11
    refine wl_yg rfl rfl rfl (y_move rfl) ?_
    refine wl_yg rfl rfl rfl (y_gtr rfl rfl) ?_
    refine wl_y rfl (y_pick_f rfl rfl) ?_
    refine wl_y rfl (y_move rfl) ?_
    refine wl_case 15 rfl (fun hg15 => ?_) (fun hg15 => ?_)
    ·
      simp at hg15
      refine wl_sk rfl rfl rfl rfl ?_
      refine wl_sk rfl rfl rfl rfl ?_
      refine wl_y rfl (y_pick_t rfl rfl) ?_
      refine wl_y rfl (y_move rfl) ?_
      refine wl_sk rfl rfl rfl rfl ?_
      refine wl_sk rfl rfl rfl rfl ?_
      refine wl_y rfl (y_pick_t rfl rfl) ?_
      refine wl_nil ?_
      refine wq_then ?_
      refine wc_known 22 true rfl (by first | rfl | (simp; omega)) ?_
      refine wc_cond_true rfl ?_
      refine wc_seq ?_
      refine wc_region ?_
      refine wl_y rfl (y_assign rfl) ?_
      refine wl_nil ?_
      refine wq_then ?_
      refine wc_ret ?_
      refine wq_then_ret ?_
      refine wq_ret1 rfl rfl (fun w hw => ?_)
      exact ⟨(), trivial, rfl, hw⟩
    ·
      simp at hg15
      refine wl_yg rfl rfl rfl (y_move rfl) ?_
      refine wl_yg rfl rfl rfl (y_lss rfl rfl) ?_
      refine wl_y rfl (y_pick_f rfl rfl) ?_
      refine wl_y rfl (y_move rfl) ?_
      refine wl_case 19 rfl (fun hg19 => ?_) (fun hg19 => ?_)
      ·
        simp at hg19
        refine wl_sk rfl rfl rfl rfl ?_
        refine wl_sk rfl rfl rfl rfl ?_
        refine wl_y rfl (y_pick_t rfl rfl) ?_
        refine wl_nil ?_
        refine wq_then ?_
        refine wc_known 22 true rfl (by first | rfl | (simp; omega)) ?_
        refine wc_cond_true rfl ?_
        refine wc_seq ?_
        refine wc_region ?_
        refine wl_y rfl (y_assign rfl) ?_
        refine wl_nil ?_
        refine wq_then ?_
        refine wc_ret ?_
        refine wq_then_ret ?_
        refine wq_ret1 rfl rfl (fun w hw => ?_)
        exact ⟨(), trivial, rfl, hw⟩
      ·
        simp at hg19
        refine wl_yg rfl rfl rfl (y_move rfl) ?_
        refine wl_yg rfl rfl rfl (y_gtr rfl rfl) ?_
        refine wl_y rfl (y_pick_f rfl rfl) ?_
        refine wl_nil ?_
        refine wq_then ?_
        refine wc_known 22 true rfl (by first | rfl | (simp; omega)) ?_
        refine wc_cond_true rfl ?_
        refine wc_seq ?_
        refine wc_region ?_
        refine wl_y rfl (y_assign rfl) ?_
        refine wl_nil ?_
        refine wq_then ?_
        refine wc_ret ?_
        refine wq_then_ret ?_
        refine wq_ret1 rfl rfl (fun w hw => ?_)
        exact ⟨(), trivial, rfl, hw⟩

set_option maxHeartbeats 1000000 in
theorem rpush_raw (b : Nat) (age : Int) (R : List (It Int)) (oc : Option Addr × Nat) (v : Int) (rank tm : Int) (n : Int) (hr : 0 ≤ rank ∧ rank ≤ 9) (ht : 0 ≤ tm ∧ tm ≤ 1000000000) (hl : R.length ≤ 1000000) :
    Ctr Try.prog 12 #[ptr b, vI v, vI rank, vI tm] [] (refRaw b age R oc) (fun _ : Option Addr × Nat => True) (fun _ => vI 0) (fun oc => refRaw b age (R ++ [(⟨v, rank, tm, tm + age * rank, n + 1⟩ : It Int)]) oc) := by
  refine spec_start (n := 36) [(0, ptr b), (1, vI v), (2, vI rank), (3, vI tm)] Try.func12 rfl rfl ⟨rfl, rfl, rfl, rfl, trivial⟩ rfl ?_
  intro w0 K hR
  refine wc_seq ?_
  refine wc_region ?_
  refine wl_y rfl (y_assign rfl) ?_
  refine wl_nil ?_
  refine wq_then ?_
  refine wc_seq ?_
  refine wc_seq ?_
  refine wc_region ?_
  refine wl_y rfl (y_move rfl) ?_
  refine wl_y rfl (y_lss rfl rfl) ?_
  refine wl_y rfl (y_move rfl) ?_
  refine wl_known 11 false rfl (by simp; omega) ?_
  refine wl_yg rfl rfl rfl (y_move rfl) ?_
  refine wl_yg rfl rfl rfl (y_gtr rfl rfl) ?_
  refine wl_y rfl (y_pick_f rfl rfl) ?_
  refine wl_y rfl (y_move rfl) ?_
  refine wl_known 15 false rfl (by simp; omega) ?_
  refine wl_yg rfl rfl rfl (y_move rfl) ?_
  refine wl_yg rfl rfl rfl (y_lss rfl rfl) ?_
  refine wl_y rfl (y_pick_f rfl rfl) ?_
  refine wl_y rfl (y_move rfl) ?_
  refine wl_known 19 false rfl (by simp; omega) ?_
  refine wl_yg rfl rfl rfl (y_move rfl) ?_
  refine wl_yg rfl rfl rfl (y_gtr rfl rfl) ?_
  refine wl_y rfl (y_pick_f rfl rfl) ?_
  refine wl_nil ?_
  refine wq_then ?_
  refine wc_known 22 false rfl (by simp; omega) ?_
  refine wc_cond_false rfl ?_
  refine wc_skip ?_
  refine wq_then ?_
  refine wc_seq ?_
  refine wc_region ?_
  refine wl_y rfl (y_move rfl) ?_
  refine wl_y rfl (y_move rfl) ?_
  refine wl_y rfl (y_nilCheck rfl) ?_
  refine wl_y rfl (y_fieldAddr F41_1 rfl) ?_
  refine wl_y rfl (y_load NA39 rfl (by first | exact cell_blk [] rfl | exact cell_blk [_] rfl | exact cell_blk [_, _] rfl)) ?_
  refine wl_y rfl (y_move rfl) ?_
  refine wl_y rfl (y_move rfl) ?_
  refine wl_y rfl (y_move rfl) ?_
  refine wl_y rfl (y_build (cs := [_, _, _]) T61 PL61 rfl rfl rfl) ?_
  refine wl_w (fun _ _ => want_none) rfl (yw_buildSlice (cs := encR (⟨v, rank, tm, tm + age * rank, n + 1⟩ : It Int)) Try.underlying39 T61 rfl rfl rfl rfl rfl rfl rfl) (wl_ex fun b32 _ => ?_)
  refine wl_w (fun _ _ => want_none) rfl (yw_append [_, _] Try.underlying39 Try.underlying39 (.inl ⟨_, rfl⟩) T61 rfl rfl rfl (fun w hw => Src.slice ((hw.seen []).mono fun _ => slc_rsl)) (by omega) (by unfold maxLen; omega) (by simp [Value.oneCell', encR]) rfl) (wl_ex fun p hp => ?_)
  refine wl_y rfl (y_nilCheck rfl) ?_
  refine wl_y rfl (y_fieldAddr F41_1 rfl) ?_
  first | refine wl_u (yu_store [] (l' := [_, _]) T39 rfl rfl rfl rfl rfl rfl rfl) ?_ | refine wl_u (yu_store [_] (l' := [_, _]) T39 rfl rfl rfl rfl rfl rfl rfl) ?_ | refine wl_u (yu_store [_, _] (l' := [_, _]) T39 rfl rfl rfl rfl rfl rfl rfl) ?_
  refine wl_nil ?_
  refine wq_then ?_
  refine wc_seq ?_
  refine wc_region ?_
  refine wl_y rfl (y_assign rfl) ?_
  refine wl_nil ?_
  refine wq_then ?_
  refine wc_ret ?_
  refine wq_ret1 rfl rfl (fun w hw => ?_)
  have h3 := hw.drop
  have e : (R ++ [(⟨v, rank, tm, tm + age * rank, n + 1⟩ : It Int)]).length = R.length + 1 := by simp
  exact ⟨p, trivial, rfl, by rw [refRaw, e, List.flatMap_append, List.flatMap_singleton]; exact h3⟩

set_option maxHeartbeats 1000000 in
theorem rpeek_raw (b : Nat) (age : Int) (R : List (It Int)) (oc : Option Addr × Nat) (ha : 0 ≤ age ∧ age ≤ 1000000) (hl : R.length ≤ 1000000) (hok : ∀ x ∈ R, 0 ≤ x.rank ∧ x.rank ≤ 9 ∧ 0 ≤ x.tm ∧ x.tm ≤ 1000000000) (hne : 0 < R.length) :
    Ctr Try.prog 16 #[ptr b] [] (refRaw b age R oc) (fun y : Nat × It Int => FirstTo age R R.length y.1 ∧ R[y.1]? = some y.2) (fun y => .tuple #[vI y.2.v, vI y.2.rank, vI y.2.tm, .bool true]) (fun _ => refRaw b age R oc) := by
  refine spec_start (n := 27) [(0, ptr b)] Try.func16 rfl rfl ⟨rfl, trivial⟩ rfl ?_
  intro w0 K hR
  refine wc_seq ?_
  refine wc_region ?_
  refine wl_y rfl (y_assign rfl) ?_
  refine wl_y rfl (y_assign rfl) ?_
  refine wl_y rfl (y_assign rfl) ?_
  refine wl_y rfl (y_assign rfl) ?_
  refine wl_nil ?_
  refine wq_then ?_
  refine wc_seq ?_
  refine wc_seq ?_
  refine wc_region ?_
  refine wl_y rfl (y_move rfl) ?_
  refine wl_y rfl (y_nilCheck rfl) ?_
  refine wl_y rfl (y_fieldAddr F41_1 rfl) ?_
  refine wl_y rfl (y_load NA39 rfl (by first | exact cell_blk [] rfl | exact cell_blk [_] rfl | exact cell_blk [_, _] rfl)) ?_
  refine wl_y rfl (y_lenSl Try.underlying39 rfl) ?_
  refine wl_y rfl (y_eqlI rfl rfl) ?_
  refine wl_nil ?_
  refine wq_then ?_
  refine wc_known 12 false rfl (decide_eq_false (by omega)) ?_
  refine wc_cond_false rfl ?_
  refine wc_skip ?_
  refine wq_then ?_
  refine wc_seq ?_
  refine wc_mix (.q 0 0 (.q 1 0 (.q 2 0 (.q 3 0 (.q 4 0 (.w 5 2 (.q 6 0 (.q 7 0 (.w 8 2 (.w 9 2 .nil .nil) .nil))) (.w 8 2 (.w 5 2 (.q 6 0 (.q 7 0 (.w 9 2 .nil .nil))) .nil) .nil))))))) (Sees [blk b (.cells [vI age, .slice oc.1 R.length oc.2].toArray 41 (0, 0)), slc 61 3 oc.1 R.length oc.2 (R.flatMap encR)]) MO (by kernel_rfl) (Hp.drawless _ _ _) (fun w hw => by refine ⟨?_, ?_, trivial⟩ <;> first | exact hw.seen [] | exact hw.seen [_] | exact hw.seen [_, _] | exact hw.seen [_, _, _] | exact hw.seen [_, _, _, _] | exact hw.seen [_, _, _, _, _]) ?_
  refine wm_have (p := oc.1.isSome = true) (fun w hw => hw.slc_isSome [_] (by omega)) (fun hos => ?_)
  refine wm_g rfl rfl (y_move rfl) ?_
  refine wm_g rfl rfl (y_nilCheck rfl) ?_
  refine wm_g rfl rfl (y_fieldAddr F41_1 rfl) ?_
  refine wm_g rfl rfl (y_load NA39 rfl (fun w hw => by first | exact cell_of_heap hw.1.blk rfl | exact cell_of_heap hw.2.1.blk rfl)) ?_
  refine wm_g rfl rfl (y_move rfl) ?_
  refine wm_alt ?_ ?_
  ·
    refine wm_c rfl rfl ?hC (yc_spec (fst := []) (cap := []) _ FN24 (first_raw b age R oc ha hl hok hne) rfl rfl rfl (by simp) (by (repeat (first | exact pt_nil | apply pt0 | apply pt1 | apply pt2 | apply pt3 | apply pt4 | apply pt5 | apply pt6 | apply pt7 | apply pt8 | apply pt9 | apply pt10 | apply pt11 | apply pt12 | apply pt13 | apply pt14 | apply pt15 | apply pt16 | apply pt17)))) (wm_ex fun x18 hx18 => ?_)
    case hC => exact (fun _ _ h => by obtain ⟨_, _, _, hw⟩ := h; exact (by refine ⟨?_, ?_, trivial⟩ <;> first | exact hw.seen [] | exact hw.seen [_] | exact hw.seen [_, _] | exact hw.seen [_, _, _] | exact hw.seen [_, _, _, _] | exact hw.seen [_, _, _, _, _]))
    obtain ⟨x, hx, hkl, _⟩ := id hx18
    refine wm_g rfl rfl (y_indexAddr Try.underlying39 T61 rfl rfl rfl hkl (fun w hw => hos)) ?_
    refine wm_g rfl rfl (y_loadAgg (l := encR x) AG61 rfl rfl (fun w hw => hw.2.1.slcAgg (fun i u h => rows_get encR_len hx h))) ?_
    refine wm_w rfl rfl ?hC (yw_alloc T61 rfl) (wm_ex fun b6 _ => ?_)
    case hC => exact (fun _ _ h => by obtain ⟨_, _, _, hw⟩ := h; exact (by refine ⟨?_, ?_, trivial⟩ <;> first | exact hw.seen [] | exact hw.seen [_] | exact hw.seen [_, _] | exact hw.seen [_, _, _] | exact hw.seen [_, _, _, _] | exact hw.seen [_, _, _, _, _]))
    first | refine wm_u rfl (fun _ hw => by refine ⟨?_, ?_, trivial⟩ <;> first | exact hw.seen [] | exact hw.seen [_] | exact hw.seen [_, _] | exact hw.seen [_, _, _] | exact hw.seen [_, _, _, _] | exact hw.seen [_, _, _, _, _]) (yu_storeAgg [] (l' := [_, _, _]) T61 rfl rfl rfl (by simp [Value.oneCell', encR]) rfl rfl) ?_ | refine wm_u rfl (fun _ hw => by refine ⟨?_, ?_, trivial⟩ <;> first | exact hw.seen [] | exact hw.seen [_] | exact hw.seen [_, _] | exact hw.seen [_, _, _] | exact hw.seen [_, _, _, _] | exact hw.seen [_, _, _, _, _]) (yu_storeAgg [_] (l' := [_, _, _]) T61 rfl rfl rfl (by simp [Value.oneCell', encR]) rfl rfl) ?_ | refine wm_u rfl (fun _ hw => by refine ⟨?_, ?_, trivial⟩ <;> first | exact hw.seen [] | exact hw.seen [_] | exact hw.seen [_, _] | exact hw.seen [_, _, _] | exact hw.seen [_, _, _, _] | exact hw.seen [_, _, _, _, _]) (yu_storeAgg [_, _] (l' := [_, _, _]) T61 rfl rfl rfl (by simp [Value.oneCell', encR]) rfl rfl) ?_
    refine wm_nil ?_
    refine all_wq ?_
    refine wq_then ?_
    refine wc_seq ?_
    refine wc_quiet MO (by kernel_rfl) (Hp.drawless _ _ _) ?_
    refine wt_y rfl (y_fieldAddr F61_0 rfl) ?_
    refine wt_y rfl (y_load NA3 rfl (by first | exact cell_blk [] rfl | exact cell_blk [_] rfl | exact cell_blk [_, _] rfl)) ?_
    refine wt_y rfl (y_fieldAddr F61_1 rfl) ?_
    refine wt_y rfl (y_load NA3 rfl (by first | exact cell_blk [] rfl | exact cell_blk [_] rfl | exact cell_blk [_, _] rfl)) ?_
    refine wt_y rfl (y_fieldAddr F61_2 rfl) ?_
    refine wt_y rfl (y_load NA3 rfl (by first | exact cell_blk [] rfl | exact cell_blk [_] rfl | exact cell_blk [_, _] rfl)) ?_
    refine wt_y rfl (y_assign rfl) ?_
    refine wt_y rfl (y_assign rfl) ?_
    refine wt_y rfl (y_assign rfl) ?_
    refine wt_y rfl (y_assign rfl) ?_
    refine wt_nil ?_
    refine wq_then ?_
    refine wc_ret ?_
    refine wq_ret4 rfl rfl rfl rfl rfl (fun w hw => ?_)
    exact ⟨(x18, x), ⟨hx18, hx⟩, rfl, hw.sub (by (repeat (first | exact pt_nil | apply pt0 | apply pt1 | apply pt2 | apply pt3 | apply pt4 | apply pt5 | apply pt6 | apply pt7 | apply pt8 | apply pt9 | apply pt10 | apply pt11 | apply pt12 | apply pt13 | apply pt14 | apply pt15 | apply pt16 | apply pt17)))⟩
  ·
    refine wm_w rfl rfl ?hC (yw_alloc T61 rfl) (wm_ex fun b6 _ => ?_)
    case hC => exact (fun _ _ h => by obtain ⟨_, _, _, hw⟩ := h; exact (by refine ⟨?_, ?_, trivial⟩ <;> first | exact hw.seen [] | exact hw.seen [_] | exact hw.seen [_, _] | exact hw.seen [_, _, _] | exact hw.seen [_, _, _, _] | exact hw.seen [_, _, _, _, _]))
    refine wm_c rfl rfl ?hC (yc_spec (fst := []) (cap := []) _ FN24 (first_raw b age R oc ha hl hok hne) rfl rfl rfl (by simp) (by (repeat (first | exact pt_nil | apply pt0 | apply pt1 | apply pt2 | apply pt3 | apply pt4 | apply pt5 | apply pt6 | apply pt7 | apply pt8 | apply pt9 | apply pt10 | apply pt11 | apply pt12 | apply pt13 | apply pt14 | apply pt15 | apply pt16 | apply pt17)))) (wm_ex fun x18 hx18 => ?_)
    case hC => exact (fun _ _ h => by obtain ⟨_, _, _, hw⟩ := h; exact (by refine ⟨?_, ?_, trivial⟩ <;> first | exact hw.seen [] | exact hw.seen [_] | exact hw.seen [_, _] | exact hw.seen [_, _, _] | exact hw.seen [_, _, _, _] | exact hw.seen [_, _, _, _, _]))
    obtain ⟨x, hx, hkl, _⟩ := id hx18
    refine wm_g rfl rfl (y_indexAddr Try.underlying39 T61 rfl rfl rfl hkl (fun w hw => hos)) ?_
    refine wm_g rfl rfl (y_loadAgg (l := encR x) AG61 rfl rfl (fun w hw => hw.2.1.slcAgg (fun i u h => rows_get encR_len hx h))) ?_
    first | refine wm_u rfl (fun _ hw => by refine ⟨?_, ?_, trivial⟩ <;> first | exact hw.seen [] | exact hw.seen [_] | exact hw.seen [_, _] | exact hw.seen [_, _, _] | exact hw.seen [_, _, _, _] | exact hw.seen [_, _, _, _, _]) (yu_storeAgg [] (l' := [_, _, _]) T61 rfl rfl rfl (by simp [Value.oneCell', encR]) rfl rfl) ?_ | refine wm_u rfl (fun _ hw => by refine ⟨?_, ?_, trivial⟩ <;> first | exact hw.seen [] | exact hw.seen [_] | exact hw.seen [_, _] | exact hw.seen [_, _, _] | exact hw.seen [_, _, _, _] | exact hw.seen [_, _, _, _, _]) (yu_storeAgg [_] (l' := [_, _, _]) T61 rfl rfl rfl (by simp [Value.oneCell', encR]) rfl rfl) ?_ | refine wm_u rfl (fun _ hw => by refine ⟨?_, ?_, trivial⟩ <;> first | exact hw.seen [] | exact hw.seen [_] | exact hw.seen [_, _] | exact hw.seen [_, _, _] | exact hw.seen [_, _, _, _] | exact hw.seen [_, _, _, _, _]) (yu_storeAgg [_, _] (l' := [_, _, _]) T61 rfl rfl rfl (by simp [Value.oneCell', encR]) rfl rfl) ?_
    refine wm_nil ?_
    refine all_wq ?_
    refine wq_then ?_
    refine wc_seq ?_
    refine wc_quiet MO (by kernel_rfl) (Hp.drawless _ _ _) ?_
    refine wt_y rfl (y_fieldAddr F61_0 rfl) ?_
    refine wt_y rfl (y_load NA3 rfl (by first | exact cell_blk [] rfl | exact cell_blk [_] rfl | exact cell_blk [_, _] rfl)) ?_
    refine wt_y rfl (y_fieldAddr F61_1 rfl) ?_
    refine wt_y rfl (y_load NA3 rfl (by first | exact cell_blk [] rfl | exact cell_blk [_] rfl | exact cell_blk [_, _] rfl)) ?_
    refine wt_y rfl (y_fieldAddr F61_2 rfl) ?_
    refine wt_y rfl (y_load NA3 rfl (by first | exact cell_blk [] rfl | exact cell_blk [_] rfl | exact cell_blk [_, _] rfl)) ?_
    refine wt_y rfl (y_assign rfl) ?_
    refine wt_y rfl (y_assign rfl) ?_
    refine wt_y rfl (y_assign rfl) ?_
    refine wt_y rfl (y_assign rfl) ?_
    refine wt_nil ?_
    refine wq_then ?_
    refine wc_ret ?_
    refine wq_ret4 rfl rfl rfl rfl rfl (fun w hw => ?_)
    exact ⟨(x18, x), ⟨hx18, hx⟩, rfl, hw.sub (by (repeat (first | exact pt_nil | apply pt0 | apply pt1 | apply pt2 | apply pt3 | apply pt4 | apply pt5 | apply pt6 | apply pt7 | apply pt8 | apply pt9 | apply pt10 | apply pt11 | apply pt12 | apply pt13 | apply pt14 | apply pt15 | apply pt16 | apply pt17)))⟩

set_option maxHeartbeats 1000000 in
theorem rpeek_no (b : Nat) (age : Int) (oc : Option Addr × Nat) :
    Ctr Try.prog 16 #[ptr b] [] (refRaw b age [] oc) (fun _ : Unit => True) (fun _ => .tuple #[vI 0, vI 0, vI 0, .bool false]) (fun _ => refRaw b age [] oc) := by
  refine spec_start (n := 27) [(0, ptr b)] Try.func16 rfl rfl ⟨rfl, trivial⟩ rfl ?_
  intro w0 K hR
  refine wc_seq ?_
  refine wc_region ?_
  refine wl_y rfl (y_assign rfl) ?_
  refine wl_y rfl (y_assign rfl) ?_
  refine wl_y rfl (y_assign rfl) ?_
  refine wl_y rfl (y_assign rfl) ?_
  refine wl_nil ?_
  refine wq_then ?_
  refine wc_seq ?_
  refine wc_seq ?_
  refine wc_region ?_
  refine wl_y rfl (y_move rfl) ?_
  refine wl_y rfl (y_nilCheck rfl) ?_
  refine wl_y rfl (y_fieldAddr F41_1 rfl) ?_
  refine wl_y rfl (y_load NA39 rfl (by first | exact cell_blk [] rfl | exact cell_blk [_] rfl | exact cell_blk [_, _] rfl)) ?_
  refine wl_y rfl (y_lenSl Try.underlying39 rfl) ?_
  refine wl_y rfl (y_eqlI rfl rfl) ?_
  refine wl_nil ?_
  refine wq_then ?_
  refine wc_known 12 true rfl (rfl) ?_
  refine wc_cond_true rfl ?_
  refine wc_seq ?_
  refine wc_region ?_
  refine wl_y rfl (y_assign rfl) ?_
  refine wl_y rfl (y_assign rfl) ?_
  refine wl_y rfl (y_assign rfl) ?_
  refine wl_y rfl (y_assign rfl) ?_
  refine wl_nil ?_
  refine wq_then ?_
  refine wc_ret ?_
  refine wq_then_ret ?_
  refine wq_ret4 rfl rfl rfl rfl rfl (fun w hw => ?_)
  exact ⟨(), trivial, rfl, hw⟩

set_option maxHeartbeats 1000000 in
theorem rpop_no (b : Nat) (age : Int) (oc : Option Addr × Nat) :
    Ctr Try.prog 14 #[ptr b] [] (refRaw b age [] oc) (fun _ : Unit => True) (fun _ => .tuple #[vI 0, .bool false]) (fun _ => refRaw b age [] oc) := by
  refine spec_start (n := 44) [(0, ptr b)] Try.func14 rfl rfl ⟨rfl, trivial⟩ rfl ?_
  intro w0 K hR
  refine wc_seq ?_
  refine wc_region ?_
  refine wl_y rfl (y_assign rfl) ?_
  refine wl_y rfl (y_assign rfl) ?_
  refine wl_nil ?_
  refine wq_then ?_
  refine wc_seq ?_
  refine wc_seq ?_
  refine wc_region ?_
  refine wl_y rfl (y_move rfl) ?_
  refine wl_y rfl (y_nilCheck rfl) ?_
  refine wl_y rfl (y_fieldAddr F41_1 rfl) ?_
  refine wl_y rfl (y_load NA39 rfl (by first | exact cell_blk [] rfl | exact cell_blk [_] rfl | exact cell_blk [_, _] rfl)) ?_
  refine wl_y rfl (y_lenSl Try.underlying39 rfl) ?_
  refine wl_y rfl (y_eqlI rfl rfl) ?_
  refine wl_nil ?_
  refine wq_then ?_
  refine wc_known 12 true rfl (rfl) ?_
  refine wc_cond_true rfl ?_
  refine wc_seq ?_
  refine wc_region ?_
  refine wl_y rfl (y_assign rfl) ?_
  refine wl_y rfl (y_assign rfl) ?_
  refine wl_nil ?_
  refine wq_then ?_
  refine wc_ret ?_
  refine wq_then_ret ?_
  refine wq_ret2 rfl rfl rfl (fun w hw => ?_)
  exact ⟨(), trivial, rfl, hw⟩

set_option maxHeartbeats 1000000 in
theorem rpop_raw (b : Nat) (age : Int) (R : List (It Int)) (oc : Option Addr × Nat) (ha : 0 ≤ age ∧ age ≤ 1000000) (hl : R.length ≤ 1000000) (hok : ∀ x ∈ R, 0 ≤ x.rank ∧ x.rank ≤ 9 ∧ 0 ≤ x.tm ∧ x.tm ≤ 1000000000) (hne : 0 < R.length) :
    Ctr Try.prog 14 #[ptr b] [] (refRaw b age R oc) (fun y : (Nat × It Int) × Option Addr × Nat => FirstTo age R R.length y.1.1 ∧ R[y.1.1]? = some y.1.2) (fun y => .tuple #[vI y.1.2.v, .bool true]) (fun y => refRaw b age (R.eraseIdx y.1.1) y.2) := by
  refine spec_start (n := 44) [(0, ptr b)] Try.func14 rfl rfl ⟨rfl, trivial⟩ rfl ?_
  intro w0 K hR
  refine wc_seq ?_
  refine wc_region ?_
  refine wl_y rfl (y_assign rfl) ?_
  refine wl_y rfl (y_assign rfl) ?_
  refine wl_nil ?_
  refine wq_then ?_
  refine wc_seq ?_
  refine wc_seq ?_
  refine wc_region ?_
  refine wl_y rfl (y_move rfl) ?_
  refine wl_y rfl (y_nilCheck rfl) ?_
  refine wl_y rfl (y_fieldAddr F41_1 rfl) ?_
  refine wl_y rfl (y_load NA39 rfl (by first | exact cell_blk [] rfl | exact cell_blk [_] rfl | exact cell_blk [_, _] rfl | exact cell_blk [_, _, _] rfl | exact cell_blk [_, _, _, _] rfl)) ?_
  refine wl_y rfl (y_lenSl Try.underlying39 rfl) ?_
  refine wl_y rfl (y_eqlI rfl rfl) ?_
  refine wl_nil ?_
  refine wq_then ?_
  refine wc_known 12 false rfl (decide_eq_false (by omega)) ?_
  refine wc_cond_false rfl ?_
  refine wc_skip ?_
  refine wq_then ?_
  refine wc_seq ?_
  refine wc_region ?_
  refine wl_y rfl (y_move rfl) ?_
  refine wl_c (fun _ _ => want_none) rfl (yc_spec (fst := []) (cap := []) _ FN24 (first_raw b age R oc ha hl hok hne) rfl rfl rfl (by simp) (by (repeat (first | exact pt_nil | apply pt0 | apply pt1 | apply pt2 | apply pt3 | apply pt4 | apply pt5 | apply pt6 | apply pt7 | apply pt8 | apply pt9 | apply pt10 | apply pt11 | apply pt12 | apply pt13 | apply pt14 | apply pt15 | apply pt16 | apply pt17)))) (wl_ex fun x14 hx14 => ?_)
  refine wl_have (p := oc.1.isSome = true) (fun w hw => hw.slc_isSome [_] (by omega)) (fun hos => ?_)
  refine wl_have (p := R.length ≤ oc.2) (fun w hw => hw.slc_le [_]) (fun hcap => ?_)
  obtain ⟨x, hx, hkl, _⟩ := id hx14
  refine wl_y rfl (y_assign rfl) ?_
  refine wl_nil ?_
  refine wq_then ?_
  refine wc_seq ?_
  refine wc_region ?_
  refine wl_y rfl (y_move rfl) ?_
  refine wl_y rfl (y_nilCheck rfl) ?_
  refine wl_y rfl (y_fieldAddr F41_1 rfl) ?_
  refine wl_y rfl (y_load NA39 rfl (by first | exact cell_blk [] rfl | exact cell_blk [_] rfl | exact cell_blk [_, _] rfl | exact cell_blk [_, _, _] rfl | exact cell_blk [_, _, _, _] rfl)) ?_
  refine wl_y rfl (y_move rfl) ?_
  refine wl_y rfl (y_indexAddr Try.underlying39 T61 rfl rfl rfl hkl (fun w hw => hos)) ?_
  refine wl_y rfl (y_loadAgg (l := encR x) AG61 rfl rfl (agg_own [_] (fun i u h => rows_get encR_len hx h))) ?_
  refine wl_w (fun _ _ => want_none) rfl (yw_alloc T61 rfl) (wl_ex fun b5 _ => ?_)
  first | refine wl_u (yu_storeAgg [] (l' := [_, _, _]) T61 rfl rfl rfl (by simp [Value.oneCell', encR]) rfl rfl) ?_ | refine wl_u (yu_storeAgg [_] (l' := [_, _, _]) T61 rfl rfl rfl (by simp [Value.oneCell', encR]) rfl rfl) ?_ | refine wl_u (yu_storeAgg [_, _] (l' := [_, _, _]) T61 rfl rfl rfl (by simp [Value.oneCell', encR]) rfl rfl) ?_ | refine wl_u (yu_storeAgg [_, _, _] (l' := [_, _, _]) T61 rfl rfl rfl (by simp [Value.oneCell', encR]) rfl rfl) ?_ | refine wl_u (yu_storeAgg [_, _, _, _] (l' := [_, _, _]) T61 rfl rfl rfl (by simp [Value.oneCell', encR]) rfl rfl) ?_
  refine wl_nil ?_
  refine wq_then ?_
  refine wc_seq ?_
  refine wc_region ?_
  refine wl_y rfl (y_assign rfl) ?_
  refine wl_nil ?_
  refine wq_then ?_
  refine wc_seq ?_
  refine wc_region ?_
  refine wl_world (fun w hw => Hp.addNil (e := 61) (sz := 3) [] _ hw) ?_
  refine wl_y rfl (y_move rfl) ?_
  refine wl_y rfl (y_move rfl) ?_
  refine wl_y rfl (y_nilCheck rfl) ?_
  refine wl_y rfl (y_fieldAddr F41_1 rfl) ?_
  refine wl_y rfl (y_load NA39 rfl (by first | exact cell_blk [] rfl | exact cell_blk [_] rfl | exact cell_blk [_, _] rfl | exact cell_blk [_, _, _] rfl | exact cell_blk [_, _, _, _] rfl)) ?_
  refine wl_y rfl (y_move rfl) ?_
  refine wl_y rfl (y_sliceSl (i := 0) (j := x14) Try.underlying39 T61 rfl rfl ⟨_, rfl, rfl⟩ (Nat.zero_le _) (by omega)) ?_
  refine wl_w (fun _ _ => want_none) rfl (yw_append [] Try.underlying39 Try.underlying39 (.inl ⟨_, rfl⟩) T61 rfl rfl rfl (fun w hw => Src.slice ((hw.seen [_, _, _]).mono fun _ h => slc_rsl (slc_take x14 h (by omega)))) (by omega) (by unfold maxLen; omega) (one_take (one_rows encR_one)) (by simp [rows_length encR_len]; omega)) (wl_ex fun p hp => ?_)
  refine wl_y rfl (y_assign rfl) ?_
  refine wl_nil ?_
  refine wq_then ?_
  refine wc_seq ?_
  refine wc_region ?_
  refine wl_y rfl (y_move rfl) ?_
  refine wl_y rfl (y_move rfl) ?_
  refine wl_y rfl (y_move rfl) ?_
  refine wl_y rfl (y_nilCheck rfl) ?_
  refine wl_y rfl (y_fieldAddr F41_1 rfl) ?_
  refine wl_y rfl (y_load NA39 rfl (by first | exact cell_blk [] rfl | exact cell_blk [_] rfl | exact cell_blk [_, _] rfl | exact cell_blk [_, _, _] rfl | exact cell_blk [_, _, _, _] rfl)) ?_
  refine wl_y rfl (y_move rfl) ?_
  refine wl_y rfl (y_add rfl rfl (by omega)) ?_
  refine wl_y rfl (y_sliceSl (i := x14 + 1) (j := R.length) Try.underlying39 T61 rfl ⟨_, rfl, rfl⟩ rfl (by omega) (by omega)) ?_
  refine wl_w (fun _ _ => want_none) rfl (yw_append [] Try.underlying39 Try.underlying39 (.inl ⟨_, rfl⟩) T61 rfl rfl rfl (fun w hw => Src.slice ((hw.seen [_, _, _]).mono fun _ h => slc_rsl (slc_cut (x14 + 1) h (by omega)))) (by omega) (by unfold maxLen; omega) (one_drop (one_rows encR_one)) (by simp [rows_length encR_len]; omega)) (wl_ex fun p' hp' => ?_)
  refine wl_y rfl (y_nilCheck rfl) ?_
  refine wl_y rfl (y_fieldAddr F41_1 rfl) ?_
  first | refine wl_u (yu_store [] (l' := [_, _]) T39 rfl rfl rfl rfl rfl rfl rfl) ?_ | refine wl_u (yu_store [_] (l' := [_, _]) T39 rfl rfl rfl rfl rfl rfl rfl) ?_ | refine wl_u (yu_store [_, _] (l' := [_, _]) T39 rfl rfl rfl rfl rfl rfl rfl) ?_ | refine wl_u (yu_store [_, _, _] (l' := [_, _]) T39 rfl rfl rfl rfl rfl rfl rfl) ?_ | refine wl_u (yu_store [_, _, _, _] (l' := [_, _]) T39 rfl rfl rfl rfl rfl rfl rfl) ?_
  refine wl_nil ?_
  refine wq_then ?_
  refine wc_seq ?_
  refine wc_region ?_
  refine wl_y rfl (y_fieldAddr F61_0 rfl) ?_
  refine wl_y rfl (y_load NA3 rfl (by first | exact cell_blk [] rfl | exact cell_blk [_] rfl | exact cell_blk [_, _] rfl | exact cell_blk [_, _, _] rfl | exact cell_blk [_, _, _, _] rfl)) ?_
  refine wl_y rfl (y_assign rfl) ?_
  refine wl_y rfl (y_assign rfl) ?_
  refine wl_nil ?_
  refine wq_then ?_
  refine wc_ret ?_
  refine wq_ret2 rfl rfl rfl (fun w hw => ?_)
  have e : (R.eraseIdx x14).length = 0 + (x14 - 0) + (R.length - (x14 + 1)) := by rw [List.length_eraseIdx_of_lt hkl]; omega
  have e2 : (R.eraseIdx x14).flatMap encR = [] ++ (R.flatMap encR).take (x14 * 3) ++ (R.flatMap encR).drop ((x14 + 1) * 3) := by rw [rows_take encR_len _ (by omega), rows_drop encR_len _ (by omega), List.eraseIdx_eq_take_drop_succ, List.flatMap_append]; rfl
  exact ⟨((x14, x), p'), ⟨hx14, hx⟩, rfl, by rw [refRaw, e, e2]; exact hw.sub (by (repeat (first | exact pt_nil | apply pt0 | apply pt1 | apply pt2 | apply pt3 | apply pt4 | apply pt5 | apply pt6 | apply pt7 | apply pt8 | apply pt9 | apply pt10 | apply pt11 | apply pt12 | apply pt13 | apply pt14 | apply pt15 | apply pt16 | apply pt17)))⟩

end Go.Proofs.Ytblhphnnnihkmaa
