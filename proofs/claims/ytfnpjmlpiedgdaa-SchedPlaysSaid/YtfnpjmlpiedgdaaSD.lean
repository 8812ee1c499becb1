/-
  Walks: made, added, joined.
-/
import Derived.Test.YtfnpjmlpiedgdaaSC
namespace Go.Proofs.Ytfnpjmlpiedgdaa
open Go.Eng


def slOf (rs : List (Str × Sl Jb)) (w : Str) : Sl Jb := (mget rs w).getD nilJs
theorem slOf_xs {rs : List (Str × Sl Jb)} {s : Sc} (hx : mval Sl.xs rs = s.rows) (w : Str) : (slOf rs w).xs = s.row w := by
  rw [Sc.row, ← hx, mget_val, slOf]
  cases mget rs w <;> rfl
theorem look_sl (rs : List (Str × Sl Jb)) (w : Str) : lookV false vJs (.slice none 0 0) (mget rs w) = vJs (slOf rs w) := by
  unfold slOf
  cases mget rs w <;> rfl
theorem look_th (l : List (Str × Bool)) (k : Str) : lookV false vB (vB false) (mget l k) = vB ((mget l k).getD false) := by cases mget l k <;> rfl
theorem rs_get {rs : List (Str × Sl Jb)} {s : Sc} (hx : mval Sl.xs rs = s.rows) (w : Str) : mget s.rows w = (mget rs w).map Sl.xs := by rw [← hx, mget_val]
theorem look_ok (rs : List (Str × Sl Jb)) (w : Str) : lookV true vJs (.slice none 0 0) (mget rs w) = .tuple #[vJs (slOf rs w), vB (mget rs w).isSome] := by
  unfold slOf
  cases mget rs w <;> rfl
theorem rs_has {rs : List (Str × Sl Jb)} {s : Sc} (hx : mval Sl.xs rs = s.rows) (w : Str) : (mget rs w).isSome = (mget s.rows w).isSome := by rw [rs_get hx]; cases mget rs w <;> rfl
theorem qpop_em2 (b : Nat) (age n : Int) (R : List (It Jb)) (h : R = []) : Ctr Try.prog 64 #[ptr b] [] [qA b age n R] (fun _ : Unit => True) (fun _ => .tuple #[agJ noJ, .bool false]) (fun _ => [qA b age n R]) := by
  subst h; exact qpop_em b age n
set_option maxHeartbeats 1000000 in
theorem snew_a (a n : Int) (ha : a < 1 ∨ 1000000 < a) :
    Ctr Try.prog 7 #[vI a, vI n] [] [] (fun _ : Unit => True) (fun _ => .tuple #[.pointer none, vI 1]) (fun _ => []) := by
  refine spec_start (n := 31) [(0, vI a), (1, vI n)] Try.func7 rfl rfl ⟨rfl, rfl, trivial⟩ rfl ?_
  intro w0 K hR
  refine wc_seq ?_
  refine wc_region ?_
  refine wl_y rfl (y_assign rfl) ?_
  refine wl_y rfl (y_assign rfl) ?_
  refine wl_nil ?_
  refine wq_then ?_
  refine wc_seq ?_
  refine wc_region ?_
  refine wl_y rfl (y_move rfl) ?_
  refine wl_q (fun _ _ => want_none) rfl (yq_spec (fst := []) (cap := []) _ FN26 (qnew_no a ha) rfl rfl rfl (by (repeat (first | exact pt_nil | apply pt0 | apply pt1 | apply pt2 | apply pt3 | apply pt4 | apply pt5 | apply pt6 | apply pt7 | apply pt8 | apply pt9 | apply pt10 | apply pt11 | apply pt12 | apply pt13 | apply pt14 | apply pt15 | apply pt16 | apply pt17))) (by (repeat (first | exact ro_nil | exact ro_rest (by assumption) | refine ro_cons (by first | exact .inl (by assumption) | exact ro_f0 (fun _ h => h) | exact ro_f0 (fun _ => slc_rsl) | exact ro_f1 (fun _ h => h) | exact ro_f1 (fun _ => slc_rsl) | exact ro_f2 (fun _ h => h) | exact ro_f2 (fun _ => slc_rsl) | exact ro_f3 (fun _ h => h) | exact ro_f3 (fun _ => slc_rsl) | exact ro_f4 (fun _ h => h) | exact ro_f4 (fun _ => slc_rsl) | exact ro_f5 (fun _ h => h) | exact ro_f5 (fun _ => slc_rsl) | exact ro_f6 (fun _ h => h) | exact ro_f6 (fun _ => slc_rsl)) ?_))) (fun _ _ => rfl) (fun _ _ _ h => h.sub (by (repeat (first | exact pt_nil | apply pt0 | apply pt1 | apply pt2 | apply pt3 | apply pt4 | apply pt5 | apply pt6 | apply pt7 | apply pt8 | apply pt9 | apply pt10 | apply pt11 | apply pt12 | apply pt13 | apply pt14 | apply pt15 | apply pt16 | apply pt17))))) ?_
  refine wl_y rfl (y_move rfl) ?_
  refine wl_y rfl (y_extract rfl rfl) ?_
  refine wl_y rfl (y_extract rfl rfl) ?_
  refine wl_y rfl (y_assign rfl) ?_
  refine wl_y rfl (y_assign rfl) ?_
  refine wl_nil ?_
  refine wq_then ?_
  refine wc_seq ?_
  refine wc_seq ?_
  refine wc_region ?_
  refine wl_y rfl (y_move rfl) ?_
  refine wl_y rfl (y_neqI rfl rfl) ?_
  refine wl_nil ?_
  refine wq_then ?_
  refine wc_known 15 true rfl (by decide) ?_
  refine wc_cond_true rfl ?_
  refine wc_seq ?_
  refine wc_region ?_
  refine wl_y rfl (y_move rfl) ?_
  refine wl_y rfl (y_assign rfl) ?_
  refine wl_y rfl (y_assign rfl) ?_
  refine wl_nil ?_
  refine wq_then ?_
  refine wc_ret ?_
  refine wq_then_ret ?_
  refine wq_ret2 rfl rfl rfl (fun w hw => ?_)
  exact ⟨(), trivial, rfl, hw⟩

set_option maxHeartbeats 1000000 in
theorem snew_b (a n : Int) (h1 : 1 ≤ a) (h2 : a ≤ 1000000) (hn : n < 1 ∨ 1000000 < n) :
    Ctr Try.prog 7 #[vI a, vI n] [] [] (fun _ : Unit => True) (fun _ => .tuple #[.pointer none, vI 1]) (fun _ => []) := by
  refine spec_start (n := 31) [(0, vI a), (1, vI n)] Try.func7 rfl rfl ⟨rfl, rfl, trivial⟩ rfl ?_
  intro w0 K hR
  refine wc_seq ?_
  refine wc_region ?_
  refine wl_y rfl (y_assign rfl) ?_
  refine wl_y rfl (y_assign rfl) ?_
  refine wl_nil ?_
  refine wq_then ?_
  refine wc_seq ?_
  refine wc_region ?_
  refine wl_y rfl (y_move rfl) ?_
  refine wl_c (fun _ _ => want_none) rfl (yc_spec (fst := []) (cap := []) _ FN26 (qnew_ok a h1 h2) rfl rfl rfl (by (repeat (first | exact pt_nil | apply pt0 | apply pt1 | apply pt2 | apply pt3 | apply pt4 | apply pt5 | apply pt6 | apply pt7 | apply pt8 | apply pt9 | apply pt10 | apply pt11 | apply pt12 | apply pt13 | apply pt14 | apply pt15 | apply pt16 | apply pt17))) (by (repeat (first | exact ro_nil | exact ro_rest (by assumption) | refine ro_cons (by first | exact .inl (by assumption) | exact ro_f0 (fun _ h => h) | exact ro_f0 (fun _ => slc_rsl) | exact ro_f1 (fun _ h => h) | exact ro_f1 (fun _ => slc_rsl) | exact ro_f2 (fun _ h => h) | exact ro_f2 (fun _ => slc_rsl) | exact ro_f3 (fun _ h => h) | exact ro_f3 (fun _ => slc_rsl) | exact ro_f4 (fun _ h => h) | exact ro_f4 (fun _ => slc_rsl) | exact ro_f5 (fun _ h => h) | exact ro_f5 (fun _ => slc_rsl) | exact ro_f6 (fun _ h => h) | exact ro_f6 (fun _ => slc_rsl)) ?_)))) (wl_ex fun x11 hx11 => ?_)
  refine wl_y rfl (y_move rfl) ?_
  refine wl_y rfl (y_extract rfl rfl) ?_
  refine wl_y rfl (y_extract rfl rfl) ?_
  refine wl_y rfl (y_assign rfl) ?_
  refine wl_y rfl (y_assign rfl) ?_
  refine wl_nil ?_
  refine wq_then ?_
  refine wc_seq ?_
  refine wc_seq ?_
  refine wc_region ?_
  refine wl_y rfl (y_move rfl) ?_
  refine wl_y rfl (y_neqI rfl rfl) ?_
  refine wl_nil ?_
  refine wq_then ?_
  refine wc_known 15 false rfl (by decide) ?_
  refine wc_cond_false rfl ?_
  refine wc_skip ?_
  refine wq_then ?_
  refine wc_seq ?_
  refine wc_region ?_
  refine wl_y rfl (y_move rfl) ?_
  refine wl_q (fun _ _ => want_none) rfl (yq_spec (fst := []) (cap := []) _ FN27 (new_lo n hn) rfl rfl rfl (by (repeat (first | exact pt_nil | apply pt0 | apply pt1 | apply pt2 | apply pt3 | apply pt4 | apply pt5 | apply pt6 | apply pt7 | apply pt8 | apply pt9 | apply pt10 | apply pt11 | apply pt12 | apply pt13 | apply pt14 | apply pt15 | apply pt16 | apply pt17))) (by (repeat (first | exact ro_nil | exact ro_rest (by assumption) | refine ro_cons (by first | exact .inl (by assumption) | exact ro_f0 (fun _ h => h) | exact ro_f0 (fun _ => slc_rsl) | exact ro_f1 (fun _ h => h) | exact ro_f1 (fun _ => slc_rsl) | exact ro_f2 (fun _ h => h) | exact ro_f2 (fun _ => slc_rsl) | exact ro_f3 (fun _ h => h) | exact ro_f3 (fun _ => slc_rsl) | exact ro_f4 (fun _ h => h) | exact ro_f4 (fun _ => slc_rsl) | exact ro_f5 (fun _ h => h) | exact ro_f5 (fun _ => slc_rsl) | exact ro_f6 (fun _ h => h) | exact ro_f6 (fun _ => slc_rsl)) ?_))) (fun _ _ => rfl) (fun _ _ _ h => h.sub (by (repeat (first | exact pt_nil | apply pt0 | apply pt1 | apply pt2 | apply pt3 | apply pt4 | apply pt5 | apply pt6 | apply pt7 | apply pt8 | apply pt9 | apply pt10 | apply pt11 | apply pt12 | apply pt13 | apply pt14 | apply pt15 | apply pt16 | apply pt17))))) ?_
  refine wl_y rfl (y_move rfl) ?_
  refine wl_y rfl (y_extract rfl rfl) ?_
  refine wl_y rfl (y_extract rfl rfl) ?_
  refine wl_y rfl (y_assign rfl) ?_
  refine wl_y rfl (y_assign rfl) ?_
  refine wl_nil ?_
  refine wq_then ?_
  refine wc_seq ?_
  refine wc_seq ?_
  refine wc_region ?_
  refine wl_y rfl (y_move rfl) ?_
  refine wl_y rfl (y_neqI rfl rfl) ?_
  refine wl_nil ?_
  refine wq_then ?_
  refine wc_known 23 true rfl (by decide) ?_
  refine wc_cond_true rfl ?_
  refine wc_seq ?_
  refine wc_region ?_
  refine wl_y rfl (y_move rfl) ?_
  refine wl_y rfl (y_assign rfl) ?_
  refine wl_y rfl (y_assign rfl) ?_
  refine wl_nil ?_
  refine wq_then ?_
  refine wc_ret ?_
  refine wq_then_ret ?_
  refine wq_ret2 rfl rfl rfl (fun w hw => ?_)
  exact ⟨(), trivial, rfl, hw.bare⟩

set_option maxHeartbeats 1000000 in
theorem snew_ok (a n : Int) (h1 : 1 ≤ a) (h2 : a ≤ 1000000) (h3 : 1 ≤ n) (h4 : n ≤ 1000000) :
    Ctr Try.prog 7 #[vI a, vI n] [] [] (fun _ : Nat => True) (fun b => .tuple #[ptr b, vI 0]) (fun b => [scA b ⟨a, 0, [], ⟨n, 0, []⟩, [], []⟩]) := by
  refine spec_start (n := 31) [(0, vI a), (1, vI n)] Try.func7 rfl rfl ⟨rfl, rfl, trivial⟩ rfl ?_
  intro w0 K hR
  refine wc_seq ?_
  refine wc_region ?_
  refine wl_y rfl (y_assign rfl) ?_
  refine wl_y rfl (y_assign rfl) ?_
  refine wl_nil ?_
  refine wq_then ?_
  refine wc_seq ?_
  refine wc_region ?_
  refine wl_y rfl (y_move rfl) ?_
  refine wl_c (fun _ _ => want_none) rfl (yc_spec (fst := []) (cap := []) _ FN26 (qnew_ok a h1 h2) rfl rfl rfl (by (repeat (first | exact pt_nil | apply pt0 | apply pt1 | apply pt2 | apply pt3 | apply pt4 | apply pt5 | apply pt6 | apply pt7 | apply pt8 | apply pt9 | apply pt10 | apply pt11 | apply pt12 | apply pt13 | apply pt14 | apply pt15 | apply pt16 | apply pt17))) (by (repeat (first | exact ro_nil | exact ro_rest (by assumption) | refine ro_cons (by first | exact .inl (by assumption) | exact ro_f0 (fun _ h => h) | exact ro_f0 (fun _ => slc_rsl) | exact ro_f1 (fun _ h => h) | exact ro_f1 (fun _ => slc_rsl) | exact ro_f2 (fun _ h => h) | exact ro_f2 (fun _ => slc_rsl) | exact ro_f3 (fun _ h => h) | exact ro_f3 (fun _ => slc_rsl) | exact ro_f4 (fun _ h => h) | exact ro_f4 (fun _ => slc_rsl) | exact ro_f5 (fun _ h => h) | exact ro_f5 (fun _ => slc_rsl) | exact ro_f6 (fun _ h => h) | exact ro_f6 (fun _ => slc_rsl)) ?_)))) (wl_ex fun x11 hx11 => ?_)
  refine wl_y rfl (y_move rfl) ?_
  refine wl_y rfl (y_extract rfl rfl) ?_
  refine wl_y rfl (y_extract rfl rfl) ?_
  refine wl_y rfl (y_assign rfl) ?_
  refine wl_y rfl (y_assign rfl) ?_
  refine wl_nil ?_
  refine wq_then ?_
  refine wc_seq ?_
  refine wc_seq ?_
  refine wc_region ?_
  refine wl_y rfl (y_move rfl) ?_
  refine wl_y rfl (y_neqI rfl rfl) ?_
  refine wl_nil ?_
  refine wq_then ?_
  refine wc_known 15 false rfl (by decide) ?_
  refine wc_cond_false rfl ?_
  refine wc_skip ?_
  refine wq_then ?_
  refine wc_seq ?_
  refine wc_region ?_
  refine wl_y rfl (y_move rfl) ?_
  refine wl_c (fun _ _ => want_none) rfl (yc_spec (fst := []) (cap := []) _ FN27 (new_ok n h3 h4) rfl rfl rfl (by (repeat (first | exact pt_nil | apply pt0 | apply pt1 | apply pt2 | apply pt3 | apply pt4 | apply pt5 | apply pt6 | apply pt7 | apply pt8 | apply pt9 | apply pt10 | apply pt11 | apply pt12 | apply pt13 | apply pt14 | apply pt15 | apply pt16 | apply pt17))) (by (repeat (first | exact ro_nil | exact ro_rest (by assumption) | refine ro_cons (by first | exact .inl (by assumption) | exact ro_f0 (fun _ h => h) | exact ro_f0 (fun _ => slc_rsl) | exact ro_f1 (fun _ h => h) | exact ro_f1 (fun _ => slc_rsl) | exact ro_f2 (fun _ h => h) | exact ro_f2 (fun _ => slc_rsl) | exact ro_f3 (fun _ h => h) | exact ro_f3 (fun _ => slc_rsl) | exact ro_f4 (fun _ h => h) | exact ro_f4 (fun _ => slc_rsl) | exact ro_f5 (fun _ h => h) | exact ro_f5 (fun _ => slc_rsl) | exact ro_f6 (fun _ h => h) | exact ro_f6 (fun _ => slc_rsl)) ?_)))) (wl_ex fun x19 hx19 => ?_)
  refine wl_y rfl (y_move rfl) ?_
  refine wl_y rfl (y_extract rfl rfl) ?_
  refine wl_y rfl (y_extract rfl rfl) ?_
  refine wl_y rfl (y_assign rfl) ?_
  refine wl_y rfl (y_assign rfl) ?_
  refine wl_nil ?_
  refine wq_then ?_
  refine wc_seq ?_
  refine wc_seq ?_
  refine wc_region ?_
  refine wl_y rfl (y_move rfl) ?_
  refine wl_y rfl (y_neqI rfl rfl) ?_
  refine wl_nil ?_
  refine wq_then ?_
  refine wc_known 23 false rfl (by decide) ?_
  refine wc_cond_false rfl ?_
  refine wc_skip ?_
  refine wq_then ?_
  refine wc_seq ?_
  refine wc_region ?_
  refine wl_y rfl (y_move rfl) ?_
  refine wl_y rfl (y_move rfl) ?_
  refine wl_w (fun _ _ => want_none) rfl (yw_makeMap (ek := vS) (ev := vJs)) (wl_ex fun b27 _ => ?_)
  refine wl_w (fun _ _ => want_none) rfl (yw_makeMap (ek := vS) (ev := vB)) (wl_ex fun b28 _ => ?_)
  refine wl_y rfl (y_build (cs := [_, _, _, _]) T66 PL66 rfl rfl rfl) ?_
  refine wl_w (fun _ _ => want_none) rfl (yw_box rfl rfl) (wl_ex fun b30 _ => ?_)
  refine wl_y rfl (y_assign rfl) ?_
  refine wl_y rfl (y_assign rfl) ?_
  refine wl_nil ?_
  refine wq_then ?_
  refine wc_ret ?_
  refine wq_ret2 rfl rfl rfl (fun w hw => ?_)
  exact ⟨b30, trivial, rfl, sc_shut ⟨x11, x19, b27, b28, []⟩ rfl ((rows_nil hw).sub (by (repeat (first | exact pt_nil | apply pt0 | apply pt1 | apply pt2 | apply pt3 | apply pt4 | apply pt5 | apply pt6 | apply pt7 | apply pt8 | apply pt9 | apply pt10 | apply pt11 | apply pt12 | apply pt13 | apply pt14 | apply pt15 | apply pt16 | apply pt17))))⟩

set_option maxHeartbeats 1000000 in
theorem sadd_c (b : Nat) (s : Sc) (j : Jb) (hq : s.Qk 1) :
    Ctr Try.prog 9 #[ptr b, agJ j] [] [scA b s] (fun _ : Unit => True) (fun _ => vI (s.add j).2) (fun _ => [scA b (s.add j).1]) := by
  refine spec_start (n := 36) [(0, ptr b), (1, agJ j)] Try.func9 rfl rfl ⟨rfl, rfl, trivial⟩ rfl ?_
  intro w0 K hR
  refine wc_ex sc_open (fun x => ?_)
  obtain ⟨x, hx⟩ := x
  refine wc_seq ?_
  refine wc_region ?_
  refine wl_w (fun _ _ => want_none) rfl (yw_box rfl rfl) (wl_ex fun b3 _ => ?_)
  refine wl_y rfl (y_assign rfl) ?_
  refine wl_nil ?_
  refine wq_then ?_
  refine wc_seq ?_
  refine wc_block ?_
  refine wc_seq ?_
  refine wc_region ?_
  refine wl_y rfl (y_move rfl) ?_
  refine wl_y rfl (y_eqlP Try.underlying23 rfl rfl) ?_
  refine wl_y rfl (y_assign rfl) ?_
  refine wl_nil ?_
  refine wq_then ?_
  refine wc_known 6 false rfl (rfl) ?_
  refine wc_cond_false rfl ?_
  refine wc_seq ?_
  refine wc_quiet MO (by kernel_rfl) (Hp.drawless _ _ _) ?_
  refine wt_y rfl (y_move rfl) ?_
  refine wt_y rfl (y_nilCheck rfl) ?_
  refine wt_y rfl (y_fieldAddr F66_3 rfl) ?_
  refine wt_y rfl (y_load NA28 rfl (by first | exact cell_blk [] rfl | exact cell_blk [_] rfl | exact cell_blk [_, _] rfl | exact cell_blk [_, _, _] rfl | exact cell_blk [_, _, _, _] rfl | exact cell_blk [_, _, _, _, _] rfl | exact cell_blk [_, _, _, _, _, _] rfl | exact cell_blk [_, _, _, _, _, _, _] rfl | exact cellR_blk (by assumption) rfl)) ?_
  refine wt_y rfl (y_fieldAddr F30_0 rfl) ?_
  refine wt_y rfl (y_load NA9 rfl (by first | exact cell_blk [] rfl | exact cell_blk [_] rfl | exact cell_blk [_, _] rfl | exact cell_blk [_, _, _] rfl | exact cell_blk [_, _, _, _] rfl | exact cell_blk [_, _, _, _, _] rfl | exact cell_blk [_, _, _, _, _, _] rfl | exact cell_blk [_, _, _, _, _, _, _] rfl | exact cellR_blk (by assumption) rfl)) ?_
  refine wt_y rfl (y_lookup Try.underlying28 (keyE_str Try.underlying9) T4 rfl rfl (by first | exact fun w hw => hw.seen [] | exact fun w hw => hw.seen [_] | exact fun w hw => hw.seen [_, _] | exact fun w hw => hw.seen [_, _, _] | exact fun w hw => hw.seen [_, _, _, _] | exact fun w hw => hw.seen [_, _, _, _, _] | exact fun w hw => hw.seen [_, _, _, _, _, _] | exact fun w hw => hw.seen [_, _, _, _, _, _, _] | exact fun w hw => Seen.rngMap (hw.seen []) | exact fun w hw => Seen.rngMap (hw.seen [_]) | exact fun w hw => Seen.rngMap (hw.seen [_, _]) | exact fun w hw => Seen.rngMap (hw.seen [_, _, _]) | exact fun w hw => Seen.rngMap (hw.seen [_, _, _, _]) | exact fun w hw => Seen.rngMap (hw.seen [_, _, _, _, _]) | exact fun w hw => Seen.rngMap (hw.seen [_, _, _, _, _, _]) | exact fun w hw => Seen.rngMap (hw.seen [_, _, _, _, _, _, _]))) ?_
  refine wt_same 16 (vB ((mget s.th j.key).getD false)) rfl (look_th _ _) ?_
  refine wt_y rfl (y_assign rfl) ?_
  refine wt_nil ?_
  refine wq_then ?_
  refine wc_cond rfl (fun hc9 => ?_) (fun hc9 => ?_)
  ·
    refine wc_seq ?_
    refine wc_region ?_
    refine wl_y rfl (y_assign rfl) ?_
    refine wl_nil ?_
    refine wq_then ?_
    refine wc_ret ?_
    refine wq_block_ret (wq_then_ret ?_)
    refine wq_ret1 rfl rfl (fun w hw => ?_)
    have e : s.add j = (s, 16) := if_pos hc9
    rw [e]; exact ⟨(), trivial, rfl, sc_shut x hx (hw.sub (by (repeat (first | exact pt_nil | apply pt0 | apply pt1 | apply pt2 | apply pt3 | apply pt4 | apply pt5 | apply pt6 | apply pt7 | apply pt8 | apply pt9 | apply pt10 | apply pt11 | apply pt12 | apply pt13 | apply pt14 | apply pt15 | apply pt16 | apply pt17))))⟩
  ·
    refine wc_skip ?_
    refine wq_block_normal ?_
    refine wq_then ?_
    refine wc_seq ?_
    refine wc_mix (.q 0 0 (.q 1 0 (.q 2 0 (.q 3 1 (.q 4 1 (.q 5 0 (.q 6 1 (.q 7 0 (.q 8 1 (.w 9 2 (.q 10 0 .nil) .nil)))))))))) (fun _ => True) MO (by kernel_rfl) (Hp.drawless _ _ _) (fun _ _ => trivial) ?_
    rcases hv : validB j with _ | _
    ·
      refine wm_g rfl rfl (y_move rfl) ?_
      refine wm_g rfl rfl (y_nilCheck rfl) ?_
      refine wm_g rfl rfl (y_fieldAddr F66_0 rfl) ?_
      refine wm_l rfl rfl (y_load NA58 rfl (by first | exact cell_blk [] rfl | exact cell_blk [_] rfl | exact cell_blk [_, _] rfl | exact cell_blk [_, _, _] rfl | exact cell_blk [_, _, _, _] rfl | exact cell_blk [_, _, _, _, _] rfl | exact cell_blk [_, _, _, _, _, _] rfl | exact cell_blk [_, _, _, _, _, _, _] rfl | exact cellR_blk (by assumption) rfl)) ?_
      refine wm_l rfl rfl (y_loadAgg (l := [_, _, _]) AG30 rfl rfl (by first | exact cells_blk [] rfl | exact cells_blk [_] rfl | exact cells_blk [_, _] rfl | exact cells_blk [_, _, _] rfl | exact cells_blk [_, _, _, _] rfl | exact cells_blk [_, _, _, _, _] rfl | exact cells_blk [_, _, _, _, _, _] rfl | exact cells_blk [_, _, _, _, _, _, _] rfl | exact cellsR_blk (by assumption) rfl)) ?_
      refine wm_g rfl rfl (y_fieldAddr F30_1 rfl) ?_
      refine wm_l rfl rfl (y_load NA3 rfl (by first | exact cell_blk [] rfl | exact cell_blk [_] rfl | exact cell_blk [_, _] rfl | exact cell_blk [_, _, _] rfl | exact cell_blk [_, _, _, _] rfl | exact cell_blk [_, _, _, _, _] rfl | exact cell_blk [_, _, _, _, _, _] rfl | exact cell_blk [_, _, _, _, _, _, _] rfl | exact cellR_blk (by assumption) rfl)) ?_
      refine wm_g rfl rfl (y_fieldAddr F30_2 rfl) ?_
      refine wm_l rfl rfl (y_load NA3 rfl (by first | exact cell_blk [] rfl | exact cell_blk [_] rfl | exact cell_blk [_, _] rfl | exact cell_blk [_, _, _] rfl | exact cell_blk [_, _, _, _] rfl | exact cell_blk [_, _, _, _, _] rfl | exact cell_blk [_, _, _, _, _, _] rfl | exact cell_blk [_, _, _, _, _, _, _] rfl | exact cellR_blk (by assumption) rfl)) ?_
      refine wm_c rfl rfl (fun _ _ _ => trivial) (yc_spec (fst := []) (cap := []) _ FN28 (qpush_no x.qb s.age s.n s.R j (valid_not.1 hv)) rfl rfl rfl (by (repeat (first | exact pt_nil | apply pt0 | apply pt1 | apply pt2 | apply pt3 | apply pt4 | apply pt5 | apply pt6 | apply pt7 | apply pt8 | apply pt9 | apply pt10 | apply pt11 | apply pt12 | apply pt13 | apply pt14 | apply pt15 | apply pt16 | apply pt17))) (by (repeat (first | exact ro_nil | exact ro_rest (by assumption) | refine ro_cons (by first | exact .inl (by assumption) | exact ro_f0 (fun _ h => h) | exact ro_f0 (fun _ => slc_rsl) | exact ro_f1 (fun _ h => h) | exact ro_f1 (fun _ => slc_rsl) | exact ro_f2 (fun _ h => h) | exact ro_f2 (fun _ => slc_rsl) | exact ro_f3 (fun _ h => h) | exact ro_f3 (fun _ => slc_rsl) | exact ro_f4 (fun _ h => h) | exact ro_f4 (fun _ => slc_rsl) | exact ro_f5 (fun _ h => h) | exact ro_f5 (fun _ => slc_rsl) | exact ro_f6 (fun _ h => h) | exact ro_f6 (fun _ => slc_rsl)) ?_)))) (wm_ex fun x26 hx26 => ?_)
      refine wm_g rfl rfl (y_assign rfl) ?_
      refine wm_nil ?_
      refine all_wq ?_
      refine wq_then ?_
      refine wc_seq ?_
      refine wc_seq ?_
      refine wc_region ?_
      refine wl_y rfl (y_move rfl) ?_
      refine wl_y rfl (y_eqlI rfl rfl) ?_
      refine wl_nil ?_
      refine wq_then ?_
      refine wc_known 28 false rfl (by decide) ?_
      refine wc_cond_false rfl ?_
      refine wc_skip ?_
      refine wq_then ?_
      refine wc_seq ?_
      refine wc_region ?_
      refine wl_y rfl (y_move rfl) ?_
      refine wl_y rfl (y_assign rfl) ?_
      refine wl_nil ?_
      refine wq_then ?_
      refine wc_ret ?_
      refine wq_ret1 rfl rfl (fun w hw => ?_)
      have e : s.add j = (s, 1) := by simp [Sc.add, hc9, hv]
      rw [e]; exact ⟨(), trivial, rfl, sc_shut x hx (hw.sub (by (repeat (first | exact pt_nil | apply pt0 | apply pt1 | apply pt2 | apply pt3 | apply pt4 | apply pt5 | apply pt6 | apply pt7 | apply pt8 | apply pt9 | apply pt10 | apply pt11 | apply pt12 | apply pt13 | apply pt14 | apply pt15 | apply pt16 | apply pt17))))⟩
    ·
      refine wm_g rfl rfl (y_move rfl) ?_
      refine wm_g rfl rfl (y_nilCheck rfl) ?_
      refine wm_g rfl rfl (y_fieldAddr F66_0 rfl) ?_
      refine wm_l rfl rfl (y_load NA58 rfl (by first | exact cell_blk [] rfl | exact cell_blk [_] rfl | exact cell_blk [_, _] rfl | exact cell_blk [_, _, _] rfl | exact cell_blk [_, _, _, _] rfl | exact cell_blk [_, _, _, _, _] rfl | exact cell_blk [_, _, _, _, _, _] rfl | exact cell_blk [_, _, _, _, _, _, _] rfl | exact cellR_blk (by assumption) rfl)) ?_
      refine wm_l rfl rfl (y_loadAgg (l := [_, _, _]) AG30 rfl rfl (by first | exact cells_blk [] rfl | exact cells_blk [_] rfl | exact cells_blk [_, _] rfl | exact cells_blk [_, _, _] rfl | exact cells_blk [_, _, _, _] rfl | exact cells_blk [_, _, _, _, _] rfl | exact cells_blk [_, _, _, _, _, _] rfl | exact cells_blk [_, _, _, _, _, _, _] rfl | exact cellsR_blk (by assumption) rfl)) ?_
      refine wm_g rfl rfl (y_fieldAddr F30_1 rfl) ?_
      refine wm_l rfl rfl (y_load NA3 rfl (by first | exact cell_blk [] rfl | exact cell_blk [_] rfl | exact cell_blk [_, _] rfl | exact cell_blk [_, _, _] rfl | exact cell_blk [_, _, _, _] rfl | exact cell_blk [_, _, _, _, _] rfl | exact cell_blk [_, _, _, _, _, _] rfl | exact cell_blk [_, _, _, _, _, _, _] rfl | exact cellR_blk (by assumption) rfl)) ?_
      refine wm_g rfl rfl (y_fieldAddr F30_2 rfl) ?_
      refine wm_l rfl rfl (y_load NA3 rfl (by first | exact cell_blk [] rfl | exact cell_blk [_] rfl | exact cell_blk [_, _] rfl | exact cell_blk [_, _, _] rfl | exact cell_blk [_, _, _, _] rfl | exact cell_blk [_, _, _, _, _] rfl | exact cell_blk [_, _, _, _, _, _] rfl | exact cell_blk [_, _, _, _, _, _, _] rfl | exact cellR_blk (by assumption) rfl)) ?_
      refine wm_c rfl rfl (fun _ _ _ => trivial) (yc_spec (fst := []) (cap := []) _ FN28 (qpush_ok x.qb s.age s.n s.R j ⟨by have := hq.age; omega, hq.age.2⟩ ⟨hq.n0, by have := hq.n1; omega⟩ (valid_iff.1 hv).1 (valid_iff.1 hv).2 (by have := hq.rl; omega)) rfl rfl rfl (by (repeat (first | exact pt_nil | apply pt0 | apply pt1 | apply pt2 | apply pt3 | apply pt4 | apply pt5 | apply pt6 | apply pt7 | apply pt8 | apply pt9 | apply pt10 | apply pt11 | apply pt12 | apply pt13 | apply pt14 | apply pt15 | apply pt16 | apply pt17))) (by (repeat (first | exact ro_nil | exact ro_rest (by assumption) | refine ro_cons (by first | exact .inl (by assumption) | exact ro_f0 (fun _ h => h) | exact ro_f0 (fun _ => slc_rsl) | exact ro_f1 (fun _ h => h) | exact ro_f1 (fun _ => slc_rsl) | exact ro_f2 (fun _ h => h) | exact ro_f2 (fun _ => slc_rsl) | exact ro_f3 (fun _ h => h) | exact ro_f3 (fun _ => slc_rsl) | exact ro_f4 (fun _ h => h) | exact ro_f4 (fun _ => slc_rsl) | exact ro_f5 (fun _ h => h) | exact ro_f5 (fun _ => slc_rsl) | exact ro_f6 (fun _ h => h) | exact ro_f6 (fun _ => slc_rsl)) ?_)))) (wm_ex fun x26 hx26 => ?_)
      refine wm_g rfl rfl (y_assign rfl) ?_
      refine wm_nil ?_
      refine all_wq ?_
      refine wq_then ?_
      refine wc_seq ?_
      refine wc_seq ?_
      refine wc_region ?_
      refine wl_y rfl (y_move rfl) ?_
      refine wl_y rfl (y_eqlI rfl rfl) ?_
      refine wl_nil ?_
      refine wq_then ?_
      refine wc_known 28 true rfl (by decide) ?_
      refine wc_cond_true rfl ?_
      refine wc_mix (.q 0 0 (.q 1 0 (.q 2 0 (.q 3 1 (.q 4 0 (.q 5 1 (.w 6 2 .nil .nil))))))) (fun _ => True) MO (by kernel_rfl) (Hp.drawless _ _ _) (fun _ _ => trivial) ?_
      refine wm_g rfl rfl (y_move rfl) ?_
      refine wm_g rfl rfl (y_nilCheck rfl) ?_
      refine wm_g rfl rfl (y_fieldAddr F66_3 rfl) ?_
      refine wm_l rfl rfl (y_load NA28 rfl (by first | exact cell_blk [] rfl | exact cell_blk [_] rfl | exact cell_blk [_, _] rfl | exact cell_blk [_, _, _] rfl | exact cell_blk [_, _, _, _] rfl | exact cell_blk [_, _, _, _, _] rfl | exact cell_blk [_, _, _, _, _, _] rfl | exact cell_blk [_, _, _, _, _, _, _] rfl | exact cellR_blk (by assumption) rfl)) ?_
      refine wm_g rfl rfl (y_fieldAddr F30_0 rfl) ?_
      refine wm_l rfl rfl (y_load NA9 rfl (by first | exact cell_blk [] rfl | exact cell_blk [_] rfl | exact cell_blk [_, _] rfl | exact cell_blk [_, _, _] rfl | exact cell_blk [_, _, _, _] rfl | exact cell_blk [_, _, _, _, _] rfl | exact cell_blk [_, _, _, _, _, _] rfl | exact cell_blk [_, _, _, _, _, _, _] rfl | exact cellR_blk (by assumption) rfl)) ?_
      first | refine wm_u rfl (fun _ _ => trivial) (yu_mapUpdate [] (v := true) Try.underlying28 (keyE_str Try.underlying9) rfl rfl rfl) ?_ | refine wm_u rfl (fun _ _ => trivial) (yu_mapUpdate [_] (v := true) Try.underlying28 (keyE_str Try.underlying9) rfl rfl rfl) ?_ | refine wm_u rfl (fun _ _ => trivial) (yu_mapUpdate [_, _] (v := true) Try.underlying28 (keyE_str Try.underlying9) rfl rfl rfl) ?_ | refine wm_u rfl (fun _ _ => trivial) (yu_mapUpdate [_, _, _] (v := true) Try.underlying28 (keyE_str Try.underlying9) rfl rfl rfl) ?_ | refine wm_u rfl (fun _ _ => trivial) (yu_mapUpdate [_, _, _, _] (v := true) Try.underlying28 (keyE_str Try.underlying9) rfl rfl rfl) ?_ | refine wm_u rfl (fun _ _ => trivial) (yu_mapUpdate [_, _, _, _, _] (v := true) Try.underlying28 (keyE_str Try.underlying9) rfl rfl rfl) ?_ | refine wm_u rfl (fun _ _ => trivial) (yu_mapUpdate [_, _, _, _, _, _] (v := true) Try.underlying28 (keyE_str Try.underlying9) rfl rfl rfl) ?_ | refine wm_u rfl (fun _ _ => trivial) (yu_mapUpdate [_, _, _, _, _, _, _] (v := true) Try.underlying28 (keyE_str Try.underlying9) rfl rfl rfl) ?_
      refine wm_nil ?_
      refine all_wq ?_
      refine wq_then ?_
      refine wc_seq ?_
      refine wc_region ?_
      refine wl_y rfl (y_move rfl) ?_
      refine wl_y rfl (y_assign rfl) ?_
      refine wl_nil ?_
      refine wq_then ?_
      refine wc_ret ?_
      refine wq_ret1 rfl rfl (fun w hw => ?_)
      have e : s.add j = ({ s.push j with th := mput s.th j.key true }, 0) := by simp [Sc.add, hc9, hv]
      have e2 : s.push j = { s with n := s.n + 1, R := s.R ++ [mkIt s.age s.n j] } := if_pos hv
      rw [e, e2]; exact ⟨(), trivial, rfl, sc_shut x hx (hw.sub (by (repeat (first | exact pt_nil | apply pt0 | apply pt1 | apply pt2 | apply pt3 | apply pt4 | apply pt5 | apply pt6 | apply pt7 | apply pt8 | apply pt9 | apply pt10 | apply pt11 | apply pt12 | apply pt13 | apply pt14 | apply pt15 | apply pt16 | apply pt17))))⟩

set_option maxHeartbeats 1000000 in
theorem sjoin_c (b : Nat) (s : Sc) (wk : Str) :
    Ctr Try.prog 10 #[ptr b, vS wk] [] [scA b s] (fun _ : Unit => True) (fun _ => vI (s.join wk).2) (fun _ => [scA b (s.join wk).1]) := by
  refine spec_start (n := 30) [(0, ptr b), (1, vS wk)] Try.func10 rfl rfl ⟨rfl, rfl, trivial⟩ rfl ?_
  intro w0 K hR
  refine wc_ex sc_open (fun x => ?_)
  obtain ⟨x, hx⟩ := x
  refine wc_seq ?_
  refine wc_region ?_
  refine wl_y rfl (y_assign rfl) ?_
  refine wl_nil ?_
  refine wq_then ?_
  refine wc_seq ?_
  refine wc_seq ?_
  refine wc_region ?_
  refine wl_y rfl (y_move rfl) ?_
  refine wl_y rfl (y_eqlP Try.underlying23 rfl rfl) ?_
  refine wl_nil ?_
  refine wq_then ?_
  refine wc_known 9 false rfl (rfl) ?_
  refine wc_cond_false rfl ?_
  refine wc_skip ?_
  refine wq_then ?_
  refine wc_seq ?_
  refine wc_seq ?_
  refine wc_region ?_
  refine wl_y rfl (y_move rfl) ?_
  refine wl_q (fun _ _ => want_none) rfl (yq_spec (fst := []) (cap := []) _ FN29 (name_c wk) rfl rfl rfl (by (repeat (first | exact pt_nil | apply pt0 | apply pt1 | apply pt2 | apply pt3 | apply pt4 | apply pt5 | apply pt6 | apply pt7 | apply pt8 | apply pt9 | apply pt10 | apply pt11 | apply pt12 | apply pt13 | apply pt14 | apply pt15 | apply pt16 | apply pt17))) (by (repeat (first | exact ro_nil | exact ro_rest (by assumption) | refine ro_cons (by first | exact .inl (by assumption) | exact ro_f0 (fun _ h => h) | exact ro_f0 (fun _ => slc_rsl) | exact ro_f1 (fun _ h => h) | exact ro_f1 (fun _ => slc_rsl) | exact ro_f2 (fun _ h => h) | exact ro_f2 (fun _ => slc_rsl) | exact ro_f3 (fun _ h => h) | exact ro_f3 (fun _ => slc_rsl) | exact ro_f4 (fun _ h => h) | exact ro_f4 (fun _ => slc_rsl) | exact ro_f5 (fun _ h => h) | exact ro_f5 (fun _ => slc_rsl) | exact ro_f6 (fun _ h => h) | exact ro_f6 (fun _ => slc_rsl)) ?_))) (fun _ _ => rfl) (fun _ _ _ h => h.sub (by (repeat (first | exact pt_nil | apply pt0 | apply pt1 | apply pt2 | apply pt3 | apply pt4 | apply pt5 | apply pt6 | apply pt7 | apply pt8 | apply pt9 | apply pt10 | apply pt11 | apply pt12 | apply pt13 | apply pt14 | apply pt15 | apply pt16 | apply pt17))))) ?_
  refine wl_y rfl (y_assign rfl) ?_
  refine wl_nil ?_
  refine wq_then ?_
  refine wc_seq ?_
  refine wc_region ?_
  refine wl_y rfl (y_move rfl) ?_
  refine wl_y rfl (y_neqI rfl rfl) ?_
  refine wl_nil ?_
  refine wq_then ?_
  refine wc_cond rfl (fun hc13 => ?_) (fun hc13 => ?_)
  ·
    simp at hc13
    refine wc_seq ?_
    refine wc_region ?_
    refine wl_y rfl (y_move rfl) ?_
    refine wl_y rfl (y_assign rfl) ?_
    refine wl_nil ?_
    refine wq_then ?_
    refine wc_ret ?_
    refine wq_then_ret ?_
    refine wq_ret1 rfl rfl (fun w hw => ?_)
    have e : s.join wk = (s, nameE wk) := if_neg hc13
    rw [e]; exact ⟨(), trivial, rfl, sc_shut x hx (hw.sub (by (repeat (first | exact pt_nil | apply pt0 | apply pt1 | apply pt2 | apply pt3 | apply pt4 | apply pt5 | apply pt6 | apply pt7 | apply pt8 | apply pt9 | apply pt10 | apply pt11 | apply pt12 | apply pt13 | apply pt14 | apply pt15 | apply pt16 | apply pt17))))⟩
  ·
    simp at hc13
    refine wc_skip ?_
    refine wq_then ?_
    refine wc_seq ?_
    refine wc_seq ?_
    refine wc_region ?_
    refine wl_y rfl (y_move rfl) ?_
    refine wl_y rfl (y_nilCheck rfl) ?_
    refine wl_y rfl (y_fieldAddr F66_2 rfl) ?_
    refine wl_y rfl (y_load NA64 rfl (by first | exact cell_blk [] rfl | exact cell_blk [_] rfl | exact cell_blk [_, _] rfl | exact cell_blk [_, _, _] rfl | exact cell_blk [_, _, _, _] rfl | exact cell_blk [_, _, _, _, _] rfl | exact cell_blk [_, _, _, _, _, _] rfl | exact cell_blk [_, _, _, _, _, _, _] rfl | exact cellR_blk (by assumption) rfl)) ?_
    refine wl_y rfl (y_move rfl) ?_
    refine wl_y rfl (y_lookup Try.underlying64 (keyE_str Try.underlying9) T49 rfl rfl (by first | exact fun w hw => hw.seen [] | exact fun w hw => hw.seen [_] | exact fun w hw => hw.seen [_, _] | exact fun w hw => hw.seen [_, _, _] | exact fun w hw => hw.seen [_, _, _, _] | exact fun w hw => hw.seen [_, _, _, _, _] | exact fun w hw => hw.seen [_, _, _, _, _, _] | exact fun w hw => hw.seen [_, _, _, _, _, _, _] | exact fun w hw => Seen.rngMap (hw.seen []) | exact fun w hw => Seen.rngMap (hw.seen [_]) | exact fun w hw => Seen.rngMap (hw.seen [_, _]) | exact fun w hw => Seen.rngMap (hw.seen [_, _, _]) | exact fun w hw => Seen.rngMap (hw.seen [_, _, _, _]) | exact fun w hw => Seen.rngMap (hw.seen [_, _, _, _, _]) | exact fun w hw => Seen.rngMap (hw.seen [_, _, _, _, _, _]) | exact fun w hw => Seen.rngMap (hw.seen [_, _, _, _, _, _, _]))) ?_
    refine wl_same 21 (.tuple #[vJs (slOf x.rs wk), vB (mget x.rs wk).isSome]) rfl (look_ok _ _) ?_
    refine wl_y rfl (y_move rfl) ?_
    refine wl_y rfl (y_extract rfl rfl) ?_
    refine wl_y rfl (y_extract rfl rfl) ?_
    refine wl_y rfl (y_assign rfl) ?_
    refine wl_y rfl (y_assign rfl) ?_
    refine wl_nil ?_
    refine wq_then ?_
    refine wc_seq ?_
    refine wc_region ?_
    refine wl_y rfl (y_move rfl) ?_
    refine wl_nil ?_
    refine wq_then ?_
    refine wc_cond rfl (fun hc24 => ?_) (fun hc24 => ?_)
    ·
      refine wc_seq ?_
      refine wc_region ?_
      refine wl_y rfl (y_assign rfl) ?_
      refine wl_nil ?_
      refine wq_then ?_
      refine wc_ret ?_
      refine wq_then_ret ?_
      refine wq_ret1 rfl rfl (fun w hw => ?_)
      have e : s.join wk = (s, 16) := by rw [rs_has hx] at hc24; simp [Sc.join, hc13, hc24]
      rw [e]; exact ⟨(), trivial, rfl, sc_shut x hx (hw.sub (by (repeat (first | exact pt_nil | apply pt0 | apply pt1 | apply pt2 | apply pt3 | apply pt4 | apply pt5 | apply pt6 | apply pt7 | apply pt8 | apply pt9 | apply pt10 | apply pt11 | apply pt12 | apply pt13 | apply pt14 | apply pt15 | apply pt16 | apply pt17))))⟩
    ·
      refine wc_skip ?_
      refine wq_then ?_
      refine wc_seq ?_
      refine wc_region ?_
      refine wl_y rfl (y_move rfl) ?_
      refine wl_y rfl (y_nilCheck rfl) ?_
      refine wl_y rfl (y_fieldAddr F66_2 rfl) ?_
      refine wl_y rfl (y_load NA64 rfl (by first | exact cell_blk [] rfl | exact cell_blk [_] rfl | exact cell_blk [_, _] rfl | exact cell_blk [_, _, _] rfl | exact cell_blk [_, _, _, _] rfl | exact cell_blk [_, _, _, _, _] rfl | exact cell_blk [_, _, _, _, _, _] rfl | exact cell_blk [_, _, _, _, _, _, _] rfl | exact cellR_blk (by assumption) rfl)) ?_
      refine wl_y rfl (y_move rfl) ?_
      first | refine wl_u (yu_mapUpdate [] (v := nilJs) Try.underlying64 (keyE_str Try.underlying9) rfl rfl rfl) ?_ | refine wl_u (yu_mapUpdate [_] (v := nilJs) Try.underlying64 (keyE_str Try.underlying9) rfl rfl rfl) ?_ | refine wl_u (yu_mapUpdate [_, _] (v := nilJs) Try.underlying64 (keyE_str Try.underlying9) rfl rfl rfl) ?_ | refine wl_u (yu_mapUpdate [_, _, _] (v := nilJs) Try.underlying64 (keyE_str Try.underlying9) rfl rfl rfl) ?_ | refine wl_u (yu_mapUpdate [_, _, _, _] (v := nilJs) Try.underlying64 (keyE_str Try.underlying9) rfl rfl rfl) ?_ | refine wl_u (yu_mapUpdate [_, _, _, _, _] (v := nilJs) Try.underlying64 (keyE_str Try.underlying9) rfl rfl rfl) ?_ | refine wl_u (yu_mapUpdate [_, _, _, _, _, _] (v := nilJs) Try.underlying64 (keyE_str Try.underlying9) rfl rfl rfl) ?_ | refine wl_u (yu_mapUpdate [_, _, _, _, _, _, _] (v := nilJs) Try.underlying64 (keyE_str Try.underlying9) rfl rfl rfl) ?_
      refine wl_nil ?_
      refine wq_then ?_
      refine wc_seq ?_
      refine wc_region ?_
      refine wl_y rfl (y_assign rfl) ?_
      refine wl_nil ?_
      refine wq_then ?_
      refine wc_ret ?_
      refine wq_ret1 rfl rfl (fun w hw => ?_)
      have hn : mget x.rs wk = none := by simpa using hc24
      have e : s.join wk = ({ s with rows := mput s.rows wk [] }, 0) := by rw [rs_has hx] at hc24; simp [Sc.join, hc13, hc24]
      rw [e]; exact ⟨(), trivial, rfl, sc_shut ⟨x.qb, x.tb, x.rm, x.tm, mput x.rs wk nilJs⟩ (by rw [mput_val, hx]) ((rows_new hn (As := [blk b (.cells #[ptr x.qb, ptr x.tb, .map (some x.rm), .map (some x.tm)] 66 (0, 0)), qA x.qb s.age s.n s.R, tbA x.tb s.t, mapA vS vJs x.rm (mput x.rs wk nilJs), mapA vS vB x.tm s.th]) (hw.sub (by (repeat (first | exact pt_nil | apply pt0 | apply pt1 | apply pt2 | apply pt3 | apply pt4 | apply pt5 | apply pt6 | apply pt7 | apply pt8 | apply pt9 | apply pt10 | apply pt11 | apply pt12 | apply pt13 | apply pt14 | apply pt15 | apply pt16 | apply pt17))))).sub (by (repeat (first | exact pt_nil | apply pt0 | apply pt1 | apply pt2 | apply pt3 | apply pt4 | apply pt5 | apply pt6 | apply pt7 | apply pt8 | apply pt9 | apply pt10 | apply pt11 | apply pt12 | apply pt13 | apply pt14 | apply pt15 | apply pt16 | apply pt17))))⟩

end Go.Proofs.Ytfnpjmlpiedgdaa
