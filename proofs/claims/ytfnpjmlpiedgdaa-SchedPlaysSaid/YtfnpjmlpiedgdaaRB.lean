/-
  Walks: the reference: made, pushed; places of workers.
-/
import Derived.Test.YtfnpjmlpiedgdaaRA
namespace Go.Proofs.Ytfnpjmlpiedgdaa
open Go.Eng


theorem xnew_no (n : Int) (h : n < 1 ∨ 1000000 < n) : Ctr Try.prog 37 #[vI n] [] [] (fun _ : Unit => True) (fun _ => .tuple #[.pointer none, vI 1]) (fun _ => []) := by
  rcases h with h | h
  · exact xnew_lo n h
  · exact xnew_hi n h
theorem tb_new (n : Int) : (⟨n, 0, []⟩ : Tb).ref = ⟨[], n, 0⟩ := by simp [Tb.ref, Tb.srt, srtK]
theorem rrel_new (a n : Int) : RRel (⟨a, 0, [], ⟨n, 0, []⟩, [], []⟩ : Sc) [] [] [] := ⟨rfl, by simp, List.Pairwise.nil, List.Perm.refl _, rfl⟩
set_option maxHeartbeats 1000000 in
theorem fnew_a (a n : Int) (ha : a < 1 ∨ 1000000 < a) :
    Ctr Try.prog 16 #[vI a, vI n] [] [] (fun _ : Unit => True) (fun _ => .tuple #[.pointer none, vI 1]) (fun _ => []) := by
  refine spec_start (n := 29) [(0, vI a), (1, vI n)] Try.func16 rfl rfl ⟨rfl, rfl, trivial⟩ rfl ?_
  intro w0 K hR
  refine wc_seq ?_
  refine wc_region ?_
  refine wl_y rfl (y_assign rfl) ?_
  refine wl_y rfl (y_assign rfl) ?_
  refine wl_nil ?_
  refine wq_then ?_
  refine wc_seq ?_
  refine wc_region ?_
  refine wl_y rfl (y_move rfl) ?_
  refine wl_q (fun _ _ => want_none) rfl (yq_spec (fst := []) (cap := []) _ FN37 (xnew_no a ha) rfl rfl rfl (by (repeat (first | exact pt_nil | apply pt0 | apply pt1 | apply pt2 | apply pt3 | apply pt4 | apply pt5 | apply pt6 | apply pt7 | apply pt8 | apply pt9 | apply pt10 | apply pt11 | apply pt12 | apply pt13 | apply pt14 | apply pt15 | apply pt16 | apply pt17))) (by (repeat (first | exact ro_nil | exact ro_rest (by assumption) | refine ro_cons (by first | exact .inl (by assumption) | exact ro_f0 (fun _ h => h) | exact ro_f0 (fun _ => slc_rsl) | exact ro_f1 (fun _ h => h) | exact ro_f1 (fun _ => slc_rsl) | exact ro_f2 (fun _ h => h) | exact ro_f2 (fun _ => slc_rsl) | exact ro_f3 (fun _ h => h) | exact ro_f3 (fun _ => slc_rsl) | exact ro_f4 (fun _ h => h) | exact ro_f4 (fun _ => slc_rsl) | exact ro_f5 (fun _ h => h) | exact ro_f5 (fun _ => slc_rsl) | exact ro_f6 (fun _ h => h) | exact ro_f6 (fun _ => slc_rsl)) ?_))) (fun _ _ => rfl) (fun _ _ _ h => h.sub (by (repeat (first | exact pt_nil | apply pt0 | apply pt1 | apply pt2 | apply pt3 | apply pt4 | apply pt5 | apply pt6 | apply pt7 | apply pt8 | apply pt9 | apply pt10 | apply pt11 | apply pt12 | apply pt13 | apply pt14 | apply pt15 | apply pt16 | apply pt17))))) ?_
  refine wl_y rfl (y_move rfl) ?_
  refine wl_y rfl (y_extract rfl rfl) ?_
  refine wl_y rfl (y_extract rfl rfl) ?_
  refine wl_y rfl (y_assign rfl) ?_
  refine wl_y rfl (y_assign rfl) ?_
  refine wl_nil ?_
  refine wq_then ?_
  refine wc_seq ?_
  refine wc_seq ?_
  refine wc_region ?_
  refine wl_y rfl (y_move rfl) ?_
  refine wl_y rfl (y_neqI rfl rfl) ?_
  refine wl_nil ?_
  refine wq_then ?_
  refine wc_known 15 true rfl (by decide) ?_
  refine wc_cond_true rfl ?_
  refine wc_seq ?_
  refine wc_region ?_
  refine wl_y rfl (y_move rfl) ?_
  refine wl_y rfl (y_assign rfl) ?_
  refine wl_y rfl (y_assign rfl) ?_
  refine wl_nil ?_
  refine wq_then ?_
  refine wc_ret ?_
  refine wq_then_ret ?_
  refine wq_ret2 rfl rfl rfl (fun w hw => ?_)
  exact ⟨(), trivial, rfl, hw⟩

set_option maxHeartbeats 1000000 in
theorem fnew_b (a n : Int) (h1 : 1 ≤ a) (h2 : a ≤ 1000000) (hn : n < 1 ∨ 1000000 < n) :
    Ctr Try.prog 16 #[vI a, vI n] [] [] (fun _ : Unit => True) (fun _ => .tuple #[.pointer none, vI 1]) (fun _ => []) := by
  refine spec_start (n := 29) [(0, vI a), (1, vI n)] Try.func16 rfl rfl ⟨rfl, rfl, trivial⟩ rfl ?_
  intro w0 K hR
  refine wc_seq ?_
  refine wc_region ?_
  refine wl_y rfl (y_assign rfl) ?_
  refine wl_y rfl (y_assign rfl) ?_
  refine wl_nil ?_
  refine wq_then ?_
  refine wc_seq ?_
  refine wc_region ?_
  refine wl_y rfl (y_move rfl) ?_
  refine wl_c (fun _ _ => want_none) rfl (yc_spec (fst := []) (cap := []) _ FN37 (xnew_ok a h1 h2) rfl rfl rfl (by (repeat (first | exact pt_nil | apply pt0 | apply pt1 | apply pt2 | apply pt3 | apply pt4 | apply pt5 | apply pt6 | apply pt7 | apply pt8 | apply pt9 | apply pt10 | apply pt11 | apply pt12 | apply pt13 | apply pt14 | apply pt15 | apply pt16 | apply pt17))) (by (repeat (first | exact ro_nil | exact ro_rest (by assumption) | refine ro_cons (by first | exact .inl (by assumption) | exact ro_f0 (fun _ h => h) | exact ro_f0 (fun _ => slc_rsl) | exact ro_f1 (fun _ h => h) | exact ro_f1 (fun _ => slc_rsl) | exact ro_f2 (fun _ h => h) | exact ro_f2 (fun _ => slc_rsl) | exact ro_f3 (fun _ h => h) | exact ro_f3 (fun _ => slc_rsl) | exact ro_f4 (fun _ h => h) | exact ro_f4 (fun _ => slc_rsl) | exact ro_f5 (fun _ h => h) | exact ro_f5 (fun _ => slc_rsl) | exact ro_f6 (fun _ h => h) | exact ro_f6 (fun _ => slc_rsl)) ?_)))) (wl_ex fun x11 hx11 => ?_)
  refine wl_y rfl (y_move rfl) ?_
  refine wl_y rfl (y_extract rfl rfl) ?_
  refine wl_y rfl (y_extract rfl rfl) ?_
  refine wl_y rfl (y_assign rfl) ?_
  refine wl_y rfl (y_assign rfl) ?_
  refine wl_nil ?_
  refine wq_then ?_
  refine wc_seq ?_
  refine wc_seq ?_
  refine wc_region ?_
  refine wl_y rfl (y_move rfl) ?_
  refine wl_y rfl (y_neqI rfl rfl) ?_
  refine wl_nil ?_
  refine wq_then ?_
  refine wc_known 15 false rfl (by decide) ?_
  refine wc_cond_false rfl ?_
  refine wc_skip ?_
  refine wq_then ?_
  refine wc_seq ?_
  refine wc_region ?_
  refine wl_y rfl (y_move rfl) ?_
  refine wl_q (fun _ _ => want_none) rfl (yq_spec (fst := []) (cap := []) _ FN38 (rnew_lo n hn) rfl rfl rfl (by (repeat (first | exact pt_nil | apply pt0 | apply pt1 | apply pt2 | apply pt3 | apply pt4 | apply pt5 | apply pt6 | apply pt7 | apply pt8 | apply pt9 | apply pt10 | apply pt11 | apply pt12 | apply pt13 | apply pt14 | apply pt15 | apply pt16 | apply pt17))) (by (repeat (first | exact ro_nil | exact ro_rest (by assumption) | refine ro_cons (by first | exact .inl (by assumption) | exact ro_f0 (fun _ h => h) | exact ro_f0 (fun _ => slc_rsl) | exact ro_f1 (fun _ h => h) | exact ro_f1 (fun _ => slc_rsl) | exact ro_f2 (fun _ h => h) | exact ro_f2 (fun _ => slc_rsl) | exact ro_f3 (fun _ h => h) | exact ro_f3 (fun _ => slc_rsl) | exact ro_f4 (fun _ h => h) | exact ro_f4 (fun _ => slc_rsl) | exact ro_f5 (fun _ h => h) | exact ro_f5 (fun _ => slc_rsl) | exact ro_f6 (fun _ h => h) | exact ro_f6 (fun _ => slc_rsl)) ?_))) (fun _ _ => rfl) (fun _ _ _ h => h.sub (by (repeat (first | exact pt_nil | apply pt0 | apply pt1 | apply pt2 | apply pt3 | apply pt4 | apply pt5 | apply pt6 | apply pt7 | apply pt8 | apply pt9 | apply pt10 | apply pt11 | apply pt12 | apply pt13 | apply pt14 | apply pt15 | apply pt16 | apply pt17))))) ?_
  refine wl_y rfl (y_move rfl) ?_
  refine wl_y rfl (y_extract rfl rfl) ?_
  refine wl_y rfl (y_extract rfl rfl) ?_
  refine wl_y rfl (y_assign rfl) ?_
  refine wl_y rfl (y_assign rfl) ?_
  refine wl_nil ?_
  refine wq_then ?_
  refine wc_seq ?_
  refine wc_seq ?_
  refine wc_region ?_
  refine wl_y rfl (y_move rfl) ?_
  refine wl_y rfl (y_neqI rfl rfl) ?_
  refine wl_nil ?_
  refine wq_then ?_
  refine wc_known 23 true rfl (by decide) ?_
  refine wc_cond_true rfl ?_
  refine wc_seq ?_
  refine wc_region ?_
  refine wl_y rfl (y_move rfl) ?_
  refine wl_y rfl (y_assign rfl) ?_
  refine wl_y rfl (y_assign rfl) ?_
  refine wl_nil ?_
  refine wq_then ?_
  refine wc_ret ?_
  refine wq_then_ret ?_
  refine wq_ret2 rfl rfl rfl (fun w hw => ?_)
  exact ⟨(), trivial, rfl, hw.bare⟩

set_option maxHeartbeats 1000000 in
theorem fnew_ok (a n : Int) (h1 : 1 ≤ a) (h2 : a ≤ 1000000) (h3 : 1 ≤ n) (h4 : n ≤ 1000000) :
    Ctr Try.prog 16 #[vI a, vI n] [] [] (fun _ : Nat => True) (fun b => .tuple #[ptr b, vI 0]) (fun b => [rfA b ⟨a, 0, [], ⟨n, 0, []⟩, [], []⟩]) := by
  refine spec_start (n := 29) [(0, vI a), (1, vI n)] Try.func16 rfl rfl ⟨rfl, rfl, trivial⟩ rfl ?_
  intro w0 K hR
  refine wc_seq ?_
  refine wc_region ?_
  refine wl_y rfl (y_assign rfl) ?_
  refine wl_y rfl (y_assign rfl) ?_
  refine wl_nil ?_
  refine wq_then ?_
  refine wc_seq ?_
  refine wc_region ?_
  refine wl_y rfl (y_move rfl) ?_
  refine wl_c (fun _ _ => want_none) rfl (yc_spec (fst := []) (cap := []) _ FN37 (xnew_ok a h1 h2) rfl rfl rfl (by (repeat (first | exact pt_nil | apply pt0 | apply pt1 | apply pt2 | apply pt3 | apply pt4 | apply pt5 | apply pt6 | apply pt7 | apply pt8 | apply pt9 | apply pt10 | apply pt11 | apply pt12 | apply pt13 | apply pt14 | apply pt15 | apply pt16 | apply pt17))) (by (repeat (first | exact ro_nil | exact ro_rest (by assumption) | refine ro_cons (by first | exact .inl (by assumption) | exact ro_f0 (fun _ h => h) | exact ro_f0 (fun _ => slc_rsl) | exact ro_f1 (fun _ h => h) | exact ro_f1 (fun _ => slc_rsl) | exact ro_f2 (fun _ h => h) | exact ro_f2 (fun _ => slc_rsl) | exact ro_f3 (fun _ h => h) | exact ro_f3 (fun _ => slc_rsl) | exact ro_f4 (fun _ h => h) | exact ro_f4 (fun _ => slc_rsl) | exact ro_f5 (fun _ h => h) | exact ro_f5 (fun _ => slc_rsl) | exact ro_f6 (fun _ h => h) | exact ro_f6 (fun _ => slc_rsl)) ?_)))) (wl_ex fun x11 hx11 => ?_)
  refine wl_y rfl (y_move rfl) ?_
  refine wl_y rfl (y_extract rfl rfl) ?_
  refine wl_y rfl (y_extract rfl rfl) ?_
  refine wl_y rfl (y_assign rfl) ?_
  refine wl_y rfl (y_assign rfl) ?_
  refine wl_nil ?_
  refine wq_then ?_
  refine wc_seq ?_
  refine wc_seq ?_
  refine wc_region ?_
  refine wl_y rfl (y_move rfl) ?_
  refine wl_y rfl (y_neqI rfl rfl) ?_
  refine wl_nil ?_
  refine wq_then ?_
  refine wc_known 15 false rfl (by decide) ?_
  refine wc_cond_false rfl ?_
  refine wc_skip ?_
  refine wq_then ?_
  refine wc_seq ?_
  refine wc_region ?_
  refine wl_y rfl (y_move rfl) ?_
  refine wl_c (fun _ _ => want_none) rfl (yc_spec (fst := []) (cap := []) _ FN38 (rnew_ok n h3 h4) rfl rfl rfl (by (repeat (first | exact pt_nil | apply pt0 | apply pt1 | apply pt2 | apply pt3 | apply pt4 | apply pt5 | apply pt6 | apply pt7 | apply pt8 | apply pt9 | apply pt10 | apply pt11 | apply pt12 | apply pt13 | apply pt14 | apply pt15 | apply pt16 | apply pt17))) (by (repeat (first | exact ro_nil | exact ro_rest (by assumption) | refine ro_cons (by first | exact .inl (by assumption) | exact ro_f0 (fun _ h => h) | exact ro_f0 (fun _ => slc_rsl) | exact ro_f1 (fun _ h => h) | exact ro_f1 (fun _ => slc_rsl) | exact ro_f2 (fun _ h => h) | exact ro_f2 (fun _ => slc_rsl) | exact ro_f3 (fun _ h => h) | exact ro_f3 (fun _ => slc_rsl) | exact ro_f4 (fun _ h => h) | exact ro_f4 (fun _ => slc_rsl) | exact ro_f5 (fun _ h => h) | exact ro_f5 (fun _ => slc_rsl) | exact ro_f6 (fun _ h => h) | exact ro_f6 (fun _ => slc_rsl)) ?_)))) (wl_ex fun x19 hx19 => ?_)
  refine wl_y rfl (y_move rfl) ?_
  refine wl_y rfl (y_extract rfl rfl) ?_
  refine wl_y rfl (y_extract rfl rfl) ?_
  refine wl_y rfl (y_assign rfl) ?_
  refine wl_y rfl (y_assign rfl) ?_
  refine wl_nil ?_
  refine wq_then ?_
  refine wc_seq ?_
  refine wc_seq ?_
  refine wc_region ?_
  refine wl_y rfl (y_move rfl) ?_
  refine wl_y rfl (y_neqI rfl rfl) ?_
  refine wl_nil ?_
  refine wq_then ?_
  refine wc_known 23 false rfl (by decide) ?_
  refine wc_cond_false rfl ?_
  refine wc_skip ?_
  refine wq_then ?_
  refine wc_seq ?_
  refine wc_region ?_
  refine wl_y rfl (y_move rfl) ?_
  refine wl_y rfl (y_move rfl) ?_
  refine wl_y rfl (y_build (cs := [_, _, _, _]) T54 PL54 rfl rfl rfl) ?_
  refine wl_w (fun _ _ => want_none) rfl (yw_box rfl rfl) (wl_ex fun b28 _ => ?_)
  refine wl_y rfl (y_assign rfl) ?_
  refine wl_y rfl (y_assign rfl) ?_
  refine wl_nil ?_
  refine wq_then ?_
  refine wc_ret ?_
  refine wq_ret2 rfl rfl rfl (fun w hw => ?_)
  rw [← tb_new n] at hw
  exact ⟨b28, trivial, rfl, rf_shut ⟨x11, x19, none, 0, none, 0, [], [], []⟩ (rrel_new a n) (by
    exact (rows_nil (Hp.addNil (e := 30) (sz := 3) [] _ (Hp.addNil (e := 83) (sz := 2) [] _ hw))).sub (by (repeat (first | exact pt_nil | apply pt0 | apply pt1 | apply pt2 | apply pt3 | apply pt4 | apply pt5 | apply pt6 | apply pt7 | apply pt8 | apply pt9 | apply pt10 | apply pt11 | apply pt12 | apply pt13 | apply pt14 | apply pt15 | apply pt16 | apply pt17))))⟩

set_option maxHeartbeats 1000000 in
theorem fpush_c (b : Nat) (s : Sc) (j : Jb) (hq : s.Qk 1) :
    Ctr Try.prog 40 #[ptr b, agJ j] [] [rfA b s] (fun _ : Unit => True) (fun _ => vI (if validB j = true then 0 else 1)) (fun _ => [rfA b (s.push j)]) := by
  refine spec_start (n := 33) [(0, ptr b), (1, agJ j)] Try.func40 rfl rfl ⟨rfl, rfl, trivial⟩ rfl ?_
  intro w0 K hR
  refine wc_ex rf_open (fun x => ?_)
  obtain ⟨x, hx⟩ := x
  refine wc_world (S' := Hp w0 K (rfAs b s x)) (fun _ hw => hw) ?_
  have hjn := hx.n
  have hqn := hq.n1
  have hq0 := hq.n0
  refine wc_seq ?_
  refine wc_region ?_
  refine wl_w (fun _ _ => want_none) rfl (yw_box rfl rfl) (wl_ex fun b3 _ => ?_)
  refine wl_y rfl (y_assign rfl) ?_
  refine wl_nil ?_
  refine wq_then ?_
  refine wc_seq ?_
  refine wc_mix (.q 0 0 (.q 1 0 (.q 2 0 (.q 3 1 (.q 4 0 (.q 5 0 (.q 6 0 (.q 7 1 (.q 8 0 (.q 9 0 (.q 10 1 (.q 11 0 (.q 12 1 (.w 13 2 (.q 14 0 .nil) .nil)))))))))))))) (fun _ => True) MO (by kernel_rfl) (Hp.drawless _ _ _) (fun _ _ => trivial) ?_
  rcases hv : validB j with _ | _
  ·
    refine wm_g rfl rfl (y_move rfl) ?_
    refine wm_g rfl rfl (y_nilCheck rfl) ?_
    refine wm_g rfl rfl (y_fieldAddr F54_1 rfl) ?_
    refine wm_l rfl rfl (y_load NA50 rfl (by first | exact cell_blk [] rfl | exact cell_blk [_] rfl | exact cell_blk [_, _] rfl | exact cell_blk [_, _, _] rfl | exact cell_blk [_, _, _, _] rfl | exact cell_blk [_, _, _, _, _] rfl | exact cell_blk [_, _, _, _, _, _] rfl | exact cell_blk [_, _, _, _, _, _, _] rfl | exact cellR_blk (by assumption) rfl)) ?_
    refine wm_g rfl rfl (y_move rfl) ?_
    refine wm_g rfl rfl (y_nilCheck rfl) ?_
    refine wm_g rfl rfl (y_fieldAddr F54_0 rfl) ?_
    refine wm_l rfl rfl (y_load NA49 rfl (by first | exact cell_blk [] rfl | exact cell_blk [_] rfl | exact cell_blk [_, _] rfl | exact cell_blk [_, _, _] rfl | exact cell_blk [_, _, _, _] rfl | exact cell_blk [_, _, _, _, _] rfl | exact cell_blk [_, _, _, _, _, _] rfl | exact cell_blk [_, _, _, _, _, _, _] rfl | exact cellR_blk (by assumption) rfl)) ?_
    refine wm_g rfl rfl (y_lenSl Try.underlying49 rfl) ?_
    refine wm_g rfl rfl (y_fieldAddr F30_1 rfl) ?_
    refine wm_l rfl rfl (y_load NA3 rfl (by first | exact cell_blk [] rfl | exact cell_blk [_] rfl | exact cell_blk [_, _] rfl | exact cell_blk [_, _, _] rfl | exact cell_blk [_, _, _, _] rfl | exact cell_blk [_, _, _, _, _] rfl | exact cell_blk [_, _, _, _, _, _] rfl | exact cell_blk [_, _, _, _, _, _, _] rfl | exact cellR_blk (by assumption) rfl)) ?_
    refine wm_g rfl rfl (y_fieldAddr F30_2 rfl) ?_
    refine wm_l rfl rfl (y_load NA3 rfl (by first | exact cell_blk [] rfl | exact cell_blk [_] rfl | exact cell_blk [_, _] rfl | exact cell_blk [_, _, _] rfl | exact cell_blk [_, _, _, _] rfl | exact cell_blk [_, _, _, _, _] rfl | exact cell_blk [_, _, _, _, _, _] rfl | exact cell_blk [_, _, _, _, _, _, _] rfl | exact cellR_blk (by assumption) rfl)) ?_
    refine wm_c rfl rfl (fun _ _ _ => trivial) (yc_spec (fst := []) (cap := []) _ FN59 (xpush_no x.qb s.age x.RI (x.jobs.length : Nat) j.rank j.since (valid_not.1 hv)) rfl rfl rfl (by (repeat (first | exact pt_nil | apply pt0 | apply pt1 | apply pt2 | apply pt3 | apply pt4 | apply pt5 | apply pt6 | apply pt7 | apply pt8 | apply pt9 | apply pt10 | apply pt11 | apply pt12 | apply pt13 | apply pt14 | apply pt15 | apply pt16 | apply pt17))) (by (repeat (first | exact ro_nil | exact ro_rest (by assumption) | refine ro_cons (by first | exact .inl (by assumption) | exact ro_f0 (fun _ h => h) | exact ro_f0 (fun _ => slc_rsl) | exact ro_f1 (fun _ h => h) | exact ro_f1 (fun _ => slc_rsl) | exact ro_f2 (fun _ h => h) | exact ro_f2 (fun _ => slc_rsl) | exact ro_f3 (fun _ h => h) | exact ro_f3 (fun _ => slc_rsl) | exact ro_f4 (fun _ h => h) | exact ro_f4 (fun _ => slc_rsl) | exact ro_f5 (fun _ h => h) | exact ro_f5 (fun _ => slc_rsl) | exact ro_f6 (fun _ h => h) | exact ro_f6 (fun _ => slc_rsl)) ?_)))) (wm_ex fun x19 hx19 => ?_)
    refine wm_g rfl rfl (y_assign rfl) ?_
    refine wm_nil ?_
    refine all_wq ?_
    refine wq_then ?_
    refine wc_seq ?_
    refine wc_seq ?_
    refine wc_region ?_
    refine wl_y rfl (y_move rfl) ?_
    refine wl_y rfl (y_eqlI rfl rfl) ?_
    refine wl_nil ?_
    refine wq_then ?_
    refine wc_known 21 false rfl (by decide) ?_
    refine wc_cond_false rfl ?_
    refine wc_skip ?_
    refine wq_then ?_
    refine wc_seq ?_
    refine wc_region ?_
    refine wl_y rfl (y_move rfl) ?_
    refine wl_y rfl (y_assign rfl) ?_
    refine wl_nil ?_
    refine wq_then ?_
    refine wc_ret ?_
    refine wq_ret1 rfl rfl (fun w hw => ?_)
    have e : s.push j = s := by rw [Sc.push, if_neg (by rw [hv]; decide)]
    rw [e, if_neg (by decide)]; exact ⟨(), trivial, rfl, rf_shut x hx (hw.sub (by (repeat (first | exact pt_nil | apply pt0 | apply pt1 | apply pt2 | apply pt3 | apply pt4 | apply pt5 | apply pt6 | apply pt7 | apply pt8 | apply pt9 | apply pt10 | apply pt11 | apply pt12 | apply pt13 | apply pt14 | apply pt15 | apply pt16 | apply pt17))))⟩
  ·
    refine wm_g rfl rfl (y_move rfl) ?_
    refine wm_g rfl rfl (y_nilCheck rfl) ?_
    refine wm_g rfl rfl (y_fieldAddr F54_1 rfl) ?_
    refine wm_l rfl rfl (y_load NA50 rfl (by first | exact cell_blk [] rfl | exact cell_blk [_] rfl | exact cell_blk [_, _] rfl | exact cell_blk [_, _, _] rfl | exact cell_blk [_, _, _, _] rfl | exact cell_blk [_, _, _, _, _] rfl | exact cell_blk [_, _, _, _, _, _] rfl | exact cell_blk [_, _, _, _, _, _, _] rfl | exact cellR_blk (by assumption) rfl)) ?_
    refine wm_g rfl rfl (y_move rfl) ?_
    refine wm_g rfl rfl (y_nilCheck rfl) ?_
    refine wm_g rfl rfl (y_fieldAddr F54_0 rfl) ?_
    refine wm_l rfl rfl (y_load NA49 rfl (by first | exact cell_blk [] rfl | exact cell_blk [_] rfl | exact cell_blk [_, _] rfl | exact cell_blk [_, _, _] rfl | exact cell_blk [_, _, _, _] rfl | exact cell_blk [_, _, _, _, _] rfl | exact cell_blk [_, _, _, _, _, _] rfl | exact cell_blk [_, _, _, _, _, _, _] rfl | exact cellR_blk (by assumption) rfl)) ?_
    refine wm_g rfl rfl (y_lenSl Try.underlying49 rfl) ?_
    refine wm_g rfl rfl (y_fieldAddr F30_1 rfl) ?_
    refine wm_l rfl rfl (y_load NA3 rfl (by first | exact cell_blk [] rfl | exact cell_blk [_] rfl | exact cell_blk [_, _] rfl | exact cell_blk [_, _, _] rfl | exact cell_blk [_, _, _, _] rfl | exact cell_blk [_, _, _, _, _] rfl | exact cell_blk [_, _, _, _, _, _] rfl | exact cell_blk [_, _, _, _, _, _, _] rfl | exact cellR_blk (by assumption) rfl)) ?_
    refine wm_g rfl rfl (y_fieldAddr F30_2 rfl) ?_
    refine wm_l rfl rfl (y_load NA3 rfl (by first | exact cell_blk [] rfl | exact cell_blk [_] rfl | exact cell_blk [_, _] rfl | exact cell_blk [_, _, _] rfl | exact cell_blk [_, _, _, _] rfl | exact cell_blk [_, _, _, _, _] rfl | exact cell_blk [_, _, _, _, _, _] rfl | exact cell_blk [_, _, _, _, _, _, _] rfl | exact cellR_blk (by assumption) rfl)) ?_
    refine wm_c rfl rfl (fun _ _ _ => trivial) (yc_spec (fst := []) (cap := []) _ FN59 (xpush_ok x.qb s.age s.n x.RI (x.jobs.length : Nat) j.rank j.since (valid_iff.1 hv).1 (valid_iff.1 hv).2 (by rw [hx.len]; have := hq.rl; omega)) rfl rfl rfl (by (repeat (first | exact pt_nil | apply pt0 | apply pt1 | apply pt2 | apply pt3 | apply pt4 | apply pt5 | apply pt6 | apply pt7 | apply pt8 | apply pt9 | apply pt10 | apply pt11 | apply pt12 | apply pt13 | apply pt14 | apply pt15 | apply pt16 | apply pt17))) (by (repeat (first | exact ro_nil | exact ro_rest (by assumption) | refine ro_cons (by first | exact .inl (by assumption) | exact ro_f0 (fun _ h => h) | exact ro_f0 (fun _ => slc_rsl) | exact ro_f1 (fun _ h => h) | exact ro_f1 (fun _ => slc_rsl) | exact ro_f2 (fun _ h => h) | exact ro_f2 (fun _ => slc_rsl) | exact ro_f3 (fun _ h => h) | exact ro_f3 (fun _ => slc_rsl) | exact ro_f4 (fun _ h => h) | exact ro_f4 (fun _ => slc_rsl) | exact ro_f5 (fun _ h => h) | exact ro_f5 (fun _ => slc_rsl) | exact ro_f6 (fun _ h => h) | exact ro_f6 (fun _ => slc_rsl)) ?_)))) (wm_ex fun x19 hx19 => ?_)
    refine wm_g rfl rfl (y_assign rfl) ?_
    refine wm_nil ?_
    refine all_wq ?_
    refine wq_then ?_
    refine wc_seq ?_
    refine wc_seq ?_
    refine wc_region ?_
    refine wl_y rfl (y_move rfl) ?_
    refine wl_y rfl (y_eqlI rfl rfl) ?_
    refine wl_nil ?_
    refine wq_then ?_
    refine wc_known 21 true rfl (by decide) ?_
    refine wc_cond_true rfl ?_
    refine wc_mix (.q 0 0 (.q 1 0 (.q 2 0 (.q 3 0 (.q 4 0 (.q 5 0 (.w 6 2 (.w 7 2 (.q 8 0 (.q 9 0 (.w 10 3 .nil .nil))) .nil) .nil))))))) (Sees [blk b (.cells (rfC x) 54 (0, 0)), blk b3 (.cells (encJ j).toArray 30 (0, 0))]) MO (by kernel_rfl) (Hp.drawless _ _ _) (fun w hw => by refine ⟨?_, ?_, trivial⟩ <;> first | exact hw.seen [] | exact hw.seen [_] | exact hw.seen [_, _] | exact hw.seen [_, _, _] | exact hw.seen [_, _, _, _] | exact hw.seen [_, _, _, _, _] | exact hw.seen [_, _, _, _, _, _] | exact hw.seen [_, _, _, _, _, _, _]) ?_
    refine wm_g rfl rfl (y_move rfl) ?_
    refine wm_g rfl rfl (y_move rfl) ?_
    refine wm_g rfl rfl (y_nilCheck rfl) ?_
    refine wm_g rfl rfl (y_fieldAddr F54_0 rfl) ?_
    refine wm_g rfl rfl (y_load NA49 rfl (fun w hw => by first | exact cell_of_heap hw.1.blk rfl | exact cell_of_heap hw.2.1.blk rfl)) ?_
    refine wm_g rfl rfl (y_loadAgg (l := [_, _, _]) AG30 rfl rfl (fun w hw => by first | exact hw.1.cells rfl | exact hw.2.1.cells rfl)) ?_
    refine wm_w rfl rfl ?hC (yw_buildSlice (cs := encJ j) Try.underlying49 T30 rfl rfl rfl rfl rfl rfl rfl) (wm_ex fun b28 _ => ?_)
    case hC => exact (fun _ _ h => by obtain ⟨_, _, _, hw⟩ := h; exact (by refine ⟨?_, ?_, trivial⟩ <;> first | exact hw.seen [] | exact hw.seen [_] | exact hw.seen [_, _] | exact hw.seen [_, _, _] | exact hw.seen [_, _, _, _] | exact hw.seen [_, _, _, _, _] | exact hw.seen [_, _, _, _, _, _] | exact hw.seen [_, _, _, _, _, _, _]))
    first | refine wm_w rfl rfl ?hC (yw_append (m := 1) [_] (cs := x.jobs.flatMap encJ) (news := encJ j) Try.underlying49 Try.underlying49 (.inl ⟨_, rfl⟩) T30 rfl rfl rfl (fun w hw => Src.slice ((hw.seen []).mono fun _ => slc_rsl)) (by omega) (by unfold maxLen; omega) (by simp [Value.oneCell', encJ]) rfl) (wm_ex fun p29 hp29 => ?_) | refine wm_w rfl rfl ?hC (yw_append (m := 1) [_, _] (cs := x.jobs.flatMap encJ) (news := encJ j) Try.underlying49 Try.underlying49 (.inl ⟨_, rfl⟩) T30 rfl rfl rfl (fun w hw => Src.slice ((hw.seen []).mono fun _ => slc_rsl)) (by omega) (by unfold maxLen; omega) (by simp [Value.oneCell', encJ]) rfl) (wm_ex fun p29 hp29 => ?_) | refine wm_w rfl rfl ?hC (yw_append (m := 1) [_, _, _] (cs := x.jobs.flatMap encJ) (news := encJ j) Try.underlying49 Try.underlying49 (.inl ⟨_, rfl⟩) T30 rfl rfl rfl (fun w hw => Src.slice ((hw.seen []).mono fun _ => slc_rsl)) (by omega) (by unfold maxLen; omega) (by simp [Value.oneCell', encJ]) rfl) (wm_ex fun p29 hp29 => ?_) | refine wm_w rfl rfl ?hC (yw_append (m := 1) [_, _, _, _] (cs := x.jobs.flatMap encJ) (news := encJ j) Try.underlying49 Try.underlying49 (.inl ⟨_, rfl⟩) T30 rfl rfl rfl (fun w hw => Src.slice ((hw.seen []).mono fun _ => slc_rsl)) (by omega) (by unfold maxLen; omega) (by simp [Value.oneCell', encJ]) rfl) (wm_ex fun p29 hp29 => ?_) | refine wm_w rfl rfl ?hC (yw_append (m := 1) [_, _, _, _, _] (cs := x.jobs.flatMap encJ) (news := encJ j) Try.underlying49 Try.underlying49 (.inl ⟨_, rfl⟩) T30 rfl rfl rfl (fun w hw => Src.slice ((hw.seen []).mono fun _ => slc_rsl)) (by omega) (by unfold maxLen; omega) (by simp [Value.oneCell', encJ]) rfl) (wm_ex fun p29 hp29 => ?_) | refine wm_w rfl rfl ?hC (yw_append (m := 1) [_, _, _, _, _, _] (cs := x.jobs.flatMap encJ) (news := encJ j) Try.underlying49 Try.underlying49 (.inl ⟨_, rfl⟩) T30 rfl rfl rfl (fun w hw => Src.slice ((hw.seen []).mono fun _ => slc_rsl)) (by omega) (by unfold maxLen; omega) (by simp [Value.oneCell', encJ]) rfl) (wm_ex fun p29 hp29 => ?_) | refine wm_w rfl rfl ?hC (yw_append (m := 1) [_, _, _, _, _, _, _] (cs := x.jobs.flatMap encJ) (news := encJ j) Try.underlying49 Try.underlying49 (.inl ⟨_, rfl⟩) T30 rfl rfl rfl (fun w hw => Src.slice ((hw.seen []).mono fun _ => slc_rsl)) (by omega) (by unfold maxLen; omega) (by simp [Value.oneCell', encJ]) rfl) (wm_ex fun p29 hp29 => ?_)
    case hC => exact (fun _ _ h => by obtain ⟨_, _, _, hw⟩ := h; exact (by refine ⟨?_, ?_, trivial⟩ <;> first | exact hw.seen [] | exact hw.seen [_] | exact hw.seen [_, _] | exact hw.seen [_, _, _] | exact hw.seen [_, _, _, _] | exact hw.seen [_, _, _, _, _] | exact hw.seen [_, _, _, _, _, _] | exact hw.seen [_, _, _, _, _, _, _]))
    refine wm_g rfl rfl (y_nilCheck rfl) ?_
    refine wm_g rfl rfl (y_fieldAddr F54_0 rfl) ?_
    first | refine wm_u3 rfl (yu_store [] (l' := [_, _, _, _]) T49 rfl rfl rfl rfl rfl rfl rfl) ?_ | refine wm_u3 rfl (yu_store [_] (l' := [_, _, _, _]) T49 rfl rfl rfl rfl rfl rfl rfl) ?_ | refine wm_u3 rfl (yu_store [_, _] (l' := [_, _, _, _]) T49 rfl rfl rfl rfl rfl rfl rfl) ?_ | refine wm_u3 rfl (yu_store [_, _, _] (l' := [_, _, _, _]) T49 rfl rfl rfl rfl rfl rfl rfl) ?_ | refine wm_u3 rfl (yu_store [_, _, _, _] (l' := [_, _, _, _]) T49 rfl rfl rfl rfl rfl rfl rfl) ?_ | refine wm_u3 rfl (yu_store [_, _, _, _, _] (l' := [_, _, _, _]) T49 rfl rfl rfl rfl rfl rfl rfl) ?_ | refine wm_u3 rfl (yu_store [_, _, _, _, _, _] (l' := [_, _, _, _]) T49 rfl rfl rfl rfl rfl rfl rfl) ?_ | refine wm_u3 rfl (yu_store [_, _, _, _, _, _, _] (l' := [_, _, _, _]) T49 rfl rfl rfl rfl rfl rfl rfl) ?_
    refine wm_nil ?_
    refine all_wq ?_
    refine wq_then ?_
    refine wc_seq ?_
    refine wc_region ?_
    refine wl_y rfl (y_move rfl) ?_
    refine wl_y rfl (y_assign rfl) ?_
    refine wl_nil ?_
    refine wq_then ?_
    refine wc_ret ?_
    refine wq_ret1 rfl rfl (fun w hw => ?_)
    have e : s.push j = { s with n := s.n + 1, R := s.R ++ [mkIt s.age s.n j] } := if_pos hv
    have hx2 := hx.push hv
    rw [e] at hx2
    rw [e, if_pos rfl]; exact ⟨(), trivial, rfl, rf_shut ⟨x.qb, x.tb, p29.1, p29.2, x.wa, x.wc, x.jobs ++ [j], x.RI ++ [(⟨(x.jobs.length : Nat), j.rank, j.since, j.since + s.age * j.rank, s.n + 1⟩ : It Int)], x.ws⟩ hx2 (by
      simp only [rfAs, rfC, List.length_append, List.length_singleton, List.flatMap_append, List.flatMap_singleton]
      exact hw.sub (by (repeat (first | exact pt_nil | apply pt0 | apply pt1 | apply pt2 | apply pt3 | apply pt4 | apply pt5 | apply pt6 | apply pt7 | apply pt8 | apply pt9 | apply pt10 | apply pt11 | apply pt12 | apply pt13 | apply pt14 | apply pt15 | apply pt16 | apply pt17))))⟩

set_option maxHeartbeats 1000000 in
theorem fat_c (b : Nat) (s : Sc) (x : Rp) (k : Str) (hl : x.ws.length ≤ 10000) :
    Ctr Try.prog 42 #[ptr b, vS k] [] (rfAs b s x) (fun _ : Unit => True) (fun _ => .tuple #[vI (wAt x.ws k : Nat), vB (wHas x.ws k)]) (fun _ => rfAs b s x) := by
  refine spec_start (n := 42) [(0, ptr b), (1, vS k)] Try.func42 rfl rfl ⟨rfl, rfl, trivial⟩ rfl ?_
  intro w0 K hR
  refine wc_seq ?_
  refine wc_region ?_
  refine wl_y rfl (y_assign rfl) ?_
  refine wl_y rfl (y_assign rfl) ?_
  refine wl_nil ?_
  refine wq_then ?_
  refine wc_seq ?_
  refine wc_seq ?_
  refine wc_region ?_
  refine wl_y rfl (y_assign rfl) ?_
  refine wl_nil ?_
  refine wq_then ?_
  refine wc_block ?_
  refine wc_loop (α := Nat) (fun y => y ≤ x.ws.length ∧ ∀ j z, j < y → x.ws[j]? = some z → geW k z = false) [(0, _), (1, _)] (fun y => [(6, vI y)]) (fun y => Hp w0 K (rfAs b s x)) (fun y => x.ws.length - y) 0 ?_ ⟨rfl, rfl, rfl, trivial⟩ ?_ ?_
  · exact ⟨Nat.zero_le _, fun j _ hj => absurd hj (Nat.not_lt_zero _)⟩
  · exact fun w hw => hw
  · rintro i ⟨hi, hall⟩
    refine wc_seq ?_
    refine wc_seq ?_
    refine wc_region ?_
    refine wl_y rfl (y_move rfl) ?_
    refine wl_y rfl (y_move rfl) ?_
    refine wl_y rfl (y_nilCheck rfl) ?_
    refine wl_y rfl (y_fieldAddr F54_2 rfl) ?_
    refine wl_y rfl (y_load NA51 rfl (by first | exact cell_blk [] rfl | exact cell_blk [_] rfl | exact cell_blk [_, _] rfl | exact cell_blk [_, _, _] rfl | exact cell_blk [_, _, _, _] rfl | exact cell_blk [_, _, _, _, _] rfl | exact cell_blk [_, _, _, _, _, _] rfl | exact cell_blk [_, _, _, _, _, _, _] rfl | exact cellR_blk (by assumption) rfl)) ?_
    refine wl_y rfl (y_lenSl Try.underlying51 rfl) ?_
    refine wl_y rfl (y_lss rfl rfl) ?_
    refine wl_nil ?_
    refine wq_then ?_
    refine wc_cond rfl (fun hc13 => ?_) (fun hc13 => ?_)
    ·
      simp at hc13
      refine wc_skip ?_
      refine wq_then ?_
      refine wc_seq ?_
      refine wc_block ?_
      refine wc_seq ?_
      refine wc_region ?_
      obtain ⟨p, hp⟩ : ∃ p, x.ws[i]? = some p := ⟨_, List.getElem?_eq_getElem (by omega)⟩
      refine wl_y rfl (y_move rfl) ?_
      refine wl_y rfl (y_nilCheck rfl) ?_
      refine wl_y rfl (y_fieldAddr F54_2 rfl) ?_
      refine wl_y rfl (y_load NA51 rfl (by first | exact cell_blk [] rfl | exact cell_blk [_] rfl | exact cell_blk [_, _] rfl | exact cell_blk [_, _, _] rfl | exact cell_blk [_, _, _, _] rfl | exact cell_blk [_, _, _, _, _] rfl | exact cell_blk [_, _, _, _, _, _] rfl | exact cell_blk [_, _, _, _, _, _, _] rfl | exact cellR_blk (by assumption) rfl)) ?_
      refine wl_y rfl (y_move rfl) ?_
      refine wl_y rfl (y_indexAddr Try.underlying51 T83 rfl rfl rfl (by omega) (by first | assumption | exact fun _ _ => rfl | exact fun w hw => hw.slc_isSome [] (by omega) | exact fun w hw => hw.slc_isSome [_] (by omega) | exact fun w hw => hw.slc_isSome [_, _] (by omega) | exact fun w hw => hw.slc_isSome [_, _, _] (by omega) | exact fun w hw => hw.slc_isSome [_, _, _, _] (by omega) | exact fun w hw => hw.slc_isSome [_, _, _, _, _] (by omega) | exact fun w hw => hw.slc_isSome [_, _, _, _, _, _] (by omega) | exact fun w hw => hw.slc_isSome [_, _, _, _, _, _, _] (by omega))) ?_
      refine wl_y rfl (y_fieldAddr_adr F83_0 rfl) ?_
      refine wl_y rfl (y_load NA9 rfl (by first | exact cell_own [] (rows_get encW_len hp rfl) | exact cell_own [_] (rows_get encW_len hp rfl) | exact cell_own [_, _] (rows_get encW_len hp rfl) | exact cell_own [_, _, _] (rows_get encW_len hp rfl) | exact cell_own [_, _, _, _] (rows_get encW_len hp rfl) | exact cell_own [_, _, _, _, _] (rows_get encW_len hp rfl) | exact cell_own [_, _, _, _, _, _] (rows_get encW_len hp rfl) | exact cell_own [_, _, _, _, _, _, _] (rows_get encW_len hp rfl))) ?_
      refine wl_y rfl (y_move rfl) ?_
      refine wl_y rfl (y_geqS rfl rfl) ?_
      refine wl_nil ?_
      refine wq_then ?_
      refine wc_cond rfl (fun hc25 => ?_) (fun hc25 => ?_)
      ·
        refine wc_seq ?_
        refine wc_quiet MO (by kernel_rfl) (Hp.drawless _ _ _) ?_
        refine wt_y rfl (y_move rfl) ?_
        refine wt_y rfl (y_move rfl) ?_
        refine wt_y rfl (y_nilCheck rfl) ?_
        refine wt_y rfl (y_fieldAddr F54_2 rfl) ?_
        refine wt_y rfl (y_load NA51 rfl (by first | exact cell_blk [] rfl | exact cell_blk [_] rfl | exact cell_blk [_, _] rfl | exact cell_blk [_, _, _] rfl | exact cell_blk [_, _, _, _] rfl | exact cell_blk [_, _, _, _, _] rfl | exact cell_blk [_, _, _, _, _, _] rfl | exact cell_blk [_, _, _, _, _, _, _] rfl | exact cellR_blk (by assumption) rfl)) ?_
        refine wt_y rfl (y_move rfl) ?_
        refine wt_y rfl (y_indexAddr Try.underlying51 T83 rfl rfl rfl (by omega) (by first | assumption | exact fun _ _ => rfl | exact fun w hw => hw.slc_isSome [] (by omega) | exact fun w hw => hw.slc_isSome [_] (by omega) | exact fun w hw => hw.slc_isSome [_, _] (by omega) | exact fun w hw => hw.slc_isSome [_, _, _] (by omega) | exact fun w hw => hw.slc_isSome [_, _, _, _] (by omega) | exact fun w hw => hw.slc_isSome [_, _, _, _, _] (by omega) | exact fun w hw => hw.slc_isSome [_, _, _, _, _, _] (by omega) | exact fun w hw => hw.slc_isSome [_, _, _, _, _, _, _] (by omega))) ?_
        refine wt_y rfl (y_fieldAddr_adr F83_0 rfl) ?_
        refine wt_y rfl (y_load NA9 rfl (by first | exact cell_own [] (rows_get encW_len hp rfl) | exact cell_own [_] (rows_get encW_len hp rfl) | exact cell_own [_, _] (rows_get encW_len hp rfl) | exact cell_own [_, _, _] (rows_get encW_len hp rfl) | exact cell_own [_, _, _, _] (rows_get encW_len hp rfl) | exact cell_own [_, _, _, _, _] (rows_get encW_len hp rfl) | exact cell_own [_, _, _, _, _, _] (rows_get encW_len hp rfl) | exact cell_own [_, _, _, _, _, _, _] (rows_get encW_len hp rfl))) ?_
        refine wt_y rfl (y_move rfl) ?_
        refine wt_y rfl (y_eqlS rfl rfl) ?_
        refine wt_y rfl (y_assign rfl) ?_
        refine wt_y rfl (y_assign rfl) ?_
        refine wt_nil ?_
        refine wq_then ?_
        refine wc_ret ?_
        refine wq_block_ret (wq_then_ret (wq_then_ret (wq_block_ret (wq_then_ret ?_))))
        refine wq_ret2 rfl rfl rfl (fun w hw => ?_)
        obtain ⟨e1, e2⟩ := w_hit hp hc25 hall
        exact ⟨(), trivial, by rw [e1, e2], hw⟩
      ·
        refine wc_skip ?_
        refine wq_block_normal ?_
        refine wq_then ?_
        refine wc_region ?_
        refine wl_y rfl (y_move rfl) ?_
        refine wl_y rfl (y_add rfl rfl (by omega)) ?_
        refine wl_y rfl (y_assign rfl) ?_
        refine wl_nil ?_
        exact wq_round (i + 1) (by omega) ⟨by omega, step_of hall hp hc25⟩ ⟨rfl, rfl, rfl, trivial⟩ (fun w hw => hw)
    ·
      simp at hc13
      refine wc_exit ?_
      refine wq_then_exit (wq_then_exit (wq_block_exit ?_))
      refine wq_then ?_
      refine wc_seq ?_
      refine wc_region ?_
      refine wl_y rfl (y_move rfl) ?_
      refine wl_y rfl (y_nilCheck rfl) ?_
      refine wl_y rfl (y_fieldAddr F54_2 rfl) ?_
      refine wl_y rfl (y_load NA51 rfl (by first | exact cell_blk [] rfl | exact cell_blk [_] rfl | exact cell_blk [_, _] rfl | exact cell_blk [_, _, _] rfl | exact cell_blk [_, _, _, _] rfl | exact cell_blk [_, _, _, _, _] rfl | exact cell_blk [_, _, _, _, _, _] rfl | exact cell_blk [_, _, _, _, _, _, _] rfl | exact cellR_blk (by assumption) rfl)) ?_
      refine wl_y rfl (y_lenSl Try.underlying51 rfl) ?_
      refine wl_y rfl (y_assign rfl) ?_
      refine wl_y rfl (y_assign rfl) ?_
      refine wl_nil ?_
      refine wq_then ?_
      refine wc_ret ?_
      refine wq_ret2 rfl rfl rfl (fun w hw => ?_)
      obtain ⟨e1, e2⟩ := w_miss (show x.ws.length ≤ i by omega) hall
      exact ⟨(), trivial, by rw [e1, e2], hw⟩

end Go.Proofs.Ytfnpjmlpiedgdaa
