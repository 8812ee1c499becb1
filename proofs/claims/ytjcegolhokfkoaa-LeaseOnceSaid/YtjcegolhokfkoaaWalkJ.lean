/-
  Walks: the reference's leases are granted.
-/
import Derived.Test.YtjcegolhokfkoaaWalkI
namespace Go.Proofs.Ytjcegolhokfkoaa
open Go.Eng

set_option maxHeartbeats 1000000 in
theorem rgrant_c (b : Nat) (r : Rt) (j : Jb) (wk : Str) (now : Int) (hr : r.ok) :
    Ctr Try.prog 14 #[ptr b, agJ j, vS wk, vI now] [] [rtA b r] (fun _ : Unit => True) (fun _ => .tuple #[agL (r.grant j wk now).2.1, vI (r.grant j wk now).2.2]) (fun _ => [rtA b (r.grant j wk now).1]) := by
  refine spec_start (n := 76) [(0, ptr b), (1, agJ j), (2, vS wk), (3, vI now)] Try.func14 rfl rfl ⟨rfl, rfl, rfl, rfl, trivial⟩ rfl ?_
  intro w0 K hR
  obtain ⟨h1, h2, h3, h4, h5⟩ := id hr
  refine wc_ex rt_open (fun oc => ?_)
  refine wc_seq ?_
  refine wc_region ?_
  refine wl_w (fun _ _ => want_none) rfl (yw_box rfl rfl) (wl_ex fun b5 _ => ?_)
  refine wl_w (fun _ _ => want_none) rfl (yw_alloc T30 rfl) (wl_ex fun b8 _ => ?_)
  refine wl_y rfl (y_assign rfl) ?_
  refine wl_nil ?_
  refine wq_then ?_
  refine wc_seq ?_
  refine wc_seq ?_
  refine wc_region ?_
  refine wl_y rfl (y_move rfl) ?_
  refine wl_q (fun _ _ => want_none) rfl (yq_spec (fst := []) (cap := []) _ FN30 (rname_c wk) rfl rfl rfl (by (repeat (first | exact pt_nil | apply pt0 | apply pt1 | apply pt2 | apply pt3 | apply pt4 | apply pt5 | apply pt6 | apply pt7 | apply pt8 | apply pt9 | apply pt10 | apply pt11 | apply pt12 | apply pt13 | apply pt14 | apply pt15 | apply pt16 | apply pt17))) (by (repeat (first | exact ro_nil | exact ro_rest (by assumption) | refine ro_cons (by first | exact .inl (by assumption) | exact ro_f0 (fun _ h => h) | exact ro_f0 (fun _ => slc_rsl) | exact ro_f1 (fun _ h => h) | exact ro_f1 (fun _ => slc_rsl) | exact ro_f2 (fun _ h => h) | exact ro_f2 (fun _ => slc_rsl) | exact ro_f3 (fun _ h => h) | exact ro_f3 (fun _ => slc_rsl) | exact ro_f4 (fun _ h => h) | exact ro_f4 (fun _ => slc_rsl) | exact ro_f5 (fun _ h => h) | exact ro_f5 (fun _ => slc_rsl) | exact ro_f6 (fun _ h => h) | exact ro_f6 (fun _ => slc_rsl)) ?_))) (fun _ _ => rfl) (fun _ _ _ h => h.sub (by (repeat (first | exact pt_nil | apply pt0 | apply pt1 | apply pt2 | apply pt3 | apply pt4 | apply pt5 | apply pt6 | apply pt7 | apply pt8 | apply pt9 | apply pt10 | apply pt11 | apply pt12 | apply pt13 | apply pt14 | apply pt15 | apply pt16 | apply pt17))))) ?_
  refine wl_y rfl (y_neqI rfl rfl) ?_
  refine wl_nil ?_
  refine wq_then ?_
  refine wc_cond rfl (fun hc16 => ?_) (fun hc16 => ?_)
  ·
    simp at hc16
    refine wc_seq ?_
    refine wc_region ?_
    refine wl_y rfl (y_build (cs := [_, _, _, _, _, _]) T30 PL30 rfl rfl rfl) ?_
    first | refine wl_u (yu_storeAgg [] (l' := [_, _, _, _, _, _]) T30 rfl rfl rfl (by simp [Value.oneCell', encL]) rfl rfl) ?_ | refine wl_u (yu_storeAgg [_] (l' := [_, _, _, _, _, _]) T30 rfl rfl rfl (by simp [Value.oneCell', encL]) rfl rfl) ?_ | refine wl_u (yu_storeAgg [_, _] (l' := [_, _, _, _, _, _]) T30 rfl rfl rfl (by simp [Value.oneCell', encL]) rfl rfl) ?_ | refine wl_u (yu_storeAgg [_, _, _] (l' := [_, _, _, _, _, _]) T30 rfl rfl rfl (by simp [Value.oneCell', encL]) rfl rfl) ?_ | refine wl_u (yu_storeAgg [_, _, _, _] (l' := [_, _, _, _, _, _]) T30 rfl rfl rfl (by simp [Value.oneCell', encL]) rfl rfl) ?_ | refine wl_u (yu_storeAgg [_, _, _, _, _] (l' := [_, _, _, _, _, _]) T30 rfl rfl rfl (by simp [Value.oneCell', encL]) rfl rfl) ?_ | refine wl_u (yu_storeAgg [_, _, _, _, _, _] (l' := [_, _, _, _, _, _]) T30 rfl rfl rfl (by simp [Value.oneCell', encL]) rfl rfl) ?_
    refine wl_y rfl (y_assign rfl) ?_
    refine wl_nil ?_
    refine wq_then ?_
    refine wc_ret ?_
    refine wq_then_ret ?_
    refine wq_retC2 (l := [_, _, _, _, _, _]) AG30 rfl rfl rfl rfl (by first | exact cells_blk [] rfl | exact cells_blk [_] rfl | exact cells_blk [_, _] rfl | exact cells_blk [_, _, _] rfl | exact cells_blk [_, _, _, _] rfl | exact cells_blk [_, _, _, _, _] rfl | exact cells_blk [_, _, _, _, _, _] rfl) (fun w hw => ?_)
    exact ⟨(), trivial, by simp only [Rt.grant, if_neg hc16], by simp only [Rt.grant, if_neg hc16]; exact rt_shut oc (hw.sub (by (repeat (first | exact pt_nil | apply pt0 | apply pt1 | apply pt2 | apply pt3 | apply pt4 | apply pt5 | apply pt6 | apply pt7 | apply pt8 | apply pt9 | apply pt10 | apply pt11 | apply pt12 | apply pt13 | apply pt14 | apply pt15 | apply pt16 | apply pt17))))⟩
  ·
    simp at hc16
    refine wc_skip ?_
    refine wq_then ?_
    refine wc_seq ?_
    refine wc_seq ?_
    refine wc_region ?_
    refine wl_y rfl (y_move rfl) ?_
    refine wl_q (fun _ _ => want_none) rfl (yq_spec (fst := []) (cap := []) _ FN31 (rtime_c now) rfl rfl rfl (by (repeat (first | exact pt_nil | apply pt0 | apply pt1 | apply pt2 | apply pt3 | apply pt4 | apply pt5 | apply pt6 | apply pt7 | apply pt8 | apply pt9 | apply pt10 | apply pt11 | apply pt12 | apply pt13 | apply pt14 | apply pt15 | apply pt16 | apply pt17))) (by (repeat (first | exact ro_nil | exact ro_rest (by assumption) | refine ro_cons (by first | exact .inl (by assumption) | exact ro_f0 (fun _ h => h) | exact ro_f0 (fun _ => slc_rsl) | exact ro_f1 (fun _ h => h) | exact ro_f1 (fun _ => slc_rsl) | exact ro_f2 (fun _ h => h) | exact ro_f2 (fun _ => slc_rsl) | exact ro_f3 (fun _ h => h) | exact ro_f3 (fun _ => slc_rsl) | exact ro_f4 (fun _ h => h) | exact ro_f4 (fun _ => slc_rsl) | exact ro_f5 (fun _ h => h) | exact ro_f5 (fun _ => slc_rsl) | exact ro_f6 (fun _ h => h) | exact ro_f6 (fun _ => slc_rsl)) ?_))) (fun _ _ => rfl) (fun _ _ _ h => h.sub (by (repeat (first | exact pt_nil | apply pt0 | apply pt1 | apply pt2 | apply pt3 | apply pt4 | apply pt5 | apply pt6 | apply pt7 | apply pt8 | apply pt9 | apply pt10 | apply pt11 | apply pt12 | apply pt13 | apply pt14 | apply pt15 | apply pt16 | apply pt17))))) ?_
    refine wl_y rfl (y_not rfl) ?_
    refine wl_nil ?_
    refine wq_then ?_
    refine wc_cond rfl (fun hc20 => ?_) (fun hc20 => ?_)
    ·
      simp at hc20
      refine wc_seq ?_
      refine wc_region ?_
      refine wl_y rfl (y_build (cs := [_, _, _, _, _, _]) T30 PL30 rfl rfl rfl) ?_
      first | refine wl_u (yu_storeAgg [] (l' := [_, _, _, _, _, _]) T30 rfl rfl rfl (by simp [Value.oneCell', encL]) rfl rfl) ?_ | refine wl_u (yu_storeAgg [_] (l' := [_, _, _, _, _, _]) T30 rfl rfl rfl (by simp [Value.oneCell', encL]) rfl rfl) ?_ | refine wl_u (yu_storeAgg [_, _] (l' := [_, _, _, _, _, _]) T30 rfl rfl rfl (by simp [Value.oneCell', encL]) rfl rfl) ?_ | refine wl_u (yu_storeAgg [_, _, _] (l' := [_, _, _, _, _, _]) T30 rfl rfl rfl (by simp [Value.oneCell', encL]) rfl rfl) ?_ | refine wl_u (yu_storeAgg [_, _, _, _] (l' := [_, _, _, _, _, _]) T30 rfl rfl rfl (by simp [Value.oneCell', encL]) rfl rfl) ?_ | refine wl_u (yu_storeAgg [_, _, _, _, _] (l' := [_, _, _, _, _, _]) T30 rfl rfl rfl (by simp [Value.oneCell', encL]) rfl rfl) ?_ | refine wl_u (yu_storeAgg [_, _, _, _, _, _] (l' := [_, _, _, _, _, _]) T30 rfl rfl rfl (by simp [Value.oneCell', encL]) rfl rfl) ?_
      refine wl_y rfl (y_assign rfl) ?_
      refine wl_nil ?_
      refine wq_then ?_
      refine wc_ret ?_
      refine wq_then_ret ?_
      refine wq_retC2 (l := [_, _, _, _, _, _]) AG30 rfl rfl rfl rfl (by first | exact cells_blk [] rfl | exact cells_blk [_] rfl | exact cells_blk [_, _] rfl | exact cells_blk [_, _, _] rfl | exact cells_blk [_, _, _, _] rfl | exact cells_blk [_, _, _, _, _] rfl | exact cells_blk [_, _, _, _, _, _] rfl) (fun w hw => ?_)
      exact ⟨(), trivial, by simp only [Rt.grant, if_pos hc16, hc20, Bool.false_eq_true, if_false], by simp only [Rt.grant, if_pos hc16, hc20, Bool.false_eq_true, if_false]; exact rt_shut oc (hw.sub (by (repeat (first | exact pt_nil | apply pt0 | apply pt1 | apply pt2 | apply pt3 | apply pt4 | apply pt5 | apply pt6 | apply pt7 | apply pt8 | apply pt9 | apply pt10 | apply pt11 | apply pt12 | apply pt13 | apply pt14 | apply pt15 | apply pt16 | apply pt17))))⟩
    ·
      simp at hc20
      have htb : 0 ≤ now ∧ now ≤ 1000000000 := by simpa [timeB] using hc20
      refine wc_skip ?_
      refine wq_then ?_
      refine wc_seq ?_
      refine wc_region ?_
      refine wl_y rfl (y_move rfl) ?_
      refine wl_y rfl (y_fieldAddr F28_0 rfl) ?_
      refine wl_y rfl (y_load NA9 rfl (by first | exact cell_blk [] rfl | exact cell_blk [_] rfl | exact cell_blk [_, _] rfl | exact cell_blk [_, _, _] rfl | exact cell_blk [_, _, _, _] rfl | exact cell_blk [_, _, _, _, _] rfl | exact cell_blk [_, _, _, _, _, _] rfl | exact cellR_blk (by assumption) rfl)) ?_
      refine wl_q (fun _ _ => want_none) rfl (yq_spec (fst := []) (cap := []) _ FN32 (at_c b r oc j.key h5) rfl rfl rfl (by (repeat (first | exact pt_nil | apply pt0 | apply pt1 | apply pt2 | apply pt3 | apply pt4 | apply pt5 | apply pt6 | apply pt7 | apply pt8 | apply pt9 | apply pt10 | apply pt11 | apply pt12 | apply pt13 | apply pt14 | apply pt15 | apply pt16 | apply pt17))) (by (repeat (first | exact ro_nil | exact ro_rest (by assumption) | refine ro_cons (by first | exact .inl (by assumption) | exact ro_f0 (fun _ h => h) | exact ro_f0 (fun _ => slc_rsl) | exact ro_f1 (fun _ h => h) | exact ro_f1 (fun _ => slc_rsl) | exact ro_f2 (fun _ h => h) | exact ro_f2 (fun _ => slc_rsl) | exact ro_f3 (fun _ h => h) | exact ro_f3 (fun _ => slc_rsl) | exact ro_f4 (fun _ h => h) | exact ro_f4 (fun _ => slc_rsl) | exact ro_f5 (fun _ h => h) | exact ro_f5 (fun _ => slc_rsl) | exact ro_f6 (fun _ h => h) | exact ro_f6 (fun _ => slc_rsl)) ?_))) (fun _ _ => rfl) (fun _ _ _ h => h.sub (by (repeat (first | exact pt_nil | apply pt0 | apply pt1 | apply pt2 | apply pt3 | apply pt4 | apply pt5 | apply pt6 | apply pt7 | apply pt8 | apply pt9 | apply pt10 | apply pt11 | apply pt12 | apply pt13 | apply pt14 | apply pt15 | apply pt16 | apply pt17))))) ?_
      refine wl_y rfl (y_move rfl) ?_
      refine wl_y rfl (y_extract rfl rfl) ?_
      refine wl_y rfl (y_extract rfl rfl) ?_
      refine wl_y rfl (y_assign rfl) ?_
      refine wl_y rfl (y_assign rfl) ?_
      refine wl_nil ?_
      refine wq_then ?_
      refine wc_seq ?_
      refine wc_seq ?_
      refine wc_region ?_
      refine wl_y rfl (y_move rfl) ?_
      refine wl_nil ?_
      refine wq_then ?_
      refine wc_cond rfl (fun hc29 => ?_) (fun hc29 => ?_)
      ·
        refine wc_seq ?_
        refine wc_region ?_
        refine wl_y rfl (y_build (cs := [_, _, _, _, _, _]) T30 PL30 rfl rfl rfl) ?_
        first | refine wl_u (yu_storeAgg [] (l' := [_, _, _, _, _, _]) T30 rfl rfl rfl (by simp [Value.oneCell', encL]) rfl rfl) ?_ | refine wl_u (yu_storeAgg [_] (l' := [_, _, _, _, _, _]) T30 rfl rfl rfl (by simp [Value.oneCell', encL]) rfl rfl) ?_ | refine wl_u (yu_storeAgg [_, _] (l' := [_, _, _, _, _, _]) T30 rfl rfl rfl (by simp [Value.oneCell', encL]) rfl rfl) ?_ | refine wl_u (yu_storeAgg [_, _, _] (l' := [_, _, _, _, _, _]) T30 rfl rfl rfl (by simp [Value.oneCell', encL]) rfl rfl) ?_ | refine wl_u (yu_storeAgg [_, _, _, _] (l' := [_, _, _, _, _, _]) T30 rfl rfl rfl (by simp [Value.oneCell', encL]) rfl rfl) ?_ | refine wl_u (yu_storeAgg [_, _, _, _, _] (l' := [_, _, _, _, _, _]) T30 rfl rfl rfl (by simp [Value.oneCell', encL]) rfl rfl) ?_ | refine wl_u (yu_storeAgg [_, _, _, _, _, _] (l' := [_, _, _, _, _, _]) T30 rfl rfl rfl (by simp [Value.oneCell', encL]) rfl rfl) ?_
        refine wl_y rfl (y_assign rfl) ?_
        refine wl_nil ?_
        refine wq_then ?_
        refine wc_ret ?_
        refine wq_then_ret ?_
        refine wq_retC2 (l := [_, _, _, _, _, _]) AG30 rfl rfl rfl rfl (by first | exact cells_blk [] rfl | exact cells_blk [_] rfl | exact cells_blk [_, _] rfl | exact cells_blk [_, _, _] rfl | exact cells_blk [_, _, _, _] rfl | exact cells_blk [_, _, _, _, _] rfl | exact cells_blk [_, _, _, _, _, _] rfl) (fun w hw => ?_)
        exact ⟨(), trivial, by simp only [Rt.grant, if_pos hc16, hc20, if_true, hc29], by simp only [Rt.grant, if_pos hc16, hc20, if_true, hc29]; exact rt_shut oc (hw.sub (by (repeat (first | exact pt_nil | apply pt0 | apply pt1 | apply pt2 | apply pt3 | apply pt4 | apply pt5 | apply pt6 | apply pt7 | apply pt8 | apply pt9 | apply pt10 | apply pt11 | apply pt12 | apply pt13 | apply pt14 | apply pt15 | apply pt16 | apply pt17))))⟩
      ·
        refine wc_skip ?_
        refine wq_then ?_
        refine wc_seq ?_
        refine wc_region ?_
        refine wl_y rfl (y_move rfl) ?_
        refine wl_y rfl (y_move rfl) ?_
        refine wl_y rfl (y_nilCheck rfl) ?_
        refine wl_y rfl (y_fieldAddr F50_2 rfl) ?_
        refine wl_y rfl (y_load NA3 rfl (by first | exact cell_blk [] rfl | exact cell_blk [_] rfl | exact cell_blk [_, _] rfl | exact cell_blk [_, _, _] rfl | exact cell_blk [_, _, _, _] rfl | exact cell_blk [_, _, _, _, _] rfl | exact cell_blk [_, _, _, _, _, _] rfl | exact cellR_blk (by assumption) rfl)) ?_
        refine wl_y rfl (y_add rfl rfl (by omega)) ?_
        refine wl_y rfl (y_nilCheck rfl) ?_
        refine wl_y rfl (y_fieldAddr F50_2 rfl) ?_
        first | refine wl_u (yu_store [] (l' := [_, _, _]) T3 rfl rfl rfl rfl rfl rfl rfl) ?_ | refine wl_u (yu_store [_] (l' := [_, _, _]) T3 rfl rfl rfl rfl rfl rfl rfl) ?_ | refine wl_u (yu_store [_, _] (l' := [_, _, _]) T3 rfl rfl rfl rfl rfl rfl rfl) ?_ | refine wl_u (yu_store [_, _, _] (l' := [_, _, _]) T3 rfl rfl rfl rfl rfl rfl rfl) ?_ | refine wl_u (yu_store [_, _, _, _] (l' := [_, _, _]) T3 rfl rfl rfl rfl rfl rfl rfl) ?_ | refine wl_u (yu_store [_, _, _, _, _] (l' := [_, _, _]) T3 rfl rfl rfl rfl rfl rfl rfl) ?_ | refine wl_u (yu_store [_, _, _, _, _, _] (l' := [_, _, _]) T3 rfl rfl rfl rfl rfl rfl rfl) ?_
        refine wl_nil ?_
        refine wq_then ?_
        refine wc_seq ?_
        refine wc_mix (.q 0 0 (.q 1 0 (.q 2 0 (.q 3 0 (.q 4 0 (.q 5 0 (.q 6 0 (.q 7 0 (.q 8 0 (.q 9 0 (.q 10 0 (.q 11 0 (.q 12 0 (.w 13 2 (.w 14 2 .nil .nil) .nil)))))))))))))) (Sees [blk b (.cells #[.slice oc.1 r.l.length oc.2, vI r.ttl, vI (r.epoch + 1)] 50 (0, 0)), blk b5 (.cells (encJ j).toArray 28 (0, 0))]) MO (by kernel_rfl) (Hp.drawless _ _ _) (fun w hw => by refine ⟨?_, ?_, trivial⟩ <;> first | exact hw.seen [] | exact hw.seen [_] | exact hw.seen [_, _] | exact hw.seen [_, _, _] | exact hw.seen [_, _, _, _] | exact hw.seen [_, _, _, _, _] | exact hw.seen [_, _, _, _, _, _]) ?_
        refine wm_g rfl rfl (y_loadAgg (l := [_, _, _]) AG28 rfl rfl (fun w hw => by first | exact hw.1.cells rfl | exact hw.2.1.cells rfl)) ?_
        refine wm_g rfl rfl (y_move rfl) ?_
        refine wm_g rfl rfl (y_move rfl) ?_
        refine wm_g rfl rfl (y_nilCheck rfl) ?_
        refine wm_g rfl rfl (y_fieldAddr F50_2 rfl) ?_
        refine wm_g rfl rfl (y_load NA3 rfl (fun w hw => by first | exact cell_of_heap hw.1.blk rfl | exact cell_of_heap hw.2.1.blk rfl)) ?_
        refine wm_g rfl rfl (y_move rfl) ?_
        refine wm_g rfl rfl (y_move rfl) ?_
        refine wm_g rfl rfl (y_nilCheck rfl) ?_
        refine wm_g rfl rfl (y_fieldAddr F50_1 rfl) ?_
        refine wm_g rfl rfl (y_load NA3 rfl (fun w hw => by first | exact cell_of_heap hw.1.blk rfl | exact cell_of_heap hw.2.1.blk rfl)) ?_
        refine wm_g rfl rfl (y_add rfl rfl (by omega)) ?_
        refine wm_g rfl rfl (y_build (cs := [_, _, _, _, _, _]) T30 PL30 rfl rfl rfl) ?_
        refine wm_w rfl rfl ?hC (yw_alloc T30 rfl) (wm_ex fun b12 _ => ?_)
        case hC => exact (fun _ _ h => by obtain ⟨_, _, _, hw⟩ := h; exact (by refine ⟨?_, ?_, trivial⟩ <;> first | exact hw.seen [] | exact hw.seen [_] | exact hw.seen [_, _] | exact hw.seen [_, _, _] | exact hw.seen [_, _, _, _] | exact hw.seen [_, _, _, _, _] | exact hw.seen [_, _, _, _, _, _]))
        first | refine wm_u rfl (fun _ hw => by refine ⟨?_, ?_, trivial⟩ <;> first | exact hw.seen [] | exact hw.seen [_] | exact hw.seen [_, _] | exact hw.seen [_, _, _] | exact hw.seen [_, _, _, _] | exact hw.seen [_, _, _, _, _] | exact hw.seen [_, _, _, _, _, _]) (yu_storeAgg [] (l' := [_, _, _, _, _, _]) T30 rfl rfl rfl (by simp [Value.oneCell', encL]) rfl rfl) ?_ | refine wm_u rfl (fun _ hw => by refine ⟨?_, ?_, trivial⟩ <;> first | exact hw.seen [] | exact hw.seen [_] | exact hw.seen [_, _] | exact hw.seen [_, _, _] | exact hw.seen [_, _, _, _] | exact hw.seen [_, _, _, _, _] | exact hw.seen [_, _, _, _, _, _]) (yu_storeAgg [_] (l' := [_, _, _, _, _, _]) T30 rfl rfl rfl (by simp [Value.oneCell', encL]) rfl rfl) ?_ | refine wm_u rfl (fun _ hw => by refine ⟨?_, ?_, trivial⟩ <;> first | exact hw.seen [] | exact hw.seen [_] | exact hw.seen [_, _] | exact hw.seen [_, _, _] | exact hw.seen [_, _, _, _] | exact hw.seen [_, _, _, _, _] | exact hw.seen [_, _, _, _, _, _]) (yu_storeAgg [_, _] (l' := [_, _, _, _, _, _]) T30 rfl rfl rfl (by simp [Value.oneCell', encL]) rfl rfl) ?_ | refine wm_u rfl (fun _ hw => by refine ⟨?_, ?_, trivial⟩ <;> first | exact hw.seen [] | exact hw.seen [_] | exact hw.seen [_, _] | exact hw.seen [_, _, _] | exact hw.seen [_, _, _, _] | exact hw.seen [_, _, _, _, _] | exact hw.seen [_, _, _, _, _, _]) (yu_storeAgg [_, _, _] (l' := [_, _, _, _, _, _]) T30 rfl rfl rfl (by simp [Value.oneCell', encL]) rfl rfl) ?_ | refine wm_u rfl (fun _ hw => by refine ⟨?_, ?_, trivial⟩ <;> first | exact hw.seen [] | exact hw.seen [_] | exact hw.seen [_, _] | exact hw.seen [_, _, _] | exact hw.seen [_, _, _, _] | exact hw.seen [_, _, _, _, _] | exact hw.seen [_, _, _, _, _, _]) (yu_storeAgg [_, _, _, _] (l' := [_, _, _, _, _, _]) T30 rfl rfl rfl (by simp [Value.oneCell', encL]) rfl rfl) ?_ | refine wm_u rfl (fun _ hw => by refine ⟨?_, ?_, trivial⟩ <;> first | exact hw.seen [] | exact hw.seen [_] | exact hw.seen [_, _] | exact hw.seen [_, _, _] | exact hw.seen [_, _, _, _] | exact hw.seen [_, _, _, _, _] | exact hw.seen [_, _, _, _, _, _]) (yu_storeAgg [_, _, _, _, _] (l' := [_, _, _, _, _, _]) T30 rfl rfl rfl (by simp [Value.oneCell', encL]) rfl rfl) ?_ | refine wm_u rfl (fun _ hw => by refine ⟨?_, ?_, trivial⟩ <;> first | exact hw.seen [] | exact hw.seen [_] | exact hw.seen [_, _] | exact hw.seen [_, _, _] | exact hw.seen [_, _, _, _] | exact hw.seen [_, _, _, _, _] | exact hw.seen [_, _, _, _, _, _]) (yu_storeAgg [_, _, _, _, _, _] (l' := [_, _, _, _, _, _]) T30 rfl rfl rfl (by simp [Value.oneCell', encL]) rfl rfl) ?_
        refine wm_nil ?_
        refine all_wq ?_
        refine wq_then ?_
        refine wc_seq ?_
        refine wc_region ?_
        refine wl_y rfl (y_assign rfl) ?_
        refine wl_nil ?_
        refine wq_then ?_
        refine wc_seq ?_
        refine wc_region ?_
        refine wl_have (p := r.l.length ≤ oc.2) (fun w hw => hw.slc_le [_, _, _, _]) (fun hcap => ?_)
        have hat := at_le r j.key
        obtain ⟨i, hi⟩ : ∃ i, r.at j.key = i := ⟨_, rfl⟩
        rw [hi] at hat
        refine wl_same 10 (vI (i : Nat)) rfl (by rw [hi]) ?_
        refine wl_world (fun w hw => Hp.addNil (e := 30) (sz := 6) [] _ hw) ?_
        refine wl_y rfl (y_move rfl) ?_
        refine wl_y rfl (y_move rfl) ?_
        refine wl_y rfl (y_nilCheck rfl) ?_
        refine wl_y rfl (y_fieldAddr F50_0 rfl) ?_
        refine wl_y rfl (y_load NA36 rfl (by first | exact cell_blk [] rfl | exact cell_blk [_] rfl | exact cell_blk [_, _] rfl | exact cell_blk [_, _, _] rfl | exact cell_blk [_, _, _, _] rfl | exact cell_blk [_, _, _, _, _] rfl | exact cell_blk [_, _, _, _, _, _] rfl | exact cellR_blk (by assumption) rfl)) ?_
        refine wl_y rfl (y_move rfl) ?_
        refine wl_y rfl (y_sliceSl (i := 0) (j := i) Try.underlying36 T30 rfl rfl ⟨_, rfl, rfl⟩ (by omega) (by omega)) ?_
        refine wl_w (fun _ _ => want_none) rfl (yw_append [] Try.underlying36 Try.underlying36 (.inl ⟨_, rfl⟩) T30 rfl rfl rfl (fun w hw => Src.slice ((hw.seen [_, _, _, _, _]).mono fun _ h => slc_rsl (slc_take i h (by omega)))) (by omega) (by unfold maxLen; omega) (one_take (one_rows encL_one)) (by simp [rows_length encL_len]; omega)) (wl_ex fun p59 hp59 => ?_)
        refine wl_y rfl (y_assign rfl) ?_
        refine wl_nil ?_
        refine wq_then ?_
        refine wc_seq ?_
        refine wc_region ?_
        refine wl_y rfl (y_move rfl) ?_
        refine wl_y rfl (y_loadAgg (l := [_, _, _, _, _, _]) AG30 rfl rfl (by first | exact cells_blk [] rfl | exact cells_blk [_] rfl | exact cells_blk [_, _] rfl | exact cells_blk [_, _, _] rfl | exact cells_blk [_, _, _, _] rfl | exact cells_blk [_, _, _, _, _] rfl | exact cells_blk [_, _, _, _, _, _] rfl | exact cellsR_blk (by assumption) rfl)) ?_
        refine wl_w (fun _ _ => want_none) rfl (yw_buildSlice (cs := [_, _, _, _, _, _]) Try.underlying36 T30 rfl rfl rfl rfl rfl rfl rfl) (wl_ex fun b62 _ => ?_)
        refine wl_w (fun _ _ => want_none) rfl (yw_append [_] Try.underlying36 Try.underlying36 (.inl ⟨_, rfl⟩) T30 rfl rfl rfl (fun w hw => Src.slice ((hw.seen []).mono fun _ => slc_rsl)) (by omega) (by unfold maxLen; omega) (by simp [Value.oneCell', encL]) rfl) (wl_ex fun p63 hp63 => ?_)
        refine wl_y rfl (y_assign rfl) ?_
        refine wl_nil ?_
        refine wq_then ?_
        refine wc_seq ?_
        refine wc_region ?_
        refine wl_y rfl (y_move rfl) ?_
        refine wl_y rfl (y_move rfl) ?_
        refine wl_y rfl (y_move rfl) ?_
        refine wl_y rfl (y_nilCheck rfl) ?_
        refine wl_y rfl (y_fieldAddr F50_0 rfl) ?_
        refine wl_y rfl (y_load NA36 rfl (by first | exact cell_blk [] rfl | exact cell_blk [_] rfl | exact cell_blk [_, _] rfl | exact cell_blk [_, _, _] rfl | exact cell_blk [_, _, _, _] rfl | exact cell_blk [_, _, _, _, _] rfl | exact cell_blk [_, _, _, _, _, _] rfl | exact cellR_blk (by assumption) rfl)) ?_
        refine wl_y rfl (y_move rfl) ?_
        refine wl_y rfl (y_sliceSl (i := i) (j := r.l.length) Try.underlying36 T30 rfl ⟨_, rfl, rfl⟩ rfl (by omega) (by omega)) ?_
        refine wl_w (fun _ _ => want_none) rfl (yw_append [_] Try.underlying36 Try.underlying36 (.inl ⟨_, rfl⟩) T30 rfl rfl rfl (fun w hw => Src.slice ((hw.seen [_, _, _, _, _, _]).mono fun _ h => slc_rsl (slc_cut i h (by omega)))) (by omega) (by unfold maxLen; omega) (one_drop (one_rows encL_one)) (by simp [rows_length encL_len]; omega)) (wl_ex fun p72 hp72 => ?_)
        refine wl_y rfl (y_nilCheck rfl) ?_
        refine wl_y rfl (y_fieldAddr F50_0 rfl) ?_
        first | refine wl_u (yu_store [] (l' := [_, _, _]) T36 rfl rfl rfl rfl rfl rfl rfl) ?_ | refine wl_u (yu_store [_] (l' := [_, _, _]) T36 rfl rfl rfl rfl rfl rfl rfl) ?_ | refine wl_u (yu_store [_, _] (l' := [_, _, _]) T36 rfl rfl rfl rfl rfl rfl rfl) ?_ | refine wl_u (yu_store [_, _, _] (l' := [_, _, _]) T36 rfl rfl rfl rfl rfl rfl rfl) ?_ | refine wl_u (yu_store [_, _, _, _] (l' := [_, _, _]) T36 rfl rfl rfl rfl rfl rfl rfl) ?_ | refine wl_u (yu_store [_, _, _, _, _] (l' := [_, _, _]) T36 rfl rfl rfl rfl rfl rfl rfl) ?_ | refine wl_u (yu_store [_, _, _, _, _, _] (l' := [_, _, _]) T36 rfl rfl rfl rfl rfl rfl rfl) ?_
        refine wl_nil ?_
        refine wq_then ?_
        refine wc_seq ?_
        refine wc_region ?_
        refine wl_y rfl (y_loadAgg (l := [_, _, _, _, _, _]) AG30 rfl rfl (by first | exact cells_blk [] rfl | exact cells_blk [_] rfl | exact cells_blk [_, _] rfl | exact cells_blk [_, _, _] rfl | exact cells_blk [_, _, _, _] rfl | exact cells_blk [_, _, _, _, _] rfl | exact cells_blk [_, _, _, _, _, _] rfl | exact cellsR_blk (by assumption) rfl)) ?_
        first | refine wl_u (yu_storeAgg [] (l' := [_, _, _, _, _, _]) T30 rfl rfl rfl (by simp [Value.oneCell', encL]) rfl rfl) ?_ | refine wl_u (yu_storeAgg [_] (l' := [_, _, _, _, _, _]) T30 rfl rfl rfl (by simp [Value.oneCell', encL]) rfl rfl) ?_ | refine wl_u (yu_storeAgg [_, _] (l' := [_, _, _, _, _, _]) T30 rfl rfl rfl (by simp [Value.oneCell', encL]) rfl rfl) ?_ | refine wl_u (yu_storeAgg [_, _, _] (l' := [_, _, _, _, _, _]) T30 rfl rfl rfl (by simp [Value.oneCell', encL]) rfl rfl) ?_ | refine wl_u (yu_storeAgg [_, _, _, _] (l' := [_, _, _, _, _, _]) T30 rfl rfl rfl (by simp [Value.oneCell', encL]) rfl rfl) ?_ | refine wl_u (yu_storeAgg [_, _, _, _, _] (l' := [_, _, _, _, _, _]) T30 rfl rfl rfl (by simp [Value.oneCell', encL]) rfl rfl) ?_ | refine wl_u (yu_storeAgg [_, _, _, _, _, _] (l' := [_, _, _, _, _, _]) T30 rfl rfl rfl (by simp [Value.oneCell', encL]) rfl rfl) ?_
        refine wl_y rfl (y_assign rfl) ?_
        refine wl_nil ?_
        refine wq_then ?_
        refine wc_ret ?_
        refine wq_retC2 (l := [_, _, _, _, _, _]) AG30 rfl rfl rfl rfl (by first | exact cells_blk [] rfl | exact cells_blk [_] rfl | exact cells_blk [_, _] rfl | exact cells_blk [_, _, _] rfl | exact cells_blk [_, _, _, _] rfl | exact cells_blk [_, _, _, _, _] rfl | exact cells_blk [_, _, _, _, _, _] rfl) (fun w hw => ?_)
        have e : r.grant j wk now = ({ r with epoch := r.epoch + 1, l := r.l.take i ++ [r.lease j wk now] ++ r.l.drop i }, r.lease j wk now, 0) := by simp only [Rt.grant, if_pos hc16, hc20, if_true, hc29, hi, Bool.false_eq_true, if_false]
        have e1 : (r.l.take i ++ [r.lease j wk now] ++ r.l.drop i).length = 0 + (i - 0) + 1 + (r.l.length - i) := by simp; omega
        have e2 : (r.l.take i ++ [r.lease j wk now] ++ r.l.drop i).flatMap encL = [] ++ (r.l.flatMap encL).take (i * 6) ++ encL (r.lease j wk now) ++ (r.l.flatMap encL).drop (i * 6) := by rw [rows_take encL_len _ (by omega), rows_drop encL_len _ (by omega), List.flatMap_append, List.flatMap_append, List.flatMap_singleton]; rfl
        rw [e]
        exact ⟨(), trivial, rfl, rt_shut p72 (by simp only [rtAs, rtCells]; rw [e1, e2]; exact hw.sub (by (repeat (first | exact pt_nil | apply pt0 | apply pt1 | apply pt2 | apply pt3 | apply pt4 | apply pt5 | apply pt6 | apply pt7 | apply pt8 | apply pt9 | apply pt10 | apply pt11 | apply pt12 | apply pt13 | apply pt14 | apply pt15 | apply pt16 | apply pt17))))⟩

end Go.Proofs.Ytjcegolhokfkoaa
