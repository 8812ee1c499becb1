/-
  Walks: the examples.
-/
import Derived.Test.YtjcegolhokfkoaaOne
namespace Go.Proofs.Ytjcegolhokfkoaa
open Go.Eng

set_option maxHeartbeats 1000000 in
theorem awake_c  :
    Ctr Try.prog 8 #[] [] [] (fun _ : Unit => True) (fun _ => vB true) (fun _ => []) := by
  refine spec_start (n := 84) [] Try.func8 rfl rfl trivial rfl ?_
  intro w0 K hR
  refine wc_seq ?_
  refine wc_region ?_
  refine wl_y rfl (y_assign rfl) ?_
  refine wl_nil ?_
  refine wq_then ?_
  refine wc_seq ?_
  refine wc_region ?_
  refine wl_c (fun _ _ => want_none) rfl (yc_spec (fst := []) (cap := []) _ FN7 (new_ok 5 (by omega) (by omega)) rfl rfl rfl (by (repeat (first | exact pt_nil | apply pt0 | apply pt1 | apply pt2 | apply pt3 | apply pt4 | apply pt5 | apply pt6 | apply pt7 | apply pt8 | apply pt9 | apply pt10 | apply pt11 | apply pt12 | apply pt13 | apply pt14 | apply pt15 | apply pt16 | apply pt17))) (by (repeat (first | exact ro_nil | exact ro_rest (by assumption) | refine ro_cons (by first | exact .inl (by assumption) | exact ro_f0 (fun _ h => h) | exact ro_f0 (fun _ => slc_rsl) | exact ro_f1 (fun _ h => h) | exact ro_f1 (fun _ => slc_rsl) | exact ro_f2 (fun _ h => h) | exact ro_f2 (fun _ => slc_rsl) | exact ro_f3 (fun _ h => h) | exact ro_f3 (fun _ => slc_rsl) | exact ro_f4 (fun _ h => h) | exact ro_f4 (fun _ => slc_rsl) | exact ro_f5 (fun _ h => h) | exact ro_f5 (fun _ => slc_rsl) | exact ro_f6 (fun _ h => h) | exact ro_f6 (fun _ => slc_rsl)) ?_)))) (wl_ex fun x11 hx11 => ?_)
  refine wl_y rfl (y_move rfl) ?_
  refine wl_y rfl (y_extract rfl rfl) ?_
  refine wl_y rfl (y_extract rfl rfl) ?_
  refine wl_y rfl (y_assign rfl) ?_
  refine wl_y rfl (y_assign rfl) ?_
  refine wl_nil ?_
  refine wq_then ?_
  refine wc_seq ?_
  refine wc_seq ?_
  refine wc_region ?_
  refine wl_y rfl (y_move rfl) ?_
  refine wl_y rfl (y_neqI rfl rfl) ?_
  refine wl_y rfl (y_move rfl) ?_
  apply wl_or 3 19 [(1, _)] (t := 16) rfl ⟨rfl, trivial⟩
  · intro hg16 hM19
    refine wl_sk rfl rfl rfl rfl ?_
    refine wl_sk rfl rfl rfl rfl ?_
    refine wl_y rfl (y_pick_t rfl rfl) ?_
    exact wl_weaken hM19 ⟨rfl, rfl, trivial⟩
  · intro hg16 hM19
    try (simp at hg16)
    refine wl_yg rfl rfl rfl (y_move rfl) ?_
    refine wl_yg rfl rfl rfl (y_eqlP Try.underlying22 rfl rfl) ?_
    refine wl_y rfl (y_pick_f rfl rfl) ?_
    exact wl_weaken hM19 ⟨rfl, rfl, trivial⟩
  ·
    refine wl_nil ?_
    refine wq_then ?_
    refine wc_known 19 false rfl (rfl) ?_
    refine wc_cond_false rfl ?_
    refine wc_skip ?_
    refine wq_then ?_
    refine wc_seq ?_
    refine wc_region ?_
    refine wl_y rfl (y_build (cs := [_, _, _]) T28 PL28 rfl rfl rfl) ?_
    refine wl_w (fun _ _ => want_none) rfl (yw_alloc T28 rfl) (wl_ex fun b3 _ => ?_)
    first | refine wl_u (yu_storeAgg [] (l' := [_, _, _]) T28 rfl rfl rfl (by simp [Value.oneCell', encL, encJ]) rfl rfl) ?_ | refine wl_u (yu_storeAgg [_] (l' := [_, _, _]) T28 rfl rfl rfl (by simp [Value.oneCell', encL, encJ]) rfl rfl) ?_ | refine wl_u (yu_storeAgg [_, _] (l' := [_, _, _]) T28 rfl rfl rfl (by simp [Value.oneCell', encL, encJ]) rfl rfl) ?_ | refine wl_u (yu_storeAgg [_, _, _] (l' := [_, _, _]) T28 rfl rfl rfl (by simp [Value.oneCell', encL, encJ]) rfl rfl) ?_ | refine wl_u (yu_storeAgg [_, _, _, _] (l' := [_, _, _]) T28 rfl rfl rfl (by simp [Value.oneCell', encL, encJ]) rfl rfl) ?_ | refine wl_u (yu_storeAgg [_, _, _, _, _] (l' := [_, _, _]) T28 rfl rfl rfl (by simp [Value.oneCell', encL, encJ]) rfl rfl) ?_ | refine wl_u (yu_storeAgg [_, _, _, _, _, _] (l' := [_, _, _]) T28 rfl rfl rfl (by simp [Value.oneCell', encL, encJ]) rfl rfl) ?_ | refine wl_u (yu_storeAgg [_, _, _, _, _, _, _] (l' := [_, _, _]) T28 rfl rfl rfl (by simp [Value.oneCell', encL, encJ]) rfl rfl) ?_
    refine wl_nil ?_
    refine wq_then ?_
    refine wc_seq ?_
    refine wc_region ?_
    refine wl_y rfl (y_move rfl) ?_
    refine wl_y rfl (y_loadAgg (l := [_, _, _]) AG28 rfl rfl (by first | exact cells_blk [] rfl | exact cells_blk [_] rfl | exact cells_blk [_, _] rfl | exact cells_blk [_, _, _] rfl | exact cells_blk [_, _, _, _] rfl | exact cells_blk [_, _, _, _, _] rfl | exact cells_blk [_, _, _, _, _, _] rfl | exact cells_blk [_, _, _, _, _, _, _] rfl | exact cellsR_blk (by assumption) rfl)) ?_
    refine wl_c (fun _ _ => want_none) rfl (yc_spec (fst := []) (cap := []) _ FN9 (grant_at (by simp [Tb.ok]) (grant_none 5 0 k0 [119] 0 (by decide +kernel) (by decide +kernel))) rfl rfl rfl (by (repeat (first | exact pt_nil | apply pt0 | apply pt1 | apply pt2 | apply pt3 | apply pt4 | apply pt5 | apply pt6 | apply pt7 | apply pt8 | apply pt9 | apply pt10 | apply pt11 | apply pt12 | apply pt13 | apply pt14 | apply pt15 | apply pt16 | apply pt17))) (by (repeat (first | exact ro_nil | exact ro_rest (by assumption) | refine ro_cons (by first | exact .inl (by assumption) | exact ro_f0 (fun _ h => h) | exact ro_f0 (fun _ => slc_rsl) | exact ro_f1 (fun _ h => h) | exact ro_f1 (fun _ => slc_rsl) | exact ro_f2 (fun _ h => h) | exact ro_f2 (fun _ => slc_rsl) | exact ro_f3 (fun _ h => h) | exact ro_f3 (fun _ => slc_rsl) | exact ro_f4 (fun _ h => h) | exact ro_f4 (fun _ => slc_rsl) | exact ro_f5 (fun _ h => h) | exact ro_f5 (fun _ => slc_rsl) | exact ro_f6 (fun _ h => h) | exact ro_f6 (fun _ => slc_rsl)) ?_)))) (wl_ex fun x24 hx24 => ?_)
    refine wl_y rfl (y_move rfl) ?_
    refine wl_y rfl (y_extract rfl rfl) ?_
    refine wl_y rfl (y_extract rfl rfl) ?_
    refine wl_w (fun _ _ => want_none) rfl (yw_alloc T30 rfl) (wl_ex fun b4 _ => ?_)
    first | refine wl_u (yu_storeAgg [] (l' := [_, _, _, _, _, _]) T30 rfl rfl rfl (by simp [Value.oneCell', encL, encJ]) rfl rfl) ?_ | refine wl_u (yu_storeAgg [_] (l' := [_, _, _, _, _, _]) T30 rfl rfl rfl (by simp [Value.oneCell', encL, encJ]) rfl rfl) ?_ | refine wl_u (yu_storeAgg [_, _] (l' := [_, _, _, _, _, _]) T30 rfl rfl rfl (by simp [Value.oneCell', encL, encJ]) rfl rfl) ?_ | refine wl_u (yu_storeAgg [_, _, _] (l' := [_, _, _, _, _, _]) T30 rfl rfl rfl (by simp [Value.oneCell', encL, encJ]) rfl rfl) ?_ | refine wl_u (yu_storeAgg [_, _, _, _] (l' := [_, _, _, _, _, _]) T30 rfl rfl rfl (by simp [Value.oneCell', encL, encJ]) rfl rfl) ?_ | refine wl_u (yu_storeAgg [_, _, _, _, _] (l' := [_, _, _, _, _, _]) T30 rfl rfl rfl (by simp [Value.oneCell', encL, encJ]) rfl rfl) ?_ | refine wl_u (yu_storeAgg [_, _, _, _, _, _] (l' := [_, _, _, _, _, _]) T30 rfl rfl rfl (by simp [Value.oneCell', encL, encJ]) rfl rfl) ?_ | refine wl_u (yu_storeAgg [_, _, _, _, _, _, _] (l' := [_, _, _, _, _, _]) T30 rfl rfl rfl (by simp [Value.oneCell', encL, encJ]) rfl rfl) ?_
    refine wl_y rfl (y_assign rfl) ?_
    refine wl_nil ?_
    refine wq_then ?_
    refine wc_seq ?_
    refine wc_region ?_
    refine wl_y rfl (y_move rfl) ?_
    refine wl_c (fun _ _ => want_none) rfl (yc_spec (fst := []) (cap := []) _ FN10 (expire_at (fits_one _ _ _ _ (by decide)) (take_miss 5 (0 + 1) [107] (⟨k0, [119], 0 + 1, 0 + 5⟩ : Ls) _ (by decide))) rfl rfl rfl (by (repeat (first | exact pt_nil | apply pt0 | apply pt1 | apply pt2 | apply pt3 | apply pt4 | apply pt5 | apply pt6 | apply pt7 | apply pt8 | apply pt9 | apply pt10 | apply pt11 | apply pt12 | apply pt13 | apply pt14 | apply pt15 | apply pt16 | apply pt17))) (by (repeat (first | exact ro_nil | exact ro_rest (by assumption) | refine ro_cons (by first | exact .inl (by assumption) | exact ro_f0 (fun _ h => h) | exact ro_f0 (fun _ => slc_rsl) | exact ro_f1 (fun _ h => h) | exact ro_f1 (fun _ => slc_rsl) | exact ro_f2 (fun _ h => h) | exact ro_f2 (fun _ => slc_rsl) | exact ro_f3 (fun _ h => h) | exact ro_f3 (fun _ => slc_rsl) | exact ro_f4 (fun _ h => h) | exact ro_f4 (fun _ => slc_rsl) | exact ro_f5 (fun _ h => h) | exact ro_f5 (fun _ => slc_rsl) | exact ro_f6 (fun _ h => h) | exact ro_f6 (fun _ => slc_rsl)) ?_)))) (wl_ex fun x28 hx28 => ?_)
    refine wl_y rfl (y_assign rfl) ?_
    refine wl_nil ?_
    refine wq_then ?_
    refine wc_seq ?_
    refine wc_region ?_
    refine wl_y rfl (y_move rfl) ?_
    refine wl_c (fun _ _ => want_none) rfl (yc_spec (fst := []) (cap := []) _ FN10 (expire_at (fits_one _ _ _ _ (by decide)) (take_hit 5 (0 + 1) [107] (⟨k0, [119], 0 + 1, 0 + 5⟩ : Ls) _ rfl (by decide))) rfl rfl rfl (by (repeat (first | exact pt_nil | apply pt0 | apply pt1 | apply pt2 | apply pt3 | apply pt4 | apply pt5 | apply pt6 | apply pt7 | apply pt8 | apply pt9 | apply pt10 | apply pt11 | apply pt12 | apply pt13 | apply pt14 | apply pt15 | apply pt16 | apply pt17))) (by (repeat (first | exact ro_nil | exact ro_rest (by assumption) | refine ro_cons (by first | exact .inl (by assumption) | exact ro_f0 (fun _ h => h) | exact ro_f0 (fun _ => slc_rsl) | exact ro_f1 (fun _ h => h) | exact ro_f1 (fun _ => slc_rsl) | exact ro_f2 (fun _ h => h) | exact ro_f2 (fun _ => slc_rsl) | exact ro_f3 (fun _ h => h) | exact ro_f3 (fun _ => slc_rsl) | exact ro_f4 (fun _ h => h) | exact ro_f4 (fun _ => slc_rsl) | exact ro_f5 (fun _ h => h) | exact ro_f5 (fun _ => slc_rsl) | exact ro_f6 (fun _ h => h) | exact ro_f6 (fun _ => slc_rsl)) ?_)))) (wl_ex fun x30 hx30 => ?_)
    refine wl_y rfl (y_assign rfl) ?_
    refine wl_nil ?_
    refine wq_then ?_
    refine wc_seq ?_
    refine wc_region ?_
    refine wl_y rfl (y_move rfl) ?_
    refine wl_y rfl (y_loadAgg (l := [_, _, _]) AG28 rfl rfl (by first | exact cells_blk [] rfl | exact cells_blk [_] rfl | exact cells_blk [_, _] rfl | exact cells_blk [_, _, _] rfl | exact cells_blk [_, _, _, _] rfl | exact cells_blk [_, _, _, _, _] rfl | exact cells_blk [_, _, _, _, _, _] rfl | exact cells_blk [_, _, _, _, _, _, _] rfl | exact cellsR_blk (by assumption) rfl)) ?_
    refine wl_c (fun _ _ => want_none) rfl (yc_spec (fst := []) (cap := []) _ FN9 (grant_at (by simp [Tb.ok]) (grant_none 5 (0 + 1) k0 [118] 6 (by decide +kernel) (by decide +kernel))) rfl rfl rfl (by (repeat (first | exact pt_nil | apply pt0 | apply pt1 | apply pt2 | apply pt3 | apply pt4 | apply pt5 | apply pt6 | apply pt7 | apply pt8 | apply pt9 | apply pt10 | apply pt11 | apply pt12 | apply pt13 | apply pt14 | apply pt15 | apply pt16 | apply pt17))) (by (repeat (first | exact ro_nil | exact ro_rest (by assumption) | refine ro_cons (by first | exact .inl (by assumption) | exact ro_f0 (fun _ h => h) | exact ro_f0 (fun _ => slc_rsl) | exact ro_f1 (fun _ h => h) | exact ro_f1 (fun _ => slc_rsl) | exact ro_f2 (fun _ h => h) | exact ro_f2 (fun _ => slc_rsl) | exact ro_f3 (fun _ h => h) | exact ro_f3 (fun _ => slc_rsl) | exact ro_f4 (fun _ h => h) | exact ro_f4 (fun _ => slc_rsl) | exact ro_f5 (fun _ h => h) | exact ro_f5 (fun _ => slc_rsl) | exact ro_f6 (fun _ h => h) | exact ro_f6 (fun _ => slc_rsl)) ?_)))) (wl_ex fun x34 hx34 => ?_)
    refine wl_y rfl (y_move rfl) ?_
    refine wl_y rfl (y_extract rfl rfl) ?_
    refine wl_y rfl (y_extract rfl rfl) ?_
    refine wl_w (fun _ _ => want_none) rfl (yw_alloc T30 rfl) (wl_ex fun b8 _ => ?_)
    first | refine wl_u (yu_storeAgg [] (l' := [_, _, _, _, _, _]) T30 rfl rfl rfl (by simp [Value.oneCell', encL, encJ]) rfl rfl) ?_ | refine wl_u (yu_storeAgg [_] (l' := [_, _, _, _, _, _]) T30 rfl rfl rfl (by simp [Value.oneCell', encL, encJ]) rfl rfl) ?_ | refine wl_u (yu_storeAgg [_, _] (l' := [_, _, _, _, _, _]) T30 rfl rfl rfl (by simp [Value.oneCell', encL, encJ]) rfl rfl) ?_ | refine wl_u (yu_storeAgg [_, _, _] (l' := [_, _, _, _, _, _]) T30 rfl rfl rfl (by simp [Value.oneCell', encL, encJ]) rfl rfl) ?_ | refine wl_u (yu_storeAgg [_, _, _, _] (l' := [_, _, _, _, _, _]) T30 rfl rfl rfl (by simp [Value.oneCell', encL, encJ]) rfl rfl) ?_ | refine wl_u (yu_storeAgg [_, _, _, _, _] (l' := [_, _, _, _, _, _]) T30 rfl rfl rfl (by simp [Value.oneCell', encL, encJ]) rfl rfl) ?_ | refine wl_u (yu_storeAgg [_, _, _, _, _, _] (l' := [_, _, _, _, _, _]) T30 rfl rfl rfl (by simp [Value.oneCell', encL, encJ]) rfl rfl) ?_ | refine wl_u (yu_storeAgg [_, _, _, _, _, _, _] (l' := [_, _, _, _, _, _]) T30 rfl rfl rfl (by simp [Value.oneCell', encL, encJ]) rfl rfl) ?_
    refine wl_y rfl (y_assign rfl) ?_
    refine wl_nil ?_
    refine wq_then ?_
    refine wc_seq ?_
    refine wc_region ?_
    refine wl_y rfl (y_move rfl) ?_
    refine wl_y rfl (y_eqlI rfl rfl) ?_
    refine wl_y rfl (y_move rfl) ?_
    refine wl_known 39 true rfl (by decide) ?_
    refine wl_yg rfl rfl rfl (y_fieldAddr F30_2 rfl) ?_
    refine wl_yg rfl rfl rfl (y_load NA3 rfl (by first | exact cell_blk [] rfl | exact cell_blk [_] rfl | exact cell_blk [_, _] rfl | exact cell_blk [_, _, _] rfl | exact cell_blk [_, _, _, _] rfl | exact cell_blk [_, _, _, _, _] rfl | exact cell_blk [_, _, _, _, _, _] rfl | exact cell_blk [_, _, _, _, _, _, _] rfl | exact cellR_blk (by assumption) rfl)) ?_
    refine wl_yg rfl rfl rfl (y_eqlI rfl rfl) ?_
    refine wl_y rfl (y_pick_t rfl rfl) ?_
    refine wl_y rfl (y_move rfl) ?_
    refine wl_known 44 true rfl (by decide) ?_
    refine wl_yg rfl rfl rfl (y_fieldAddr F30_3 rfl) ?_
    refine wl_yg rfl rfl rfl (y_load NA3 rfl (by first | exact cell_blk [] rfl | exact cell_blk [_] rfl | exact cell_blk [_, _] rfl | exact cell_blk [_, _, _] rfl | exact cell_blk [_, _, _, _] rfl | exact cell_blk [_, _, _, _, _] rfl | exact cell_blk [_, _, _, _, _, _] rfl | exact cell_blk [_, _, _, _, _, _, _] rfl | exact cellR_blk (by assumption) rfl)) ?_
    refine wl_yg rfl rfl rfl (y_eqlI rfl rfl) ?_
    refine wl_y rfl (y_pick_t rfl rfl) ?_
    refine wl_y rfl (y_move rfl) ?_
    refine wl_known 49 true rfl (by decide) ?_
    refine wl_yg rfl rfl rfl (y_move rfl) ?_
    refine wl_yg rfl rfl rfl (y_lenSl Try.underlying33 rfl) ?_
    refine wl_yg rfl rfl rfl (y_eqlI rfl rfl) ?_
    refine wl_y rfl (y_pick_t rfl rfl) ?_
    refine wl_y rfl (y_move rfl) ?_
    refine wl_known 54 true rfl (by decide) ?_
    refine wl_yg rfl rfl rfl (y_move rfl) ?_
    refine wl_yg rfl rfl rfl (y_loadAgg (l := [_, _, _]) AG28 rfl rfl (by first | exact cells_blk [] rfl | exact cells_blk [_] rfl | exact cells_blk [_, _] rfl | exact cells_blk [_, _, _] rfl | exact cells_blk [_, _, _, _] rfl | exact cells_blk [_, _, _, _, _] rfl | exact cells_blk [_, _, _, _, _, _] rfl | exact cells_blk [_, _, _, _, _, _, _] rfl | exact cellsR_blk (by assumption) rfl)) ?_
    refine wl_w (want_some rfl rfl) rfl (yw_buildSlice (cs := ([k0] : List Jb).flatMap encJ) Try.underlying33 T28 rfl rfl rfl rfl rfl rfl rfl) (wl_ex fun b57 _ => ?_)
    refine wl_q (want_some rfl rfl) rfl (yq_spec (fst := []) (cap := []) _ FN18 (jobs_c [k0] [k0] x30.1 (some ⟨b57, 0, none⟩) x30.2 1 (by decide)) rfl rfl rfl (by (repeat (first | exact pt_nil | apply pt0 | apply pt1 | apply pt2 | apply pt3 | apply pt4 | apply pt5 | apply pt6 | apply pt7 | apply pt8 | apply pt9 | apply pt10 | apply pt11 | apply pt12 | apply pt13 | apply pt14 | apply pt15 | apply pt16 | apply pt17))) (by (repeat (first | exact ro_nil | exact ro_rest (by assumption) | refine ro_cons (by first | exact .inl (by assumption) | exact ro_f0 (fun _ h => h) | exact ro_f0 (fun _ => slc_rsl) | exact ro_f1 (fun _ h => h) | exact ro_f1 (fun _ => slc_rsl) | exact ro_f2 (fun _ h => h) | exact ro_f2 (fun _ => slc_rsl) | exact ro_f3 (fun _ h => h) | exact ro_f3 (fun _ => slc_rsl) | exact ro_f4 (fun _ h => h) | exact ro_f4 (fun _ => slc_rsl) | exact ro_f5 (fun _ h => h) | exact ro_f5 (fun _ => slc_rsl) | exact ro_f6 (fun _ h => h) | exact ro_f6 (fun _ => slc_rsl)) ?_))) (fun _ _ => rfl) (fun _ _ _ h => h.sub (by (repeat (first | exact pt_nil | apply pt0 | apply pt1 | apply pt2 | apply pt3 | apply pt4 | apply pt5 | apply pt6 | apply pt7 | apply pt8 | apply pt9 | apply pt10 | apply pt11 | apply pt12 | apply pt13 | apply pt14 | apply pt15 | apply pt16 | apply pt17))))) ?_
    refine wl_y rfl (y_pick_t rfl rfl) ?_
    refine wl_y rfl (y_move rfl) ?_
    refine wl_known 60 true rfl (by decide) ?_
    refine wl_yg rfl rfl rfl (y_move rfl) ?_
    refine wl_yg rfl rfl rfl (y_eqlI rfl rfl) ?_
    refine wl_y rfl (y_pick_t rfl rfl) ?_
    refine wl_y rfl (y_move rfl) ?_
    refine wl_known 64 true rfl (by decide) ?_
    refine wl_yg rfl rfl rfl (y_fieldAddr F30_2 rfl) ?_
    refine wl_yg rfl rfl rfl (y_load NA3 rfl (by first | exact cell_blk [] rfl | exact cell_blk [_] rfl | exact cell_blk [_, _] rfl | exact cell_blk [_, _, _] rfl | exact cell_blk [_, _, _, _] rfl | exact cell_blk [_, _, _, _, _] rfl | exact cell_blk [_, _, _, _, _, _] rfl | exact cell_blk [_, _, _, _, _, _, _] rfl | exact cellR_blk (by assumption) rfl)) ?_
    refine wl_yg rfl rfl rfl (y_eqlI rfl rfl) ?_
    refine wl_y rfl (y_pick_t rfl rfl) ?_
    refine wl_y rfl (y_move rfl) ?_
    refine wl_known 69 true rfl (by decide) ?_
    refine wl_yg rfl rfl rfl (y_move rfl) ?_
    refine wl_c (want_some rfl rfl) rfl (yc_spec (fst := []) (cap := []) _ FN16 (finish_at (finish_stale 5 (0 + 1 + 1) [107] (⟨k0, [118], 0 + 1 + 1, 6 + 5⟩ : Ls) 1 (by decide))) rfl rfl rfl (by (repeat (first | exact pt_nil | apply pt0 | apply pt1 | apply pt2 | apply pt3 | apply pt4 | apply pt5 | apply pt6 | apply pt7 | apply pt8 | apply pt9 | apply pt10 | apply pt11 | apply pt12 | apply pt13 | apply pt14 | apply pt15 | apply pt16 | apply pt17))) (by (repeat (first | exact ro_nil | exact ro_rest (by assumption) | refine ro_cons (by first | exact .inl (by assumption) | exact ro_f0 (fun _ h => h) | exact ro_f0 (fun _ => slc_rsl) | exact ro_f1 (fun _ h => h) | exact ro_f1 (fun _ => slc_rsl) | exact ro_f2 (fun _ h => h) | exact ro_f2 (fun _ => slc_rsl) | exact ro_f3 (fun _ h => h) | exact ro_f3 (fun _ => slc_rsl) | exact ro_f4 (fun _ h => h) | exact ro_f4 (fun _ => slc_rsl) | exact ro_f5 (fun _ h => h) | exact ro_f5 (fun _ => slc_rsl) | exact ro_f6 (fun _ h => h) | exact ro_f6 (fun _ => slc_rsl)) ?_)))) (wl_ex fun x71 hx71 => ?_)
    refine wl_yg rfl rfl rfl (y_eqlI rfl rfl) ?_
    refine wl_y rfl (y_pick_t rfl rfl) ?_
    refine wl_y rfl (y_move rfl) ?_
    refine wl_known 74 true rfl (by decide) ?_
    refine wl_yg rfl rfl rfl (y_move rfl) ?_
    refine wl_c (want_some rfl rfl) rfl (yc_spec (fst := []) (cap := []) _ FN16 (finish_at (finish_hit 5 (0 + 1 + 1) [107] (⟨k0, [118], 0 + 1 + 1, 6 + 5⟩ : Ls))) rfl rfl rfl (by (repeat (first | exact pt_nil | apply pt0 | apply pt1 | apply pt2 | apply pt3 | apply pt4 | apply pt5 | apply pt6 | apply pt7 | apply pt8 | apply pt9 | apply pt10 | apply pt11 | apply pt12 | apply pt13 | apply pt14 | apply pt15 | apply pt16 | apply pt17))) (by (repeat (first | exact ro_nil | exact ro_rest (by assumption) | refine ro_cons (by first | exact .inl (by assumption) | exact ro_f0 (fun _ h => h) | exact ro_f0 (fun _ => slc_rsl) | exact ro_f1 (fun _ h => h) | exact ro_f1 (fun _ => slc_rsl) | exact ro_f2 (fun _ h => h) | exact ro_f2 (fun _ => slc_rsl) | exact ro_f3 (fun _ h => h) | exact ro_f3 (fun _ => slc_rsl) | exact ro_f4 (fun _ h => h) | exact ro_f4 (fun _ => slc_rsl) | exact ro_f5 (fun _ h => h) | exact ro_f5 (fun _ => slc_rsl) | exact ro_f6 (fun _ h => h) | exact ro_f6 (fun _ => slc_rsl)) ?_)))) (wl_ex fun x76 hx76 => ?_)
    refine wl_yg rfl rfl rfl (y_eqlI rfl rfl) ?_
    refine wl_y rfl (y_pick_t rfl rfl) ?_
    refine wl_y rfl (y_move rfl) ?_
    refine wl_known 79 true rfl (by decide) ?_
    refine wl_yg rfl rfl rfl (y_move rfl) ?_
    refine wl_c (want_some rfl rfl) rfl (yc_spec (fst := []) (cap := []) _ FN16 (finish_at (finish_none 5 (0 + 1 + 1) [107] 2)) rfl rfl rfl (by (repeat (first | exact pt_nil | apply pt0 | apply pt1 | apply pt2 | apply pt3 | apply pt4 | apply pt5 | apply pt6 | apply pt7 | apply pt8 | apply pt9 | apply pt10 | apply pt11 | apply pt12 | apply pt13 | apply pt14 | apply pt15 | apply pt16 | apply pt17))) (by (repeat (first | exact ro_nil | exact ro_rest (by assumption) | refine ro_cons (by first | exact .inl (by assumption) | exact ro_f0 (fun _ h => h) | exact ro_f0 (fun _ => slc_rsl) | exact ro_f1 (fun _ h => h) | exact ro_f1 (fun _ => slc_rsl) | exact ro_f2 (fun _ h => h) | exact ro_f2 (fun _ => slc_rsl) | exact ro_f3 (fun _ h => h) | exact ro_f3 (fun _ => slc_rsl) | exact ro_f4 (fun _ h => h) | exact ro_f4 (fun _ => slc_rsl) | exact ro_f5 (fun _ h => h) | exact ro_f5 (fun _ => slc_rsl) | exact ro_f6 (fun _ h => h) | exact ro_f6 (fun _ => slc_rsl)) ?_)))) (wl_ex fun x81 hx81 => ?_)
    refine wl_yg rfl rfl rfl (y_eqlI rfl rfl) ?_
    refine wl_y rfl (y_pick_t rfl rfl) ?_
    refine wl_y rfl (y_assign rfl) ?_
    refine wl_nil ?_
    refine wq_then ?_
    refine wc_ret ?_
    refine wq_ret1 rfl rfl (fun w hw => ?_)
    exact ⟨(), trivial, rfl, hw.bare⟩

end Go.Proofs.Ytjcegolhokfkoaa
