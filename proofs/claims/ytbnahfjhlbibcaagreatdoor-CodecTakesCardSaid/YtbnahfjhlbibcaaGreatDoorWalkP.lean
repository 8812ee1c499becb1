/-
  Walks: events, reports, tasks, tables as bytes.
-/
import Derived.Test.YtbnahfjhlbibcaaGreatDoorWalkO
namespace Go.Proofs.YtbnahfjhlbibcaaGreatDoor
open Go.Eng

open Go.Lib
def fr17_1 (b1 : Nat) (k : Int) (x : OpV) : List Fr := [⟨0, 3, fun b => .pointer (some ⟨b, 0, none⟩), fun b => [bldA 88 5 (b) ([])], []⟩,
  ⟨1, 4, fun _ => .pointer (some ⟨b1, 0, none⟩), fun _ => [], [(1, .pointer (some ⟨b1, 0, none⟩))]⟩,
  ⟨2, 5, fun _ => vI k, fun _ => [], [(4, .pointer (some ⟨b1, 0, none⟩))]⟩,
  ⟨3, 6, fun b => .slice (some ⟨b, 0, none⟩) 1 1, fun b => [slc 3 1 (some ⟨b, 0, none⟩) 1 1 [vI k]], [(5, vI k)]⟩,
  ⟨5, 8, fun _ => .pointer (some ⟨b1, 1, none⟩), fun _ => [], [(1, .pointer (some ⟨b1, 0, none⟩))]⟩,
  ⟨6, 9, fun _ => .agg #[vS x.name, vSl x.graph, vSl x.snap, vS x.goal, vI x.state, vI x.res.err, vS x.res.loc, vS x.res.text, vSl x.res.files], fun _ => [], [(8, .pointer (some ⟨b1, 1, none⟩))]⟩]
set_option maxHeartbeats 1000000 in
theorem event_c (k : Int) (x : OpV) (hk : inR k) (hi : x.er.inr) (hl : (flatF (evL k x.er)).length ≤ 800000000) :
    Ctr Tryz.prog 17 #[.agg (encEv k x).toArray] [libS, opA x] [] (fun _ : Unit => True) (fun _ => vS (flatF (evL k x.er))) (fun _ => []) := by
  refine spec_start (n := 14) [(0, .agg (encEv k x).toArray)] Tryz.func17 rfl rfl ⟨rfl, trivial⟩ rfl ?_
  intro w0 K hR
  have hB := hR libS (by simp)
  have hA := hR (opA x) (by simp)
  have e := ev_split k x
  have el := congrArg List.length e
  simp only [List.length_append] at el
  refine wc_seq ?_
  refine wc_region ?_
  refine wl_w (fun _ _ => want_none) rfl (yw_box rfl rfl) (wl_ex fun b1 _ => ?_)
  refine wl_y rfl (y_assign rfl) ?_
  refine wl_nil ?_
  refine wq_then ?_
  refine wc_seq ?_
  refine wc_world (S' := Hp w0 K ([] ++ [blk b1 (.cells (encEv k x).toArray 31 (0, 0))])) (fun w hw => hw.sub (by (repeat (first | exact pt_nil | apply pt0 | apply pt1 | apply pt2 | apply pt3 | apply pt4 | apply pt5 | apply pt6 | apply pt7 | apply pt8 | apply pt9 | apply pt10 | apply pt11 | apply pt12 | apply pt13 | apply pt14 | apply pt15 | apply pt16 | apply pt17)))) ?_
  refine wc_weaken [(1, _)] ⟨rfl, trivial⟩ ?_
  refine wc_net' (fr17_1 b1 k x) [(4, 7, [0, 3]), (7, 10, [5]), (8, 11, []), (9, 12, []), (10, 13, []), (11, 2, [])] MO (by kernel_rfl) ?_ ?_
  · refine fr_cons ?_ (fr_cons ?_ (fr_cons ?_ (fr_cons ?_ (fr_cons ?_ (fr_cons ?_ fr_nil)))))
    · exact fr_mk rfl rfl rfl rfl need_nil (fun _ => yw_turn (yw_alloc T88 rfl) (fun _ _ h => bld_new h))
    · exact fr_mk rfl rfl rfl rfl (need_base rfl need_nil) (fun _ => yw_q (y_fieldAddr F31_0 rfl))
    · exact fr_mk rfl rfl rfl rfl (need_free 1 rfl rfl (fun _ => rfl) rfl need_nil) (fun _ => yw_q (y_load NA3 rfl (by first | exact cell_blk [] rfl | exact cell_blk [_] rfl | exact cell_blk [_, _] rfl | exact cell_blk [_, _, _] rfl | exact cell_blk [_, _, _, _] rfl | exact cellR_blk (by assumption) rfl)))
    · exact fr_mk rfl rfl rfl rfl (need_free 2 rfl rfl (fun _ => rfl) rfl need_nil) (fun _ => yw_buildSlice (cs := [vI k]) Tryz.underlying112 T3 rfl rfl rfl rfl rfl rfl rfl)
    · exact fr_mk rfl rfl rfl rfl (need_base rfl need_nil) (fun _ => yw_q (y_fieldAddr F31_1 rfl))
    · exact fr_mk rfl rfl rfl rfl (need_free 4 rfl rfl (fun _ => rfl) rfl need_nil) (fun _ => yw_q (y_loadAgg (l := [_, _, _, _, _, _, _, _, _]) AG29 rfl rfl (by first | exact cells_blk [] rfl | exact cells_blk [_] rfl | exact cells_blk [_, _] rfl | exact cells_blk [_, _, _] rfl | exact cells_blk [_, _, _, _] rfl | exact cellsR_blk (by assumption) rfl)))
  refine lin_mk rfl rfl rfl rfl (fun bs7 => ?_)
  refine at_c (fst := []) (cap := []) _ (fun _ => [bldA 88 5 (bs7 0) (([] ++ flatF ([k].map itoa)))]) FN43 (sheet_num (bs7 0) [] [k] (some ⟨bs7 3, 0, none⟩) 1 (one_inR hk) (by first | omega | (simp only [List.length_append]; omega))) rfl rfl rfl (by (repeat (first | exact pt_nil | apply pt0 | apply pt1 | apply pt2 | apply pt3 | apply pt4 | apply pt5 | apply pt6 | apply pt7 | apply pt8 | apply pt9 | apply pt10 | apply pt11 | apply pt12 | apply pt13 | apply pt14 | apply pt15 | apply pt16 | apply pt17))) (by (repeat (first | exact ro_nil | exact ro_rest (by assumption) | refine ro_cons (by first | exact .inl (by assumption) | exact ro_f0 (fun _ h => h) | exact ro_f0 (fun _ => slc_rsl) | exact ro_f1 (fun _ h => h) | exact ro_f1 (fun _ => slc_rsl) | exact ro_f2 (fun _ h => h) | exact ro_f2 (fun _ => slc_rsl) | exact ro_f3 (fun _ h => h) | exact ro_f3 (fun _ => slc_rsl) | exact ro_f4 (fun _ h => h) | exact ro_f4 (fun _ => slc_rsl) | exact ro_f5 (fun _ h => h) | exact ro_f5 (fun _ => slc_rsl) | exact ro_f6 (fun _ h => h) | exact ro_f6 (fun _ => slc_rsl)) ?_))) (fun _ => by (repeat (first | exact pt_nil | apply pt0 | apply pt1 | apply pt2 | apply pt3 | apply pt4 | apply pt5 | apply pt6 | apply pt7 | apply pt8 | apply pt9 | apply pt10 | apply pt11 | apply pt12 | apply pt13 | apply pt14 | apply pt15 | apply pt16 | apply pt17))) (fun x7 hx7 => ?_)
  refine lin_mk rfl rfl rfl rfl (fun bs10 => ?_)
  refine at_c (fst := []) (cap := []) _ (fun _ => [bldA 88 5 (bs7 0) ((([] ++ flatF ([k].map itoa)) ++ flatF x.er.L))]) FN44 (op_c (bs7 0) ([] ++ flatF ([k].map itoa)) x hi (by first | omega | (simp only [List.length_append]; omega))) rfl rfl rfl (by (repeat (first | exact pt_nil | apply pt0 | apply pt1 | apply pt2 | apply pt3 | apply pt4 | apply pt5 | apply pt6 | apply pt7 | apply pt8 | apply pt9 | apply pt10 | apply pt11 | apply pt12 | apply pt13 | apply pt14 | apply pt15 | apply pt16 | apply pt17))) (by (repeat (first | exact ro_nil | exact ro_rest (by assumption) | refine ro_cons (by first | exact .inl (by assumption) | exact ro_f0 (fun _ h => h) | exact ro_f0 (fun _ => slc_rsl) | exact ro_f1 (fun _ h => h) | exact ro_f1 (fun _ => slc_rsl) | exact ro_f2 (fun _ h => h) | exact ro_f2 (fun _ => slc_rsl) | exact ro_f3 (fun _ h => h) | exact ro_f3 (fun _ => slc_rsl) | exact ro_f4 (fun _ h => h) | exact ro_f4 (fun _ => slc_rsl) | exact ro_f5 (fun _ h => h) | exact ro_f5 (fun _ => slc_rsl) | exact ro_f6 (fun _ h => h) | exact ro_f6 (fun _ => slc_rsl)) ?_))) (fun _ => by (repeat (first | exact pt_nil | apply pt0 | apply pt1 | apply pt2 | apply pt3 | apply pt4 | apply pt5 | apply pt6 | apply pt7 | apply pt8 | apply pt9 | apply pt10 | apply pt11 | apply pt12 | apply pt13 | apply pt14 | apply pt15 | apply pt16 | apply pt17))) (fun x10 hx10 => ?_)
  refine lin_mk rfl rfl rfl rfl (fun bs11 => ?_)
  refine at_q (fun _ => y_nilCheck rfl) ?_
  refine lin_mk rfl rfl rfl rfl (fun bs12 => ?_)
  refine at_q (fun _ => y_fieldAddr F88_0 rfl) ?_
  refine lin_mk rfl rfl rfl rfl (fun bs13 => ?_)
  refine at_c (fst := []) (cap := []) _ (fun _ => []) FN45 (stringT_c 88 (bs7 0) (([] ++ flatF ([k].map itoa)) ++ flatF x.er.L) (by first | omega | (simp only [List.length_append]; omega))) rfl rfl rfl (by (repeat (first | exact pt_nil | apply pt0 | apply pt1 | apply pt2 | apply pt3 | apply pt4 | apply pt5 | apply pt6 | apply pt7 | apply pt8 | apply pt9 | apply pt10 | apply pt11 | apply pt12 | apply pt13 | apply pt14 | apply pt15 | apply pt16 | apply pt17))) (by (repeat (first | exact ro_nil | exact ro_rest (by assumption) | refine ro_cons (by first | exact .inl (by assumption) | exact ro_f0 (fun _ h => h) | exact ro_f0 (fun _ => slc_rsl) | exact ro_f1 (fun _ h => h) | exact ro_f1 (fun _ => slc_rsl) | exact ro_f2 (fun _ h => h) | exact ro_f2 (fun _ => slc_rsl) | exact ro_f3 (fun _ h => h) | exact ro_f3 (fun _ => slc_rsl) | exact ro_f4 (fun _ h => h) | exact ro_f4 (fun _ => slc_rsl) | exact ro_f5 (fun _ h => h) | exact ro_f5 (fun _ => slc_rsl) | exact ro_f6 (fun _ h => h) | exact ro_f6 (fun _ => slc_rsl)) ?_))) (fun _ => by (repeat (first | exact pt_nil | apply pt0 | apply pt1 | apply pt2 | apply pt3 | apply pt4 | apply pt5 | apply pt6 | apply pt7 | apply pt8 | apply pt9 | apply pt10 | apply pt11 | apply pt12 | apply pt13 | apply pt14 | apply pt15 | apply pt16 | apply pt17))) (fun x13 hx13 => ?_)
  refine lin_mk rfl rfl rfl rfl (fun bs2 => ?_)
  refine at_q (fun _ => y_assign rfl) ?_
  refine lin_nil (fun Fs => ?_)
  refine wq_then ?_
  refine wc_ret ?_
  refine wq_ret1 rfl rfl (fun w hw => ?_)
  exact ⟨(), trivial, by rw [e], hw.bare⟩

theorem rep_split (r : RepV) : flatF r.er.L = (((((((([] ++ flatF [r.key]) ++ flatF ([r.epoch, r.out.kind].map itoa)) ++ flatF [filesT r.out.files.xs]) ++ flatF [r.out.need]) ++ flatF ([r.out.err].map itoa)) ++ flatF [r.out.text]) ++ flatF ([r.out.used].map itoa))) := by
  simp [PP.L, PU.L, RepV.er, OutV.er, flat_cons, flat_nil]
theorem task_split (t : TaskV) : flatF t.er.L = ((((([] ++ flatF [t.key]) ++ flatF ([t.epoch].map itoa)) ++ flatF [t.cmd]) ++ flatF [filesT t.files.xs]) ++ textF (flatF t.names.xs)) ++ textF (itoa t.fuel) := by
  simp [PK.L, TaskV.er, flat_cons, flat_nil]
theorem tableT_e (s : Sl OpV) : tableT (opsE s) = textF (flatF (s.xs.map (fun y : OpV => flatF y.er.L))) := by rw [tableT, opsE, List.map_map]; rfl
end Go.Proofs.YtbnahfjhlbibcaaGreatDoor
