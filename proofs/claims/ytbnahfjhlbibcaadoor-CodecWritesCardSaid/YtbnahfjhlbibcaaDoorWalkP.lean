/-
  Walks: events, reports, tasks, tables as bytes.
-/
import Derived.Test.YtbnahfjhlbibcaaDoorWalkO
namespace Go.Proofs.YtbnahfjhlbibcaaDoor
open Go.Eng

open Go.Lib
def fr22_1 (b1 : Nat) (k : Int) (x : OpV) : List Fr := [⟨0, 3, fun b => .pointer (some ⟨b, 0, none⟩), fun b => [bldA 81 5 (b) ([])], []⟩,
  ⟨1, 4, fun _ => .pointer (some ⟨b1, 0, none⟩), fun _ => [], [(1, .pointer (some ⟨b1, 0, none⟩))]⟩,
  ⟨2, 5, fun _ => vI k, fun _ => [], [(4, .pointer (some ⟨b1, 0, none⟩))]⟩,
  ⟨3, 6, fun b => .slice (some ⟨b, 0, none⟩) 1 1, fun b => [slc 3 1 (some ⟨b, 0, none⟩) 1 1 [vI k]], [(5, vI k)]⟩,
  ⟨5, 8, fun _ => .pointer (some ⟨b1, 1, none⟩), fun _ => [], [(1, .pointer (some ⟨b1, 0, none⟩))]⟩,
  ⟨6, 9, fun _ => .agg #[vS x.name, vSl x.graph, vSl x.snap, vS x.goal, vI x.state, vI x.res.err, vS x.res.loc, vS x.res.text, vSl x.res.files], fun _ => [], [(8, .pointer (some ⟨b1, 1, none⟩))]⟩]
set_option maxHeartbeats 1000000 in
theorem event_c (k : Int) (x : OpV) (hk : inR k) (hi : x.er.inr) (hl : (flatF (evL k x.er)).length ≤ 800000000) :
    Ctr Tryd.prog 22 #[.agg (encEv k x).toArray] [libS, opA x] [] (fun _ : Unit => True) (fun _ => vS (flatF (evL k x.er))) (fun _ => []) := by
  refine spec_start (n := 14) [(0, .agg (encEv k x).toArray)] Tryd.func22 rfl rfl ⟨rfl, trivial⟩ rfl ?_
  intro w0 K hR
  have hB := hR libS (by simp)
  have hA := hR (opA x) (by simp)
  have e := ev_split k x
  have el := congrArg List.length e
  simp only [List.length_append] at el
  refine wc_seq ?_
  refine wc_region ?_
  refine wl_w (fun _ _ => want_none) rfl (yw_box rfl rfl) (wl_ex fun b1 _ => ?_)
  refine wl_y rfl (y_assign rfl) ?_
  refine wl_nil ?_
  refine wq_then ?_
  refine wc_seq ?_
  refine wc_world (S' := Hp w0 K ([] ++ [blk b1 (.cells (encEv k x).toArray 49 (0, 0))])) (fun w hw => hw.sub (by (repeat (first | exact pt_nil | apply pt0 | apply pt1 | apply pt2 | apply pt3 | apply pt4 | apply pt5 | apply pt6 | apply pt7 | apply pt8 | apply pt9 | apply pt10 | apply pt11 | apply pt12 | apply pt13 | apply pt14 | apply pt15 | apply pt16 | apply pt17)))) ?_
  refine wc_weaken [(1, _)] ⟨rfl, trivial⟩ ?_
  refine wc_net' (fr22_1 b1 k x) [(4, 7, [0, 3]), (7, 10, [5]), (8, 11, []), (9, 12, []), (10, 13, []), (11, 2, [])] MO (by kernel_rfl) ?_ ?_
  · refine fr_cons ?_ (fr_cons ?_ (fr_cons ?_ (fr_cons ?_ (fr_cons ?_ (fr_cons ?_ fr_nil)))))
    · exact fr_mk rfl rfl rfl rfl need_nil (fun _ => yw_turn (yw_alloc T81 rfl) (fun _ _ h => bld_new h))
    · exact fr_mk rfl rfl rfl rfl (need_base rfl need_nil) (fun _ => yw_q (y_fieldAddr F49_0 rfl))
    · exact fr_mk rfl rfl rfl rfl (need_free 1 rfl rfl (fun _ => rfl) rfl need_nil) (fun _ => yw_q (y_load NA3 rfl (by first | exact cell_blk [] rfl | exact cell_blk [_] rfl | exact cell_blk [_, _] rfl | exact cell_blk [_, _, _] rfl | exact cell_blk [_, _, _, _] rfl | exact cellR_blk (by assumption) rfl)))
    · exact fr_mk rfl rfl rfl rfl (need_free 2 rfl rfl (fun _ => rfl) rfl need_nil) (fun _ => yw_buildSlice (cs := [vI k]) Tryd.underlying118 T3 rfl rfl rfl rfl rfl rfl rfl)
    · exact fr_mk rfl rfl rfl rfl (need_base rfl need_nil) (fun _ => yw_q (y_fieldAddr F49_1 rfl))
    · exact fr_mk rfl rfl rfl rfl (need_free 4 rfl rfl (fun _ => rfl) rfl need_nil) (fun _ => yw_q (y_loadAgg (l := [_, _, _, _, _, _, _, _, _]) AG47 rfl rfl (by first | exact cells_blk [] rfl | exact cells_blk [_] rfl | exact cells_blk [_, _] rfl | exact cells_blk [_, _, _] rfl | exact cells_blk [_, _, _, _] rfl | exact cellsR_blk (by assumption) rfl)))
  refine lin_mk rfl rfl rfl rfl (fun bs7 => ?_)
  refine at_c (fst := []) (cap := []) _ (fun _ => [bldA 81 5 (bs7 0) (([] ++ flatF ([k].map itoa)))]) FN37 (sheet_num (bs7 0) [] [k] (some ⟨bs7 3, 0, none⟩) 1 (one_inR hk) (by first | omega | (simp only [List.length_append]; omega))) rfl rfl rfl (by (repeat (first | exact pt_nil | apply pt0 | apply pt1 | apply pt2 | apply pt3 | apply pt4 | apply pt5 | apply pt6 | apply pt7 | apply pt8 | apply pt9 | apply pt10 | apply pt11 | apply pt12 | apply pt13 | apply pt14 | apply pt15 | apply pt16 | apply pt17))) (by (repeat (first | exact ro_nil | exact ro_rest (by assumption) | refine ro_cons (by first | exact .inl (by assumption) | exact ro_f0 (fun _ h => h) | exact ro_f0 (fun _ => slc_rsl) | exact ro_f1 (fun _ h => h) | exact ro_f1 (fun _ => slc_rsl) | exact ro_f2 (fun _ h => h) | exact ro_f2 (fun _ => slc_rsl) | exact ro_f3 (fun _ h => h) | exact ro_f3 (fun _ => slc_rsl) | exact ro_f4 (fun _ h => h) | exact ro_f4 (fun _ => slc_rsl) | exact ro_f5 (fun _ h => h) | exact ro_f5 (fun _ => slc_rsl) | exact ro_f6 (fun _ h => h) | exact ro_f6 (fun _ => slc_rsl)) ?_))) (fun _ => by (repeat (first | exact pt_nil | apply pt0 | apply pt1 | apply pt2 | apply pt3 | apply pt4 | apply pt5 | apply pt6 | apply pt7 | apply pt8 | apply pt9 | apply pt10 | apply pt11 | apply pt12 | apply pt13 | apply pt14 | apply pt15 | apply pt16 | apply pt17))) (fun x7 hx7 => ?_)
  refine lin_mk rfl rfl rfl rfl (fun bs10 => ?_)
  refine at_c (fst := []) (cap := []) _ (fun _ => [bldA 81 5 (bs7 0) ((([] ++ flatF ([k].map itoa)) ++ flatF x.er.L))]) FN51 (op_c (bs7 0) ([] ++ flatF ([k].map itoa)) x hi (by first | omega | (simp only [List.length_append]; omega))) rfl rfl rfl (by (repeat (first | exact pt_nil | apply pt0 | apply pt1 | apply pt2 | apply pt3 | apply pt4 | apply pt5 | apply pt6 | apply pt7 | apply pt8 | apply pt9 | apply pt10 | apply pt11 | apply pt12 | apply pt13 | apply pt14 | apply pt15 | apply pt16 | apply pt17))) (by (repeat (first | exact ro_nil | exact ro_rest (by assumption) | refine ro_cons (by first | exact .inl (by assumption) | exact ro_f0 (fun _ h => h) | exact ro_f0 (fun _ => slc_rsl) | exact ro_f1 (fun _ h => h) | exact ro_f1 (fun _ => slc_rsl) | exact ro_f2 (fun _ h => h) | exact ro_f2 (fun _ => slc_rsl) | exact ro_f3 (fun _ h => h) | exact ro_f3 (fun _ => slc_rsl) | exact ro_f4 (fun _ h => h) | exact ro_f4 (fun _ => slc_rsl) | exact ro_f5 (fun _ h => h) | exact ro_f5 (fun _ => slc_rsl) | exact ro_f6 (fun _ h => h) | exact ro_f6 (fun _ => slc_rsl)) ?_))) (fun _ => by (repeat (first | exact pt_nil | apply pt0 | apply pt1 | apply pt2 | apply pt3 | apply pt4 | apply pt5 | apply pt6 | apply pt7 | apply pt8 | apply pt9 | apply pt10 | apply pt11 | apply pt12 | apply pt13 | apply pt14 | apply pt15 | apply pt16 | apply pt17))) (fun x10 hx10 => ?_)
  refine lin_mk rfl rfl rfl rfl (fun bs11 => ?_)
  refine at_q (fun _ => y_nilCheck rfl) ?_
  refine lin_mk rfl rfl rfl rfl (fun bs12 => ?_)
  refine at_q (fun _ => y_fieldAddr F81_0 rfl) ?_
  refine lin_mk rfl rfl rfl rfl (fun bs13 => ?_)
  refine at_c (fst := []) (cap := []) _ (fun _ => []) FN39 (stringT_c 81 (bs7 0) (([] ++ flatF ([k].map itoa)) ++ flatF x.er.L) (by first | omega | (simp only [List.length_append]; omega))) rfl rfl rfl (by (repeat (first | exact pt_nil | apply pt0 | apply pt1 | apply pt2 | apply pt3 | apply pt4 | apply pt5 | apply pt6 | apply pt7 | apply pt8 | apply pt9 | apply pt10 | apply pt11 | apply pt12 | apply pt13 | apply pt14 | apply pt15 | apply pt16 | apply pt17))) (by (repeat (first | exact ro_nil | exact ro_rest (by assumption) | refine ro_cons (by first | exact .inl (by assumption) | exact ro_f0 (fun _ h => h) | exact ro_f0 (fun _ => slc_rsl) | exact ro_f1 (fun _ h => h) | exact ro_f1 (fun _ => slc_rsl) | exact ro_f2 (fun _ h => h) | exact ro_f2 (fun _ => slc_rsl) | exact ro_f3 (fun _ h => h) | exact ro_f3 (fun _ => slc_rsl) | exact ro_f4 (fun _ h => h) | exact ro_f4 (fun _ => slc_rsl) | exact ro_f5 (fun _ h => h) | exact ro_f5 (fun _ => slc_rsl) | exact ro_f6 (fun _ h => h) | exact ro_f6 (fun _ => slc_rsl)) ?_))) (fun _ => by (repeat (first | exact pt_nil | apply pt0 | apply pt1 | apply pt2 | apply pt3 | apply pt4 | apply pt5 | apply pt6 | apply pt7 | apply pt8 | apply pt9 | apply pt10 | apply pt11 | apply pt12 | apply pt13 | apply pt14 | apply pt15 | apply pt16 | apply pt17))) (fun x13 hx13 => ?_)
  refine lin_mk rfl rfl rfl rfl (fun bs2 => ?_)
  refine at_q (fun _ => y_assign rfl) ?_
  refine lin_nil (fun Fs => ?_)
  refine wq_then ?_
  refine wc_ret ?_
  refine wq_ret1 rfl rfl (fun w hw => ?_)
  exact ⟨(), trivial, by rw [e], hw.bare⟩

theorem rep_split (r : RepV) : flatF r.er.L = (((((((([] ++ flatF [r.key]) ++ flatF ([r.epoch, r.out.kind].map itoa)) ++ flatF [filesT r.out.files.xs]) ++ flatF [r.out.need]) ++ flatF ([r.out.err].map itoa)) ++ flatF [r.out.text]) ++ flatF ([r.out.used].map itoa))) := by
  simp [PP.L, PU.L, RepV.er, OutV.er, flat_cons, flat_nil]
theorem task_split (t : TaskV) : flatF t.er.L = ((((([] ++ flatF [t.key]) ++ flatF ([t.epoch].map itoa)) ++ flatF [t.cmd]) ++ flatF [filesT t.files.xs]) ++ textF (flatF t.names.xs)) ++ textF (itoa t.fuel) := by
  simp [PK.L, TaskV.er, flat_cons, flat_nil]
def fr17_2 (b1 b3 : Nat) (r : RepV) : List Fr := [⟨0, 6, fun b => .pointer (some ⟨b, 0, none⟩), fun b => [bldA 81 5 (b) ([])], []⟩,
  ⟨1, 7, fun _ => .pointer (some ⟨b1, 0, none⟩), fun _ => [], [(1, .pointer (some ⟨b1, 0, none⟩))]⟩,
  ⟨2, 8, fun _ => vS r.key, fun _ => [], [(7, .pointer (some ⟨b1, 0, none⟩))]⟩,
  ⟨3, 9, fun b => .slice (some ⟨b, 0, none⟩) 1 1, fun b => [slc 9 1 (some ⟨b, 0, none⟩) 1 1 [vS r.key]], [(8, vS r.key)]⟩,
  ⟨5, 11, fun _ => .pointer (some ⟨b1, 1, none⟩), fun _ => [], [(1, .pointer (some ⟨b1, 0, none⟩))]⟩,
  ⟨6, 12, fun _ => vI r.epoch, fun _ => [], [(11, .pointer (some ⟨b1, 1, none⟩))]⟩,
  ⟨7, 13, fun _ => .pointer (some ⟨b3, 0, none⟩), fun _ => [], [(3, .pointer (some ⟨b3, 0, none⟩))]⟩,
  ⟨8, 14, fun _ => vI r.out.kind, fun _ => [], [(13, .pointer (some ⟨b3, 0, none⟩))]⟩,
  ⟨9, 15, fun b => .slice (some ⟨b, 0, none⟩) 2 2, fun b => [slc 3 1 (some ⟨b, 0, none⟩) 2 2 [vI r.epoch, vI r.out.kind]], [(12, vI r.epoch), (14, vI r.out.kind)]⟩,
  ⟨11, 17, fun _ => .pointer (some ⟨b3, 1, none⟩), fun _ => [], [(3, .pointer (some ⟨b3, 0, none⟩))]⟩,
  ⟨12, 18, fun _ => vSl r.out.files, fun _ => [], [(17, .pointer (some ⟨b3, 1, none⟩))]⟩,
  ⟨14, 20, fun _ => .pointer (some ⟨b3, 2, none⟩), fun _ => [], [(3, .pointer (some ⟨b3, 0, none⟩))]⟩,
  ⟨15, 21, fun _ => vS r.out.need, fun _ => [], [(20, .pointer (some ⟨b3, 2, none⟩))]⟩,
  ⟨16, 22, fun b => .slice (some ⟨b, 0, none⟩) 1 1, fun b => [slc 9 1 (some ⟨b, 0, none⟩) 1 1 [vS r.out.need]], [(21, vS r.out.need)]⟩,
  ⟨18, 24, fun _ => .pointer (some ⟨b3, 3, none⟩), fun _ => [], [(3, .pointer (some ⟨b3, 0, none⟩))]⟩,
  ⟨19, 25, fun _ => vI r.out.err, fun _ => [], [(24, .pointer (some ⟨b3, 3, none⟩))]⟩,
  ⟨20, 26, fun b => .slice (some ⟨b, 0, none⟩) 1 1, fun b => [slc 3 1 (some ⟨b, 0, none⟩) 1 1 [vI r.out.err]], [(25, vI r.out.err)]⟩,
  ⟨22, 28, fun _ => .pointer (some ⟨b3, 4, none⟩), fun _ => [], [(3, .pointer (some ⟨b3, 0, none⟩))]⟩,
  ⟨23, 29, fun _ => vS r.out.text, fun _ => [], [(28, .pointer (some ⟨b3, 4, none⟩))]⟩,
  ⟨24, 30, fun b => .slice (some ⟨b, 0, none⟩) 1 1, fun b => [slc 9 1 (some ⟨b, 0, none⟩) 1 1 [vS r.out.text]], [(29, vS r.out.text)]⟩,
  ⟨26, 32, fun _ => .pointer (some ⟨b3, 5, none⟩), fun _ => [], [(3, .pointer (some ⟨b3, 0, none⟩))]⟩,
  ⟨27, 33, fun _ => vI r.out.used, fun _ => [], [(32, .pointer (some ⟨b3, 5, none⟩))]⟩,
  ⟨28, 34, fun b => .slice (some ⟨b, 0, none⟩) 1 1, fun b => [slc 3 1 (some ⟨b, 0, none⟩) 1 1 [vI r.out.used]], [(33, vI r.out.used)]⟩]
set_option maxHeartbeats 1000000 in
theorem report_c (r : RepV) (hi : r.er.inr) (hl : (flatF r.er.L).length ≤ 800000000) :
    Ctr Tryd.prog 17 #[.agg (encP r).toArray] [libS, filesA r.out.files] [] (fun _ : Unit => True) (fun _ => vS (flatF r.er.L)) (fun _ => []) := by
  refine spec_start (n := 39) [(0, .agg (encP r).toArray)] Tryd.func17 rfl rfl ⟨rfl, trivial⟩ rfl ?_
  intro w0 K hR
  have hB := hR libS (by simp)
  have hA := hR (filesA r.out.files) (by simp)
  have e := rep_split r
  have el := congrArg List.length e
  simp only [List.length_append] at el
  have hf1 := files_len1 (filesT r.out.files.xs)
  refine wc_seq ?_
  refine wc_region ?_
  refine wl_w (fun _ _ => want_none) rfl (yw_box rfl rfl) (wl_ex fun b1 _ => ?_)
  refine wl_y rfl (y_assign rfl) ?_
  refine wl_nil ?_
  refine wq_then ?_
  refine wc_seq ?_
  refine wc_region ?_
  refine wl_y rfl (y_fieldAddr F30_2 rfl) ?_
  refine wl_y rfl (y_loadAgg (l := [_, _, _, _, _, _]) AG28 rfl rfl (by first | exact cells_blk [] rfl | exact cells_blk [_] rfl | exact cells_blk [_, _] rfl | exact cells_blk [_, _, _] rfl | exact cells_blk [_, _, _, _] rfl | exact cellsR_blk (by assumption) rfl)) ?_
  refine wl_w (fun _ _ => want_none) rfl (yw_alloc T28 rfl) (wl_ex fun b3 _ => ?_)
  first | refine wl_u (yu_storeAgg [] (l' := [_, _, _, _, _, _]) T28 rfl rfl rfl (by simp [Value.oneCell']) rfl rfl) ?_ | refine wl_u (yu_storeAgg [_] (l' := [_, _, _, _, _, _]) T28 rfl rfl rfl (by simp [Value.oneCell']) rfl rfl) ?_ | refine wl_u (yu_storeAgg [_, _] (l' := [_, _, _, _, _, _]) T28 rfl rfl rfl (by simp [Value.oneCell']) rfl rfl) ?_ | refine wl_u (yu_storeAgg [_, _, _] (l' := [_, _, _, _, _, _]) T28 rfl rfl rfl (by simp [Value.oneCell']) rfl rfl) ?_ | refine wl_u (yu_storeAgg [_, _, _, _] (l' := [_, _, _, _, _, _]) T28 rfl rfl rfl (by simp [Value.oneCell']) rfl rfl) ?_
  refine wl_nil ?_
  refine wq_then ?_
  refine wc_seq ?_
  refine wc_world (S' := Hp w0 K ([] ++ [blk b3 (.cells (encU r.out).toArray 28 (0, 0)), blk b1 (.cells (encP r).toArray 30 (0, 0))])) (fun w hw => hw.sub (by (repeat (first | exact pt_nil | apply pt0 | apply pt1 | apply pt2 | apply pt3 | apply pt4 | apply pt5 | apply pt6 | apply pt7 | apply pt8 | apply pt9 | apply pt10 | apply pt11 | apply pt12 | apply pt13 | apply pt14 | apply pt15 | apply pt16 | apply pt17)))) ?_
  refine wc_weaken [(1, _), (3, _)] ⟨rfl, rfl, trivial⟩ ?_
  refine wc_net' (fr17_2 b1 b3 r) [(4, 10, [0, 3]), (10, 16, [8]), (13, 19, [10]), (17, 23, [13]), (21, 27, [16]), (25, 31, [19]), (29, 35, [22]), (30, 36, []), (31, 37, []), (32, 38, []), (33, 2, [])] MO (by kernel_rfl) ?_ ?_
  · refine fr_cons ?_ (fr_cons ?_ (fr_cons ?_ (fr_cons ?_ (fr_cons ?_ (fr_cons ?_ (fr_cons ?_ (fr_cons ?_ (fr_cons ?_ (fr_cons ?_ (fr_cons ?_ (fr_cons ?_ (fr_cons ?_ (fr_cons ?_ (fr_cons ?_ (fr_cons ?_ (fr_cons ?_ (fr_cons ?_ (fr_cons ?_ (fr_cons ?_ (fr_cons ?_ (fr_cons ?_ (fr_cons ?_ fr_nil))))))))))))))))))))))
    · exact fr_mk rfl rfl rfl rfl need_nil (fun _ => yw_turn (yw_alloc T81 rfl) (fun _ _ h => bld_new h))
    · exact fr_mk rfl rfl rfl rfl (need_base rfl need_nil) (fun _ => yw_q (y_fieldAddr F30_0 rfl))
    · exact fr_mk rfl rfl rfl rfl (need_free 1 rfl rfl (fun _ => rfl) rfl need_nil) (fun _ => yw_q (y_load NA9 rfl (by first | exact cell_blk [] rfl | exact cell_blk [_] rfl | exact cell_blk [_, _] rfl | exact cell_blk [_, _, _] rfl | exact cell_blk [_, _, _, _] rfl | exact cellR_blk (by assumption) rfl)))
    · exact fr_mk rfl rfl rfl rfl (need_free 2 rfl rfl (fun _ => rfl) rfl need_nil) (fun _ => yw_buildSlice (cs := [vS r.key]) Tryd.underlying23 T9 rfl rfl rfl rfl rfl rfl rfl)
    · exact fr_mk rfl rfl rfl rfl (need_base rfl need_nil) (fun _ => yw_q (y_fieldAddr F30_1 rfl))
    · exact fr_mk rfl rfl rfl rfl (need_free 4 rfl rfl (fun _ => rfl) rfl need_nil) (fun _ => yw_q (y_load NA3 rfl (by first | exact cell_blk [] rfl | exact cell_blk [_] rfl | exact cell_blk [_, _] rfl | exact cell_blk [_, _, _] rfl | exact cell_blk [_, _, _, _] rfl | exact cellR_blk (by assumption) rfl)))
    · exact fr_mk rfl rfl rfl rfl (need_base rfl need_nil) (fun _ => yw_q (y_fieldAddr F28_0 rfl))
    · exact fr_mk rfl rfl rfl rfl (need_free 6 rfl rfl (fun _ => rfl) rfl need_nil) (fun _ => yw_q (y_load NA3 rfl (by first | exact cell_blk [] rfl | exact cell_blk [_] rfl | exact cell_blk [_, _] rfl | exact cell_blk [_, _, _] rfl | exact cell_blk [_, _, _, _] rfl | exact cellR_blk (by assumption) rfl)))
    · exact fr_mk rfl rfl rfl rfl (need_free 5 rfl rfl (fun _ => rfl) rfl (need_free 7 rfl rfl (fun _ => rfl) rfl need_nil)) (fun _ => yw_buildSlice (cs := [vI r.epoch, vI r.out.kind]) Tryd.underlying118 T3 rfl rfl rfl rfl rfl rfl rfl)
    · exact fr_mk rfl rfl rfl rfl (need_base rfl need_nil) (fun _ => yw_q (y_fieldAddr F28_1 rfl))
    · exact fr_mk rfl rfl rfl rfl (need_free 9 rfl rfl (fun _ => rfl) rfl need_nil) (fun _ => yw_q (y_load NA22 rfl (by first | exact cell_blk [] rfl | exact cell_blk [_] rfl | exact cell_blk [_, _] rfl | exact cell_blk [_, _, _] rfl | exact cell_blk [_, _, _, _] rfl | exact cellR_blk (by assumption) rfl)))
    · exact fr_mk rfl rfl rfl rfl (need_base rfl need_nil) (fun _ => yw_q (y_fieldAddr F28_2 rfl))
    · exact fr_mk rfl rfl rfl rfl (need_free 11 rfl rfl (fun _ => rfl) rfl need_nil) (fun _ => yw_q (y_load NA9 rfl (by first | exact cell_blk [] rfl | exact cell_blk [_] rfl | exact cell_blk [_, _] rfl | exact cell_blk [_, _, _] rfl | exact cell_blk [_, _, _, _] rfl | exact cellR_blk (by assumption) rfl)))
    · exact fr_mk rfl rfl rfl rfl (need_free 12 rfl rfl (fun _ => rfl) rfl need_nil) (fun _ => yw_buildSlice (cs := [vS r.out.need]) Tryd.underlying23 T9 rfl rfl rfl rfl rfl rfl rfl)
    · exact fr_mk rfl rfl rfl rfl (need_base rfl need_nil) (fun _ => yw_q (y_fieldAddr F28_3 rfl))
    · exact fr_mk rfl rfl rfl rfl (need_free 14 rfl rfl (fun _ => rfl) rfl need_nil) (fun _ => yw_q (y_load NA26 rfl (by first | exact cell_blk [] rfl | exact cell_blk [_] rfl | exact cell_blk [_, _] rfl | exact cell_blk [_, _, _] rfl | exact cell_blk [_, _, _, _] rfl | exact cellR_blk (by assumption) rfl)))
    · exact fr_mk rfl rfl rfl rfl (need_free 15 rfl rfl (fun _ => rfl) rfl need_nil) (fun _ => yw_buildSlice (cs := [vI r.out.err]) Tryd.underlying118 T3 rfl rfl rfl rfl rfl rfl rfl)
    · exact fr_mk rfl rfl rfl rfl (need_base rfl need_nil) (fun _ => yw_q (y_fieldAddr F28_4 rfl))
    · exact fr_mk rfl rfl rfl rfl (need_free 17 rfl rfl (fun _ => rfl) rfl need_nil) (fun _ => yw_q (y_load NA9 rfl (by first | exact cell_blk [] rfl | exact cell_blk [_] rfl | exact cell_blk [_, _] rfl | exact cell_blk [_, _, _] rfl | exact cell_blk [_, _, _, _] rfl | exact cellR_blk (by assumption) rfl)))
    · exact fr_mk rfl rfl rfl rfl (need_free 18 rfl rfl (fun _ => rfl) rfl need_nil) (fun _ => yw_buildSlice (cs := [vS r.out.text]) Tryd.underlying23 T9 rfl rfl rfl rfl rfl rfl rfl)
    · exact fr_mk rfl rfl rfl rfl (need_base rfl need_nil) (fun _ => yw_q (y_fieldAddr F28_5 rfl))
    · exact fr_mk rfl rfl rfl rfl (need_free 20 rfl rfl (fun _ => rfl) rfl need_nil) (fun _ => yw_q (y_load NA3 rfl (by first | exact cell_blk [] rfl | exact cell_blk [_] rfl | exact cell_blk [_, _] rfl | exact cell_blk [_, _, _] rfl | exact cell_blk [_, _, _, _] rfl | exact cellR_blk (by assumption) rfl)))
    · exact fr_mk rfl rfl rfl rfl (need_free 21 rfl rfl (fun _ => rfl) rfl need_nil) (fun _ => yw_buildSlice (cs := [vI r.out.used]) Tryd.underlying118 T3 rfl rfl rfl rfl rfl rfl rfl)
  refine lin_mk rfl rfl rfl rfl (fun bs10 => ?_)
  refine at_c (fst := []) (cap := []) _ (fun _ => [bldA 81 5 (bs10 0) (([] ++ flatF [r.key]))]) FN36 (sheet_text (bs10 0) [] [r.key] (some ⟨bs10 3, 0, none⟩) 1 (by first | omega | (simp only [List.length_append]; omega))) rfl rfl rfl (by (repeat (first | exact pt_nil | apply pt0 | apply pt1 | apply pt2 | apply pt3 | apply pt4 | apply pt5 | apply pt6 | apply pt7 | apply pt8 | apply pt9 | apply pt10 | apply pt11 | apply pt12 | apply pt13 | apply pt14 | apply pt15 | apply pt16 | apply pt17))) (by (repeat (first | exact ro_nil | exact ro_rest (by assumption) | refine ro_cons (by first | exact .inl (by assumption) | exact ro_f0 (fun _ h => h) | exact ro_f0 (fun _ => slc_rsl) | exact ro_f1 (fun _ h => h) | exact ro_f1 (fun _ => slc_rsl) | exact ro_f2 (fun _ h => h) | exact ro_f2 (fun _ => slc_rsl) | exact ro_f3 (fun _ h => h) | exact ro_f3 (fun _ => slc_rsl) | exact ro_f4 (fun _ h => h) | exact ro_f4 (fun _ => slc_rsl) | exact ro_f5 (fun _ h => h) | exact ro_f5 (fun _ => slc_rsl) | exact ro_f6 (fun _ h => h) | exact ro_f6 (fun _ => slc_rsl)) ?_))) (fun _ => by (repeat (first | exact pt_nil | apply pt0 | apply pt1 | apply pt2 | apply pt3 | apply pt4 | apply pt5 | apply pt6 | apply pt7 | apply pt8 | apply pt9 | apply pt10 | apply pt11 | apply pt12 | apply pt13 | apply pt14 | apply pt15 | apply pt16 | apply pt17))) (fun x10 hx10 => ?_)
  refine lin_mk rfl rfl rfl rfl (fun bs16 => ?_)
  refine at_c (fst := []) (cap := []) _ (fun _ => [bldA 81 5 (bs10 0) ((([] ++ flatF [r.key]) ++ flatF ([r.epoch, r.out.kind].map itoa)))]) FN37 (sheet_num (bs10 0) ([] ++ flatF [r.key]) [r.epoch, r.out.kind] (some ⟨bs16 9, 0, none⟩) 2 (two_inR hi.1 hi.2.1) (by first | omega | (simp only [List.length_append]; omega))) rfl rfl rfl (by (repeat (first | exact pt_nil | apply pt0 | apply pt1 | apply pt2 | apply pt3 | apply pt4 | apply pt5 | apply pt6 | apply pt7 | apply pt8 | apply pt9 | apply pt10 | apply pt11 | apply pt12 | apply pt13 | apply pt14 | apply pt15 | apply pt16 | apply pt17))) (by (repeat (first | exact ro_nil | exact ro_rest (by assumption) | refine ro_cons (by first | exact .inl (by assumption) | exact ro_f0 (fun _ h => h) | exact ro_f0 (fun _ => slc_rsl) | exact ro_f1 (fun _ h => h) | exact ro_f1 (fun _ => slc_rsl) | exact ro_f2 (fun _ h => h) | exact ro_f2 (fun _ => slc_rsl) | exact ro_f3 (fun _ h => h) | exact ro_f3 (fun _ => slc_rsl) | exact ro_f4 (fun _ h => h) | exact ro_f4 (fun _ => slc_rsl) | exact ro_f5 (fun _ h => h) | exact ro_f5 (fun _ => slc_rsl) | exact ro_f6 (fun _ h => h) | exact ro_f6 (fun _ => slc_rsl)) ?_))) (fun _ => by (repeat (first | exact pt_nil | apply pt0 | apply pt1 | apply pt2 | apply pt3 | apply pt4 | apply pt5 | apply pt6 | apply pt7 | apply pt8 | apply pt9 | apply pt10 | apply pt11 | apply pt12 | apply pt13 | apply pt14 | apply pt15 | apply pt16 | apply pt17))) (fun x16 hx16 => ?_)
  refine lin_mk rfl rfl rfl rfl (fun bs19 => ?_)
  refine at_c (fst := []) (cap := []) _ (fun _ => [bldA 81 5 (bs10 0) (((([] ++ flatF [r.key]) ++ flatF ([r.epoch, r.out.kind].map itoa)) ++ flatF [filesT r.out.files.xs]))]) FN38 (sheet_files (bs10 0) (([] ++ flatF [r.key]) ++ flatF ([r.epoch, r.out.kind].map itoa)) r.out.files (by first | omega | (simp only [List.length_append]; omega))) rfl rfl rfl (by (repeat (first | exact pt_nil | apply pt0 | apply pt1 | apply pt2 | apply pt3 | apply pt4 | apply pt5 | apply pt6 | apply pt7 | apply pt8 | apply pt9 | apply pt10 | apply pt11 | apply pt12 | apply pt13 | apply pt14 | apply pt15 | apply pt16 | apply pt17))) (by (repeat (first | exact ro_nil | exact ro_rest (by assumption) | refine ro_cons (by first | exact .inl (by assumption) | exact ro_f0 (fun _ h => h) | exact ro_f0 (fun _ => slc_rsl) | exact ro_f1 (fun _ h => h) | exact ro_f1 (fun _ => slc_rsl) | exact ro_f2 (fun _ h => h) | exact ro_f2 (fun _ => slc_rsl) | exact ro_f3 (fun _ h => h) | exact ro_f3 (fun _ => slc_rsl) | exact ro_f4 (fun _ h => h) | exact ro_f4 (fun _ => slc_rsl) | exact ro_f5 (fun _ h => h) | exact ro_f5 (fun _ => slc_rsl) | exact ro_f6 (fun _ h => h) | exact ro_f6 (fun _ => slc_rsl)) ?_))) (fun _ => by (repeat (first | exact pt_nil | apply pt0 | apply pt1 | apply pt2 | apply pt3 | apply pt4 | apply pt5 | apply pt6 | apply pt7 | apply pt8 | apply pt9 | apply pt10 | apply pt11 | apply pt12 | apply pt13 | apply pt14 | apply pt15 | apply pt16 | apply pt17))) (fun x19 hx19 => ?_)
  refine lin_mk rfl rfl rfl rfl (fun bs23 => ?_)
  refine at_c (fst := []) (cap := []) _ (fun _ => [bldA 81 5 (bs10 0) ((((([] ++ flatF [r.key]) ++ flatF ([r.epoch, r.out.kind].map itoa)) ++ flatF [filesT r.out.files.xs]) ++ flatF [r.out.need]))]) FN36 (sheet_text (bs10 0) ((([] ++ flatF [r.key]) ++ flatF ([r.epoch, r.out.kind].map itoa)) ++ flatF [filesT r.out.files.xs]) [r.out.need] (some ⟨bs23 16, 0, none⟩) 1 (by first | omega | (simp only [List.length_append]; omega))) rfl rfl rfl (by (repeat (first | exact pt_nil | apply pt0 | apply pt1 | apply pt2 | apply pt3 | apply pt4 | apply pt5 | apply pt6 | apply pt7 | apply pt8 | apply pt9 | apply pt10 | apply pt11 | apply pt12 | apply pt13 | apply pt14 | apply pt15 | apply pt16 | apply pt17))) (by (repeat (first | exact ro_nil | exact ro_rest (by assumption) | refine ro_cons (by first | exact .inl (by assumption) | exact ro_f0 (fun _ h => h) | exact ro_f0 (fun _ => slc_rsl) | exact ro_f1 (fun _ h => h) | exact ro_f1 (fun _ => slc_rsl) | exact ro_f2 (fun _ h => h) | exact ro_f2 (fun _ => slc_rsl) | exact ro_f3 (fun _ h => h) | exact ro_f3 (fun _ => slc_rsl) | exact ro_f4 (fun _ h => h) | exact ro_f4 (fun _ => slc_rsl) | exact ro_f5 (fun _ h => h) | exact ro_f5 (fun _ => slc_rsl) | exact ro_f6 (fun _ h => h) | exact ro_f6 (fun _ => slc_rsl)) ?_))) (fun _ => by (repeat (first | exact pt_nil | apply pt0 | apply pt1 | apply pt2 | apply pt3 | apply pt4 | apply pt5 | apply pt6 | apply pt7 | apply pt8 | apply pt9 | apply pt10 | apply pt11 | apply pt12 | apply pt13 | apply pt14 | apply pt15 | apply pt16 | apply pt17))) (fun x23 hx23 => ?_)
  refine lin_mk rfl rfl rfl rfl (fun bs27 => ?_)
  refine at_c (fst := []) (cap := []) _ (fun _ => [bldA 81 5 (bs10 0) (((((([] ++ flatF [r.key]) ++ flatF ([r.epoch, r.out.kind].map itoa)) ++ flatF [filesT r.out.files.xs]) ++ flatF [r.out.need]) ++ flatF ([r.out.err].map itoa)))]) FN37 (sheet_num (bs10 0) (((([] ++ flatF [r.key]) ++ flatF ([r.epoch, r.out.kind].map itoa)) ++ flatF [filesT r.out.files.xs]) ++ flatF [r.out.need]) [r.out.err] (some ⟨bs27 20, 0, none⟩) 1 (one_inR hi.2.2.1) (by first | omega | (simp only [List.length_append]; omega))) rfl rfl rfl (by (repeat (first | exact pt_nil | apply pt0 | apply pt1 | apply pt2 | apply pt3 | apply pt4 | apply pt5 | apply pt6 | apply pt7 | apply pt8 | apply pt9 | apply pt10 | apply pt11 | apply pt12 | apply pt13 | apply pt14 | apply pt15 | apply pt16 | apply pt17))) (by (repeat (first | exact ro_nil | exact ro_rest (by assumption) | refine ro_cons (by first | exact .inl (by assumption) | exact ro_f0 (fun _ h => h) | exact ro_f0 (fun _ => slc_rsl) | exact ro_f1 (fun _ h => h) | exact ro_f1 (fun _ => slc_rsl) | exact ro_f2 (fun _ h => h) | exact ro_f2 (fun _ => slc_rsl) | exact ro_f3 (fun _ h => h) | exact ro_f3 (fun _ => slc_rsl) | exact ro_f4 (fun _ h => h) | exact ro_f4 (fun _ => slc_rsl) | exact ro_f5 (fun _ h => h) | exact ro_f5 (fun _ => slc_rsl) | exact ro_f6 (fun _ h => h) | exact ro_f6 (fun _ => slc_rsl)) ?_))) (fun _ => by (repeat (first | exact pt_nil | apply pt0 | apply pt1 | apply pt2 | apply pt3 | apply pt4 | apply pt5 | apply pt6 | apply pt7 | apply pt8 | apply pt9 | apply pt10 | apply pt11 | apply pt12 | apply pt13 | apply pt14 | apply pt15 | apply pt16 | apply pt17))) (fun x27 hx27 => ?_)
  refine lin_mk rfl rfl rfl rfl (fun bs31 => ?_)
  refine at_c (fst := []) (cap := []) _ (fun _ => [bldA 81 5 (bs10 0) ((((((([] ++ flatF [r.key]) ++ flatF ([r.epoch, r.out.kind].map itoa)) ++ flatF [filesT r.out.files.xs]) ++ flatF [r.out.need]) ++ flatF ([r.out.err].map itoa)) ++ flatF [r.out.text]))]) FN36 (sheet_text (bs10 0) ((((([] ++ flatF [r.key]) ++ flatF ([r.epoch, r.out.kind].map itoa)) ++ flatF [filesT r.out.files.xs]) ++ flatF [r.out.need]) ++ flatF ([r.out.err].map itoa)) [r.out.text] (some ⟨bs31 24, 0, none⟩) 1 (by first | omega | (simp only [List.length_append]; omega))) rfl rfl rfl (by (repeat (first | exact pt_nil | apply pt0 | apply pt1 | apply pt2 | apply pt3 | apply pt4 | apply pt5 | apply pt6 | apply pt7 | apply pt8 | apply pt9 | apply pt10 | apply pt11 | apply pt12 | apply pt13 | apply pt14 | apply pt15 | apply pt16 | apply pt17))) (by (repeat (first | exact ro_nil | exact ro_rest (by assumption) | refine ro_cons (by first | exact .inl (by assumption) | exact ro_f0 (fun _ h => h) | exact ro_f0 (fun _ => slc_rsl) | exact ro_f1 (fun _ h => h) | exact ro_f1 (fun _ => slc_rsl) | exact ro_f2 (fun _ h => h) | exact ro_f2 (fun _ => slc_rsl) | exact ro_f3 (fun _ h => h) | exact ro_f3 (fun _ => slc_rsl) | exact ro_f4 (fun _ h => h) | exact ro_f4 (fun _ => slc_rsl) | exact ro_f5 (fun _ h => h) | exact ro_f5 (fun _ => slc_rsl) | exact ro_f6 (fun _ h => h) | exact ro_f6 (fun _ => slc_rsl)) ?_))) (fun _ => by (repeat (first | exact pt_nil | apply pt0 | apply pt1 | apply pt2 | apply pt3 | apply pt4 | apply pt5 | apply pt6 | apply pt7 | apply pt8 | apply pt9 | apply pt10 | apply pt11 | apply pt12 | apply pt13 | apply pt14 | apply pt15 | apply pt16 | apply pt17))) (fun x31 hx31 => ?_)
  refine lin_mk rfl rfl rfl rfl (fun bs35 => ?_)
  refine at_c (fst := []) (cap := []) _ (fun _ => [bldA 81 5 (bs10 0) (((((((([] ++ flatF [r.key]) ++ flatF ([r.epoch, r.out.kind].map itoa)) ++ flatF [filesT r.out.files.xs]) ++ flatF [r.out.need]) ++ flatF ([r.out.err].map itoa)) ++ flatF [r.out.text]) ++ flatF ([r.out.used].map itoa)))]) FN37 (sheet_num (bs10 0) (((((([] ++ flatF [r.key]) ++ flatF ([r.epoch, r.out.kind].map itoa)) ++ flatF [filesT r.out.files.xs]) ++ flatF [r.out.need]) ++ flatF ([r.out.err].map itoa)) ++ flatF [r.out.text]) [r.out.used] (some ⟨bs35 28, 0, none⟩) 1 (one_inR hi.2.2.2) (by first | omega | (simp only [List.length_append]; omega))) rfl rfl rfl (by (repeat (first | exact pt_nil | apply pt0 | apply pt1 | apply pt2 | apply pt3 | apply pt4 | apply pt5 | apply pt6 | apply pt7 | apply pt8 | apply pt9 | apply pt10 | apply pt11 | apply pt12 | apply pt13 | apply pt14 | apply pt15 | apply pt16 | apply pt17))) (by (repeat (first | exact ro_nil | exact ro_rest (by assumption) | refine ro_cons (by first | exact .inl (by assumption) | exact ro_f0 (fun _ h => h) | exact ro_f0 (fun _ => slc_rsl) | exact ro_f1 (fun _ h => h) | exact ro_f1 (fun _ => slc_rsl) | exact ro_f2 (fun _ h => h) | exact ro_f2 (fun _ => slc_rsl) | exact ro_f3 (fun _ h => h) | exact ro_f3 (fun _ => slc_rsl) | exact ro_f4 (fun _ h => h) | exact ro_f4 (fun _ => slc_rsl) | exact ro_f5 (fun _ h => h) | exact ro_f5 (fun _ => slc_rsl) | exact ro_f6 (fun _ h => h) | exact ro_f6 (fun _ => slc_rsl)) ?_))) (fun _ => by (repeat (first | exact pt_nil | apply pt0 | apply pt1 | apply pt2 | apply pt3 | apply pt4 | apply pt5 | apply pt6 | apply pt7 | apply pt8 | apply pt9 | apply pt10 | apply pt11 | apply pt12 | apply pt13 | apply pt14 | apply pt15 | apply pt16 | apply pt17))) (fun x35 hx35 => ?_)
  refine lin_mk rfl rfl rfl rfl (fun bs36 => ?_)
  refine at_q (fun _ => y_nilCheck rfl) ?_
  refine lin_mk rfl rfl rfl rfl (fun bs37 => ?_)
  refine at_q (fun _ => y_fieldAddr F81_0 rfl) ?_
  refine lin_mk rfl rfl rfl rfl (fun bs38 => ?_)
  refine at_c (fst := []) (cap := []) _ (fun _ => []) FN39 (stringT_c 81 (bs10 0) ((((((([] ++ flatF [r.key]) ++ flatF ([r.epoch, r.out.kind].map itoa)) ++ flatF [filesT r.out.files.xs]) ++ flatF [r.out.need]) ++ flatF ([r.out.err].map itoa)) ++ flatF [r.out.text]) ++ flatF ([r.out.used].map itoa)) (by first | omega | (simp only [List.length_append]; omega))) rfl rfl rfl (by (repeat (first | exact pt_nil | apply pt0 | apply pt1 | apply pt2 | apply pt3 | apply pt4 | apply pt5 | apply pt6 | apply pt7 | apply pt8 | apply pt9 | apply pt10 | apply pt11 | apply pt12 | apply pt13 | apply pt14 | apply pt15 | apply pt16 | apply pt17))) (by (repeat (first | exact ro_nil | exact ro_rest (by assumption) | refine ro_cons (by first | exact .inl (by assumption) | exact ro_f0 (fun _ h => h) | exact ro_f0 (fun _ => slc_rsl) | exact ro_f1 (fun _ h => h) | exact ro_f1 (fun _ => slc_rsl) | exact ro_f2 (fun _ h => h) | exact ro_f2 (fun _ => slc_rsl) | exact ro_f3 (fun _ h => h) | exact ro_f3 (fun _ => slc_rsl) | exact ro_f4 (fun _ h => h) | exact ro_f4 (fun _ => slc_rsl) | exact ro_f5 (fun _ h => h) | exact ro_f5 (fun _ => slc_rsl) | exact ro_f6 (fun _ h => h) | exact ro_f6 (fun _ => slc_rsl)) ?_))) (fun _ => by (repeat (first | exact pt_nil | apply pt0 | apply pt1 | apply pt2 | apply pt3 | apply pt4 | apply pt5 | apply pt6 | apply pt7 | apply pt8 | apply pt9 | apply pt10 | apply pt11 | apply pt12 | apply pt13 | apply pt14 | apply pt15 | apply pt16 | apply pt17))) (fun x38 hx38 => ?_)
  refine lin_mk rfl rfl rfl rfl (fun bs2 => ?_)
  refine at_q (fun _ => y_assign rfl) ?_
  refine lin_nil (fun Fs => ?_)
  refine wq_then ?_
  refine wc_ret ?_
  refine wq_ret1 rfl rfl (fun w hw => ?_)
  exact ⟨(), trivial, by rw [e], hw.bare⟩

def fr15_1 (b1 : Nat) (t : TaskV) : List Fr := [⟨0, 4, fun b => .pointer (some ⟨b, 0, none⟩), fun b => [bldA 81 5 (b) ([])], []⟩,
  ⟨1, 5, fun _ => .pointer (some ⟨b1, 0, none⟩), fun _ => [], [(1, .pointer (some ⟨b1, 0, none⟩))]⟩,
  ⟨2, 6, fun _ => vS t.key, fun _ => [], [(5, .pointer (some ⟨b1, 0, none⟩))]⟩,
  ⟨3, 7, fun b => .slice (some ⟨b, 0, none⟩) 1 1, fun b => [slc 9 1 (some ⟨b, 0, none⟩) 1 1 [vS t.key]], [(6, vS t.key)]⟩,
  ⟨5, 9, fun _ => .pointer (some ⟨b1, 1, none⟩), fun _ => [], [(1, .pointer (some ⟨b1, 0, none⟩))]⟩,
  ⟨6, 10, fun _ => vI t.epoch, fun _ => [], [(9, .pointer (some ⟨b1, 1, none⟩))]⟩,
  ⟨7, 11, fun b => .slice (some ⟨b, 0, none⟩) 1 1, fun b => [slc 3 1 (some ⟨b, 0, none⟩) 1 1 [vI t.epoch]], [(10, vI t.epoch)]⟩,
  ⟨9, 13, fun _ => .pointer (some ⟨b1, 2, none⟩), fun _ => [], [(1, .pointer (some ⟨b1, 0, none⟩))]⟩,
  ⟨10, 14, fun _ => vS t.cmd, fun _ => [], [(13, .pointer (some ⟨b1, 2, none⟩))]⟩,
  ⟨11, 15, fun b => .slice (some ⟨b, 0, none⟩) 1 1, fun b => [slc 9 1 (some ⟨b, 0, none⟩) 1 1 [vS t.cmd]], [(14, vS t.cmd)]⟩,
  ⟨13, 17, fun _ => .pointer (some ⟨b1, 3, none⟩), fun _ => [], [(1, .pointer (some ⟨b1, 0, none⟩))]⟩,
  ⟨14, 18, fun _ => vSl t.files, fun _ => [], [(17, .pointer (some ⟨b1, 3, none⟩))]⟩]
set_option maxHeartbeats 1000000 in
theorem task_c (t : TaskV) (hi : t.er.inr) (hl : (flatF t.er.L).length ≤ 800000000) :
    Ctr Tryd.prog 15 #[.agg (encK t).toArray] [libS, taskA t] [] (fun _ : Unit => True) (fun _ => vS (flatF t.er.L)) (fun _ => []) := by
  refine spec_start (n := 32) [(0, .agg (encK t).toArray)] Tryd.func15 rfl rfl ⟨rfl, trivial⟩ rfl ?_
  intro w0 K hR
  have hB := hR libS (by simp)
  obtain ⟨hA, hN⟩ := task_ro (hR (taskA t) (by simp))
  unfold strsA at hN
  have e := task_split t
  have el := congrArg List.length e
  simp only [List.length_append] at el
  have hf1 := files_len1 (filesT t.files.xs)
  refine wc_seq ?_
  refine wc_region ?_
  refine wl_w (fun _ _ => want_none) rfl (yw_box rfl rfl) (wl_ex fun b1 _ => ?_)
  refine wl_y rfl (y_assign rfl) ?_
  refine wl_nil ?_
  refine wq_then ?_
  refine wc_seq ?_
  refine wc_world (S' := Hp w0 K ([] ++ [blk b1 (.cells (encK t).toArray 25 (0, 0))])) (fun w hw => hw.sub (by (repeat (first | exact pt_nil | apply pt0 | apply pt1 | apply pt2 | apply pt3 | apply pt4 | apply pt5 | apply pt6 | apply pt7 | apply pt8 | apply pt9 | apply pt10 | apply pt11 | apply pt12 | apply pt13 | apply pt14 | apply pt15 | apply pt16 | apply pt17)))) ?_
  refine wc_weaken [(1, _)] ⟨rfl, trivial⟩ ?_
  refine wc_net' (fr15_1 b1 t) [(4, 8, [0, 3]), (8, 12, [6]), (12, 16, [9]), (15, 19, [11]), (16, 3, [])] MO (by kernel_rfl) ?_ ?_
  · refine fr_cons ?_ (fr_cons ?_ (fr_cons ?_ (fr_cons ?_ (fr_cons ?_ (fr_cons ?_ (fr_cons ?_ (fr_cons ?_ (fr_cons ?_ (fr_cons ?_ (fr_cons ?_ (fr_cons ?_ fr_nil)))))))))))
    · exact fr_mk rfl rfl rfl rfl need_nil (fun _ => yw_turn (yw_alloc T81 rfl) (fun _ _ h => bld_new h))
    · exact fr_mk rfl rfl rfl rfl (need_base rfl need_nil) (fun _ => yw_q (y_fieldAddr F25_0 rfl))
    · exact fr_mk rfl rfl rfl rfl (need_free 1 rfl rfl (fun _ => rfl) rfl need_nil) (fun _ => yw_q (y_load NA9 rfl (by first | exact cell_blk [] rfl | exact cell_blk [_] rfl | exact cell_blk [_, _] rfl | exact cell_blk [_, _, _] rfl | exact cell_blk [_, _, _, _] rfl | exact cellR_blk (by assumption) rfl)))
    · exact fr_mk rfl rfl rfl rfl (need_free 2 rfl rfl (fun _ => rfl) rfl need_nil) (fun _ => yw_buildSlice (cs := [vS t.key]) Tryd.underlying23 T9 rfl rfl rfl rfl rfl rfl rfl)
    · exact fr_mk rfl rfl rfl rfl (need_base rfl need_nil) (fun _ => yw_q (y_fieldAddr F25_1 rfl))
    · exact fr_mk rfl rfl rfl rfl (need_free 4 rfl rfl (fun _ => rfl) rfl need_nil) (fun _ => yw_q (y_load NA3 rfl (by first | exact cell_blk [] rfl | exact cell_blk [_] rfl | exact cell_blk [_, _] rfl | exact cell_blk [_, _, _] rfl | exact cell_blk [_, _, _, _] rfl | exact cellR_blk (by assumption) rfl)))
    · exact fr_mk rfl rfl rfl rfl (need_free 5 rfl rfl (fun _ => rfl) rfl need_nil) (fun _ => yw_buildSlice (cs := [vI t.epoch]) Tryd.underlying118 T3 rfl rfl rfl rfl rfl rfl rfl)
    · exact fr_mk rfl rfl rfl rfl (need_base rfl need_nil) (fun _ => yw_q (y_fieldAddr F25_2 rfl))
    · exact fr_mk rfl rfl rfl rfl (need_free 7 rfl rfl (fun _ => rfl) rfl need_nil) (fun _ => yw_q (y_load NA9 rfl (by first | exact cell_blk [] rfl | exact cell_blk [_] rfl | exact cell_blk [_, _] rfl | exact cell_blk [_, _, _] rfl | exact cell_blk [_, _, _, _] rfl | exact cellR_blk (by assumption) rfl)))
    · exact fr_mk rfl rfl rfl rfl (need_free 8 rfl rfl (fun _ => rfl) rfl need_nil) (fun _ => yw_buildSlice (cs := [vS t.cmd]) Tryd.underlying23 T9 rfl rfl rfl rfl rfl rfl rfl)
    · exact fr_mk rfl rfl rfl rfl (need_base rfl need_nil) (fun _ => yw_q (y_fieldAddr F25_3 rfl))
    · exact fr_mk rfl rfl rfl rfl (need_free 10 rfl rfl (fun _ => rfl) rfl need_nil) (fun _ => yw_q (y_load NA22 rfl (by first | exact cell_blk [] rfl | exact cell_blk [_] rfl | exact cell_blk [_, _] rfl | exact cell_blk [_, _, _] rfl | exact cell_blk [_, _, _, _] rfl | exact cellR_blk (by assumption) rfl)))
  refine lin_mk rfl rfl rfl rfl (fun bs8 => ?_)
  refine at_c (fst := []) (cap := []) _ (fun _ => [bldA 81 5 (bs8 0) (([] ++ flatF [t.key]))]) FN36 (sheet_text (bs8 0) [] [t.key] (some ⟨bs8 3, 0, none⟩) 1 (by first | omega | (simp only [List.length_append]; omega))) rfl rfl rfl (by (repeat (first | exact pt_nil | apply pt0 | apply pt1 | apply pt2 | apply pt3 | apply pt4 | apply pt5 | apply pt6 | apply pt7 | apply pt8 | apply pt9 | apply pt10 | apply pt11 | apply pt12 | apply pt13 | apply pt14 | apply pt15 | apply pt16 | apply pt17))) (by (repeat (first | exact ro_nil | exact ro_rest (by assumption) | refine ro_cons (by first | exact .inl (by assumption) | exact ro_f0 (fun _ h => h) | exact ro_f0 (fun _ => slc_rsl) | exact ro_f1 (fun _ h => h) | exact ro_f1 (fun _ => slc_rsl) | exact ro_f2 (fun _ h => h) | exact ro_f2 (fun _ => slc_rsl) | exact ro_f3 (fun _ h => h) | exact ro_f3 (fun _ => slc_rsl) | exact ro_f4 (fun _ h => h) | exact ro_f4 (fun _ => slc_rsl) | exact ro_f5 (fun _ h => h) | exact ro_f5 (fun _ => slc_rsl) | exact ro_f6 (fun _ h => h) | exact ro_f6 (fun _ => slc_rsl)) ?_))) (fun _ => by (repeat (first | exact pt_nil | apply pt0 | apply pt1 | apply pt2 | apply pt3 | apply pt4 | apply pt5 | apply pt6 | apply pt7 | apply pt8 | apply pt9 | apply pt10 | apply pt11 | apply pt12 | apply pt13 | apply pt14 | apply pt15 | apply pt16 | apply pt17))) (fun x8 hx8 => ?_)
  refine lin_mk rfl rfl rfl rfl (fun bs12 => ?_)
  refine at_c (fst := []) (cap := []) _ (fun _ => [bldA 81 5 (bs8 0) ((([] ++ flatF [t.key]) ++ flatF ([t.epoch].map itoa)))]) FN37 (sheet_num (bs8 0) ([] ++ flatF [t.key]) [t.epoch] (some ⟨bs12 7, 0, none⟩) 1 (one_inR hi.1) (by first | omega | (simp only [List.length_append]; omega))) rfl rfl rfl (by (repeat (first | exact pt_nil | apply pt0 | apply pt1 | apply pt2 | apply pt3 | apply pt4 | apply pt5 | apply pt6 | apply pt7 | apply pt8 | apply pt9 | apply pt10 | apply pt11 | apply pt12 | apply pt13 | apply pt14 | apply pt15 | apply pt16 | apply pt17))) (by (repeat (first | exact ro_nil | exact ro_rest (by assumption) | refine ro_cons (by first | exact .inl (by assumption) | exact ro_f0 (fun _ h => h) | exact ro_f0 (fun _ => slc_rsl) | exact ro_f1 (fun _ h => h) | exact ro_f1 (fun _ => slc_rsl) | exact ro_f2 (fun _ h => h) | exact ro_f2 (fun _ => slc_rsl) | exact ro_f3 (fun _ h => h) | exact ro_f3 (fun _ => slc_rsl) | exact ro_f4 (fun _ h => h) | exact ro_f4 (fun _ => slc_rsl) | exact ro_f5 (fun _ h => h) | exact ro_f5 (fun _ => slc_rsl) | exact ro_f6 (fun _ h => h) | exact ro_f6 (fun _ => slc_rsl)) ?_))) (fun _ => by (repeat (first | exact pt_nil | apply pt0 | apply pt1 | apply pt2 | apply pt3 | apply pt4 | apply pt5 | apply pt6 | apply pt7 | apply pt8 | apply pt9 | apply pt10 | apply pt11 | apply pt12 | apply pt13 | apply pt14 | apply pt15 | apply pt16 | apply pt17))) (fun x12 hx12 => ?_)
  refine lin_mk rfl rfl rfl rfl (fun bs16 => ?_)
  refine at_c (fst := []) (cap := []) _ (fun _ => [bldA 81 5 (bs8 0) (((([] ++ flatF [t.key]) ++ flatF ([t.epoch].map itoa)) ++ flatF [t.cmd]))]) FN36 (sheet_text (bs8 0) (([] ++ flatF [t.key]) ++ flatF ([t.epoch].map itoa)) [t.cmd] (some ⟨bs16 11, 0, none⟩) 1 (by first | omega | (simp only [List.length_append]; omega))) rfl rfl rfl (by (repeat (first | exact pt_nil | apply pt0 | apply pt1 | apply pt2 | apply pt3 | apply pt4 | apply pt5 | apply pt6 | apply pt7 | apply pt8 | apply pt9 | apply pt10 | apply pt11 | apply pt12 | apply pt13 | apply pt14 | apply pt15 | apply pt16 | apply pt17))) (by (repeat (first | exact ro_nil | exact ro_rest (by assumption) | refine ro_cons (by first | exact .inl (by assumption) | exact ro_f0 (fun _ h => h) | exact ro_f0 (fun _ => slc_rsl) | exact ro_f1 (fun _ h => h) | exact ro_f1 (fun _ => slc_rsl) | exact ro_f2 (fun _ h => h) | exact ro_f2 (fun _ => slc_rsl) | exact ro_f3 (fun _ h => h) | exact ro_f3 (fun _ => slc_rsl) | exact ro_f4 (fun _ h => h) | exact ro_f4 (fun _ => slc_rsl) | exact ro_f5 (fun _ h => h) | exact ro_f5 (fun _ => slc_rsl) | exact ro_f6 (fun _ h => h) | exact ro_f6 (fun _ => slc_rsl)) ?_))) (fun _ => by (repeat (first | exact pt_nil | apply pt0 | apply pt1 | apply pt2 | apply pt3 | apply pt4 | apply pt5 | apply pt6 | apply pt7 | apply pt8 | apply pt9 | apply pt10 | apply pt11 | apply pt12 | apply pt13 | apply pt14 | apply pt15 | apply pt16 | apply pt17))) (fun x16 hx16 => ?_)
  refine lin_mk rfl rfl rfl rfl (fun bs19 => ?_)
  refine at_c (fst := []) (cap := []) _ (fun _ => [bldA 81 5 (bs8 0) ((((([] ++ flatF [t.key]) ++ flatF ([t.epoch].map itoa)) ++ flatF [t.cmd]) ++ flatF [filesT t.files.xs]))]) FN38 (sheet_files (bs8 0) ((([] ++ flatF [t.key]) ++ flatF ([t.epoch].map itoa)) ++ flatF [t.cmd]) t.files (by first | omega | (simp only [List.length_append]; omega))) rfl rfl rfl (by (repeat (first | exact pt_nil | apply pt0 | apply pt1 | apply pt2 | apply pt3 | apply pt4 | apply pt5 | apply pt6 | apply pt7 | apply pt8 | apply pt9 | apply pt10 | apply pt11 | apply pt12 | apply pt13 | apply pt14 | apply pt15 | apply pt16 | apply pt17))) (by (repeat (first | exact ro_nil | exact ro_rest (by assumption) | refine ro_cons (by first | exact .inl (by assumption) | exact ro_f0 (fun _ h => h) | exact ro_f0 (fun _ => slc_rsl) | exact ro_f1 (fun _ h => h) | exact ro_f1 (fun _ => slc_rsl) | exact ro_f2 (fun _ h => h) | exact ro_f2 (fun _ => slc_rsl) | exact ro_f3 (fun _ h => h) | exact ro_f3 (fun _ => slc_rsl) | exact ro_f4 (fun _ h => h) | exact ro_f4 (fun _ => slc_rsl) | exact ro_f5 (fun _ h => h) | exact ro_f5 (fun _ => slc_rsl) | exact ro_f6 (fun _ h => h) | exact ro_f6 (fun _ => slc_rsl)) ?_))) (fun _ => by (repeat (first | exact pt_nil | apply pt0 | apply pt1 | apply pt2 | apply pt3 | apply pt4 | apply pt5 | apply pt6 | apply pt7 | apply pt8 | apply pt9 | apply pt10 | apply pt11 | apply pt12 | apply pt13 | apply pt14 | apply pt15 | apply pt16 | apply pt17))) (fun x19 hx19 => ?_)
  refine lin_mk rfl rfl rfl rfl (fun bs3 => ?_)
  refine at_q (fun _ => y_assign rfl) ?_
  refine lin_nil (fun Fs => ?_)
  refine wq_world (S' := Hp w0 K [bldA 81 5 (bs8 0) ((((([] ++ flatF [t.key]) ++ flatF ([t.epoch].map itoa)) ++ flatF [t.cmd]) ++ flatF [filesT t.files.xs])), blk b1 (.cells (encK t).toArray 25 (0, 0))]) (fun w hw => hw.sub (by (repeat (first | exact pt_nil | apply pt0 | apply pt1 | apply pt2 | apply pt3 | apply pt4 | apply pt5 | apply pt6 | apply pt7 | apply pt8 | apply pt9 | apply pt10 | apply pt11 | apply pt12 | apply pt13 | apply pt14 | apply pt15 | apply pt16 | apply pt17)))) ?_
  refine wq_then ?_
  refine wc_seq ?_
  refine wc_mix (.q 0 0 (.q 1 0 (.q 2 0 (.q 4 0 (.q 5 0 (.q 8 0 (.q 9 0 (.w 3 2 (.w 6 2 (.q 7 0 (.w 10 2 (.q 11 0 (.q 12 0 .nil)) .nil)) .nil) .nil)))))))) (Sees [blk b1 (.cells (encK t).toArray 25 (0, 0))]) MO (by kernel_rfl) (Hp.drawless _ _ _) (fun w hw => by refine ⟨?_, trivial⟩ <;> first | exact hw.seen [] | exact hw.seen [_] | exact hw.seen [_, _] | exact hw.seen [_, _, _] | exact hw.seen [_, _, _, _] | exact hw.seen [_, _, _, _, _]) ?_
  refine wm_g rfl rfl (y_move rfl) ?_
  refine wm_g rfl rfl (y_nilCheck rfl) ?_
  refine wm_g rfl rfl (y_fieldAddr F81_0 rfl) ?_
  refine wm_g rfl rfl (y_fieldAddr F25_4 rfl) ?_
  refine wm_g rfl rfl (y_load NA23 rfl (fun w hw => by first | exact cell_of_heap hw.1.blk rfl)) ?_
  refine wm_g rfl rfl (y_fieldAddr F25_5 rfl) ?_
  refine wm_g rfl rfl (y_load NA3 rfl (fun w hw => by first | exact cell_of_heap hw.1.blk rfl)) ?_
  refine wm_c rfl rfl ?hC (yc_spec (fst := []) (cap := []) _ FN39 (stringT_c 81 (bs8 0) (((([] ++ flatF [t.key]) ++ flatF ([t.epoch].map itoa)) ++ flatF [t.cmd]) ++ flatF [filesT t.files.xs]) (by first | omega | (simp only [List.length_append]; omega))) rfl rfl rfl (by (repeat (first | exact pt_nil | apply pt0 | apply pt1 | apply pt2 | apply pt3 | apply pt4 | apply pt5 | apply pt6 | apply pt7 | apply pt8 | apply pt9 | apply pt10 | apply pt11 | apply pt12 | apply pt13 | apply pt14 | apply pt15 | apply pt16 | apply pt17))) (by (repeat (first | exact ro_nil | exact ro_rest (by assumption) | refine ro_cons (by first | exact .inl (by assumption) | exact ro_f0 (fun _ h => h) | exact ro_f0 (fun _ => slc_rsl) | exact ro_f1 (fun _ h => h) | exact ro_f1 (fun _ => slc_rsl) | exact ro_f2 (fun _ h => h) | exact ro_f2 (fun _ => slc_rsl) | exact ro_f3 (fun _ h => h) | exact ro_f3 (fun _ => slc_rsl) | exact ro_f4 (fun _ h => h) | exact ro_f4 (fun _ => slc_rsl) | exact ro_f5 (fun _ h => h) | exact ro_f5 (fun _ => slc_rsl) | exact ro_f6 (fun _ h => h) | exact ro_f6 (fun _ => slc_rsl)) ?_)))) (wm_ex fun x23 hx23 => ?_)
  case hC => exact (fun _ _ h => by obtain ⟨_, _, _, hw⟩ := h; exact (by refine ⟨?_, trivial⟩ <;> first | exact hw.seen [] | exact hw.seen [_] | exact hw.seen [_, _] | exact hw.seen [_, _, _] | exact hw.seen [_, _, _, _] | exact hw.seen [_, _, _, _, _]))
  refine wm_c rfl rfl ?hC (yc_spec (fst := []) (cap := []) _ FN40 (plistG_c t.names.xs t.names.a t.names.cap (by have := len_text (flatF t.names.xs); omega)) rfl rfl rfl (by (repeat (first | exact pt_nil | apply pt0 | apply pt1 | apply pt2 | apply pt3 | apply pt4 | apply pt5 | apply pt6 | apply pt7 | apply pt8 | apply pt9 | apply pt10 | apply pt11 | apply pt12 | apply pt13 | apply pt14 | apply pt15 | apply pt16 | apply pt17))) (by (repeat (first | exact ro_nil | exact ro_rest (by assumption) | refine ro_cons (by first | exact .inl (by assumption) | exact ro_f0 (fun _ h => h) | exact ro_f0 (fun _ => slc_rsl) | exact ro_f1 (fun _ h => h) | exact ro_f1 (fun _ => slc_rsl) | exact ro_f2 (fun _ h => h) | exact ro_f2 (fun _ => slc_rsl) | exact ro_f3 (fun _ h => h) | exact ro_f3 (fun _ => slc_rsl) | exact ro_f4 (fun _ h => h) | exact ro_f4 (fun _ => slc_rsl) | exact ro_f5 (fun _ h => h) | exact ro_f5 (fun _ => slc_rsl) | exact ro_f6 (fun _ h => h) | exact ro_f6 (fun _ => slc_rsl)) ?_)))) (wm_ex fun x26 hx26 => ?_)
  case hC => exact (fun _ _ h => by obtain ⟨_, _, _, hw⟩ := h; exact (by refine ⟨?_, trivial⟩ <;> first | exact hw.seen [] | exact hw.seen [_] | exact hw.seen [_, _] | exact hw.seen [_, _, _] | exact hw.seen [_, _, _, _] | exact hw.seen [_, _, _, _, _]))
  refine wm_g rfl rfl (y_addS rfl rfl (by first | omega | (simp; omega) | (simp only [List.length_append]; omega))) ?_
  refine wm_c rfl rfl ?hC (yc_spec (fst := []) (cap := []) _ FN41 (pnum_c t.fuel hi.2) rfl rfl rfl (by (repeat (first | exact pt_nil | apply pt0 | apply pt1 | apply pt2 | apply pt3 | apply pt4 | apply pt5 | apply pt6 | apply pt7 | apply pt8 | apply pt9 | apply pt10 | apply pt11 | apply pt12 | apply pt13 | apply pt14 | apply pt15 | apply pt16 | apply pt17))) (by (repeat (first | exact ro_nil | exact ro_rest (by assumption) | refine ro_cons (by first | exact .inl (by assumption) | exact ro_f0 (fun _ h => h) | exact ro_f0 (fun _ => slc_rsl) | exact ro_f1 (fun _ h => h) | exact ro_f1 (fun _ => slc_rsl) | exact ro_f2 (fun _ h => h) | exact ro_f2 (fun _ => slc_rsl) | exact ro_f3 (fun _ h => h) | exact ro_f3 (fun _ => slc_rsl) | exact ro_f4 (fun _ h => h) | exact ro_f4 (fun _ => slc_rsl) | exact ro_f5 (fun _ h => h) | exact ro_f5 (fun _ => slc_rsl) | exact ro_f6 (fun _ h => h) | exact ro_f6 (fun _ => slc_rsl)) ?_)))) (wm_ex fun x30 hx30 => ?_)
  case hC => exact (fun _ _ h => by obtain ⟨_, _, _, hw⟩ := h; exact (by refine ⟨?_, trivial⟩ <;> first | exact hw.seen [] | exact hw.seen [_] | exact hw.seen [_, _] | exact hw.seen [_, _, _] | exact hw.seen [_, _, _, _] | exact hw.seen [_, _, _, _, _]))
  refine wm_g rfl rfl (y_addS rfl rfl (by first | omega | (simp only [List.length_append]; omega))) ?_
  refine wm_g rfl rfl (y_assign rfl) ?_
  refine wm_nil ?_
  refine all_wq ?_
  refine wq_then ?_
  refine wc_ret ?_
  refine wq_ret1 rfl rfl (fun w hw => ?_)
  exact ⟨(), trivial, by rw [e], hw.bare⟩

theorem tableT_e (s : Sl OpV) : tableT (opsE s) = textF (flatF (s.xs.map (fun y : OpV => flatF y.er.L))) := by rw [tableT, opsE, List.map_map]; rfl
set_option maxHeartbeats 1000000 in
theorem table_c (s : Sl OpV) (hi : ∀ x ∈ s.xs, x.er.inr) (hl : (tableT (opsE s)).length ≤ 800000000) :
    Ctr Tryd.prog 23 #[vSl s] [libS, opsA s] [] (fun _ : Unit => True) (fun _ => vS (tableT (opsE s))) (fun _ => []) := by
  refine spec_start (n := 24) [(0, vSl s)] Tryd.func23 rfl rfl ⟨rfl, trivial⟩ rfl ?_
  intro w0 K hR
  have hB := hR libS (by simp)
  obtain ⟨hA, hT⟩ := ops_ro (hR (opsA s) (by simp))
  rw [tableT_e] at hl
  have hl2 := len_text (flatF (s.xs.map (fun y : OpV => flatF y.er.L)))
  have hnm := num_map (g := (fun y : OpV => flatF y.er.L)) s.xs
  refine wc_seq ?_
  refine wc_region ?_
  refine wl_y rfl (y_assign rfl) ?_
  refine wl_nil ?_
  refine wq_then ?_
  refine wc_seq ?_
  refine wc_region ?_
  refine wl_y rfl (y_assign rfl) ?_
  refine wl_nil ?_
  refine wq_then ?_
  refine wc_seq ?_
  refine wc_seq ?_
  refine wc_region ?_
  refine wl_y rfl (y_move rfl) ?_
  refine wl_y rfl (y_lenSl Tryd.underlying52 rfl) ?_
  refine wl_y rfl (y_move rfl) ?_
  refine wl_nil ?_
  refine wq_then ?_
  refine wc_block ?_
  refine wc_loop (α := Nat × Option Addr × Nat) (fun y => y.1 ≤ s.xs.length) [(6, _), (7, _)] (fun y => [(8, vI y.1), (3, .slice y.2.1 y.1 y.2.2)]) (fun y => Hp w0 K [slc 9 1 y.2.1 y.1 y.2.2 (((s.xs.take y.1).map (fun y : OpV => flatF y.er.L)).map vS)]) (fun y => s.xs.length - y.1) (0, none, 0) ?_ ⟨rfl, rfl, rfl, rfl, trivial⟩ ?_ ?_
  · exact Nat.zero_le _
  · exact fun w hw => Hp.addNil [] _ hw
  · rintro ⟨i, a, cap⟩ hi2
    refine wc_world (S' := Hp w0 K [slc 9 1 a i cap (((s.xs.take i).map (fun y : OpV => flatF y.er.L)).map vS)]) (fun w hw => hw) ?_
    refine wc_same 8 (vI i) rfl rfl ?_
    refine wc_same 3 (.slice a i cap) rfl rfl ?_
    refine wc_seq ?_
    refine wc_region ?_
    refine wl_y rfl (y_lss rfl rfl) ?_
    refine wl_nil ?_
    refine wq_then ?_
    refine wc_seq ?_
    refine wc_cond rfl (fun hc9 => ?_) (fun hc9 => ?_)
    ·
      simp at hc9
      refine wc_skip ?_
      refine wq_then ?_
      refine wc_seq ?_
      refine wc_block ?_
      refine wc_seq ?_
      refine wc_region ?_
      obtain ⟨x, hx⟩ : ∃ x, s.xs[i]? = some x := ⟨_, List.getElem?_eq_getElem (by omega)⟩
      have hxm := List.mem_of_getElem? hx
      have hxl : (flatF x.er.L).length ≤ _ := map_in (g := (fun y : OpV => flatF y.er.L)) hxm
      have hAx := hT x hxm
      refine wl_y rfl (y_indexAddr Tryd.underlying52 T47 rfl rfl rfl (by omega) (by first | assumption | exact fun _ _ => rfl | exact fun _ _ => hA.isSome (by omega) | exact fun w hw => hw.slc_isSome [] (by omega) | exact fun w hw => hw.slc_isSome [_] (by omega) | exact fun w hw => hw.slc_isSome [_, _] (by omega) | exact fun w hw => hw.slc_isSome [_, _, _] (by omega) | exact fun w hw => hw.slc_isSome [_, _, _, _] (by omega) | exact fun w hw => hw.slc_isSome [_, _, _, _, _] (by omega))) ?_
      refine wl_y rfl (y_loadAgg (l := encOp x) AG47 rfl rfl (by first | exact agg_ro hA (fun i u h => rows_get encOp_len hx h) | exact agg_own [] (fun i u h => rows_get encOp_len hx h) | exact agg_own [_] (fun i u h => rows_get encOp_len hx h) | exact agg_own [_, _] (fun i u h => rows_get encOp_len hx h) | exact agg_own [_, _, _] (fun i u h => rows_get encOp_len hx h) | exact agg_own [_, _, _, _] (fun i u h => rows_get encOp_len hx h) | exact agg_own [_, _, _, _, _] (fun i u h => rows_get encOp_len hx h))) ?_
      refine wl_w (fun _ _ => want_none) rfl (yw_alloc T47 rfl) (wl_ex fun b5 _ => ?_)
      first | refine wl_u (yu_storeAgg [] (l' := [_, _, _, _, _, _, _, _, _]) T47 rfl rfl rfl (by simp [Value.oneCell']) rfl rfl) ?_ | refine wl_u (yu_storeAgg [_] (l' := [_, _, _, _, _, _, _, _, _]) T47 rfl rfl rfl (by simp [Value.oneCell']) rfl rfl) ?_ | refine wl_u (yu_storeAgg [_, _] (l' := [_, _, _, _, _, _, _, _, _]) T47 rfl rfl rfl (by simp [Value.oneCell']) rfl rfl) ?_ | refine wl_u (yu_storeAgg [_, _, _] (l' := [_, _, _, _, _, _, _, _, _]) T47 rfl rfl rfl (by simp [Value.oneCell']) rfl rfl) ?_ | refine wl_u (yu_storeAgg [_, _, _, _] (l' := [_, _, _, _, _, _, _, _, _]) T47 rfl rfl rfl (by simp [Value.oneCell']) rfl rfl) ?_ | refine wl_u (yu_storeAgg [_, _, _, _, _] (l' := [_, _, _, _, _, _, _, _, _]) T47 rfl rfl rfl (by simp [Value.oneCell']) rfl rfl) ?_
      refine wl_nil ?_
      refine wq_then ?_
      refine wc_region ?_
      refine wl_y rfl (y_move rfl) ?_
      refine wl_w (fun _ _ => want_none) rfl (yw_alloc T81 rfl) (wl_ex fun b13 _ => ?_)
      refine wl_world (fun w hw => bld_new (e := 5) hw) ?_
      refine wl_y rfl (y_loadAgg (l := [_, _, _, _, _, _, _, _, _]) AG47 rfl rfl (by first | exact cells_blk [] rfl | exact cells_blk [_] rfl | exact cells_blk [_, _] rfl | exact cells_blk [_, _, _] rfl | exact cells_blk [_, _, _, _] rfl | exact cells_blk [_, _, _, _, _] rfl | exact cellsR_blk (by assumption) rfl)) ?_
      refine wl_c (fun _ _ => want_none) rfl (yc_spec (fst := []) (cap := []) _ FN51 (op_c b13 [] x (hi x hxm) (by simp only [List.length_nil]; omega)) rfl rfl rfl (by (repeat (first | exact pt_nil | apply pt0 | apply pt1 | apply pt2 | apply pt3 | apply pt4 | apply pt5 | apply pt6 | apply pt7 | apply pt8 | apply pt9 | apply pt10 | apply pt11 | apply pt12 | apply pt13 | apply pt14 | apply pt15 | apply pt16 | apply pt17))) (by (repeat (first | exact ro_nil | exact ro_rest (by assumption) | refine ro_cons (by first | exact .inl (by assumption) | exact ro_f0 (fun _ h => h) | exact ro_f0 (fun _ => slc_rsl) | exact ro_f1 (fun _ h => h) | exact ro_f1 (fun _ => slc_rsl) | exact ro_f2 (fun _ h => h) | exact ro_f2 (fun _ => slc_rsl) | exact ro_f3 (fun _ h => h) | exact ro_f3 (fun _ => slc_rsl) | exact ro_f4 (fun _ h => h) | exact ro_f4 (fun _ => slc_rsl) | exact ro_f5 (fun _ h => h) | exact ro_f5 (fun _ => slc_rsl) | exact ro_f6 (fun _ h => h) | exact ro_f6 (fun _ => slc_rsl)) ?_)))) (wl_ex fun x15 hx15 => ?_)
      refine wl_y rfl (y_nilCheck rfl) ?_
      refine wl_y rfl (y_fieldAddr F81_0 rfl) ?_
      refine wl_c (fun _ _ => want_none) rfl (yc_spec (fst := []) (cap := []) _ FN39 (stringT_c 81 b13 ([] ++ flatF x.er.L) (by simp only [List.nil_append]; omega)) rfl rfl rfl (by (repeat (first | exact pt_nil | apply pt0 | apply pt1 | apply pt2 | apply pt3 | apply pt4 | apply pt5 | apply pt6 | apply pt7 | apply pt8 | apply pt9 | apply pt10 | apply pt11 | apply pt12 | apply pt13 | apply pt14 | apply pt15 | apply pt16 | apply pt17))) (by (repeat (first | exact ro_nil | exact ro_rest (by assumption) | refine ro_cons (by first | exact .inl (by assumption) | exact ro_f0 (fun _ h => h) | exact ro_f0 (fun _ => slc_rsl) | exact ro_f1 (fun _ h => h) | exact ro_f1 (fun _ => slc_rsl) | exact ro_f2 (fun _ h => h) | exact ro_f2 (fun _ => slc_rsl) | exact ro_f3 (fun _ h => h) | exact ro_f3 (fun _ => slc_rsl) | exact ro_f4 (fun _ h => h) | exact ro_f4 (fun _ => slc_rsl) | exact ro_f5 (fun _ h => h) | exact ro_f5 (fun _ => slc_rsl) | exact ro_f6 (fun _ h => h) | exact ro_f6 (fun _ => slc_rsl)) ?_)))) (wl_ex fun x18 hx18 => ?_)
      refine wl_w (fun _ _ => want_none) rfl (yw_buildSlice (cs := [vS (flatF x.er.L)]) Tryd.underlying23 T9 rfl rfl rfl rfl rfl rfl rfl) (wl_ex fun b19 _ => ?_)
      refine wl_w (fun _ _ => want_none) rfl (yw_append [_, _] (cs := ((s.xs.take i).map (fun y : OpV => flatF y.er.L)).map vS) (news := [vS (flatF x.er.L)]) Tryd.underlying23 Tryd.underlying23 (.inl ⟨_, rfl⟩) T9 rfl rfl rfl (fun w hw => Src.slice ((hw.seen []).mono fun _ => slc_rsl)) (by omega) (by unfold maxLen; omega) (by simp [Value.oneCell']) rfl) (wl_ex fun p20 hp20 => ?_)
      refine wl_y rfl (y_assign rfl) ?_
      refine wl_nil ?_
      refine wq_block_normal ?_
      refine wq_then ?_
      refine wc_region ?_
      refine wl_y rfl (y_add rfl rfl (by omega)) ?_
      refine wl_y rfl (y_move rfl) ?_
      refine wl_nil ?_
      have e9 := outs_step (g := (fun y : OpV => flatF y.er.L)) hx
      exact wq_round (i + 1, p20.1, p20.2) (by simp only; omega) (by omega) ⟨rfl, rfl, rfl, rfl, trivial⟩ (fun w hw => by rw [e9] at hw; exact hw.sub (by (repeat (first | exact pt_nil | apply pt0 | apply pt1 | apply pt2 | apply pt3 | apply pt4 | apply pt5 | apply pt6 | apply pt7 | apply pt8 | apply pt9 | apply pt10 | apply pt11 | apply pt12 | apply pt13 | apply pt14 | apply pt15 | apply pt16 | apply pt17))))
    ·
      simp at hc9
      refine wc_exit ?_
      refine wq_then_exit (wq_then_exit (wq_block_exit ?_))
      refine wq_then ?_
      refine wc_seq ?_
      refine wc_region ?_
      obtain rfl : i = s.xs.length := by omega
      refine wl_world (S' := Hp w0 K [slc 9 1 a s.xs.length cap ((s.xs.map (fun y : OpV => flatF y.er.L)).map vS)]) (fun w hw => by rw [List.take_length] at hw; exact hw) ?_
      refine wl_y rfl (y_move rfl) ?_
      refine wl_q (fun _ _ => want_none) rfl (yq_spec (fst := []) (cap := []) _ FN40 (plistK_c (s.xs.map (fun y : OpV => flatF y.er.L)) s.xs.length (List.length_map _) a cap (by omega)) rfl rfl rfl (by (repeat (first | exact pt_nil | apply pt0 | apply pt1 | apply pt2 | apply pt3 | apply pt4 | apply pt5 | apply pt6 | apply pt7 | apply pt8 | apply pt9 | apply pt10 | apply pt11 | apply pt12 | apply pt13 | apply pt14 | apply pt15 | apply pt16 | apply pt17))) (by (repeat (first | exact ro_nil | exact ro_rest (by assumption) | refine ro_cons (by first | exact .inl (by assumption) | exact ro_f0 (fun _ h => h) | exact ro_f0 (fun _ => slc_rsl) | exact ro_f1 (fun _ h => h) | exact ro_f1 (fun _ => slc_rsl) | exact ro_f2 (fun _ h => h) | exact ro_f2 (fun _ => slc_rsl) | exact ro_f3 (fun _ h => h) | exact ro_f3 (fun _ => slc_rsl) | exact ro_f4 (fun _ h => h) | exact ro_f4 (fun _ => slc_rsl) | exact ro_f5 (fun _ h => h) | exact ro_f5 (fun _ => slc_rsl) | exact ro_f6 (fun _ h => h) | exact ro_f6 (fun _ => slc_rsl)) ?_))) (fun _ _ => rfl) (fun _ _ _ h => h.sub (by (repeat (first | exact pt_nil | apply pt0 | apply pt1 | apply pt2 | apply pt3 | apply pt4 | apply pt5 | apply pt6 | apply pt7 | apply pt8 | apply pt9 | apply pt10 | apply pt11 | apply pt12 | apply pt13 | apply pt14 | apply pt15 | apply pt16 | apply pt17))))) ?_
      refine wl_y rfl (y_assign rfl) ?_
      refine wl_nil ?_
      refine wq_then ?_
      refine wc_ret ?_
      refine wq_ret1 rfl rfl (fun w hw => ?_)
      exact ⟨(), trivial, by rw [tableT_e], hw.bare⟩

end Go.Proofs.YtbnahfjhlbibcaaDoor
