/-
  Walks: results and operations as bytes.
-/
import Derived.Test.YtbnahfjhlbibcaaGreatDoorWalkN
namespace Go.Proofs.YtbnahfjhlbibcaaGreatDoor
open Go.Eng

open Go.Lib
theorem res_split (s : Str) (r : ResV) : s ++ flatF r.er.L = (((s ++ flatF ([r.err].map itoa)) ++ flatF [r.loc, r.text]) ++ flatF [filesT r.files.xs]) := by
  simp [PR.L, ResV.er, flat_cons, flat_nil]
theorem op_split (s : Str) (x : OpV) : s ++ flatF x.er.L = (((((s ++ flatF [x.name, graphT (grE x.graph)]) ++ flatF [filesT x.snap.xs]) ++ flatF [x.goal]) ++ flatF ([x.state].map itoa)) ++ flatF x.res.er.L) := by
  simp [PO.L, OpV.er, flat_cons, flat_nil]
theorem ev_split (k : Int) (x : OpV) : flatF (evL k x.er) = (([] ++ flatF ([k].map itoa)) ++ flatF x.er.L) := by simp [evL, flat_cons, flat_nil]
theorem one_inR {a : Int} (h : inR a) : ∀ n ∈ [a], inR n := fun n hn => by
  obtain rfl := List.mem_singleton.1 hn; exact h
theorem two_inR {a b : Int} (h : inR a) (h2 : inR b) : ∀ n ∈ [a, b], inR n := fun n hn => by
  simp only [List.mem_cons, List.not_mem_nil, or_false] at hn
  rcases hn with rfl | rfl
  · exact h
  · exact h2
theorem len_map1 (n : Int) : flatF ([n].map itoa) = textF (itoa n) := by simp [flatF]
theorem files_len1 (s : Str) : s.length ≤ (flatF [s]).length := by rw [flat_cons, flat_nil, List.append_nil]; exact len_text s
def fr64_1 (b b3 : Nat) (r : ResV) : List Fr := [⟨0, 5, fun _ => .pointer (some ⟨b, 0, none⟩), fun _ => [], [(0, .pointer (some ⟨b, 0, none⟩))]⟩,
  ⟨1, 6, fun _ => .pointer (some ⟨b3, 0, none⟩), fun _ => [], [(3, .pointer (some ⟨b3, 0, none⟩))]⟩,
  ⟨2, 7, fun _ => vI r.err, fun _ => [], [(6, .pointer (some ⟨b3, 0, none⟩))]⟩,
  ⟨3, 8, fun b => .slice (some ⟨b, 0, none⟩) 1 1, fun b => [slc 3 1 (some ⟨b, 0, none⟩) 1 1 [vI r.err]], [(7, vI r.err)]⟩,
  ⟨5, 10, fun _ => .pointer (some ⟨b3, 1, none⟩), fun _ => [], [(3, .pointer (some ⟨b3, 0, none⟩))]⟩,
  ⟨6, 11, fun _ => vS r.loc, fun _ => [], [(10, .pointer (some ⟨b3, 1, none⟩))]⟩,
  ⟨7, 12, fun _ => .pointer (some ⟨b3, 2, none⟩), fun _ => [], [(3, .pointer (some ⟨b3, 0, none⟩))]⟩,
  ⟨8, 13, fun _ => vS r.text, fun _ => [], [(12, .pointer (some ⟨b3, 2, none⟩))]⟩,
  ⟨9, 14, fun b => .slice (some ⟨b, 0, none⟩) 2 2, fun b => [slc 9 1 (some ⟨b, 0, none⟩) 2 2 [vS r.loc, vS r.text]], [(11, vS r.loc), (13, vS r.text)]⟩,
  ⟨11, 16, fun _ => .pointer (some ⟨b3, 3, none⟩), fun _ => [], [(3, .pointer (some ⟨b3, 0, none⟩))]⟩,
  ⟨12, 17, fun _ => vSl r.files, fun _ => [], [(16, .pointer (some ⟨b3, 3, none⟩))]⟩]
set_option maxHeartbeats 1000000 in
theorem result_c (b : Nat) (s : Str) (r : ResV) (hi : inR r.err) (hl : s.length + (flatF r.er.L).length ≤ 800000000) :
    Ctr Tryz.prog 64 #[ptr b, .agg (encR r).toArray] [libS, filesA r.files] [bldA 88 5 b (s)] (fun _ : Unit => True) (fun _ => ptr b) (fun _ => [bldA 88 5 b (s ++ flatF r.er.L)]) := by
  refine spec_start (n := 19) [(0, ptr b), (1, .agg (encR r).toArray)] Tryz.func64 rfl rfl ⟨rfl, rfl, trivial⟩ rfl ?_
  intro w0 K hR
  have hB := hR libS (by simp)
  have hA := hR (filesA r.files) (by simp)
  have e := res_split s r
  have el := congrArg List.length e
  simp only [List.length_append] at el
  have hf1 := files_len1 (filesT r.files.xs)
  refine wc_seq ?_
  refine wc_region ?_
  refine wl_w (fun _ _ => want_none) rfl (yw_box rfl rfl) (wl_ex fun b3 _ => ?_)
  refine wl_y rfl (y_assign rfl) ?_
  refine wl_nil ?_
  refine wq_then ?_
  refine wc_seq ?_
  refine wc_world (S' := Hp w0 K ([bldA 88 5 b (s)] ++ [blk b3 (.cells (encR r).toArray 27 (0, 0))])) (fun w hw => hw.sub (by (repeat (first | exact pt_nil | apply pt0 | apply pt1 | apply pt2 | apply pt3 | apply pt4 | apply pt5 | apply pt6 | apply pt7 | apply pt8 | apply pt9 | apply pt10 | apply pt11 | apply pt12 | apply pt13 | apply pt14 | apply pt15 | apply pt16 | apply pt17)))) ?_
  refine wc_weaken [(0, _), (3, _)] ⟨rfl, rfl, trivial⟩ ?_
  refine wc_net' (fr64_1 b b3 r) [(4, 9, [0, 3]), (10, 15, [8]), (13, 18, [10]), (14, 4, [])] MO (by kernel_rfl) ?_ ?_
  · refine fr_cons ?_ (fr_cons ?_ (fr_cons ?_ (fr_cons ?_ (fr_cons ?_ (fr_cons ?_ (fr_cons ?_ (fr_cons ?_ (fr_cons ?_ (fr_cons ?_ (fr_cons ?_ fr_nil))))))))))
    · exact fr_mk rfl rfl rfl rfl (need_base rfl need_nil) (fun _ => yw_q (y_move rfl))
    · exact fr_mk rfl rfl rfl rfl (need_base rfl need_nil) (fun _ => yw_q (y_fieldAddr F27_0 rfl))
    · exact fr_mk rfl rfl rfl rfl (need_free 1 rfl rfl (fun _ => rfl) rfl need_nil) (fun _ => yw_q (y_load NA25 rfl (by first | exact cell_blk [] rfl | exact cell_blk [_] rfl | exact cell_blk [_, _] rfl | exact cell_blk [_, _, _] rfl | exact cell_blk [_, _, _, _] rfl | exact cellR_blk (by assumption) rfl)))
    · exact fr_mk rfl rfl rfl rfl (need_free 2 rfl rfl (fun _ => rfl) rfl need_nil) (fun _ => yw_buildSlice (cs := [vI r.err]) Tryz.underlying112 T3 rfl rfl rfl rfl rfl rfl rfl)
    · exact fr_mk rfl rfl rfl rfl (need_base rfl need_nil) (fun _ => yw_q (y_fieldAddr F27_1 rfl))
    · exact fr_mk rfl rfl rfl rfl (need_free 4 rfl rfl (fun _ => rfl) rfl need_nil) (fun _ => yw_q (y_load NA9 rfl (by first | exact cell_blk [] rfl | exact cell_blk [_] rfl | exact cell_blk [_, _] rfl | exact cell_blk [_, _, _] rfl | exact cell_blk [_, _, _, _] rfl | exact cellR_blk (by assumption) rfl)))
    · exact fr_mk rfl rfl rfl rfl (need_base rfl need_nil) (fun _ => yw_q (y_fieldAddr F27_2 rfl))
    · exact fr_mk rfl rfl rfl rfl (need_free 6 rfl rfl (fun _ => rfl) rfl need_nil) (fun _ => yw_q (y_load NA9 rfl (by first | exact cell_blk [] rfl | exact cell_blk [_] rfl | exact cell_blk [_, _] rfl | exact cell_blk [_, _, _] rfl | exact cell_blk [_, _, _, _] rfl | exact cellR_blk (by assumption) rfl)))
    · exact fr_mk rfl rfl rfl rfl (need_free 5 rfl rfl (fun _ => rfl) rfl (need_free 7 rfl rfl (fun _ => rfl) rfl need_nil)) (fun _ => yw_buildSlice (cs := [vS r.loc, vS r.text]) Tryz.underlying39 T9 rfl rfl rfl rfl rfl rfl rfl)
    · exact fr_mk rfl rfl rfl rfl (need_base rfl need_nil) (fun _ => yw_q (y_fieldAddr F27_3 rfl))
    · exact fr_mk rfl rfl rfl rfl (need_free 9 rfl rfl (fun _ => rfl) rfl need_nil) (fun _ => yw_q (y_load NA24 rfl (by first | exact cell_blk [] rfl | exact cell_blk [_] rfl | exact cell_blk [_, _] rfl | exact cell_blk [_, _, _] rfl | exact cell_blk [_, _, _, _] rfl | exact cellR_blk (by assumption) rfl)))
  refine lin_mk rfl rfl rfl rfl (fun bs9 => ?_)
  refine at_c (fst := []) (cap := []) _ (fun _ => [bldA 88 5 (b) ((s ++ flatF ([r.err].map itoa)))]) FN43 (sheet_num (b) s [r.err] (some ⟨bs9 3, 0, none⟩) 1 (one_inR hi) (by first | omega | (simp only [List.length_append]; omega))) rfl rfl rfl (by (repeat (first | exact pt_nil | apply pt0 | apply pt1 | apply pt2 | apply pt3 | apply pt4 | apply pt5 | apply pt6 | apply pt7 | apply pt8 | apply pt9 | apply pt10 | apply pt11 | apply pt12 | apply pt13 | apply pt14 | apply pt15 | apply pt16 | apply pt17))) (by (repeat (first | exact ro_nil | exact ro_rest (by assumption) | refine ro_cons (by first | exact .inl (by assumption) | exact ro_f0 (fun _ h => h) | exact ro_f0 (fun _ => slc_rsl) | exact ro_f1 (fun _ h => h) | exact ro_f1 (fun _ => slc_rsl) | exact ro_f2 (fun _ h => h) | exact ro_f2 (fun _ => slc_rsl) | exact ro_f3 (fun _ h => h) | exact ro_f3 (fun _ => slc_rsl) | exact ro_f4 (fun _ h => h) | exact ro_f4 (fun _ => slc_rsl) | exact ro_f5 (fun _ h => h) | exact ro_f5 (fun _ => slc_rsl) | exact ro_f6 (fun _ h => h) | exact ro_f6 (fun _ => slc_rsl)) ?_))) (fun _ => by (repeat (first | exact pt_nil | apply pt0 | apply pt1 | apply pt2 | apply pt3 | apply pt4 | apply pt5 | apply pt6 | apply pt7 | apply pt8 | apply pt9 | apply pt10 | apply pt11 | apply pt12 | apply pt13 | apply pt14 | apply pt15 | apply pt16 | apply pt17))) (fun x9 hx9 => ?_)
  refine lin_mk rfl rfl rfl rfl (fun bs15 => ?_)
  refine at_c (fst := []) (cap := []) _ (fun _ => [bldA 88 5 (b) (((s ++ flatF ([r.err].map itoa)) ++ flatF [r.loc, r.text]))]) FN61 (sheet_text (b) (s ++ flatF ([r.err].map itoa)) [r.loc, r.text] (some ⟨bs15 9, 0, none⟩) 2 (by first | omega | (simp only [List.length_append]; omega))) rfl rfl rfl (by (repeat (first | exact pt_nil | apply pt0 | apply pt1 | apply pt2 | apply pt3 | apply pt4 | apply pt5 | apply pt6 | apply pt7 | apply pt8 | apply pt9 | apply pt10 | apply pt11 | apply pt12 | apply pt13 | apply pt14 | apply pt15 | apply pt16 | apply pt17))) (by (repeat (first | exact ro_nil | exact ro_rest (by assumption) | refine ro_cons (by first | exact .inl (by assumption) | exact ro_f0 (fun _ h => h) | exact ro_f0 (fun _ => slc_rsl) | exact ro_f1 (fun _ h => h) | exact ro_f1 (fun _ => slc_rsl) | exact ro_f2 (fun _ h => h) | exact ro_f2 (fun _ => slc_rsl) | exact ro_f3 (fun _ h => h) | exact ro_f3 (fun _ => slc_rsl) | exact ro_f4 (fun _ h => h) | exact ro_f4 (fun _ => slc_rsl) | exact ro_f5 (fun _ h => h) | exact ro_f5 (fun _ => slc_rsl) | exact ro_f6 (fun _ h => h) | exact ro_f6 (fun _ => slc_rsl)) ?_))) (fun _ => by (repeat (first | exact pt_nil | apply pt0 | apply pt1 | apply pt2 | apply pt3 | apply pt4 | apply pt5 | apply pt6 | apply pt7 | apply pt8 | apply pt9 | apply pt10 | apply pt11 | apply pt12 | apply pt13 | apply pt14 | apply pt15 | apply pt16 | apply pt17))) (fun x15 hx15 => ?_)
  refine lin_mk rfl rfl rfl rfl (fun bs18 => ?_)
  refine at_c (fst := []) (cap := []) _ (fun _ => [bldA 88 5 (b) ((((s ++ flatF ([r.err].map itoa)) ++ flatF [r.loc, r.text]) ++ flatF [filesT r.files.xs]))]) FN63 (sheet_files (b) ((s ++ flatF ([r.err].map itoa)) ++ flatF [r.loc, r.text]) r.files (by first | omega | (simp only [List.length_append]; omega))) rfl rfl rfl (by (repeat (first | exact pt_nil | apply pt0 | apply pt1 | apply pt2 | apply pt3 | apply pt4 | apply pt5 | apply pt6 | apply pt7 | apply pt8 | apply pt9 | apply pt10 | apply pt11 | apply pt12 | apply pt13 | apply pt14 | apply pt15 | apply pt16 | apply pt17))) (by (repeat (first | exact ro_nil | exact ro_rest (by assumption) | refine ro_cons (by first | exact .inl (by assumption) | exact ro_f0 (fun _ h => h) | exact ro_f0 (fun _ => slc_rsl) | exact ro_f1 (fun _ h => h) | exact ro_f1 (fun _ => slc_rsl) | exact ro_f2 (fun _ h => h) | exact ro_f2 (fun _ => slc_rsl) | exact ro_f3 (fun _ h => h) | exact ro_f3 (fun _ => slc_rsl) | exact ro_f4 (fun _ h => h) | exact ro_f4 (fun _ => slc_rsl) | exact ro_f5 (fun _ h => h) | exact ro_f5 (fun _ => slc_rsl) | exact ro_f6 (fun _ h => h) | exact ro_f6 (fun _ => slc_rsl)) ?_))) (fun _ => by (repeat (first | exact pt_nil | apply pt0 | apply pt1 | apply pt2 | apply pt3 | apply pt4 | apply pt5 | apply pt6 | apply pt7 | apply pt8 | apply pt9 | apply pt10 | apply pt11 | apply pt12 | apply pt13 | apply pt14 | apply pt15 | apply pt16 | apply pt17))) (fun x18 hx18 => ?_)
  refine lin_mk rfl rfl rfl rfl (fun bs4 => ?_)
  refine at_q (fun _ => y_assign rfl) ?_
  refine lin_nil (fun Fs => ?_)
  refine wq_then ?_
  refine wc_ret ?_
  refine wq_ret1 rfl rfl (fun w hw => ?_)
  exact ⟨(), trivial, rfl, by rw [e]; exact hw.sub (by (repeat (first | exact pt_nil | apply pt0 | apply pt1 | apply pt2 | apply pt3 | apply pt4 | apply pt5 | apply pt6 | apply pt7 | apply pt8 | apply pt9 | apply pt10 | apply pt11 | apply pt12 | apply pt13 | apply pt14 | apply pt15 | apply pt16 | apply pt17)))⟩

def fr44_1 (b b3 : Nat) (x : OpV) : List Fr := [⟨0, 5, fun _ => .pointer (some ⟨b, 0, none⟩), fun _ => [], [(0, .pointer (some ⟨b, 0, none⟩))]⟩,
  ⟨1, 6, fun _ => .pointer (some ⟨b3, 0, none⟩), fun _ => [], [(3, .pointer (some ⟨b3, 0, none⟩))]⟩,
  ⟨2, 7, fun _ => vS x.name, fun _ => [], [(6, .pointer (some ⟨b3, 0, none⟩))]⟩,
  ⟨3, 8, fun _ => .pointer (some ⟨b3, 1, none⟩), fun _ => [], [(3, .pointer (some ⟨b3, 0, none⟩))]⟩,
  ⟨4, 9, fun _ => vSl x.graph, fun _ => [], [(8, .pointer (some ⟨b3, 1, none⟩))]⟩,
  ⟨8, 13, fun _ => .pointer (some ⟨b3, 2, none⟩), fun _ => [], [(3, .pointer (some ⟨b3, 0, none⟩))]⟩,
  ⟨9, 14, fun _ => vSl x.snap, fun _ => [], [(13, .pointer (some ⟨b3, 2, none⟩))]⟩,
  ⟨11, 16, fun _ => .pointer (some ⟨b3, 3, none⟩), fun _ => [], [(3, .pointer (some ⟨b3, 0, none⟩))]⟩,
  ⟨12, 17, fun _ => vS x.goal, fun _ => [], [(16, .pointer (some ⟨b3, 3, none⟩))]⟩,
  ⟨13, 18, fun b => .slice (some ⟨b, 0, none⟩) 1 1, fun b => [slc 9 1 (some ⟨b, 0, none⟩) 1 1 [vS x.goal]], [(17, vS x.goal)]⟩,
  ⟨15, 20, fun _ => .pointer (some ⟨b3, 4, none⟩), fun _ => [], [(3, .pointer (some ⟨b3, 0, none⟩))]⟩,
  ⟨16, 21, fun _ => vI x.state, fun _ => [], [(20, .pointer (some ⟨b3, 4, none⟩))]⟩,
  ⟨17, 22, fun b => .slice (some ⟨b, 0, none⟩) 1 1, fun b => [slc 3 1 (some ⟨b, 0, none⟩) 1 1 [vI x.state]], [(21, vI x.state)]⟩,
  ⟨19, 24, fun _ => .pointer (some ⟨b3, 5, none⟩), fun _ => [], [(3, .pointer (some ⟨b3, 0, none⟩))]⟩,
  ⟨20, 25, fun _ => .agg #[vI x.res.err, vS x.res.loc, vS x.res.text, vSl x.res.files], fun _ => [], [(24, .pointer (some ⟨b3, 5, none⟩))]⟩]
set_option maxHeartbeats 1000000 in
theorem op_c (b : Nat) (s : Str) (x : OpV) (hi : x.er.inr) (hl : s.length + (flatF x.er.L).length ≤ 800000000) :
    Ctr Tryz.prog 44 #[ptr b, .agg (encOp x).toArray] [libS, opA x] [bldA 88 5 b (s)] (fun _ : Unit => True) (fun _ => ptr b) (fun _ => [bldA 88 5 b (s ++ flatF x.er.L)]) := by
  refine spec_start (n := 27) [(0, ptr b), (1, .agg (encOp x).toArray)] Tryz.func44 rfl rfl ⟨rfl, rfl, trivial⟩ rfl ?_
  intro w0 K hR
  have hB := hR libS (by simp)
  obtain ⟨hG, hA, hC⟩ := op_ro (hR (opA x) (by simp))
  have e := op_split s x
  have el := congrArg List.length e
  simp only [List.length_append] at el
  have hf1 := files_len1 (filesT x.snap.xs)
  have hg1 := (len_flat (show graphT (grE x.graph) ∈ [x.name, graphT (grE x.graph)] by simp)).2
  refine wc_seq ?_
  refine wc_region ?_
  refine wl_w (fun _ _ => want_none) rfl (yw_box rfl rfl) (wl_ex fun b3 _ => ?_)
  refine wl_y rfl (y_assign rfl) ?_
  refine wl_nil ?_
  refine wq_then ?_
  refine wc_seq ?_
  refine wc_world (S' := Hp w0 K ([bldA 88 5 b (s)] ++ [blk b3 (.cells (encOp x).toArray 29 (0, 0))])) (fun w hw => hw.sub (by (repeat (first | exact pt_nil | apply pt0 | apply pt1 | apply pt2 | apply pt3 | apply pt4 | apply pt5 | apply pt6 | apply pt7 | apply pt8 | apply pt9 | apply pt10 | apply pt11 | apply pt12 | apply pt13 | apply pt14 | apply pt15 | apply pt16 | apply pt17)))) ?_
  refine wc_weaken [(0, _), (3, _)] ⟨rfl, rfl, trivial⟩ ?_
  refine wc_net' (fr44_1 b b3 x) [(5, 10, [4]), (6, 11, [2]), (7, 12, [0]), (10, 15, [6]), (14, 19, [9]), (18, 23, [12]), (21, 26, [14]), (22, 4, [])] MO (by kernel_rfl) ?_ ?_
  · refine fr_cons ?_ (fr_cons ?_ (fr_cons ?_ (fr_cons ?_ (fr_cons ?_ (fr_cons ?_ (fr_cons ?_ (fr_cons ?_ (fr_cons ?_ (fr_cons ?_ (fr_cons ?_ (fr_cons ?_ (fr_cons ?_ (fr_cons ?_ (fr_cons ?_ fr_nil))))))))))))))
    · exact fr_mk rfl rfl rfl rfl (need_base rfl need_nil) (fun _ => yw_q (y_move rfl))
    · exact fr_mk rfl rfl rfl rfl (need_base rfl need_nil) (fun _ => yw_q (y_fieldAddr F29_0 rfl))
    · exact fr_mk rfl rfl rfl rfl (need_free 1 rfl rfl (fun _ => rfl) rfl need_nil) (fun _ => yw_q (y_load NA9 rfl (by first | exact cell_blk [] rfl | exact cell_blk [_] rfl | exact cell_blk [_, _] rfl | exact cell_blk [_, _, _] rfl | exact cell_blk [_, _, _, _] rfl | exact cellR_blk (by assumption) rfl)))
    · exact fr_mk rfl rfl rfl rfl (need_base rfl need_nil) (fun _ => yw_q (y_fieldAddr F29_1 rfl))
    · exact fr_mk rfl rfl rfl rfl (need_free 3 rfl rfl (fun _ => rfl) rfl need_nil) (fun _ => yw_q (y_load NA23 rfl (by first | exact cell_blk [] rfl | exact cell_blk [_] rfl | exact cell_blk [_, _] rfl | exact cell_blk [_, _, _] rfl | exact cell_blk [_, _, _, _] rfl | exact cellR_blk (by assumption) rfl)))
    · exact fr_mk rfl rfl rfl rfl (need_base rfl need_nil) (fun _ => yw_q (y_fieldAddr F29_2 rfl))
    · exact fr_mk rfl rfl rfl rfl (need_free 5 rfl rfl (fun _ => rfl) rfl need_nil) (fun _ => yw_q (y_load NA24 rfl (by first | exact cell_blk [] rfl | exact cell_blk [_] rfl | exact cell_blk [_, _] rfl | exact cell_blk [_, _, _] rfl | exact cell_blk [_, _, _, _] rfl | exact cellR_blk (by assumption) rfl)))
    · exact fr_mk rfl rfl rfl rfl (need_base rfl need_nil) (fun _ => yw_q (y_fieldAddr F29_3 rfl))
    · exact fr_mk rfl rfl rfl rfl (need_free 7 rfl rfl (fun _ => rfl) rfl need_nil) (fun _ => yw_q (y_load NA9 rfl (by first | exact cell_blk [] rfl | exact cell_blk [_] rfl | exact cell_blk [_, _] rfl | exact cell_blk [_, _, _] rfl | exact cell_blk [_, _, _, _] rfl | exact cellR_blk (by assumption) rfl)))
    · exact fr_mk rfl rfl rfl rfl (need_free 8 rfl rfl (fun _ => rfl) rfl need_nil) (fun _ => yw_buildSlice (cs := [vS x.goal]) Tryz.underlying39 T9 rfl rfl rfl rfl rfl rfl rfl)
    · exact fr_mk rfl rfl rfl rfl (need_base rfl need_nil) (fun _ => yw_q (y_fieldAddr F29_4 rfl))
    · exact fr_mk rfl rfl rfl rfl (need_free 10 rfl rfl (fun _ => rfl) rfl need_nil) (fun _ => yw_q (y_load NA3 rfl (by first | exact cell_blk [] rfl | exact cell_blk [_] rfl | exact cell_blk [_, _] rfl | exact cell_blk [_, _, _] rfl | exact cell_blk [_, _, _, _] rfl | exact cellR_blk (by assumption) rfl)))
    · exact fr_mk rfl rfl rfl rfl (need_free 11 rfl rfl (fun _ => rfl) rfl need_nil) (fun _ => yw_buildSlice (cs := [vI x.state]) Tryz.underlying112 T3 rfl rfl rfl rfl rfl rfl rfl)
    · exact fr_mk rfl rfl rfl rfl (need_base rfl need_nil) (fun _ => yw_q (y_fieldAddr F29_5 rfl))
    · exact fr_mk rfl rfl rfl rfl (need_free 13 rfl rfl (fun _ => rfl) rfl need_nil) (fun _ => yw_q (y_loadAgg (l := [_, _, _, _]) AG27 rfl rfl (by first | exact cells_blk [] rfl | exact cells_blk [_] rfl | exact cells_blk [_, _] rfl | exact cells_blk [_, _, _] rfl | exact cells_blk [_, _, _, _] rfl | exact cellsR_blk (by assumption) rfl)))
  refine lin_mk rfl rfl rfl rfl (fun bs10 => ?_)
  refine at_c (fst := []) (cap := []) _ (fun _ => [bldA 88 5 b (s)]) FN62 (kgraph_c x.graph (by omega)) rfl rfl rfl (by (repeat (first | exact pt_nil | apply pt0 | apply pt1 | apply pt2 | apply pt3 | apply pt4 | apply pt5 | apply pt6 | apply pt7 | apply pt8 | apply pt9 | apply pt10 | apply pt11 | apply pt12 | apply pt13 | apply pt14 | apply pt15 | apply pt16 | apply pt17))) (by (repeat (first | exact ro_nil | exact ro_rest (by assumption) | refine ro_cons (by first | exact .inl (by assumption) | exact ro_f0 (fun _ h => h) | exact ro_f0 (fun _ => slc_rsl) | exact ro_f1 (fun _ h => h) | exact ro_f1 (fun _ => slc_rsl) | exact ro_f2 (fun _ h => h) | exact ro_f2 (fun _ => slc_rsl) | exact ro_f3 (fun _ h => h) | exact ro_f3 (fun _ => slc_rsl) | exact ro_f4 (fun _ h => h) | exact ro_f4 (fun _ => slc_rsl) | exact ro_f5 (fun _ h => h) | exact ro_f5 (fun _ => slc_rsl) | exact ro_f6 (fun _ h => h) | exact ro_f6 (fun _ => slc_rsl)) ?_))) (fun _ => by (repeat (first | exact pt_nil | apply pt0 | apply pt1 | apply pt2 | apply pt3 | apply pt4 | apply pt5 | apply pt6 | apply pt7 | apply pt8 | apply pt9 | apply pt10 | apply pt11 | apply pt12 | apply pt13 | apply pt14 | apply pt15 | apply pt16 | apply pt17))) (fun x10 hx10 => ?_)
  refine lin_mk rfl rfl rfl rfl (fun bs11 => ?_)
  refine at_w (fun _ => yw_buildSlice (cs := [_, _]) Tryz.underlying39 T9 rfl rfl rfl rfl rfl rfl rfl) (fun b11 _ => ?_)
  refine lin_mk rfl rfl rfl rfl (fun bs12 => ?_)
  refine at_c (fst := []) (cap := []) _ (fun _ => [bldA 88 5 (b) ((s ++ flatF [x.name, graphT (grE x.graph)]))]) FN61 (sheet_text (b) s [x.name, graphT (grE x.graph)] (some ⟨b11, 0, none⟩) 2 (by first | omega | (simp only [List.length_append]; omega))) rfl rfl rfl (by (repeat (first | exact pt_nil | apply pt0 | apply pt1 | apply pt2 | apply pt3 | apply pt4 | apply pt5 | apply pt6 | apply pt7 | apply pt8 | apply pt9 | apply pt10 | apply pt11 | apply pt12 | apply pt13 | apply pt14 | apply pt15 | apply pt16 | apply pt17))) (by (repeat (first | exact ro_nil | exact ro_rest (by assumption) | refine ro_cons (by first | exact .inl (by assumption) | exact ro_f0 (fun _ h => h) | exact ro_f0 (fun _ => slc_rsl) | exact ro_f1 (fun _ h => h) | exact ro_f1 (fun _ => slc_rsl) | exact ro_f2 (fun _ h => h) | exact ro_f2 (fun _ => slc_rsl) | exact ro_f3 (fun _ h => h) | exact ro_f3 (fun _ => slc_rsl) | exact ro_f4 (fun _ h => h) | exact ro_f4 (fun _ => slc_rsl) | exact ro_f5 (fun _ h => h) | exact ro_f5 (fun _ => slc_rsl) | exact ro_f6 (fun _ h => h) | exact ro_f6 (fun _ => slc_rsl)) ?_))) (fun _ => by (repeat (first | exact pt_nil | apply pt0 | apply pt1 | apply pt2 | apply pt3 | apply pt4 | apply pt5 | apply pt6 | apply pt7 | apply pt8 | apply pt9 | apply pt10 | apply pt11 | apply pt12 | apply pt13 | apply pt14 | apply pt15 | apply pt16 | apply pt17))) (fun x12 hx12 => ?_)
  refine lin_mk rfl rfl rfl rfl (fun bs15 => ?_)
  refine at_c (fst := []) (cap := []) _ (fun _ => [bldA 88 5 (b) (((s ++ flatF [x.name, graphT (grE x.graph)]) ++ flatF [filesT x.snap.xs]))]) FN63 (sheet_files (b) (s ++ flatF [x.name, graphT (grE x.graph)]) x.snap (by first | omega | (simp only [List.length_append]; omega))) rfl rfl rfl (by (repeat (first | exact pt_nil | apply pt0 | apply pt1 | apply pt2 | apply pt3 | apply pt4 | apply pt5 | apply pt6 | apply pt7 | apply pt8 | apply pt9 | apply pt10 | apply pt11 | apply pt12 | apply pt13 | apply pt14 | apply pt15 | apply pt16 | apply pt17))) (by (repeat (first | exact ro_nil | exact ro_rest (by assumption) | refine ro_cons (by first | exact .inl (by assumption) | exact ro_f0 (fun _ h => h) | exact ro_f0 (fun _ => slc_rsl) | exact ro_f1 (fun _ h => h) | exact ro_f1 (fun _ => slc_rsl) | exact ro_f2 (fun _ h => h) | exact ro_f2 (fun _ => slc_rsl) | exact ro_f3 (fun _ h => h) | exact ro_f3 (fun _ => slc_rsl) | exact ro_f4 (fun _ h => h) | exact ro_f4 (fun _ => slc_rsl) | exact ro_f5 (fun _ h => h) | exact ro_f5 (fun _ => slc_rsl) | exact ro_f6 (fun _ h => h) | exact ro_f6 (fun _ => slc_rsl)) ?_))) (fun _ => by (repeat (first | exact pt_nil | apply pt0 | apply pt1 | apply pt2 | apply pt3 | apply pt4 | apply pt5 | apply pt6 | apply pt7 | apply pt8 | apply pt9 | apply pt10 | apply pt11 | apply pt12 | apply pt13 | apply pt14 | apply pt15 | apply pt16 | apply pt17))) (fun x15 hx15 => ?_)
  refine lin_mk rfl rfl rfl rfl (fun bs19 => ?_)
  refine at_c (fst := []) (cap := []) _ (fun _ => [bldA 88 5 (b) ((((s ++ flatF [x.name, graphT (grE x.graph)]) ++ flatF [filesT x.snap.xs]) ++ flatF [x.goal]))]) FN61 (sheet_text (b) ((s ++ flatF [x.name, graphT (grE x.graph)]) ++ flatF [filesT x.snap.xs]) [x.goal] (some ⟨bs19 13, 0, none⟩) 1 (by first | omega | (simp only [List.length_append]; omega))) rfl rfl rfl (by (repeat (first | exact pt_nil | apply pt0 | apply pt1 | apply pt2 | apply pt3 | apply pt4 | apply pt5 | apply pt6 | apply pt7 | apply pt8 | apply pt9 | apply pt10 | apply pt11 | apply pt12 | apply pt13 | apply pt14 | apply pt15 | apply pt16 | apply pt17))) (by (repeat (first | exact ro_nil | exact ro_rest (by assumption) | refine ro_cons (by first | exact .inl (by assumption) | exact ro_f0 (fun _ h => h) | exact ro_f0 (fun _ => slc_rsl) | exact ro_f1 (fun _ h => h) | exact ro_f1 (fun _ => slc_rsl) | exact ro_f2 (fun _ h => h) | exact ro_f2 (fun _ => slc_rsl) | exact ro_f3 (fun _ h => h) | exact ro_f3 (fun _ => slc_rsl) | exact ro_f4 (fun _ h => h) | exact ro_f4 (fun _ => slc_rsl) | exact ro_f5 (fun _ h => h) | exact ro_f5 (fun _ => slc_rsl) | exact ro_f6 (fun _ h => h) | exact ro_f6 (fun _ => slc_rsl)) ?_))) (fun _ => by (repeat (first | exact pt_nil | apply pt0 | apply pt1 | apply pt2 | apply pt3 | apply pt4 | apply pt5 | apply pt6 | apply pt7 | apply pt8 | apply pt9 | apply pt10 | apply pt11 | apply pt12 | apply pt13 | apply pt14 | apply pt15 | apply pt16 | apply pt17))) (fun x19 hx19 => ?_)
  refine lin_mk rfl rfl rfl rfl (fun bs23 => ?_)
  refine at_c (fst := []) (cap := []) _ (fun _ => [bldA 88 5 (b) (((((s ++ flatF [x.name, graphT (grE x.graph)]) ++ flatF [filesT x.snap.xs]) ++ flatF [x.goal]) ++ flatF ([x.state].map itoa)))]) FN43 (sheet_num (b) (((s ++ flatF [x.name, graphT (grE x.graph)]) ++ flatF [filesT x.snap.xs]) ++ flatF [x.goal]) [x.state] (some ⟨bs23 17, 0, none⟩) 1 (one_inR hi.1) (by first | omega | (simp only [List.length_append]; omega))) rfl rfl rfl (by (repeat (first | exact pt_nil | apply pt0 | apply pt1 | apply pt2 | apply pt3 | apply pt4 | apply pt5 | apply pt6 | apply pt7 | apply pt8 | apply pt9 | apply pt10 | apply pt11 | apply pt12 | apply pt13 | apply pt14 | apply pt15 | apply pt16 | apply pt17))) (by (repeat (first | exact ro_nil | exact ro_rest (by assumption) | refine ro_cons (by first | exact .inl (by assumption) | exact ro_f0 (fun _ h => h) | exact ro_f0 (fun _ => slc_rsl) | exact ro_f1 (fun _ h => h) | exact ro_f1 (fun _ => slc_rsl) | exact ro_f2 (fun _ h => h) | exact ro_f2 (fun _ => slc_rsl) | exact ro_f3 (fun _ h => h) | exact ro_f3 (fun _ => slc_rsl) | exact ro_f4 (fun _ h => h) | exact ro_f4 (fun _ => slc_rsl) | exact ro_f5 (fun _ h => h) | exact ro_f5 (fun _ => slc_rsl) | exact ro_f6 (fun _ h => h) | exact ro_f6 (fun _ => slc_rsl)) ?_))) (fun _ => by (repeat (first | exact pt_nil | apply pt0 | apply pt1 | apply pt2 | apply pt3 | apply pt4 | apply pt5 | apply pt6 | apply pt7 | apply pt8 | apply pt9 | apply pt10 | apply pt11 | apply pt12 | apply pt13 | apply pt14 | apply pt15 | apply pt16 | apply pt17))) (fun x23 hx23 => ?_)
  refine lin_mk rfl rfl rfl rfl (fun bs26 => ?_)
  refine at_c (fst := []) (cap := []) _ (fun _ => [bldA 88 5 (b) ((((((s ++ flatF [x.name, graphT (grE x.graph)]) ++ flatF [filesT x.snap.xs]) ++ flatF [x.goal]) ++ flatF ([x.state].map itoa)) ++ flatF x.res.er.L))]) FN64 (result_c (b) ((((s ++ flatF [x.name, graphT (grE x.graph)]) ++ flatF [filesT x.snap.xs]) ++ flatF [x.goal]) ++ flatF ([x.state].map itoa)) x.res hi.2 (by first | omega | (simp only [List.length_append]; omega))) rfl rfl rfl (by (repeat (first | exact pt_nil | apply pt0 | apply pt1 | apply pt2 | apply pt3 | apply pt4 | apply pt5 | apply pt6 | apply pt7 | apply pt8 | apply pt9 | apply pt10 | apply pt11 | apply pt12 | apply pt13 | apply pt14 | apply pt15 | apply pt16 | apply pt17))) (by (repeat (first | exact ro_nil | exact ro_rest (by assumption) | refine ro_cons (by first | exact .inl (by assumption) | exact ro_f0 (fun _ h => h) | exact ro_f0 (fun _ => slc_rsl) | exact ro_f1 (fun _ h => h) | exact ro_f1 (fun _ => slc_rsl) | exact ro_f2 (fun _ h => h) | exact ro_f2 (fun _ => slc_rsl) | exact ro_f3 (fun _ h => h) | exact ro_f3 (fun _ => slc_rsl) | exact ro_f4 (fun _ h => h) | exact ro_f4 (fun _ => slc_rsl) | exact ro_f5 (fun _ h => h) | exact ro_f5 (fun _ => slc_rsl) | exact ro_f6 (fun _ h => h) | exact ro_f6 (fun _ => slc_rsl)) ?_))) (fun _ => by (repeat (first | exact pt_nil | apply pt0 | apply pt1 | apply pt2 | apply pt3 | apply pt4 | apply pt5 | apply pt6 | apply pt7 | apply pt8 | apply pt9 | apply pt10 | apply pt11 | apply pt12 | apply pt13 | apply pt14 | apply pt15 | apply pt16 | apply pt17))) (fun x26 hx26 => ?_)
  refine lin_mk rfl rfl rfl rfl (fun bs4 => ?_)
  refine at_q (fun _ => y_assign rfl) ?_
  refine lin_nil (fun Fs => ?_)
  refine wq_then ?_
  refine wc_ret ?_
  refine wq_ret1 rfl rfl (fun w hw => ?_)
  exact ⟨(), trivial, rfl, by rw [e]; exact hw.sub (by (repeat (first | exact pt_nil | apply pt0 | apply pt1 | apply pt2 | apply pt3 | apply pt4 | apply pt5 | apply pt6 | apply pt7 | apply pt8 | apply pt9 | apply pt10 | apply pt11 | apply pt12 | apply pt13 | apply pt14 | apply pt15 | apply pt16 | apply pt17)))⟩

end Go.Proofs.YtbnahfjhlbibcaaGreatDoor
