/-
  Walks: the reference's takers.
-/
import Derived.Test.YtbnahfjhlbibcaaGreatDoorWalkZA
import Derived.Test.YtbnahfjhlbibcaaGreatDoorWalkT
namespace Go.Proofs.YtbnahfjhlbibcaaGreatDoor
open Go.Eng

open Go.Lib
abbrev tkA (sb rb : Nat) (s : Scn) : List Atom := [blk sb (.cells #[ptr rb, vB s.odd] 65 (0, 0)), rdA 72 rb (s.r)]
set_option maxHeartbeats 1000000 in
theorem rtake_c (data : Str) :
    Ctr Tryz.prog 22 #[vS data] [] [] (fun _ : Nat × Nat => True) (fun x => ptr x.1) (fun x => tkA x.1 x.2 (take0 data)) := by
  refine spec_start (n := 8) [(0, vS data)] Tryz.func22 rfl rfl ⟨rfl, trivial⟩ rfl ?_
  intro w0 K hR
  refine wc_seq ?_
  refine wc_region ?_
  refine wl_y rfl (y_assign rfl) ?_
  refine wl_nil ?_
  refine wq_then ?_
  refine wc_seq ?_
  refine wc_region ?_
  refine wl_y rfl (y_move rfl) ?_
  refine wl_y rfl (y_build (cs := [_, _]) T72 PL72 rfl rfl rfl) ?_
  refine wl_w (fun _ _ => want_none) rfl (yw_box rfl rfl) (wl_ex fun b5 _ => ?_)
  refine wl_y rfl (y_build (cs := [_, _]) T65 PL65 rfl rfl rfl) ?_
  refine wl_w (fun _ _ => want_none) rfl (yw_box rfl rfl) (wl_ex fun b7 _ => ?_)
  refine wl_y rfl (y_assign rfl) ?_
  refine wl_nil ?_
  refine wq_then ?_
  refine wc_ret ?_
  refine wq_ret1 rfl rfl (fun w hw => ?_)
  exact ⟨(b7, b5), trivial, rfl, hw⟩

set_option maxHeartbeats 1000000 in
theorem kfilesR_c (sb rb : Nat) (s : Scn) (hf : s.fit) :
    Ctr Tryz.prog 39 #[ptr sb] [] (tkA sb rb s) (fun x : Sl PF => x.xs = s.files.2) (fun x => vSl x) (fun x => filesA x :: tkA sb rb s.files.1) := by
  refine spec_start (n := 26) [(0, ptr sb)] Tryz.func39 rfl rfl ⟨rfl, trivial⟩ rfl ?_
  intro w0 K hR
  refine wc_seq ?_
  refine wc_region ?_
  refine wl_y rfl (y_assign rfl) ?_
  refine wl_nil ?_
  refine wq_then ?_
  refine wc_seq ?_
  refine wc_region ?_
  refine wl_y rfl (y_move rfl) ?_
  refine wl_y rfl (y_nilCheck rfl) ?_
  refine wl_y rfl (y_fieldAddr F65_0 rfl) ?_
  refine wl_y rfl (y_load NA63 rfl (by first | exact cell_blk [] rfl | exact cell_blk [_] rfl | exact cell_blk [_, _] rfl | exact cell_blk [_, _, _] rfl | exact cell_blk [_, _, _, _] rfl | exact cellR_blk (by assumption) rfl)) ?_
  refine wl_c (fun _ _ => want_none) rfl (yc_spec (fst := []) (cap := []) _ FN38 (rtext_p rb s.r hf) rfl rfl rfl (by (repeat (first | exact pt_nil | apply pt0 | apply pt1 | apply pt2 | apply pt3 | apply pt4 | apply pt5 | apply pt6 | apply pt7 | apply pt8 | apply pt9 | apply pt10 | apply pt11 | apply pt12 | apply pt13 | apply pt14 | apply pt15 | apply pt16 | apply pt17))) (by (repeat (first | exact ro_nil | exact ro_rest (by assumption) | refine ro_cons (by first | exact .inl (by assumption) | exact ro_f0 (fun _ h => h) | exact ro_f0 (fun _ => slc_rsl) | exact ro_f1 (fun _ h => h) | exact ro_f1 (fun _ => slc_rsl) | exact ro_f2 (fun _ h => h) | exact ro_f2 (fun _ => slc_rsl) | exact ro_f3 (fun _ h => h) | exact ro_f3 (fun _ => slc_rsl) | exact ro_f4 (fun _ h => h) | exact ro_f4 (fun _ => slc_rsl) | exact ro_f5 (fun _ h => h) | exact ro_f5 (fun _ => slc_rsl) | exact ro_f6 (fun _ h => h) | exact ro_f6 (fun _ => slc_rsl)) ?_)))) (wl_ex fun x10 hx10 => ?_)
  refine wl_c (fun _ _ => want_none) rfl (yc_spec (fst := []) (cap := []) _ FN57 (rreadF_c s.r.text.2 (fit_txt hf)) rfl rfl rfl (by (repeat (first | exact pt_nil | apply pt0 | apply pt1 | apply pt2 | apply pt3 | apply pt4 | apply pt5 | apply pt6 | apply pt7 | apply pt8 | apply pt9 | apply pt10 | apply pt11 | apply pt12 | apply pt13 | apply pt14 | apply pt15 | apply pt16 | apply pt17))) (by (repeat (first | exact ro_nil | exact ro_rest (by assumption) | refine ro_cons (by first | exact .inl (by assumption) | exact ro_f0 (fun _ h => h) | exact ro_f0 (fun _ => slc_rsl) | exact ro_f1 (fun _ h => h) | exact ro_f1 (fun _ => slc_rsl) | exact ro_f2 (fun _ h => h) | exact ro_f2 (fun _ => slc_rsl) | exact ro_f3 (fun _ h => h) | exact ro_f3 (fun _ => slc_rsl) | exact ro_f4 (fun _ h => h) | exact ro_f4 (fun _ => slc_rsl) | exact ro_f5 (fun _ h => h) | exact ro_f5 (fun _ => slc_rsl) | exact ro_f6 (fun _ h => h) | exact ro_f6 (fun _ => slc_rsl)) ?_)))) (wl_ex fun x11 hx11 => ?_)
  refine wl_y rfl (y_move rfl) ?_
  refine wl_y rfl (y_extract rfl rfl) ?_
  refine wl_y rfl (y_extract rfl rfl) ?_
  refine wl_y rfl (y_assign rfl) ?_
  refine wl_y rfl (y_assign rfl) ?_
  refine wl_nil ?_
  refine wq_then ?_
  refine wc_seq ?_
  refine wc_region ?_
  refine wl_y rfl (y_move rfl) ?_
  refine wl_y rfl (y_move rfl) ?_
  refine wl_y rfl (y_nilCheck rfl) ?_
  refine wl_y rfl (y_fieldAddr F65_1 rfl) ?_
  refine wl_y rfl (y_load NA4 rfl (by first | exact cell_blk [] rfl | exact cell_blk [_] rfl | exact cell_blk [_, _] rfl | exact cell_blk [_, _, _] rfl | exact cell_blk [_, _, _, _] rfl | exact cellR_blk (by assumption) rfl)) ?_
  refine wl_y rfl (y_move rfl) ?_
  apply wl_or 3 22 [(3, _), (14, _)] (t := 19) rfl ⟨rfl, rfl, trivial⟩
  · intro hg19 hM22
    refine wl_sk rfl rfl rfl rfl ?_
    refine wl_sk rfl rfl rfl rfl ?_
    refine wl_y rfl (y_pick_t rfl rfl) ?_
    exact wl_weaken hM22 ⟨rfl, rfl, rfl, trivial⟩
  · intro hg19 hM22
    try (simp at hg19)
    refine wl_yg rfl rfl rfl (y_move rfl) ?_
    refine wl_yg rfl rfl rfl (y_neqI rfl rfl) ?_
    refine wl_y rfl (y_pick_f rfl rfl) ?_
    exact wl_weaken hM22 ⟨rfl, rfl, rfl, trivial⟩
  ·
    refine wl_y rfl (y_nilCheck rfl) ?_
    refine wl_y rfl (y_fieldAddr F65_1 rfl) ?_
    first | refine wl_u (yu_store [] (l' := [_, _]) T4 rfl rfl rfl rfl rfl rfl rfl) ?_ | refine wl_u (yu_store [_] (l' := [_, _]) T4 rfl rfl rfl rfl rfl rfl rfl) ?_ | refine wl_u (yu_store [_, _] (l' := [_, _]) T4 rfl rfl rfl rfl rfl rfl rfl) ?_ | refine wl_u (yu_store [_, _, _] (l' := [_, _]) T4 rfl rfl rfl rfl rfl rfl rfl) ?_ | refine wl_u (yu_store [_, _, _, _] (l' := [_, _]) T4 rfl rfl rfl rfl rfl rfl rfl) ?_
    refine wl_nil ?_
    refine wq_then ?_
    refine wc_seq ?_
    refine wc_region ?_
    refine wl_y rfl (y_move rfl) ?_
    refine wl_y rfl (y_assign rfl) ?_
    refine wl_nil ?_
    refine wq_then ?_
    refine wc_ret ?_
    refine wq_ret1 rfl rfl (fun w hw => ?_)
    exact ⟨x11, hx11, rfl, by rw [or_e] at hw; exact hw.sub (by (repeat (first | exact pt_nil | apply pt0 | apply pt1 | apply pt2 | apply pt3 | apply pt4 | apply pt5 | apply pt6 | apply pt7 | apply pt8 | apply pt9 | apply pt10 | apply pt11 | apply pt12 | apply pt13 | apply pt14 | apply pt15 | apply pt16 | apply pt17)))⟩

set_option maxHeartbeats 1000000 in
theorem kgraphR_c (sb rb : Nat) (s : Scn) (hf : s.fit) :
    Ctr Tryz.prog 51 #[ptr sb] [] (tkA sb rb s) (fun x : Sl TgV => grE x = s.graph.2) (fun x => vSl x) (fun x => graphA x :: tkA sb rb s.graph.1) := by
  refine spec_start (n := 26) [(0, ptr sb)] Tryz.func51 rfl rfl ⟨rfl, trivial⟩ rfl ?_
  intro w0 K hR
  refine wc_seq ?_
  refine wc_region ?_
  refine wl_y rfl (y_assign rfl) ?_
  refine wl_nil ?_
  refine wq_then ?_
  refine wc_seq ?_
  refine wc_region ?_
  refine wl_y rfl (y_move rfl) ?_
  refine wl_y rfl (y_nilCheck rfl) ?_
  refine wl_y rfl (y_fieldAddr F65_0 rfl) ?_
  refine wl_y rfl (y_load NA63 rfl (by first | exact cell_blk [] rfl | exact cell_blk [_] rfl | exact cell_blk [_, _] rfl | exact cell_blk [_, _, _] rfl | exact cell_blk [_, _, _, _] rfl | exact cellR_blk (by assumption) rfl)) ?_
  refine wl_c (fun _ _ => want_none) rfl (yc_spec (fst := []) (cap := []) _ FN38 (rtext_p rb s.r hf) rfl rfl rfl (by (repeat (first | exact pt_nil | apply pt0 | apply pt1 | apply pt2 | apply pt3 | apply pt4 | apply pt5 | apply pt6 | apply pt7 | apply pt8 | apply pt9 | apply pt10 | apply pt11 | apply pt12 | apply pt13 | apply pt14 | apply pt15 | apply pt16 | apply pt17))) (by (repeat (first | exact ro_nil | exact ro_rest (by assumption) | refine ro_cons (by first | exact .inl (by assumption) | exact ro_f0 (fun _ h => h) | exact ro_f0 (fun _ => slc_rsl) | exact ro_f1 (fun _ h => h) | exact ro_f1 (fun _ => slc_rsl) | exact ro_f2 (fun _ h => h) | exact ro_f2 (fun _ => slc_rsl) | exact ro_f3 (fun _ h => h) | exact ro_f3 (fun _ => slc_rsl) | exact ro_f4 (fun _ h => h) | exact ro_f4 (fun _ => slc_rsl) | exact ro_f5 (fun _ h => h) | exact ro_f5 (fun _ => slc_rsl) | exact ro_f6 (fun _ h => h) | exact ro_f6 (fun _ => slc_rsl)) ?_)))) (wl_ex fun x10 hx10 => ?_)
  refine wl_c (fun _ _ => want_none) rfl (yc_spec (fst := []) (cap := []) _ FN70 (rreadT_c s.r.text.2 (fit_txt hf)) rfl rfl rfl (by (repeat (first | exact pt_nil | apply pt0 | apply pt1 | apply pt2 | apply pt3 | apply pt4 | apply pt5 | apply pt6 | apply pt7 | apply pt8 | apply pt9 | apply pt10 | apply pt11 | apply pt12 | apply pt13 | apply pt14 | apply pt15 | apply pt16 | apply pt17))) (by (repeat (first | exact ro_nil | exact ro_rest (by assumption) | refine ro_cons (by first | exact .inl (by assumption) | exact ro_f0 (fun _ h => h) | exact ro_f0 (fun _ => slc_rsl) | exact ro_f1 (fun _ h => h) | exact ro_f1 (fun _ => slc_rsl) | exact ro_f2 (fun _ h => h) | exact ro_f2 (fun _ => slc_rsl) | exact ro_f3 (fun _ h => h) | exact ro_f3 (fun _ => slc_rsl) | exact ro_f4 (fun _ h => h) | exact ro_f4 (fun _ => slc_rsl) | exact ro_f5 (fun _ h => h) | exact ro_f5 (fun _ => slc_rsl) | exact ro_f6 (fun _ h => h) | exact ro_f6 (fun _ => slc_rsl)) ?_)))) (wl_ex fun x11 hx11 => ?_)
  refine wl_y rfl (y_move rfl) ?_
  refine wl_y rfl (y_extract rfl rfl) ?_
  refine wl_y rfl (y_extract rfl rfl) ?_
  refine wl_y rfl (y_assign rfl) ?_
  refine wl_y rfl (y_assign rfl) ?_
  refine wl_nil ?_
  refine wq_then ?_
  refine wc_seq ?_
  refine wc_region ?_
  refine wl_y rfl (y_move rfl) ?_
  refine wl_y rfl (y_move rfl) ?_
  refine wl_y rfl (y_nilCheck rfl) ?_
  refine wl_y rfl (y_fieldAddr F65_1 rfl) ?_
  refine wl_y rfl (y_load NA4 rfl (by first | exact cell_blk [] rfl | exact cell_blk [_] rfl | exact cell_blk [_, _] rfl | exact cell_blk [_, _, _] rfl | exact cell_blk [_, _, _, _] rfl | exact cellR_blk (by assumption) rfl)) ?_
  refine wl_y rfl (y_move rfl) ?_
  apply wl_or 3 22 [(3, _), (14, _)] (t := 19) rfl ⟨rfl, rfl, trivial⟩
  · intro hg19 hM22
    refine wl_sk rfl rfl rfl rfl ?_
    refine wl_sk rfl rfl rfl rfl ?_
    refine wl_y rfl (y_pick_t rfl rfl) ?_
    exact wl_weaken hM22 ⟨rfl, rfl, rfl, trivial⟩
  · intro hg19 hM22
    try (simp at hg19)
    refine wl_yg rfl rfl rfl (y_move rfl) ?_
    refine wl_yg rfl rfl rfl (y_neqI rfl rfl) ?_
    refine wl_y rfl (y_pick_f rfl rfl) ?_
    exact wl_weaken hM22 ⟨rfl, rfl, rfl, trivial⟩
  ·
    refine wl_y rfl (y_nilCheck rfl) ?_
    refine wl_y rfl (y_fieldAddr F65_1 rfl) ?_
    first | refine wl_u (yu_store [] (l' := [_, _]) T4 rfl rfl rfl rfl rfl rfl rfl) ?_ | refine wl_u (yu_store [_] (l' := [_, _]) T4 rfl rfl rfl rfl rfl rfl rfl) ?_ | refine wl_u (yu_store [_, _] (l' := [_, _]) T4 rfl rfl rfl rfl rfl rfl rfl) ?_ | refine wl_u (yu_store [_, _, _] (l' := [_, _]) T4 rfl rfl rfl rfl rfl rfl rfl) ?_ | refine wl_u (yu_store [_, _, _, _] (l' := [_, _]) T4 rfl rfl rfl rfl rfl rfl rfl) ?_
    refine wl_nil ?_
    refine wq_then ?_
    refine wc_seq ?_
    refine wc_region ?_
    refine wl_y rfl (y_move rfl) ?_
    refine wl_y rfl (y_assign rfl) ?_
    refine wl_nil ?_
    refine wq_then ?_
    refine wc_ret ?_
    refine wq_ret1 rfl rfl (fun w hw => ?_)
    exact ⟨x11, hx11, rfl, by rw [or_e] at hw; exact hw.sub (by (repeat (first | exact pt_nil | apply pt0 | apply pt1 | apply pt2 | apply pt3 | apply pt4 | apply pt5 | apply pt6 | apply pt7 | apply pt8 | apply pt9 | apply pt10 | apply pt11 | apply pt12 | apply pt13 | apply pt14 | apply pt15 | apply pt16 | apply pt17)))⟩

set_option maxHeartbeats 1000000 in
theorem kresR_c (sb rb : Nat) (s : Scn) (hf : s.fit) :
    Ctr Tryz.prog 52 #[ptr sb] [] (tkA sb rb s) (fun x : ResV => x.er = s.res.2) (fun x => .agg (encR x).toArray) (fun x => filesA x.files :: tkA sb rb s.res.1) := by
  refine spec_start (n := 26) [(0, ptr sb)] Tryz.func52 rfl rfl ⟨rfl, trivial⟩ rfl ?_
  intro w0 K hR
  refine wc_seq ?_
  refine wc_region ?_
  refine wl_w (fun _ _ => want_none) rfl (yw_alloc T27 rfl) (wl_ex fun b2 _ => ?_)
  refine wl_nil ?_
  refine wq_then ?_
  refine wc_seq ?_
  refine wc_region ?_
  refine wl_w (fun _ _ => want_none) rfl (yw_alloc T27 rfl) (wl_ex fun b3 _ => ?_)
  refine wl_nil ?_
  refine wq_then ?_
  refine wc_seq ?_
  refine wc_region ?_
  refine wl_y rfl (y_move rfl) ?_
  refine wl_y rfl (y_nilCheck rfl) ?_
  refine wl_y rfl (y_fieldAddr F65_0 rfl) ?_
  refine wl_y rfl (y_load NA63 rfl (by first | exact cell_blk [] rfl | exact cell_blk [_] rfl | exact cell_blk [_, _] rfl | exact cell_blk [_, _, _] rfl | exact cell_blk [_, _, _, _] rfl | exact cell_blk [_, _, _, _, _] rfl | exact cellR_blk (by assumption) rfl)) ?_
  refine wl_c (fun _ _ => want_none) rfl (yc_spec (fst := []) (cap := []) _ FN23 (rnum_p rb s.r hf) rfl rfl rfl (by (repeat (first | exact pt_nil | apply pt0 | apply pt1 | apply pt2 | apply pt3 | apply pt4 | apply pt5 | apply pt6 | apply pt7 | apply pt8 | apply pt9 | apply pt10 | apply pt11 | apply pt12 | apply pt13 | apply pt14 | apply pt15 | apply pt16 | apply pt17))) (by (repeat (first | exact ro_nil | exact ro_rest (by assumption) | refine ro_cons (by first | exact .inl (by assumption) | exact ro_f0 (fun _ h => h) | exact ro_f0 (fun _ => slc_rsl) | exact ro_f1 (fun _ h => h) | exact ro_f1 (fun _ => slc_rsl) | exact ro_f2 (fun _ h => h) | exact ro_f2 (fun _ => slc_rsl) | exact ro_f3 (fun _ h => h) | exact ro_f3 (fun _ => slc_rsl) | exact ro_f4 (fun _ h => h) | exact ro_f4 (fun _ => slc_rsl) | exact ro_f5 (fun _ h => h) | exact ro_f5 (fun _ => slc_rsl) | exact ro_f6 (fun _ h => h) | exact ro_f6 (fun _ => slc_rsl)) ?_)))) (wl_ex fun x8 hx8 => ?_)
  refine wl_y rfl (y_fieldAddr F27_0 rfl) ?_
  first | refine wl_u (yu_store [] (l' := [_, _, _, _]) T25 rfl rfl rfl rfl rfl rfl rfl) ?_ | refine wl_u (yu_store [_] (l' := [_, _, _, _]) T25 rfl rfl rfl rfl rfl rfl rfl) ?_ | refine wl_u (yu_store [_, _] (l' := [_, _, _, _]) T25 rfl rfl rfl rfl rfl rfl rfl) ?_ | refine wl_u (yu_store [_, _, _] (l' := [_, _, _, _]) T25 rfl rfl rfl rfl rfl rfl rfl) ?_ | refine wl_u (yu_store [_, _, _, _] (l' := [_, _, _, _]) T25 rfl rfl rfl rfl rfl rfl rfl) ?_ | refine wl_u (yu_store [_, _, _, _, _] (l' := [_, _, _, _]) T25 rfl rfl rfl rfl rfl rfl rfl) ?_
  refine wl_nil ?_
  refine wq_then ?_
  refine wc_seq ?_
  refine wc_region ?_
  refine wl_y rfl (y_move rfl) ?_
  refine wl_y rfl (y_nilCheck rfl) ?_
  refine wl_y rfl (y_fieldAddr F65_0 rfl) ?_
  refine wl_y rfl (y_load NA63 rfl (by first | exact cell_blk [] rfl | exact cell_blk [_] rfl | exact cell_blk [_, _] rfl | exact cell_blk [_, _, _] rfl | exact cell_blk [_, _, _, _] rfl | exact cell_blk [_, _, _, _, _] rfl | exact cellR_blk (by assumption) rfl)) ?_
  refine wl_c (fun _ _ => want_none) rfl (yc_spec (fst := []) (cap := []) _ FN38 (rtext_p rb s.num.1.r (fit_num hf)) rfl rfl rfl (by (repeat (first | exact pt_nil | apply pt0 | apply pt1 | apply pt2 | apply pt3 | apply pt4 | apply pt5 | apply pt6 | apply pt7 | apply pt8 | apply pt9 | apply pt10 | apply pt11 | apply pt12 | apply pt13 | apply pt14 | apply pt15 | apply pt16 | apply pt17))) (by (repeat (first | exact ro_nil | exact ro_rest (by assumption) | refine ro_cons (by first | exact .inl (by assumption) | exact ro_f0 (fun _ h => h) | exact ro_f0 (fun _ => slc_rsl) | exact ro_f1 (fun _ h => h) | exact ro_f1 (fun _ => slc_rsl) | exact ro_f2 (fun _ h => h) | exact ro_f2 (fun _ => slc_rsl) | exact ro_f3 (fun _ h => h) | exact ro_f3 (fun _ => slc_rsl) | exact ro_f4 (fun _ h => h) | exact ro_f4 (fun _ => slc_rsl) | exact ro_f5 (fun _ h => h) | exact ro_f5 (fun _ => slc_rsl) | exact ro_f6 (fun _ h => h) | exact ro_f6 (fun _ => slc_rsl)) ?_)))) (wl_ex fun x14 hx14 => ?_)
  refine wl_y rfl (y_fieldAddr F27_1 rfl) ?_
  first | refine wl_u (yu_store [] (l' := [_, _, _, _]) T9 rfl rfl rfl rfl rfl rfl rfl) ?_ | refine wl_u (yu_store [_] (l' := [_, _, _, _]) T9 rfl rfl rfl rfl rfl rfl rfl) ?_ | refine wl_u (yu_store [_, _] (l' := [_, _, _, _]) T9 rfl rfl rfl rfl rfl rfl rfl) ?_ | refine wl_u (yu_store [_, _, _] (l' := [_, _, _, _]) T9 rfl rfl rfl rfl rfl rfl rfl) ?_ | refine wl_u (yu_store [_, _, _, _] (l' := [_, _, _, _]) T9 rfl rfl rfl rfl rfl rfl rfl) ?_ | refine wl_u (yu_store [_, _, _, _, _] (l' := [_, _, _, _]) T9 rfl rfl rfl rfl rfl rfl rfl) ?_
  refine wl_nil ?_
  refine wq_then ?_
  refine wc_seq ?_
  refine wc_region ?_
  refine wl_y rfl (y_move rfl) ?_
  refine wl_y rfl (y_nilCheck rfl) ?_
  refine wl_y rfl (y_fieldAddr F65_0 rfl) ?_
  refine wl_y rfl (y_load NA63 rfl (by first | exact cell_blk [] rfl | exact cell_blk [_] rfl | exact cell_blk [_, _] rfl | exact cell_blk [_, _, _] rfl | exact cell_blk [_, _, _, _] rfl | exact cell_blk [_, _, _, _, _] rfl | exact cellR_blk (by assumption) rfl)) ?_
  refine wl_c (fun _ _ => want_none) rfl (yc_spec (fst := []) (cap := []) _ FN38 (rtext_p rb s.num.1.text.1.r (fit_text (fit_num hf))) rfl rfl rfl (by (repeat (first | exact pt_nil | apply pt0 | apply pt1 | apply pt2 | apply pt3 | apply pt4 | apply pt5 | apply pt6 | apply pt7 | apply pt8 | apply pt9 | apply pt10 | apply pt11 | apply pt12 | apply pt13 | apply pt14 | apply pt15 | apply pt16 | apply pt17))) (by (repeat (first | exact ro_nil | exact ro_rest (by assumption) | refine ro_cons (by first | exact .inl (by assumption) | exact ro_f0 (fun _ h => h) | exact ro_f0 (fun _ => slc_rsl) | exact ro_f1 (fun _ h => h) | exact ro_f1 (fun _ => slc_rsl) | exact ro_f2 (fun _ h => h) | exact ro_f2 (fun _ => slc_rsl) | exact ro_f3 (fun _ h => h) | exact ro_f3 (fun _ => slc_rsl) | exact ro_f4 (fun _ h => h) | exact ro_f4 (fun _ => slc_rsl) | exact ro_f5 (fun _ h => h) | exact ro_f5 (fun _ => slc_rsl) | exact ro_f6 (fun _ h => h) | exact ro_f6 (fun _ => slc_rsl)) ?_)))) (wl_ex fun x20 hx20 => ?_)
  refine wl_y rfl (y_fieldAddr F27_2 rfl) ?_
  first | refine wl_u (yu_store [] (l' := [_, _, _, _]) T9 rfl rfl rfl rfl rfl rfl rfl) ?_ | refine wl_u (yu_store [_] (l' := [_, _, _, _]) T9 rfl rfl rfl rfl rfl rfl rfl) ?_ | refine wl_u (yu_store [_, _] (l' := [_, _, _, _]) T9 rfl rfl rfl rfl rfl rfl rfl) ?_ | refine wl_u (yu_store [_, _, _] (l' := [_, _, _, _]) T9 rfl rfl rfl rfl rfl rfl rfl) ?_ | refine wl_u (yu_store [_, _, _, _] (l' := [_, _, _, _]) T9 rfl rfl rfl rfl rfl rfl rfl) ?_ | refine wl_u (yu_store [_, _, _, _, _] (l' := [_, _, _, _]) T9 rfl rfl rfl rfl rfl rfl rfl) ?_
  refine wl_nil ?_
  refine wq_then ?_
  refine wc_seq ?_
  refine wc_region ?_
  refine wl_y rfl (y_move rfl) ?_
  refine wl_c (fun _ _ => want_none) rfl (yc_spec (fst := []) (cap := []) _ FN39 (kfilesR_c sb rb s.num.1.text.1.text.1 (fit_text (fit_text (fit_num hf)))) rfl rfl rfl (by (repeat (first | exact pt_nil | apply pt0 | apply pt1 | apply pt2 | apply pt3 | apply pt4 | apply pt5 | apply pt6 | apply pt7 | apply pt8 | apply pt9 | apply pt10 | apply pt11 | apply pt12 | apply pt13 | apply pt14 | apply pt15 | apply pt16 | apply pt17))) (by (repeat (first | exact ro_nil | exact ro_rest (by assumption) | refine ro_cons (by first | exact .inl (by assumption) | exact ro_f0 (fun _ h => h) | exact ro_f0 (fun _ => slc_rsl) | exact ro_f1 (fun _ h => h) | exact ro_f1 (fun _ => slc_rsl) | exact ro_f2 (fun _ h => h) | exact ro_f2 (fun _ => slc_rsl) | exact ro_f3 (fun _ h => h) | exact ro_f3 (fun _ => slc_rsl) | exact ro_f4 (fun _ h => h) | exact ro_f4 (fun _ => slc_rsl) | exact ro_f5 (fun _ h => h) | exact ro_f5 (fun _ => slc_rsl) | exact ro_f6 (fun _ h => h) | exact ro_f6 (fun _ => slc_rsl)) ?_)))) (wl_ex fun x23 hx23 => ?_)
  refine wl_y rfl (y_fieldAddr F27_3 rfl) ?_
  first | refine wl_u (yu_store [] (l' := [_, _, _, _]) T24 rfl rfl rfl rfl rfl rfl rfl) ?_ | refine wl_u (yu_store [_] (l' := [_, _, _, _]) T24 rfl rfl rfl rfl rfl rfl rfl) ?_ | refine wl_u (yu_store [_, _] (l' := [_, _, _, _]) T24 rfl rfl rfl rfl rfl rfl rfl) ?_ | refine wl_u (yu_store [_, _, _] (l' := [_, _, _, _]) T24 rfl rfl rfl rfl rfl rfl rfl) ?_ | refine wl_u (yu_store [_, _, _, _] (l' := [_, _, _, _]) T24 rfl rfl rfl rfl rfl rfl rfl) ?_ | refine wl_u (yu_store [_, _, _, _, _] (l' := [_, _, _, _]) T24 rfl rfl rfl rfl rfl rfl rfl) ?_
  refine wl_nil ?_
  refine wq_then ?_
  refine wc_seq ?_
  refine wc_region ?_
  refine wl_y rfl (y_loadAgg (l := [_, _, _, _]) AG27 rfl rfl (by first | exact cells_blk [] rfl | exact cells_blk [_] rfl | exact cells_blk [_, _] rfl | exact cells_blk [_, _, _] rfl | exact cells_blk [_, _, _, _] rfl | exact cells_blk [_, _, _, _, _] rfl | exact cellsR_blk (by assumption) rfl)) ?_
  first | refine wl_u (yu_storeAgg [] (l' := [_, _, _, _]) T27 rfl rfl rfl (by simp [Value.oneCell']) rfl rfl) ?_ | refine wl_u (yu_storeAgg [_] (l' := [_, _, _, _]) T27 rfl rfl rfl (by simp [Value.oneCell']) rfl rfl) ?_ | refine wl_u (yu_storeAgg [_, _] (l' := [_, _, _, _]) T27 rfl rfl rfl (by simp [Value.oneCell']) rfl rfl) ?_ | refine wl_u (yu_storeAgg [_, _, _] (l' := [_, _, _, _]) T27 rfl rfl rfl (by simp [Value.oneCell']) rfl rfl) ?_ | refine wl_u (yu_storeAgg [_, _, _, _] (l' := [_, _, _, _]) T27 rfl rfl rfl (by simp [Value.oneCell']) rfl rfl) ?_ | refine wl_u (yu_storeAgg [_, _, _, _, _] (l' := [_, _, _, _]) T27 rfl rfl rfl (by simp [Value.oneCell']) rfl rfl) ?_
  refine wl_nil ?_
  refine wq_then ?_
  refine wc_ret ?_
  refine wq_retC1 (l := [_, _, _, _]) AG27 rfl rfl rfl (by first | exact cells_blk [] rfl | exact cells_blk [_] rfl | exact cells_blk [_, _] rfl | exact cells_blk [_, _, _] rfl | exact cells_blk [_, _, _, _] rfl | exact cells_blk [_, _, _, _, _] rfl) (fun w hw => ?_)
  exact ⟨⟨s.num.2, s.num.1.text.2, s.num.1.text.1.text.2, x23⟩, by simp only [ResV.er, hx23]; rfl, rfl, hw.sub (by (repeat (first | exact pt_nil | apply pt0 | apply pt1 | apply pt2 | apply pt3 | apply pt4 | apply pt5 | apply pt6 | apply pt7 | apply pt8 | apply pt9 | apply pt10 | apply pt11 | apply pt12 | apply pt13 | apply pt14 | apply pt15 | apply pt16 | apply pt17)))⟩

set_option maxHeartbeats 1000000 in
theorem kopR_c (sb rb : Nat) (s : Scn) (hf : s.fit) :
    Ctr Tryz.prog 24 #[ptr sb] [] (tkA sb rb s) (fun x : OpV => x.er = s.op.2) (fun x => .agg (encOp x).toArray) (fun x => [graphA x.graph, filesA x.snap, filesA x.res.files] ++ tkA sb rb s.op.1) := by
  refine spec_start (n := 32) [(0, ptr sb)] Tryz.func24 rfl rfl ⟨rfl, trivial⟩ rfl ?_
  intro w0 K hR
  refine wc_seq ?_
  refine wc_region ?_
  refine wl_w (fun _ _ => want_none) rfl (yw_alloc T29 rfl) (wl_ex fun b2 _ => ?_)
  refine wl_nil ?_
  refine wq_then ?_
  refine wc_seq ?_
  refine wc_region ?_
  refine wl_w (fun _ _ => want_none) rfl (yw_alloc T29 rfl) (wl_ex fun b3 _ => ?_)
  refine wl_nil ?_
  refine wq_then ?_
  refine wc_seq ?_
  refine wc_region ?_
  refine wl_y rfl (y_move rfl) ?_
  refine wl_y rfl (y_nilCheck rfl) ?_
  refine wl_y rfl (y_fieldAddr F65_0 rfl) ?_
  refine wl_y rfl (y_load NA63 rfl (by first | exact cell_blk [] rfl | exact cell_blk [_] rfl | exact cell_blk [_, _] rfl | exact cell_blk [_, _, _] rfl | exact cell_blk [_, _, _, _] rfl | exact cell_blk [_, _, _, _, _] rfl | exact cell_blk [_, _, _, _, _, _] rfl | exact cell_blk [_, _, _, _, _, _, _] rfl | exact cellR_blk (by assumption) rfl)) ?_
  refine wl_c (fun _ _ => want_none) rfl (yc_spec (fst := []) (cap := []) _ FN38 (rtext_p rb s.r hf) rfl rfl rfl (by (repeat (first | exact pt_nil | apply pt0 | apply pt1 | apply pt2 | apply pt3 | apply pt4 | apply pt5 | apply pt6 | apply pt7 | apply pt8 | apply pt9 | apply pt10 | apply pt11 | apply pt12 | apply pt13 | apply pt14 | apply pt15 | apply pt16 | apply pt17))) (by (repeat (first | exact ro_nil | exact ro_rest (by assumption) | refine ro_cons (by first | exact .inl (by assumption) | exact ro_f0 (fun _ h => h) | exact ro_f0 (fun _ => slc_rsl) | exact ro_f1 (fun _ h => h) | exact ro_f1 (fun _ => slc_rsl) | exact ro_f2 (fun _ h => h) | exact ro_f2 (fun _ => slc_rsl) | exact ro_f3 (fun _ h => h) | exact ro_f3 (fun _ => slc_rsl) | exact ro_f4 (fun _ h => h) | exact ro_f4 (fun _ => slc_rsl) | exact ro_f5 (fun _ h => h) | exact ro_f5 (fun _ => slc_rsl) | exact ro_f6 (fun _ h => h) | exact ro_f6 (fun _ => slc_rsl)) ?_)))) (wl_ex fun x8 hx8 => ?_)
  refine wl_y rfl (y_fieldAddr F29_0 rfl) ?_
  first | refine wl_u (yu_store [] (l' := [_, _, _, _, _, _, _, _, _]) T9 rfl rfl rfl rfl rfl rfl rfl) ?_ | refine wl_u (yu_store [_] (l' := [_, _, _, _, _, _, _, _, _]) T9 rfl rfl rfl rfl rfl rfl rfl) ?_ | refine wl_u (yu_store [_, _] (l' := [_, _, _, _, _, _, _, _, _]) T9 rfl rfl rfl rfl rfl rfl rfl) ?_ | refine wl_u (yu_store [_, _, _] (l' := [_, _, _, _, _, _, _, _, _]) T9 rfl rfl rfl rfl rfl rfl rfl) ?_ | refine wl_u (yu_store [_, _, _, _] (l' := [_, _, _, _, _, _, _, _, _]) T9 rfl rfl rfl rfl rfl rfl rfl) ?_ | refine wl_u (yu_store [_, _, _, _, _] (l' := [_, _, _, _, _, _, _, _, _]) T9 rfl rfl rfl rfl rfl rfl rfl) ?_ | refine wl_u (yu_store [_, _, _, _, _, _] (l' := [_, _, _, _, _, _, _, _, _]) T9 rfl rfl rfl rfl rfl rfl rfl) ?_ | refine wl_u (yu_store [_, _, _, _, _, _, _] (l' := [_, _, _, _, _, _, _, _, _]) T9 rfl rfl rfl rfl rfl rfl rfl) ?_
  refine wl_nil ?_
  refine wq_then ?_
  refine wc_seq ?_
  refine wc_region ?_
  refine wl_y rfl (y_move rfl) ?_
  refine wl_c (fun _ _ => want_none) rfl (yc_spec (fst := []) (cap := []) _ FN51 (kgraphR_c sb rb s.text.1 (fit_text hf)) rfl rfl rfl (by (repeat (first | exact pt_nil | apply pt0 | apply pt1 | apply pt2 | apply pt3 | apply pt4 | apply pt5 | apply pt6 | apply pt7 | apply pt8 | apply pt9 | apply pt10 | apply pt11 | apply pt12 | apply pt13 | apply pt14 | apply pt15 | apply pt16 | apply pt17))) (by (repeat (first | exact ro_nil | exact ro_rest (by assumption) | refine ro_cons (by first | exact .inl (by assumption) | exact ro_f0 (fun _ h => h) | exact ro_f0 (fun _ => slc_rsl) | exact ro_f1 (fun _ h => h) | exact ro_f1 (fun _ => slc_rsl) | exact ro_f2 (fun _ h => h) | exact ro_f2 (fun _ => slc_rsl) | exact ro_f3 (fun _ h => h) | exact ro_f3 (fun _ => slc_rsl) | exact ro_f4 (fun _ h => h) | exact ro_f4 (fun _ => slc_rsl) | exact ro_f5 (fun _ h => h) | exact ro_f5 (fun _ => slc_rsl) | exact ro_f6 (fun _ h => h) | exact ro_f6 (fun _ => slc_rsl)) ?_)))) (wl_ex fun x11 hx11 => ?_)
  refine wl_y rfl (y_fieldAddr F29_1 rfl) ?_
  first | refine wl_u (yu_store [] (l' := [_, _, _, _, _, _, _, _, _]) T23 rfl rfl rfl rfl rfl rfl rfl) ?_ | refine wl_u (yu_store [_] (l' := [_, _, _, _, _, _, _, _, _]) T23 rfl rfl rfl rfl rfl rfl rfl) ?_ | refine wl_u (yu_store [_, _] (l' := [_, _, _, _, _, _, _, _, _]) T23 rfl rfl rfl rfl rfl rfl rfl) ?_ | refine wl_u (yu_store [_, _, _] (l' := [_, _, _, _, _, _, _, _, _]) T23 rfl rfl rfl rfl rfl rfl rfl) ?_ | refine wl_u (yu_store [_, _, _, _] (l' := [_, _, _, _, _, _, _, _, _]) T23 rfl rfl rfl rfl rfl rfl rfl) ?_ | refine wl_u (yu_store [_, _, _, _, _] (l' := [_, _, _, _, _, _, _, _, _]) T23 rfl rfl rfl rfl rfl rfl rfl) ?_ | refine wl_u (yu_store [_, _, _, _, _, _] (l' := [_, _, _, _, _, _, _, _, _]) T23 rfl rfl rfl rfl rfl rfl rfl) ?_ | refine wl_u (yu_store [_, _, _, _, _, _, _] (l' := [_, _, _, _, _, _, _, _, _]) T23 rfl rfl rfl rfl rfl rfl rfl) ?_
  refine wl_nil ?_
  refine wq_then ?_
  refine wc_seq ?_
  refine wc_region ?_
  refine wl_y rfl (y_move rfl) ?_
  refine wl_c (fun _ _ => want_none) rfl (yc_spec (fst := []) (cap := []) _ FN39 (kfilesR_c sb rb s.text.1.graph.1 (fit_graph (fit_text hf))) rfl rfl rfl (by (repeat (first | exact pt_nil | apply pt0 | apply pt1 | apply pt2 | apply pt3 | apply pt4 | apply pt5 | apply pt6 | apply pt7 | apply pt8 | apply pt9 | apply pt10 | apply pt11 | apply pt12 | apply pt13 | apply pt14 | apply pt15 | apply pt16 | apply pt17))) (by (repeat (first | exact ro_nil | exact ro_rest (by assumption) | refine ro_cons (by first | exact .inl (by assumption) | exact ro_f0 (fun _ h => h) | exact ro_f0 (fun _ => slc_rsl) | exact ro_f1 (fun _ h => h) | exact ro_f1 (fun _ => slc_rsl) | exact ro_f2 (fun _ h => h) | exact ro_f2 (fun _ => slc_rsl) | exact ro_f3 (fun _ h => h) | exact ro_f3 (fun _ => slc_rsl) | exact ro_f4 (fun _ h => h) | exact ro_f4 (fun _ => slc_rsl) | exact ro_f5 (fun _ h => h) | exact ro_f5 (fun _ => slc_rsl) | exact ro_f6 (fun _ h => h) | exact ro_f6 (fun _ => slc_rsl)) ?_)))) (wl_ex fun x14 hx14 => ?_)
  refine wl_y rfl (y_fieldAddr F29_2 rfl) ?_
  first | refine wl_u (yu_store [] (l' := [_, _, _, _, _, _, _, _, _]) T24 rfl rfl rfl rfl rfl rfl rfl) ?_ | refine wl_u (yu_store [_] (l' := [_, _, _, _, _, _, _, _, _]) T24 rfl rfl rfl rfl rfl rfl rfl) ?_ | refine wl_u (yu_store [_, _] (l' := [_, _, _, _, _, _, _, _, _]) T24 rfl rfl rfl rfl rfl rfl rfl) ?_ | refine wl_u (yu_store [_, _, _] (l' := [_, _, _, _, _, _, _, _, _]) T24 rfl rfl rfl rfl rfl rfl rfl) ?_ | refine wl_u (yu_store [_, _, _, _] (l' := [_, _, _, _, _, _, _, _, _]) T24 rfl rfl rfl rfl rfl rfl rfl) ?_ | refine wl_u (yu_store [_, _, _, _, _] (l' := [_, _, _, _, _, _, _, _, _]) T24 rfl rfl rfl rfl rfl rfl rfl) ?_ | refine wl_u (yu_store [_, _, _, _, _, _] (l' := [_, _, _, _, _, _, _, _, _]) T24 rfl rfl rfl rfl rfl rfl rfl) ?_ | refine wl_u (yu_store [_, _, _, _, _, _, _] (l' := [_, _, _, _, _, _, _, _, _]) T24 rfl rfl rfl rfl rfl rfl rfl) ?_
  refine wl_nil ?_
  refine wq_then ?_
  refine wc_seq ?_
  refine wc_region ?_
  refine wl_y rfl (y_move rfl) ?_
  refine wl_y rfl (y_nilCheck rfl) ?_
  refine wl_y rfl (y_fieldAddr F65_0 rfl) ?_
  refine wl_y rfl (y_load NA63 rfl (by first | exact cell_blk [] rfl | exact cell_blk [_] rfl | exact cell_blk [_, _] rfl | exact cell_blk [_, _, _] rfl | exact cell_blk [_, _, _, _] rfl | exact cell_blk [_, _, _, _, _] rfl | exact cell_blk [_, _, _, _, _, _] rfl | exact cell_blk [_, _, _, _, _, _, _] rfl | exact cellR_blk (by assumption) rfl)) ?_
  refine wl_c (fun _ _ => want_none) rfl (yc_spec (fst := []) (cap := []) _ FN38 (rtext_p rb s.text.1.graph.1.files.1.r (fit_files (fit_graph (fit_text hf)))) rfl rfl rfl (by (repeat (first | exact pt_nil | apply pt0 | apply pt1 | apply pt2 | apply pt3 | apply pt4 | apply pt5 | apply pt6 | apply pt7 | apply pt8 | apply pt9 | apply pt10 | apply pt11 | apply pt12 | apply pt13 | apply pt14 | apply pt15 | apply pt16 | apply pt17))) (by (repeat (first | exact ro_nil | exact ro_rest (by assumption) | refine ro_cons (by first | exact .inl (by assumption) | exact ro_f0 (fun _ h => h) | exact ro_f0 (fun _ => slc_rsl) | exact ro_f1 (fun _ h => h) | exact ro_f1 (fun _ => slc_rsl) | exact ro_f2 (fun _ h => h) | exact ro_f2 (fun _ => slc_rsl) | exact ro_f3 (fun _ h => h) | exact ro_f3 (fun _ => slc_rsl) | exact ro_f4 (fun _ h => h) | exact ro_f4 (fun _ => slc_rsl) | exact ro_f5 (fun _ h => h) | exact ro_f5 (fun _ => slc_rsl) | exact ro_f6 (fun _ h => h) | exact ro_f6 (fun _ => slc_rsl)) ?_)))) (wl_ex fun x20 hx20 => ?_)
  refine wl_y rfl (y_fieldAddr F29_3 rfl) ?_
  first | refine wl_u (yu_store [] (l' := [_, _, _, _, _, _, _, _, _]) T9 rfl rfl rfl rfl rfl rfl rfl) ?_ | refine wl_u (yu_store [_] (l' := [_, _, _, _, _, _, _, _, _]) T9 rfl rfl rfl rfl rfl rfl rfl) ?_ | refine wl_u (yu_store [_, _] (l' := [_, _, _, _, _, _, _, _, _]) T9 rfl rfl rfl rfl rfl rfl rfl) ?_ | refine wl_u (yu_store [_, _, _] (l' := [_, _, _, _, _, _, _, _, _]) T9 rfl rfl rfl rfl rfl rfl rfl) ?_ | refine wl_u (yu_store [_, _, _, _] (l' := [_, _, _, _, _, _, _, _, _]) T9 rfl rfl rfl rfl rfl rfl rfl) ?_ | refine wl_u (yu_store [_, _, _, _, _] (l' := [_, _, _, _, _, _, _, _, _]) T9 rfl rfl rfl rfl rfl rfl rfl) ?_ | refine wl_u (yu_store [_, _, _, _, _, _] (l' := [_, _, _, _, _, _, _, _, _]) T9 rfl rfl rfl rfl rfl rfl rfl) ?_ | refine wl_u (yu_store [_, _, _, _, _, _, _] (l' := [_, _, _, _, _, _, _, _, _]) T9 rfl rfl rfl rfl rfl rfl rfl) ?_
  refine wl_nil ?_
  refine wq_then ?_
  refine wc_seq ?_
  refine wc_region ?_
  refine wl_y rfl (y_move rfl) ?_
  refine wl_y rfl (y_nilCheck rfl) ?_
  refine wl_y rfl (y_fieldAddr F65_0 rfl) ?_
  refine wl_y rfl (y_load NA63 rfl (by first | exact cell_blk [] rfl | exact cell_blk [_] rfl | exact cell_blk [_, _] rfl | exact cell_blk [_, _, _] rfl | exact cell_blk [_, _, _, _] rfl | exact cell_blk [_, _, _, _, _] rfl | exact cell_blk [_, _, _, _, _, _] rfl | exact cell_blk [_, _, _, _, _, _, _] rfl | exact cellR_blk (by assumption) rfl)) ?_
  refine wl_c (fun _ _ => want_none) rfl (yc_spec (fst := []) (cap := []) _ FN23 (rnum_p rb s.text.1.graph.1.files.1.text.1.r (fit_text (fit_files (fit_graph (fit_text hf))))) rfl rfl rfl (by (repeat (first | exact pt_nil | apply pt0 | apply pt1 | apply pt2 | apply pt3 | apply pt4 | apply pt5 | apply pt6 | apply pt7 | apply pt8 | apply pt9 | apply pt10 | apply pt11 | apply pt12 | apply pt13 | apply pt14 | apply pt15 | apply pt16 | apply pt17))) (by (repeat (first | exact ro_nil | exact ro_rest (by assumption) | refine ro_cons (by first | exact .inl (by assumption) | exact ro_f0 (fun _ h => h) | exact ro_f0 (fun _ => slc_rsl) | exact ro_f1 (fun _ h => h) | exact ro_f1 (fun _ => slc_rsl) | exact ro_f2 (fun _ h => h) | exact ro_f2 (fun _ => slc_rsl) | exact ro_f3 (fun _ h => h) | exact ro_f3 (fun _ => slc_rsl) | exact ro_f4 (fun _ h => h) | exact ro_f4 (fun _ => slc_rsl) | exact ro_f5 (fun _ h => h) | exact ro_f5 (fun _ => slc_rsl) | exact ro_f6 (fun _ h => h) | exact ro_f6 (fun _ => slc_rsl)) ?_)))) (wl_ex fun x26 hx26 => ?_)
  refine wl_y rfl (y_fieldAddr F29_4 rfl) ?_
  first | refine wl_u (yu_store [] (l' := [_, _, _, _, _, _, _, _, _]) T3 rfl rfl rfl rfl rfl rfl rfl) ?_ | refine wl_u (yu_store [_] (l' := [_, _, _, _, _, _, _, _, _]) T3 rfl rfl rfl rfl rfl rfl rfl) ?_ | refine wl_u (yu_store [_, _] (l' := [_, _, _, _, _, _, _, _, _]) T3 rfl rfl rfl rfl rfl rfl rfl) ?_ | refine wl_u (yu_store [_, _, _] (l' := [_, _, _, _, _, _, _, _, _]) T3 rfl rfl rfl rfl rfl rfl rfl) ?_ | refine wl_u (yu_store [_, _, _, _] (l' := [_, _, _, _, _, _, _, _, _]) T3 rfl rfl rfl rfl rfl rfl rfl) ?_ | refine wl_u (yu_store [_, _, _, _, _] (l' := [_, _, _, _, _, _, _, _, _]) T3 rfl rfl rfl rfl rfl rfl rfl) ?_ | refine wl_u (yu_store [_, _, _, _, _, _] (l' := [_, _, _, _, _, _, _, _, _]) T3 rfl rfl rfl rfl rfl rfl rfl) ?_ | refine wl_u (yu_store [_, _, _, _, _, _, _] (l' := [_, _, _, _, _, _, _, _, _]) T3 rfl rfl rfl rfl rfl rfl rfl) ?_
  refine wl_nil ?_
  refine wq_then ?_
  refine wc_seq ?_
  refine wc_region ?_
  refine wl_y rfl (y_move rfl) ?_
  refine wl_c (fun _ _ => want_none) rfl (yc_spec (fst := []) (cap := []) _ FN52 (kresR_c sb rb s.text.1.graph.1.files.1.text.1.num.1 (fit_num (fit_text (fit_files (fit_graph (fit_text hf)))))) rfl rfl rfl (by (repeat (first | exact pt_nil | apply pt0 | apply pt1 | apply pt2 | apply pt3 | apply pt4 | apply pt5 | apply pt6 | apply pt7 | apply pt8 | apply pt9 | apply pt10 | apply pt11 | apply pt12 | apply pt13 | apply pt14 | apply pt15 | apply pt16 | apply pt17))) (by (repeat (first | exact ro_nil | exact ro_rest (by assumption) | refine ro_cons (by first | exact .inl (by assumption) | exact ro_f0 (fun _ h => h) | exact ro_f0 (fun _ => slc_rsl) | exact ro_f1 (fun _ h => h) | exact ro_f1 (fun _ => slc_rsl) | exact ro_f2 (fun _ h => h) | exact ro_f2 (fun _ => slc_rsl) | exact ro_f3 (fun _ h => h) | exact ro_f3 (fun _ => slc_rsl) | exact ro_f4 (fun _ h => h) | exact ro_f4 (fun _ => slc_rsl) | exact ro_f5 (fun _ h => h) | exact ro_f5 (fun _ => slc_rsl) | exact ro_f6 (fun _ h => h) | exact ro_f6 (fun _ => slc_rsl)) ?_)))) (wl_ex fun x29 hx29 => ?_)
  refine wl_y rfl (y_fieldAddr F29_5 rfl) ?_
  first | refine wl_u (yu_storeAgg [] (l' := [_, _, _, _, _, _, _, _, _]) T27 rfl rfl rfl (by simp [Value.oneCell', encR]) rfl rfl) ?_ | refine wl_u (yu_storeAgg [_] (l' := [_, _, _, _, _, _, _, _, _]) T27 rfl rfl rfl (by simp [Value.oneCell', encR]) rfl rfl) ?_ | refine wl_u (yu_storeAgg [_, _] (l' := [_, _, _, _, _, _, _, _, _]) T27 rfl rfl rfl (by simp [Value.oneCell', encR]) rfl rfl) ?_ | refine wl_u (yu_storeAgg [_, _, _] (l' := [_, _, _, _, _, _, _, _, _]) T27 rfl rfl rfl (by simp [Value.oneCell', encR]) rfl rfl) ?_ | refine wl_u (yu_storeAgg [_, _, _, _] (l' := [_, _, _, _, _, _, _, _, _]) T27 rfl rfl rfl (by simp [Value.oneCell', encR]) rfl rfl) ?_ | refine wl_u (yu_storeAgg [_, _, _, _, _] (l' := [_, _, _, _, _, _, _, _, _]) T27 rfl rfl rfl (by simp [Value.oneCell', encR]) rfl rfl) ?_ | refine wl_u (yu_storeAgg [_, _, _, _, _, _] (l' := [_, _, _, _, _, _, _, _, _]) T27 rfl rfl rfl (by simp [Value.oneCell', encR]) rfl rfl) ?_ | refine wl_u (yu_storeAgg [_, _, _, _, _, _, _] (l' := [_, _, _, _, _, _, _, _, _]) T27 rfl rfl rfl (by simp [Value.oneCell', encR]) rfl rfl) ?_
  refine wl_nil ?_
  refine wq_then ?_
  refine wc_seq ?_
  refine wc_region ?_
  refine wl_y rfl (y_loadAgg (l := [_, _, _, _, _, _, _, _, _]) AG29 rfl rfl (by first | exact cells_blk [] rfl | exact cells_blk [_] rfl | exact cells_blk [_, _] rfl | exact cells_blk [_, _, _] rfl | exact cells_blk [_, _, _, _] rfl | exact cells_blk [_, _, _, _, _] rfl | exact cells_blk [_, _, _, _, _, _] rfl | exact cells_blk [_, _, _, _, _, _, _] rfl | exact cellsR_blk (by assumption) rfl)) ?_
  first | refine wl_u (yu_storeAgg [] (l' := [_, _, _, _, _, _, _, _, _]) T29 rfl rfl rfl (by simp [Value.oneCell', encR]) rfl rfl) ?_ | refine wl_u (yu_storeAgg [_] (l' := [_, _, _, _, _, _, _, _, _]) T29 rfl rfl rfl (by simp [Value.oneCell', encR]) rfl rfl) ?_ | refine wl_u (yu_storeAgg [_, _] (l' := [_, _, _, _, _, _, _, _, _]) T29 rfl rfl rfl (by simp [Value.oneCell', encR]) rfl rfl) ?_ | refine wl_u (yu_storeAgg [_, _, _] (l' := [_, _, _, _, _, _, _, _, _]) T29 rfl rfl rfl (by simp [Value.oneCell', encR]) rfl rfl) ?_ | refine wl_u (yu_storeAgg [_, _, _, _] (l' := [_, _, _, _, _, _, _, _, _]) T29 rfl rfl rfl (by simp [Value.oneCell', encR]) rfl rfl) ?_ | refine wl_u (yu_storeAgg [_, _, _, _, _] (l' := [_, _, _, _, _, _, _, _, _]) T29 rfl rfl rfl (by simp [Value.oneCell', encR]) rfl rfl) ?_ | refine wl_u (yu_storeAgg [_, _, _, _, _, _] (l' := [_, _, _, _, _, _, _, _, _]) T29 rfl rfl rfl (by simp [Value.oneCell', encR]) rfl rfl) ?_ | refine wl_u (yu_storeAgg [_, _, _, _, _, _, _] (l' := [_, _, _, _, _, _, _, _, _]) T29 rfl rfl rfl (by simp [Value.oneCell', encR]) rfl rfl) ?_
  refine wl_nil ?_
  refine wq_then ?_
  refine wc_ret ?_
  refine wq_retC1 (l := [_, _, _, _, _, _, _, _, _]) AG29 rfl rfl rfl (by first | exact cells_blk [] rfl | exact cells_blk [_] rfl | exact cells_blk [_, _] rfl | exact cells_blk [_, _, _] rfl | exact cells_blk [_, _, _, _] rfl | exact cells_blk [_, _, _, _, _] rfl | exact cells_blk [_, _, _, _, _, _] rfl | exact cells_blk [_, _, _, _, _, _, _] rfl) (fun w hw => ?_)
  exact ⟨⟨s.text.2, x11, x14, s.text.1.graph.1.files.1.text.2, s.text.1.graph.1.files.1.text.1.num.2, x29⟩, by simp only [OpV.er, hx11, hx14, hx29]; rfl, rfl, hw.sub (by (repeat (first | exact pt_nil | apply pt0 | apply pt1 | apply pt2 | apply pt3 | apply pt4 | apply pt5 | apply pt6 | apply pt7 | apply pt8 | apply pt9 | apply pt10 | apply pt11 | apply pt12 | apply pt13 | apply pt14 | apply pt15 | apply pt16 | apply pt17)))⟩

set_option maxHeartbeats 1000000 in
theorem kendR_c (sb rb : Nat) (s : Scn) :
    Ctr Tryz.prog 25 #[ptr sb] [] (tkA sb rb s) (fun _ : Unit => True) (fun _ => vI s.fin) (fun _ => tkA sb rb s) := by
  refine spec_start (n := 18) [(0, ptr sb)] Tryz.func25 rfl rfl ⟨rfl, trivial⟩ rfl ?_
  intro w0 K hR
  refine wc_seq ?_
  refine wc_region ?_
  refine wl_y rfl (y_assign rfl) ?_
  refine wl_nil ?_
  refine wq_then ?_
  refine wc_seq ?_
  refine wc_region ?_
  refine wl_y rfl (y_move rfl) ?_
  refine wl_y rfl (y_nilCheck rfl) ?_
  refine wl_y rfl (y_fieldAddr F65_0 rfl) ?_
  refine wl_y rfl (y_load NA63 rfl (by first | exact cell_blk [] rfl | exact cell_blk [_] rfl | exact cell_blk [_, _] rfl | exact cell_blk [_, _, _] rfl | exact cell_blk [_, _, _, _] rfl | exact cellR_blk (by assumption) rfl)) ?_
  refine wl_q (fun _ _ => want_none) rfl (yq_spec (fst := []) (cap := []) _ FN31 (rend_p rb s.r) rfl rfl rfl (by (repeat (first | exact pt_nil | apply pt0 | apply pt1 | apply pt2 | apply pt3 | apply pt4 | apply pt5 | apply pt6 | apply pt7 | apply pt8 | apply pt9 | apply pt10 | apply pt11 | apply pt12 | apply pt13 | apply pt14 | apply pt15 | apply pt16 | apply pt17))) (by (repeat (first | exact ro_nil | exact ro_rest (by assumption) | refine ro_cons (by first | exact .inl (by assumption) | exact ro_f0 (fun _ h => h) | exact ro_f0 (fun _ => slc_rsl) | exact ro_f1 (fun _ h => h) | exact ro_f1 (fun _ => slc_rsl) | exact ro_f2 (fun _ h => h) | exact ro_f2 (fun _ => slc_rsl) | exact ro_f3 (fun _ h => h) | exact ro_f3 (fun _ => slc_rsl) | exact ro_f4 (fun _ h => h) | exact ro_f4 (fun _ => slc_rsl) | exact ro_f5 (fun _ h => h) | exact ro_f5 (fun _ => slc_rsl) | exact ro_f6 (fun _ h => h) | exact ro_f6 (fun _ => slc_rsl)) ?_))) (fun _ _ => rfl) (fun _ _ _ h => h.sub (by (repeat (first | exact pt_nil | apply pt0 | apply pt1 | apply pt2 | apply pt3 | apply pt4 | apply pt5 | apply pt6 | apply pt7 | apply pt8 | apply pt9 | apply pt10 | apply pt11 | apply pt12 | apply pt13 | apply pt14 | apply pt15 | apply pt16 | apply pt17))))) ?_
  refine wl_y rfl (y_assign rfl) ?_
  refine wl_nil ?_
  refine wq_then ?_
  refine wc_seq ?_
  refine wc_seq ?_
  refine wc_region ?_
  refine wl_y rfl (y_move rfl) ?_
  refine wl_y rfl (y_eqlI rfl rfl) ?_
  refine wl_y rfl (y_move rfl) ?_
  apply wl_and 5 16 [(3, _)] (t := 11) rfl ⟨rfl, trivial⟩
  · intro hg11 hM16
    try (simp at hg11)
    refine wl_yg rfl rfl rfl (y_move rfl) ?_
    refine wl_yg rfl rfl rfl (y_nilCheck rfl) ?_
    refine wl_yg rfl rfl rfl (y_fieldAddr F65_1 rfl) ?_
    refine wl_yg rfl rfl rfl (y_load NA4 rfl (by first | exact cell_blk [] rfl | exact cell_blk [_] rfl | exact cell_blk [_, _] rfl | exact cell_blk [_, _, _] rfl | exact cell_blk [_, _, _, _] rfl | exact cellR_blk (by assumption) rfl)) ?_
    refine wl_y rfl (y_pick_t rfl rfl) ?_
    exact wl_weaken hM16 ⟨rfl, rfl, trivial⟩
  · intro hg11 hM16
    refine wl_sk rfl rfl rfl rfl ?_
    refine wl_sk rfl rfl rfl rfl ?_
    refine wl_sk rfl rfl rfl rfl ?_
    refine wl_sk rfl rfl rfl rfl ?_
    refine wl_y rfl (y_pick_f rfl rfl) ?_
    exact wl_weaken hM16 ⟨rfl, rfl, trivial⟩
  ·
    refine wl_nil ?_
    refine wq_then ?_
    refine wc_cond rfl (fun hc16 => ?_) (fun hc16 => ?_)
    ·
      simp at hc16
      refine wc_region ?_
      refine wl_y rfl (y_assign rfl) ?_
      refine wl_nil ?_
      refine wq_then ?_
      refine wc_seq ?_
      refine wc_region ?_
      refine wl_y rfl (y_move rfl) ?_
      refine wl_y rfl (y_assign rfl) ?_
      refine wl_nil ?_
      refine wq_then ?_
      refine wc_ret ?_
      refine wq_ret1 rfl rfl (fun w hw => ?_)
      obtain ⟨hc1, hc2⟩ := hc16
      have e9 : s.fin = 11 := sfin_odd hc1 hc2
      rw [e9]; exact ⟨(), trivial, rfl, hw.sub (by (repeat (first | exact pt_nil | apply pt0 | apply pt1 | apply pt2 | apply pt3 | apply pt4 | apply pt5 | apply pt6 | apply pt7 | apply pt8 | apply pt9 | apply pt10 | apply pt11 | apply pt12 | apply pt13 | apply pt14 | apply pt15 | apply pt16 | apply pt17)))⟩
    ·
      simp at hc16
      refine wc_skip ?_
      refine wq_then ?_
      refine wc_seq ?_
      refine wc_region ?_
      refine wl_y rfl (y_move rfl) ?_
      refine wl_y rfl (y_assign rfl) ?_
      refine wl_nil ?_
      refine wq_then ?_
      refine wc_ret ?_
      refine wq_ret1 rfl rfl (fun w hw => ?_)
      have e9 : s.fin = s.r.fin := by
        by_cases h0 : s.r.fin = 0
        · rw [sfin_ok h0 (by simpa [h0] using hc16), h0]
        · exact sfin_bad h0
      rw [e9]; exact ⟨(), trivial, rfl, hw.sub (by (repeat (first | exact pt_nil | apply pt0 | apply pt1 | apply pt2 | apply pt3 | apply pt4 | apply pt5 | apply pt6 | apply pt7 | apply pt8 | apply pt9 | apply pt10 | apply pt11 | apply pt12 | apply pt13 | apply pt14 | apply pt15 | apply pt16 | apply pt17)))⟩

end Go.Proofs.YtbnahfjhlbibcaaGreatDoor
