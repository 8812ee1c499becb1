/-
  Walks: files and targets as texts.
-/
import Derived.Test.YtbnahfjhlbibcaaGreatDoorWalkL
import Derived.Test.YtbnahfjhlbibcaaGreatDoorVal
namespace Go.Proofs.YtbnahfjhlbibcaaGreatDoor
open Go.Eng

open Go.Lib
abbrev fS (f : PF) : Str := flatF (fileL f)
abbrev tS (t : TgV) : Str := flatF t.er.L
theorem outs_step {α : Type} {g : α → Str} {l : List α} {i : Nat} {x : α} (h : l[i]? = some x) : ((l.take i).map g).map vS ++ [vS (g x)] = ((l.take (i + 1)).map g).map vS := by
  rw [List.take_add_one, h]; simp
theorem flat2 (a b : Str) : flatF [a, b] = textF a ++ textF b := by simp [flatF]
theorem flat4 (a b c d : Str) : flatF [a, b, c, d] = textF a ++ textF b ++ textF c ++ textF d := by simp [flatF]
theorem len_textF (s : Str) : s.length + 3 ≤ (textF s).length := by
  have e : itoa (s.length : Nat) = decDigits s.length := itoa_nonneg _
  have := List.length_pos_iff.2 (dec_ne s.length)
  simp [textF, e]; omega
theorem map_in {α : Type} {g : α → Str} {l : List α} {x : α} (h : x ∈ l) : (g x).length ≤ (flatF (l.map g)).length := (len_flat (List.mem_map.2 ⟨x, h, rfl⟩)).2
theorem num_map {α : Type} {g : α → Str} (l : List α) : 3 * l.length ≤ (flatF (l.map g)).length := by have := num_flat (l.map g); rwa [List.length_map] at this
theorem filesT_e (l : List PF) : filesT l = textF (flatF (l.map fS)) := rfl
theorem graphT_e (s : Sl TgV) : graphT (grE s) = textF (flatF (s.xs.map tS)) := by rw [graphT, grE, List.map_map]; rfl
set_option maxHeartbeats 1000000 in
theorem file1_c (x : PF) (hl : (fS x).length ≤ 800000000) :
    Ctr Tryz.prog 97 #[.agg (encF x).toArray] [libS] [] (fun _ : Unit => True) (fun _ => vS (fS x)) (fun _ => []) := by
  refine spec_start (n := 10) [(0, .agg (encF x).toArray)] Tryz.func97 rfl rfl ⟨rfl, trivial⟩ rfl ?_
  intro w0 K hR
  have hB := hR libS (by simp)
  rw [fS, fileL, flat2, List.length_append] at hl
  have h1 := len_textF x.1
  have h2 := len_textF x.2
  refine wc_seq ?_
  refine wc_region ?_
  refine wl_w (fun _ _ => want_none) rfl (yw_box rfl rfl) (wl_ex fun b1 _ => ?_)
  refine wl_y rfl (y_assign rfl) ?_
  refine wl_nil ?_
  refine wq_then ?_
  refine wc_seq ?_
  refine wc_quiet MO (by kernel_rfl) (Hp.drawless _ _ _) ?_
  refine wt_y rfl (y_fieldAddr F108_0 rfl) ?_
  refine wt_y rfl (y_load NA9 rfl (by first | exact cell_blk [] rfl | exact cell_blk [_] rfl | exact cell_blk [_, _] rfl | exact cellR_blk (by assumption) rfl)) ?_
  refine wt_c (fun _ _ => want_none) rfl (yq_spec (fst := []) (cap := []) _ FN76 (ptext_c x.1 (by omega)) rfl rfl rfl (by (repeat (first | exact pt_nil | apply pt0 | apply pt1 | apply pt2 | apply pt3 | apply pt4 | apply pt5 | apply pt6 | apply pt7 | apply pt8 | apply pt9 | apply pt10 | apply pt11 | apply pt12 | apply pt13 | apply pt14 | apply pt15 | apply pt16 | apply pt17))) (by (repeat (first | exact ro_nil | exact ro_rest (by assumption) | refine ro_cons (by first | exact .inl (by assumption) | exact ro_f0 (fun _ h => h) | exact ro_f0 (fun _ => slc_rsl) | exact ro_f1 (fun _ h => h) | exact ro_f1 (fun _ => slc_rsl) | exact ro_f2 (fun _ h => h) | exact ro_f2 (fun _ => slc_rsl) | exact ro_f3 (fun _ h => h) | exact ro_f3 (fun _ => slc_rsl) | exact ro_f4 (fun _ h => h) | exact ro_f4 (fun _ => slc_rsl) | exact ro_f5 (fun _ h => h) | exact ro_f5 (fun _ => slc_rsl) | exact ro_f6 (fun _ h => h) | exact ro_f6 (fun _ => slc_rsl)) ?_))) (fun _ _ => rfl) (fun _ _ _ h => h.sub (by (repeat (first | exact pt_nil | apply pt0 | apply pt1 | apply pt2 | apply pt3 | apply pt4 | apply pt5 | apply pt6 | apply pt7 | apply pt8 | apply pt9 | apply pt10 | apply pt11 | apply pt12 | apply pt13 | apply pt14 | apply pt15 | apply pt16 | apply pt17))))) ?_
  refine wt_y rfl (y_fieldAddr F108_1 rfl) ?_
  refine wt_y rfl (y_load NA9 rfl (by first | exact cell_blk [] rfl | exact cell_blk [_] rfl | exact cell_blk [_, _] rfl | exact cellR_blk (by assumption) rfl)) ?_
  refine wt_c (fun _ _ => want_none) rfl (yq_spec (fst := []) (cap := []) _ FN76 (ptext_c x.2 (by omega)) rfl rfl rfl (by (repeat (first | exact pt_nil | apply pt0 | apply pt1 | apply pt2 | apply pt3 | apply pt4 | apply pt5 | apply pt6 | apply pt7 | apply pt8 | apply pt9 | apply pt10 | apply pt11 | apply pt12 | apply pt13 | apply pt14 | apply pt15 | apply pt16 | apply pt17))) (by (repeat (first | exact ro_nil | exact ro_rest (by assumption) | refine ro_cons (by first | exact .inl (by assumption) | exact ro_f0 (fun _ h => h) | exact ro_f0 (fun _ => slc_rsl) | exact ro_f1 (fun _ h => h) | exact ro_f1 (fun _ => slc_rsl) | exact ro_f2 (fun _ h => h) | exact ro_f2 (fun _ => slc_rsl) | exact ro_f3 (fun _ h => h) | exact ro_f3 (fun _ => slc_rsl) | exact ro_f4 (fun _ h => h) | exact ro_f4 (fun _ => slc_rsl) | exact ro_f5 (fun _ h => h) | exact ro_f5 (fun _ => slc_rsl) | exact ro_f6 (fun _ h => h) | exact ro_f6 (fun _ => slc_rsl)) ?_))) (fun _ _ => rfl) (fun _ _ _ h => h.sub (by (repeat (first | exact pt_nil | apply pt0 | apply pt1 | apply pt2 | apply pt3 | apply pt4 | apply pt5 | apply pt6 | apply pt7 | apply pt8 | apply pt9 | apply pt10 | apply pt11 | apply pt12 | apply pt13 | apply pt14 | apply pt15 | apply pt16 | apply pt17))))) ?_
  refine wt_y rfl (y_addS rfl rfl (by first | omega | (simp; omega) | (simp only [List.length_append]; omega))) ?_
  refine wt_y rfl (y_assign rfl) ?_
  refine wt_nil ?_
  refine wq_then ?_
  refine wc_ret ?_
  refine wq_ret1 rfl rfl (fun w hw => ?_)
  exact ⟨(), trivial, by rw [fS, fileL, flat2], hw.bare⟩

set_option maxHeartbeats 1000000 in
theorem tg1_c (x : TgV) (hl : (tS x).length ≤ 800000000) :
    Ctr Tryz.prog 79 #[.agg (encTg x).toArray] [libS, strsA x.deps, strsA x.srcs] [] (fun _ : Unit => True) (fun _ => vS (tS x)) (fun _ => []) := by
  refine spec_start (n := 18) [(0, .agg (encTg x).toArray)] Tryz.func79 rfl rfl ⟨rfl, trivial⟩ rfl ?_
  intro w0 K hR
  have hB := hR libS (by simp)
  have hS := hR (strsA x.deps) (by simp)
  have hU := hR (strsA x.srcs) (by simp)
  unfold strsA at hS hU
  have e : tS x = textF x.name ++ textF x.cmd ++ textF (flatF x.deps.xs) ++ textF (flatF x.srcs.xs) := flat4 _ _ _ _
  rw [e, List.length_append, List.length_append, List.length_append] at hl
  have h1 := len_textF x.name
  have h2 := len_textF x.cmd
  have h3 := len_textF (flatF x.deps.xs)
  have h4 := len_textF (flatF x.srcs.xs)
  refine wc_seq ?_
  refine wc_region ?_
  refine wl_w (fun _ _ => want_none) rfl (yw_box rfl rfl) (wl_ex fun b1 _ => ?_)
  refine wl_y rfl (y_assign rfl) ?_
  refine wl_nil ?_
  refine wq_then ?_
  refine wc_seq ?_
  refine wc_quiet MO (by kernel_rfl) (Hp.drawless _ _ _) ?_
  refine wt_y rfl (y_fieldAddr F105_0 rfl) ?_
  refine wt_y rfl (y_load NA9 rfl (by first | exact cell_blk [] rfl | exact cell_blk [_] rfl | exact cell_blk [_, _] rfl | exact cellR_blk (by assumption) rfl)) ?_
  refine wt_c (fun _ _ => want_none) rfl (yq_spec (fst := []) (cap := []) _ FN76 (ptext_c x.name (by omega)) rfl rfl rfl (by (repeat (first | exact pt_nil | apply pt0 | apply pt1 | apply pt2 | apply pt3 | apply pt4 | apply pt5 | apply pt6 | apply pt7 | apply pt8 | apply pt9 | apply pt10 | apply pt11 | apply pt12 | apply pt13 | apply pt14 | apply pt15 | apply pt16 | apply pt17))) (by (repeat (first | exact ro_nil | exact ro_rest (by assumption) | refine ro_cons (by first | exact .inl (by assumption) | exact ro_f0 (fun _ h => h) | exact ro_f0 (fun _ => slc_rsl) | exact ro_f1 (fun _ h => h) | exact ro_f1 (fun _ => slc_rsl) | exact ro_f2 (fun _ h => h) | exact ro_f2 (fun _ => slc_rsl) | exact ro_f3 (fun _ h => h) | exact ro_f3 (fun _ => slc_rsl) | exact ro_f4 (fun _ h => h) | exact ro_f4 (fun _ => slc_rsl) | exact ro_f5 (fun _ h => h) | exact ro_f5 (fun _ => slc_rsl) | exact ro_f6 (fun _ h => h) | exact ro_f6 (fun _ => slc_rsl)) ?_))) (fun _ _ => rfl) (fun _ _ _ h => h.sub (by (repeat (first | exact pt_nil | apply pt0 | apply pt1 | apply pt2 | apply pt3 | apply pt4 | apply pt5 | apply pt6 | apply pt7 | apply pt8 | apply pt9 | apply pt10 | apply pt11 | apply pt12 | apply pt13 | apply pt14 | apply pt15 | apply pt16 | apply pt17))))) ?_
  refine wt_y rfl (y_fieldAddr F105_1 rfl) ?_
  refine wt_y rfl (y_load NA9 rfl (by first | exact cell_blk [] rfl | exact cell_blk [_] rfl | exact cell_blk [_, _] rfl | exact cellR_blk (by assumption) rfl)) ?_
  refine wt_c (fun _ _ => want_none) rfl (yq_spec (fst := []) (cap := []) _ FN76 (ptext_c x.cmd (by omega)) rfl rfl rfl (by (repeat (first | exact pt_nil | apply pt0 | apply pt1 | apply pt2 | apply pt3 | apply pt4 | apply pt5 | apply pt6 | apply pt7 | apply pt8 | apply pt9 | apply pt10 | apply pt11 | apply pt12 | apply pt13 | apply pt14 | apply pt15 | apply pt16 | apply pt17))) (by (repeat (first | exact ro_nil | exact ro_rest (by assumption) | refine ro_cons (by first | exact .inl (by assumption) | exact ro_f0 (fun _ h => h) | exact ro_f0 (fun _ => slc_rsl) | exact ro_f1 (fun _ h => h) | exact ro_f1 (fun _ => slc_rsl) | exact ro_f2 (fun _ h => h) | exact ro_f2 (fun _ => slc_rsl) | exact ro_f3 (fun _ h => h) | exact ro_f3 (fun _ => slc_rsl) | exact ro_f4 (fun _ h => h) | exact ro_f4 (fun _ => slc_rsl) | exact ro_f5 (fun _ h => h) | exact ro_f5 (fun _ => slc_rsl) | exact ro_f6 (fun _ h => h) | exact ro_f6 (fun _ => slc_rsl)) ?_))) (fun _ _ => rfl) (fun _ _ _ h => h.sub (by (repeat (first | exact pt_nil | apply pt0 | apply pt1 | apply pt2 | apply pt3 | apply pt4 | apply pt5 | apply pt6 | apply pt7 | apply pt8 | apply pt9 | apply pt10 | apply pt11 | apply pt12 | apply pt13 | apply pt14 | apply pt15 | apply pt16 | apply pt17))))) ?_
  refine wt_y rfl (y_addS rfl rfl (by first | omega | (simp; omega) | (simp only [List.length_append]; omega))) ?_
  refine wt_y rfl (y_fieldAddr F105_2 rfl) ?_
  refine wt_y rfl (y_load NA39 rfl (by first | exact cell_blk [] rfl | exact cell_blk [_] rfl | exact cell_blk [_, _] rfl | exact cellR_blk (by assumption) rfl)) ?_
  refine wt_c (fun _ _ => want_none) rfl (yq_spec (fst := []) (cap := []) _ FN80 (plistG_c x.deps.xs x.deps.a x.deps.cap (by omega)) rfl rfl rfl (by (repeat (first | exact pt_nil | apply pt0 | apply pt1 | apply pt2 | apply pt3 | apply pt4 | apply pt5 | apply pt6 | apply pt7 | apply pt8 | apply pt9 | apply pt10 | apply pt11 | apply pt12 | apply pt13 | apply pt14 | apply pt15 | apply pt16 | apply pt17))) (by (repeat (first | exact ro_nil | exact ro_rest (by assumption) | refine ro_cons (by first | exact .inl (by assumption) | exact ro_f0 (fun _ h => h) | exact ro_f0 (fun _ => slc_rsl) | exact ro_f1 (fun _ h => h) | exact ro_f1 (fun _ => slc_rsl) | exact ro_f2 (fun _ h => h) | exact ro_f2 (fun _ => slc_rsl) | exact ro_f3 (fun _ h => h) | exact ro_f3 (fun _ => slc_rsl) | exact ro_f4 (fun _ h => h) | exact ro_f4 (fun _ => slc_rsl) | exact ro_f5 (fun _ h => h) | exact ro_f5 (fun _ => slc_rsl) | exact ro_f6 (fun _ h => h) | exact ro_f6 (fun _ => slc_rsl)) ?_))) (fun _ _ => rfl) (fun _ _ _ h => h.sub (by (repeat (first | exact pt_nil | apply pt0 | apply pt1 | apply pt2 | apply pt3 | apply pt4 | apply pt5 | apply pt6 | apply pt7 | apply pt8 | apply pt9 | apply pt10 | apply pt11 | apply pt12 | apply pt13 | apply pt14 | apply pt15 | apply pt16 | apply pt17))))) ?_
  refine wt_y rfl (y_addS rfl rfl (by first | omega | (simp; omega) | (simp only [List.length_append]; omega))) ?_
  refine wt_y rfl (y_fieldAddr F105_3 rfl) ?_
  refine wt_y rfl (y_load NA39 rfl (by first | exact cell_blk [] rfl | exact cell_blk [_] rfl | exact cell_blk [_, _] rfl | exact cellR_blk (by assumption) rfl)) ?_
  refine wt_c (fun _ _ => want_none) rfl (yq_spec (fst := []) (cap := []) _ FN80 (plistG_c x.srcs.xs x.srcs.a x.srcs.cap (by omega)) rfl rfl rfl (by (repeat (first | exact pt_nil | apply pt0 | apply pt1 | apply pt2 | apply pt3 | apply pt4 | apply pt5 | apply pt6 | apply pt7 | apply pt8 | apply pt9 | apply pt10 | apply pt11 | apply pt12 | apply pt13 | apply pt14 | apply pt15 | apply pt16 | apply pt17))) (by (repeat (first | exact ro_nil | exact ro_rest (by assumption) | refine ro_cons (by first | exact .inl (by assumption) | exact ro_f0 (fun _ h => h) | exact ro_f0 (fun _ => slc_rsl) | exact ro_f1 (fun _ h => h) | exact ro_f1 (fun _ => slc_rsl) | exact ro_f2 (fun _ h => h) | exact ro_f2 (fun _ => slc_rsl) | exact ro_f3 (fun _ h => h) | exact ro_f3 (fun _ => slc_rsl) | exact ro_f4 (fun _ h => h) | exact ro_f4 (fun _ => slc_rsl) | exact ro_f5 (fun _ h => h) | exact ro_f5 (fun _ => slc_rsl) | exact ro_f6 (fun _ h => h) | exact ro_f6 (fun _ => slc_rsl)) ?_))) (fun _ _ => rfl) (fun _ _ _ h => h.sub (by (repeat (first | exact pt_nil | apply pt0 | apply pt1 | apply pt2 | apply pt3 | apply pt4 | apply pt5 | apply pt6 | apply pt7 | apply pt8 | apply pt9 | apply pt10 | apply pt11 | apply pt12 | apply pt13 | apply pt14 | apply pt15 | apply pt16 | apply pt17))))) ?_
  refine wt_y rfl (y_addS rfl rfl (by first | omega | (simp; omega) | (simp only [List.length_append]; omega))) ?_
  refine wt_y rfl (y_assign rfl) ?_
  refine wt_nil ?_
  refine wq_then ?_
  refine wc_ret ?_
  refine wq_ret1 rfl rfl (fun w hw => ?_)
  exact ⟨(), trivial, by rw [e], hw.bare⟩

set_option maxHeartbeats 1000000 in
theorem listedF_c (s : Sl PF) (hl : (flatF (s.xs.map fS)).length ≤ 800000000) :
    Ctr Tryz.prog 96 #[vSl s, .func (.func 97) #[] #[]] [libS, filesA s] [] (fun _ : Unit => True) (fun _ => vS (textF (flatF (s.xs.map fS)))) (fun _ => []) := by
  refine spec_start (n := 23) [(0, vSl s), (1, .func (.func 97) #[] #[])] Tryz.func96 rfl rfl ⟨rfl, rfl, trivial⟩ rfl ?_
  intro w0 K hR
  have hA := hR (filesA s) (by simp)
  unfold filesA at hA
  have hB := hR libS (by simp)
  have hnm := num_map (g := fS) s.xs
  refine wc_seq ?_
  refine wc_region ?_
  refine wl_y rfl (y_assign rfl) ?_
  refine wl_nil ?_
  refine wq_then ?_
  refine wc_seq ?_
  refine wc_region ?_
  refine wl_y rfl (y_assign rfl) ?_
  refine wl_nil ?_
  refine wq_then ?_
  refine wc_seq ?_
  refine wc_seq ?_
  refine wc_region ?_
  refine wl_y rfl (y_move rfl) ?_
  refine wl_y rfl (y_lenSl Tryz.underlying24 rfl) ?_
  refine wl_y rfl (y_move rfl) ?_
  refine wl_nil ?_
  refine wq_then ?_
  refine wc_block ?_
  refine wc_loop (α := Nat × Option Addr × Nat) (fun y => y.1 ≤ s.xs.length) [(1, _), (8, _), (9, _)] (fun y => [(10, vI y.1), (5, .slice y.2.1 y.1 y.2.2)]) (fun y => Hp w0 K [slc 9 1 y.2.1 y.1 y.2.2 ((( s.xs.take y.1).map fS).map vS)]) (fun y => s.xs.length - y.1) (0, none, 0) ?_ ⟨rfl, rfl, rfl, rfl, rfl, trivial⟩ ?_ ?_
  · exact Nat.zero_le _
  · exact fun w hw => Hp.addNil [] _ hw
  · rintro ⟨i, a, cap⟩ hi
    refine wc_world (S' := Hp w0 K [slc 9 1 a i cap (((s.xs.take i).map fS).map vS)]) (fun w hw => hw) ?_
    refine wc_same 10 (vI i) rfl rfl ?_
    refine wc_same 5 (.slice a i cap) rfl rfl ?_
    refine wc_seq ?_
    refine wc_region ?_
    refine wl_y rfl (y_lss rfl rfl) ?_
    refine wl_nil ?_
    refine wq_then ?_
    refine wc_seq ?_
    refine wc_cond rfl (fun hc11 => ?_) (fun hc11 => ?_)
    ·
      simp at hc11
      refine wc_skip ?_
      refine wq_then ?_
      refine wc_seq ?_
      refine wc_block ?_
      refine wc_seq ?_
      refine wc_region ?_
      obtain ⟨x, hx⟩ : ∃ x, s.xs[i]? = some x := ⟨_, List.getElem?_eq_getElem (by omega)⟩
      have hxm := List.mem_of_getElem? hx
      have hxl := map_in (g := fS) hxm
      refine wl_y rfl (y_indexAddr Tryz.underlying24 T108 rfl rfl rfl (by omega) (by first | assumption | exact fun _ _ => rfl | exact fun _ _ => hA.isSome (by omega) | exact fun w hw => hw.slc_isSome [] (by omega) | exact fun w hw => hw.slc_isSome [_] (by omega) | exact fun w hw => hw.slc_isSome [_, _] (by omega) | exact fun w hw => hw.slc_isSome [_, _, _] (by omega) | exact fun w hw => hw.slc_isSome [_, _, _, _] (by omega))) ?_
      refine wl_y rfl (y_loadAgg (l := encF x) AG108 rfl rfl (by first | exact agg_ro hA (fun i u h => rows_get encF_len hx h) | exact agg_own [] (fun i u h => rows_get encF_len hx h) | exact agg_own [_] (fun i u h => rows_get encF_len hx h) | exact agg_own [_, _] (fun i u h => rows_get encF_len hx h) | exact agg_own [_, _, _] (fun i u h => rows_get encF_len hx h) | exact agg_own [_, _, _, _] (fun i u h => rows_get encF_len hx h))) ?_
      refine wl_w (fun _ _ => want_none) rfl (yw_alloc T108 rfl) (wl_ex fun b7 _ => ?_)
      first | refine wl_u (yu_storeAgg [] (l' := [_, _]) T108 rfl rfl rfl (by simp [Value.oneCell', encF]) rfl rfl) ?_ | refine wl_u (yu_storeAgg [_] (l' := [_, _]) T108 rfl rfl rfl (by simp [Value.oneCell', encF]) rfl rfl) ?_ | refine wl_u (yu_storeAgg [_, _] (l' := [_, _]) T108 rfl rfl rfl (by simp [Value.oneCell', encF]) rfl rfl) ?_ | refine wl_u (yu_storeAgg [_, _, _] (l' := [_, _]) T108 rfl rfl rfl (by simp [Value.oneCell', encF]) rfl rfl) ?_ | refine wl_u (yu_storeAgg [_, _, _, _] (l' := [_, _]) T108 rfl rfl rfl (by simp [Value.oneCell', encF]) rfl rfl) ?_
      refine wl_nil ?_
      refine wq_then ?_
      refine wc_region ?_
      refine wl_y rfl (y_move rfl) ?_
      refine wl_y rfl (y_move rfl) ?_
      refine wl_y rfl (y_loadAgg (l := [_, _]) AG108 rfl rfl (by first | exact cells_blk [] rfl | exact cells_blk [_] rfl | exact cells_blk [_, _] rfl | exact cells_blk [_, _, _] rfl | exact cells_blk [_, _, _, _] rfl | exact cellsR_blk (by assumption) rfl)) ?_
      refine wl_q (fun _ _ => want_none) rfl (yq_spec (fst := []) (cap := []) _ FN97 (file1_c x (by omega)) rfl rfl rfl (by (repeat (first | exact pt_nil | apply pt0 | apply pt1 | apply pt2 | apply pt3 | apply pt4 | apply pt5 | apply pt6 | apply pt7 | apply pt8 | apply pt9 | apply pt10 | apply pt11 | apply pt12 | apply pt13 | apply pt14 | apply pt15 | apply pt16 | apply pt17))) (by (repeat (first | exact ro_nil | exact ro_rest (by assumption) | refine ro_cons (by first | exact .inl (by assumption) | exact ro_f0 (fun _ h => h) | exact ro_f0 (fun _ => slc_rsl) | exact ro_f1 (fun _ h => h) | exact ro_f1 (fun _ => slc_rsl) | exact ro_f2 (fun _ h => h) | exact ro_f2 (fun _ => slc_rsl) | exact ro_f3 (fun _ h => h) | exact ro_f3 (fun _ => slc_rsl) | exact ro_f4 (fun _ h => h) | exact ro_f4 (fun _ => slc_rsl) | exact ro_f5 (fun _ h => h) | exact ro_f5 (fun _ => slc_rsl) | exact ro_f6 (fun _ h => h) | exact ro_f6 (fun _ => slc_rsl)) ?_))) (fun _ _ => rfl) (fun _ _ _ h => h.sub (by (repeat (first | exact pt_nil | apply pt0 | apply pt1 | apply pt2 | apply pt3 | apply pt4 | apply pt5 | apply pt6 | apply pt7 | apply pt8 | apply pt9 | apply pt10 | apply pt11 | apply pt12 | apply pt13 | apply pt14 | apply pt15 | apply pt16 | apply pt17))))) ?_
      refine wl_w (fun _ _ => want_none) rfl (yw_buildSlice (cs := [vS (fS x)]) Tryz.underlying39 T9 rfl rfl rfl rfl rfl rfl rfl) (wl_ex fun b18 _ => ?_)
      refine wl_w (fun _ _ => want_none) rfl (yw_append [_, _] (cs := ((s.xs.take i).map fS).map vS) (news := [vS (fS x)]) Tryz.underlying39 Tryz.underlying39 (.inl ⟨_, rfl⟩) T9 rfl rfl rfl (fun w hw => Src.slice ((hw.seen []).mono fun _ => slc_rsl)) (by omega) (by unfold maxLen; omega) (by simp [Value.oneCell']) rfl) (wl_ex fun p19 hp19 => ?_)
      refine wl_y rfl (y_assign rfl) ?_
      refine wl_nil ?_
      refine wq_block_normal ?_
      refine wq_then ?_
      refine wc_region ?_
      refine wl_y rfl (y_add rfl rfl (by omega)) ?_
      refine wl_y rfl (y_move rfl) ?_
      refine wl_nil ?_
      exact wq_round (i + 1, p19.1, p19.2) (by simp only; omega) (by omega) ⟨rfl, rfl, rfl, rfl, rfl, trivial⟩ (fun w hw => by rw [outs_step hx] at hw; exact hw.sub (by (repeat (first | exact pt_nil | apply pt0 | apply pt1 | apply pt2 | apply pt3 | apply pt4 | apply pt5 | apply pt6 | apply pt7 | apply pt8 | apply pt9 | apply pt10 | apply pt11 | apply pt12 | apply pt13 | apply pt14 | apply pt15 | apply pt16 | apply pt17))))
    ·
      simp at hc11
      refine wc_exit ?_
      refine wq_then_exit (wq_then_exit (wq_block_exit ?_))
      refine wq_then ?_
      refine wc_seq ?_
      refine wc_region ?_
      obtain rfl : i = s.xs.length := by omega
      refine wl_world (S' := Hp w0 K [slc 9 1 a s.xs.length cap ((s.xs.map fS).map vS)]) (fun w hw => by rw [List.take_length] at hw; exact hw) ?_
      refine wl_y rfl (y_move rfl) ?_
      refine wl_q (fun _ _ => want_none) rfl (yq_spec (fst := []) (cap := []) _ FN80 (plistK_c (s.xs.map fS) s.xs.length (List.length_map _) a cap (by omega)) rfl rfl rfl (by (repeat (first | exact pt_nil | apply pt0 | apply pt1 | apply pt2 | apply pt3 | apply pt4 | apply pt5 | apply pt6 | apply pt7 | apply pt8 | apply pt9 | apply pt10 | apply pt11 | apply pt12 | apply pt13 | apply pt14 | apply pt15 | apply pt16 | apply pt17))) (by (repeat (first | exact ro_nil | exact ro_rest (by assumption) | refine ro_cons (by first | exact .inl (by assumption) | exact ro_f0 (fun _ h => h) | exact ro_f0 (fun _ => slc_rsl) | exact ro_f1 (fun _ h => h) | exact ro_f1 (fun _ => slc_rsl) | exact ro_f2 (fun _ h => h) | exact ro_f2 (fun _ => slc_rsl) | exact ro_f3 (fun _ h => h) | exact ro_f3 (fun _ => slc_rsl) | exact ro_f4 (fun _ h => h) | exact ro_f4 (fun _ => slc_rsl) | exact ro_f5 (fun _ h => h) | exact ro_f5 (fun _ => slc_rsl) | exact ro_f6 (fun _ h => h) | exact ro_f6 (fun _ => slc_rsl)) ?_))) (fun _ _ => rfl) (fun _ _ _ h => h.sub (by (repeat (first | exact pt_nil | apply pt0 | apply pt1 | apply pt2 | apply pt3 | apply pt4 | apply pt5 | apply pt6 | apply pt7 | apply pt8 | apply pt9 | apply pt10 | apply pt11 | apply pt12 | apply pt13 | apply pt14 | apply pt15 | apply pt16 | apply pt17))))) ?_
      refine wl_y rfl (y_assign rfl) ?_
      refine wl_nil ?_
      refine wq_then ?_
      refine wc_ret ?_
      refine wq_ret1 rfl rfl (fun w hw => ?_)
      exact ⟨(), trivial, rfl, hw.bare⟩

set_option maxHeartbeats 1000000 in
theorem listedT_c (s : Sl TgV) (hl : (flatF (s.xs.map tS)).length ≤ 800000000) :
    Ctr Tryz.prog 78 #[vSl s, .func (.func 79) #[] #[]] [libS, graphA s] [] (fun _ : Unit => True) (fun _ => vS (textF (flatF (s.xs.map tS)))) (fun _ => []) := by
  refine spec_start (n := 23) [(0, vSl s), (1, .func (.func 79) #[] #[])] Tryz.func78 rfl rfl ⟨rfl, rfl, trivial⟩ rfl ?_
  intro w0 K hR
  obtain ⟨hA, hT⟩ := graph_ro (hR (graphA s) (by simp))
  have hB := hR libS (by simp)
  have hnm := num_map (g := tS) s.xs
  refine wc_seq ?_
  refine wc_region ?_
  refine wl_y rfl (y_assign rfl) ?_
  refine wl_nil ?_
  refine wq_then ?_
  refine wc_seq ?_
  refine wc_region ?_
  refine wl_y rfl (y_assign rfl) ?_
  refine wl_nil ?_
  refine wq_then ?_
  refine wc_seq ?_
  refine wc_seq ?_
  refine wc_region ?_
  refine wl_y rfl (y_move rfl) ?_
  refine wl_y rfl (y_lenSl Tryz.underlying23 rfl) ?_
  refine wl_y rfl (y_move rfl) ?_
  refine wl_nil ?_
  refine wq_then ?_
  refine wc_block ?_
  refine wc_loop (α := Nat × Option Addr × Nat) (fun y => y.1 ≤ s.xs.length) [(1, _), (8, _), (9, _)] (fun y => [(10, vI y.1), (5, .slice y.2.1 y.1 y.2.2)]) (fun y => Hp w0 K [slc 9 1 y.2.1 y.1 y.2.2 ((( s.xs.take y.1).map tS).map vS)]) (fun y => s.xs.length - y.1) (0, none, 0) ?_ ⟨rfl, rfl, rfl, rfl, rfl, trivial⟩ ?_ ?_
  · exact Nat.zero_le _
  · exact fun w hw => Hp.addNil [] _ hw
  · rintro ⟨i, a, cap⟩ hi
    refine wc_world (S' := Hp w0 K [slc 9 1 a i cap (((s.xs.take i).map tS).map vS)]) (fun w hw => hw) ?_
    refine wc_same 10 (vI i) rfl rfl ?_
    refine wc_same 5 (.slice a i cap) rfl rfl ?_
    refine wc_seq ?_
    refine wc_region ?_
    refine wl_y rfl (y_lss rfl rfl) ?_
    refine wl_nil ?_
    refine wq_then ?_
    refine wc_seq ?_
    refine wc_cond rfl (fun hc11 => ?_) (fun hc11 => ?_)
    ·
      simp at hc11
      refine wc_skip ?_
      refine wq_then ?_
      refine wc_seq ?_
      refine wc_block ?_
      refine wc_seq ?_
      refine wc_region ?_
      obtain ⟨x, hx⟩ : ∃ x, s.xs[i]? = some x := ⟨_, List.getElem?_eq_getElem (by omega)⟩
      have hxm := List.mem_of_getElem? hx
      have hxl := map_in (g := tS) hxm
      obtain ⟨hS, hU⟩ := hT x hxm
      refine wl_y rfl (y_indexAddr Tryz.underlying23 T105 rfl rfl rfl (by omega) (by first | assumption | exact fun _ _ => rfl | exact fun _ _ => hA.isSome (by omega) | exact fun w hw => hw.slc_isSome [] (by omega) | exact fun w hw => hw.slc_isSome [_] (by omega) | exact fun w hw => hw.slc_isSome [_, _] (by omega) | exact fun w hw => hw.slc_isSome [_, _, _] (by omega) | exact fun w hw => hw.slc_isSome [_, _, _, _] (by omega))) ?_
      refine wl_y rfl (y_loadAgg (l := encTg x) AG105 rfl rfl (by first | exact agg_ro hA (fun i u h => rows_get encTg_len hx h) | exact agg_own [] (fun i u h => rows_get encTg_len hx h) | exact agg_own [_] (fun i u h => rows_get encTg_len hx h) | exact agg_own [_, _] (fun i u h => rows_get encTg_len hx h) | exact agg_own [_, _, _] (fun i u h => rows_get encTg_len hx h) | exact agg_own [_, _, _, _] (fun i u h => rows_get encTg_len hx h))) ?_
      refine wl_w (fun _ _ => want_none) rfl (yw_alloc T105 rfl) (wl_ex fun b7 _ => ?_)
      first | refine wl_u (yu_storeAgg [] (l' := [_, _, _, _]) T105 rfl rfl rfl (by simp [Value.oneCell', encTg]) rfl rfl) ?_ | refine wl_u (yu_storeAgg [_] (l' := [_, _, _, _]) T105 rfl rfl rfl (by simp [Value.oneCell', encTg]) rfl rfl) ?_ | refine wl_u (yu_storeAgg [_, _] (l' := [_, _, _, _]) T105 rfl rfl rfl (by simp [Value.oneCell', encTg]) rfl rfl) ?_ | refine wl_u (yu_storeAgg [_, _, _] (l' := [_, _, _, _]) T105 rfl rfl rfl (by simp [Value.oneCell', encTg]) rfl rfl) ?_ | refine wl_u (yu_storeAgg [_, _, _, _] (l' := [_, _, _, _]) T105 rfl rfl rfl (by simp [Value.oneCell', encTg]) rfl rfl) ?_
      refine wl_nil ?_
      refine wq_then ?_
      refine wc_region ?_
      refine wl_y rfl (y_move rfl) ?_
      refine wl_y rfl (y_move rfl) ?_
      refine wl_y rfl (y_loadAgg (l := [_, _, _, _]) AG105 rfl rfl (by first | exact cells_blk [] rfl | exact cells_blk [_] rfl | exact cells_blk [_, _] rfl | exact cells_blk [_, _, _] rfl | exact cells_blk [_, _, _, _] rfl | exact cellsR_blk (by assumption) rfl)) ?_
      refine wl_q (fun _ _ => want_none) rfl (yq_spec (fst := []) (cap := []) _ FN79 (tg1_c x (by omega)) rfl rfl rfl (by (repeat (first | exact pt_nil | apply pt0 | apply pt1 | apply pt2 | apply pt3 | apply pt4 | apply pt5 | apply pt6 | apply pt7 | apply pt8 | apply pt9 | apply pt10 | apply pt11 | apply pt12 | apply pt13 | apply pt14 | apply pt15 | apply pt16 | apply pt17))) (by (repeat (first | exact ro_nil | exact ro_rest (by assumption) | refine ro_cons (by first | exact .inl (by assumption) | exact ro_f0 (fun _ h => h) | exact ro_f0 (fun _ => slc_rsl) | exact ro_f1 (fun _ h => h) | exact ro_f1 (fun _ => slc_rsl) | exact ro_f2 (fun _ h => h) | exact ro_f2 (fun _ => slc_rsl) | exact ro_f3 (fun _ h => h) | exact ro_f3 (fun _ => slc_rsl) | exact ro_f4 (fun _ h => h) | exact ro_f4 (fun _ => slc_rsl) | exact ro_f5 (fun _ h => h) | exact ro_f5 (fun _ => slc_rsl) | exact ro_f6 (fun _ h => h) | exact ro_f6 (fun _ => slc_rsl)) ?_))) (fun _ _ => rfl) (fun _ _ _ h => h.sub (by (repeat (first | exact pt_nil | apply pt0 | apply pt1 | apply pt2 | apply pt3 | apply pt4 | apply pt5 | apply pt6 | apply pt7 | apply pt8 | apply pt9 | apply pt10 | apply pt11 | apply pt12 | apply pt13 | apply pt14 | apply pt15 | apply pt16 | apply pt17))))) ?_
      refine wl_w (fun _ _ => want_none) rfl (yw_buildSlice (cs := [vS (tS x)]) Tryz.underlying39 T9 rfl rfl rfl rfl rfl rfl rfl) (wl_ex fun b18 _ => ?_)
      refine wl_w (fun _ _ => want_none) rfl (yw_append [_, _] (cs := ((s.xs.take i).map tS).map vS) (news := [vS (tS x)]) Tryz.underlying39 Tryz.underlying39 (.inl ⟨_, rfl⟩) T9 rfl rfl rfl (fun w hw => Src.slice ((hw.seen []).mono fun _ => slc_rsl)) (by omega) (by unfold maxLen; omega) (by simp [Value.oneCell']) rfl) (wl_ex fun p19 hp19 => ?_)
      refine wl_y rfl (y_assign rfl) ?_
      refine wl_nil ?_
      refine wq_block_normal ?_
      refine wq_then ?_
      refine wc_region ?_
      refine wl_y rfl (y_add rfl rfl (by omega)) ?_
      refine wl_y rfl (y_move rfl) ?_
      refine wl_nil ?_
      exact wq_round (i + 1, p19.1, p19.2) (by simp only; omega) (by omega) ⟨rfl, rfl, rfl, rfl, rfl, trivial⟩ (fun w hw => by rw [outs_step hx] at hw; exact hw.sub (by (repeat (first | exact pt_nil | apply pt0 | apply pt1 | apply pt2 | apply pt3 | apply pt4 | apply pt5 | apply pt6 | apply pt7 | apply pt8 | apply pt9 | apply pt10 | apply pt11 | apply pt12 | apply pt13 | apply pt14 | apply pt15 | apply pt16 | apply pt17))))
    ·
      simp at hc11
      refine wc_exit ?_
      refine wq_then_exit (wq_then_exit (wq_block_exit ?_))
      refine wq_then ?_
      refine wc_seq ?_
      refine wc_region ?_
      obtain rfl : i = s.xs.length := by omega
      refine wl_world (S' := Hp w0 K [slc 9 1 a s.xs.length cap ((s.xs.map tS).map vS)]) (fun w hw => by rw [List.take_length] at hw; exact hw) ?_
      refine wl_y rfl (y_move rfl) ?_
      refine wl_q (fun _ _ => want_none) rfl (yq_spec (fst := []) (cap := []) _ FN80 (plistK_c (s.xs.map tS) s.xs.length (List.length_map _) a cap (by omega)) rfl rfl rfl (by (repeat (first | exact pt_nil | apply pt0 | apply pt1 | apply pt2 | apply pt3 | apply pt4 | apply pt5 | apply pt6 | apply pt7 | apply pt8 | apply pt9 | apply pt10 | apply pt11 | apply pt12 | apply pt13 | apply pt14 | apply pt15 | apply pt16 | apply pt17))) (by (repeat (first | exact ro_nil | exact ro_rest (by assumption) | refine ro_cons (by first | exact .inl (by assumption) | exact ro_f0 (fun _ h => h) | exact ro_f0 (fun _ => slc_rsl) | exact ro_f1 (fun _ h => h) | exact ro_f1 (fun _ => slc_rsl) | exact ro_f2 (fun _ h => h) | exact ro_f2 (fun _ => slc_rsl) | exact ro_f3 (fun _ h => h) | exact ro_f3 (fun _ => slc_rsl) | exact ro_f4 (fun _ h => h) | exact ro_f4 (fun _ => slc_rsl) | exact ro_f5 (fun _ h => h) | exact ro_f5 (fun _ => slc_rsl) | exact ro_f6 (fun _ h => h) | exact ro_f6 (fun _ => slc_rsl)) ?_))) (fun _ _ => rfl) (fun _ _ _ h => h.sub (by (repeat (first | exact pt_nil | apply pt0 | apply pt1 | apply pt2 | apply pt3 | apply pt4 | apply pt5 | apply pt6 | apply pt7 | apply pt8 | apply pt9 | apply pt10 | apply pt11 | apply pt12 | apply pt13 | apply pt14 | apply pt15 | apply pt16 | apply pt17))))) ?_
      refine wl_y rfl (y_assign rfl) ?_
      refine wl_nil ?_
      refine wq_then ?_
      refine wc_ret ?_
      refine wq_ret1 rfl rfl (fun w hw => ?_)
      exact ⟨(), trivial, rfl, hw.bare⟩

set_option maxHeartbeats 1000000 in
theorem kfiles_c (s : Sl PF) (hl : (filesT s.xs).length ≤ 800000000) :
    Ctr Tryz.prog 81 #[vSl s] [libS, filesA s] [] (fun _ : Unit => True) (fun _ => vS (filesT s.xs)) (fun _ => []) := by
  refine spec_start (n := 5) [(0, vSl s)] Tryz.func81 rfl rfl ⟨rfl, trivial⟩ rfl ?_
  intro w0 K hR
  have hB := hR libS (by simp)
  have hA := hR (filesA s) (by simp)
  refine wc_seq ?_
  refine wc_region ?_
  refine wl_y rfl (y_assign rfl) ?_
  refine wl_nil ?_
  refine wq_then ?_
  refine wc_seq ?_
  refine wc_region ?_
  refine wl_y rfl (y_move rfl) ?_
  refine wl_q (fun _ _ => want_none) rfl (yq_spec (fst := []) (cap := []) _ FN96 (listedF_c s (by have := len_textF (flatF (s.xs.map fS)); rw [filesT_e] at hl; omega)) rfl rfl rfl (by (repeat (first | exact pt_nil | apply pt0 | apply pt1 | apply pt2 | apply pt3 | apply pt4 | apply pt5 | apply pt6 | apply pt7 | apply pt8 | apply pt9 | apply pt10 | apply pt11 | apply pt12 | apply pt13 | apply pt14 | apply pt15 | apply pt16 | apply pt17))) (by (repeat (first | exact ro_nil | exact ro_rest (by assumption) | refine ro_cons (by first | exact .inl (by assumption) | exact ro_f0 (fun _ h => h) | exact ro_f0 (fun _ => slc_rsl) | exact ro_f1 (fun _ h => h) | exact ro_f1 (fun _ => slc_rsl) | exact ro_f2 (fun _ h => h) | exact ro_f2 (fun _ => slc_rsl) | exact ro_f3 (fun _ h => h) | exact ro_f3 (fun _ => slc_rsl) | exact ro_f4 (fun _ h => h) | exact ro_f4 (fun _ => slc_rsl) | exact ro_f5 (fun _ h => h) | exact ro_f5 (fun _ => slc_rsl) | exact ro_f6 (fun _ h => h) | exact ro_f6 (fun _ => slc_rsl)) ?_))) (fun _ _ => rfl) (fun _ _ _ h => h.sub (by (repeat (first | exact pt_nil | apply pt0 | apply pt1 | apply pt2 | apply pt3 | apply pt4 | apply pt5 | apply pt6 | apply pt7 | apply pt8 | apply pt9 | apply pt10 | apply pt11 | apply pt12 | apply pt13 | apply pt14 | apply pt15 | apply pt16 | apply pt17))))) ?_
  refine wl_y rfl (y_assign rfl) ?_
  refine wl_nil ?_
  refine wq_then ?_
  refine wc_ret ?_
  refine wq_ret1 rfl rfl (fun w hw => ?_)
  exact ⟨(), trivial, rfl, hw.bare⟩

set_option maxHeartbeats 1000000 in
theorem kgraph_c (s : Sl TgV) (hl : (graphT (grE s)).length ≤ 800000000) :
    Ctr Tryz.prog 62 #[vSl s] [libS, graphA s] [] (fun _ : Unit => True) (fun _ => vS (graphT (grE s))) (fun _ => []) := by
  refine spec_start (n := 5) [(0, vSl s)] Tryz.func62 rfl rfl ⟨rfl, trivial⟩ rfl ?_
  intro w0 K hR
  have hB := hR libS (by simp)
  have hA := hR (graphA s) (by simp)
  refine wc_seq ?_
  refine wc_region ?_
  refine wl_y rfl (y_assign rfl) ?_
  refine wl_nil ?_
  refine wq_then ?_
  refine wc_seq ?_
  refine wc_region ?_
  refine wl_y rfl (y_move rfl) ?_
  refine wl_q (fun _ _ => want_none) rfl (yq_spec (fst := []) (cap := []) _ FN78 (listedT_c s (by have := len_textF (flatF (s.xs.map tS)); rw [graphT_e] at hl; omega)) rfl rfl rfl (by (repeat (first | exact pt_nil | apply pt0 | apply pt1 | apply pt2 | apply pt3 | apply pt4 | apply pt5 | apply pt6 | apply pt7 | apply pt8 | apply pt9 | apply pt10 | apply pt11 | apply pt12 | apply pt13 | apply pt14 | apply pt15 | apply pt16 | apply pt17))) (by (repeat (first | exact ro_nil | exact ro_rest (by assumption) | refine ro_cons (by first | exact .inl (by assumption) | exact ro_f0 (fun _ h => h) | exact ro_f0 (fun _ => slc_rsl) | exact ro_f1 (fun _ h => h) | exact ro_f1 (fun _ => slc_rsl) | exact ro_f2 (fun _ h => h) | exact ro_f2 (fun _ => slc_rsl) | exact ro_f3 (fun _ h => h) | exact ro_f3 (fun _ => slc_rsl) | exact ro_f4 (fun _ h => h) | exact ro_f4 (fun _ => slc_rsl) | exact ro_f5 (fun _ h => h) | exact ro_f5 (fun _ => slc_rsl) | exact ro_f6 (fun _ h => h) | exact ro_f6 (fun _ => slc_rsl)) ?_))) (fun _ _ => rfl) (fun _ _ _ h => h.sub (by (repeat (first | exact pt_nil | apply pt0 | apply pt1 | apply pt2 | apply pt3 | apply pt4 | apply pt5 | apply pt6 | apply pt7 | apply pt8 | apply pt9 | apply pt10 | apply pt11 | apply pt12 | apply pt13 | apply pt14 | apply pt15 | apply pt16 | apply pt17))))) ?_
  refine wl_y rfl (y_assign rfl) ?_
  refine wl_nil ?_
  refine wq_then ?_
  refine wc_ret ?_
  refine wq_ret1 rfl rfl (fun w hw => ?_)
  exact ⟨(), trivial, by rw [graphT_e], hw.bare⟩

end Go.Proofs.YtbnahfjhlbibcaaGreatDoor
