/-
  Walks: sheets, their texts, numbers and files.
-/
import Derived.Test.YtbnahfjhlbibcaaGreatDoorWalkM
namespace Go.Proofs.YtbnahfjhlbibcaaGreatDoor
open Go.Eng

open Go.Lib
theorem flat_takeI {l : List Int} {i : Nat} {x : Int} (h : l[i]? = some x) : flatF ((l.take (i + 1)).map itoa) = flatF ((l.take i).map itoa) ++ textF (itoa x) := by
  rw [List.take_add_one, h]; simp [flatF]
theorem flat_preI (l : List Int) (i : Nat) : (flatF ((l.take i).map itoa)).length ≤ (flatF (l.map itoa)).length := by
  have : flatF (l.map itoa) = flatF ((l.take i).map itoa) ++ flatF ((l.drop i).map itoa) := by rw [flatF, flatF, flatF, ← List.flatMap_append, ← List.map_append, List.take_append_drop]
  rw [this, List.length_append]; omega
set_option maxHeartbeats 1000000 in
theorem sheet_text (b : Nat) (s : Str) (l : List Str) (oo : Option Addr) (cc : Nat) (hl : s.length + (flatF l).length ≤ 900000000) :
    Ctr Tryz.prog 61 #[ptr b, .slice oo l.length cc] [libS, rsl oo l.length 1 (l.map vS)] [bldA 88 5 b (s)] (fun _ : Unit => True) (fun _ => ptr b) (fun _ => [bldA 88 5 b (s ++ flatF l)]) := by
  refine spec_start (n := 21) [(0, ptr b), (1, .slice oo l.length cc)] Tryz.func61 rfl rfl ⟨rfl, rfl, trivial⟩ rfl ?_
  intro w0 K hR
  have hB := hR libS (by simp)
  have hA := hR (rsl oo l.length 1 (l.map vS)) (by simp)
  have hn := num_flat l
  have hin := fun (x : Str) (hx : x ∈ l) => (len_flat hx).2
  refine wc_seq ?_
  refine wc_region ?_
  refine wl_y rfl (y_assign rfl) ?_
  refine wl_nil ?_
  refine wq_then ?_
  refine wc_seq ?_
  refine wc_seq ?_
  refine wc_region ?_
  refine wl_y rfl (y_move rfl) ?_
  refine wl_y rfl (y_lenSl Tryz.underlying39 rfl) ?_
  refine wl_y rfl (y_move rfl) ?_
  refine wl_nil ?_
  refine wq_then ?_
  refine wc_block ?_
  refine wc_loop (α := Nat) (fun y => y ≤ l.length) [(0, _), (7, _), (8, _)] (fun y => [(9, vI y)]) (fun y => Hp w0 K [bldA 88 5 b (s ++ flatF (l.take y))]) (fun y => l.length - y) 0 ?_ ⟨rfl, rfl, rfl, rfl, trivial⟩ ?_ ?_
  · exact Nat.zero_le _
  · exact fun w hw => by simpa [flatF] using hw
  · intro i hi
    refine wc_seq ?_
    refine wc_region ?_
    refine wl_y rfl (y_lss rfl rfl) ?_
    refine wl_nil ?_
    refine wq_then ?_
    refine wc_seq ?_
    refine wc_cond rfl (fun hc10 => ?_) (fun hc10 => ?_)
    ·
      simp at hc10
      refine wc_skip ?_
      refine wq_then ?_
      refine wc_seq ?_
      refine wc_block ?_
      refine wc_seq ?_
      refine wc_region ?_
      obtain ⟨x, hx⟩ : ∃ x, l[i]? = some x := ⟨_, List.getElem?_eq_getElem (by omega)⟩
      have hxm := List.mem_of_getElem? hx
      have hft := flat_take hx
      have hfp := flat_pre l (i + 1)
      rw [hft, List.length_append] at hfp
      refine wl_y rfl (y_indexAddr Tryz.underlying39 T9 rfl rfl rfl (by omega) (by first | assumption | exact fun _ _ => rfl | exact fun _ _ => hA.isSome (by omega) | exact fun w hw => hw.slc_isSome [] (by omega) | exact fun w hw => hw.slc_isSome [_] (by omega) | exact fun w hw => hw.slc_isSome [_, _] (by omega) | exact fun w hw => hw.slc_isSome [_, _, _] (by omega) | exact fun w hw => hw.slc_isSome [_, _, _, _] (by omega))) ?_
      refine wl_y rfl (y_load NA9 rfl (cell_ro hA (row_at hx))) ?_
      refine wl_y rfl (y_assign rfl) ?_
      refine wl_nil ?_
      refine wq_then ?_
      refine wc_mix (.q 0 0 (.q 1 0 (.q 2 0 (.q 3 0 (.w 4 2 (.w 5 2 .nil .nil) .nil))))) (fun _ => True) MO (by kernel_rfl) (Hp.drawless _ _ _) (fun _ _ => trivial) ?_
      refine wm_g rfl rfl (y_move rfl) ?_
      refine wm_g rfl rfl (y_nilCheck rfl) ?_
      refine wm_g rfl rfl (y_fieldAddr F88_0 rfl) ?_
      refine wm_g rfl rfl (y_move rfl) ?_
      refine wm_c rfl rfl (fun _ _ _ => trivial) (yc_spec (fst := []) (cap := []) _ FN76 (ptext_c x (by have := hin x hxm; omega)) rfl rfl rfl (by (repeat (first | exact pt_nil | apply pt0 | apply pt1 | apply pt2 | apply pt3 | apply pt4 | apply pt5 | apply pt6 | apply pt7 | apply pt8 | apply pt9 | apply pt10 | apply pt11 | apply pt12 | apply pt13 | apply pt14 | apply pt15 | apply pt16 | apply pt17))) (by (repeat (first | exact ro_nil | exact ro_rest (by assumption) | refine ro_cons (by first | exact .inl (by assumption) | exact ro_f0 (fun _ h => h) | exact ro_f0 (fun _ => slc_rsl) | exact ro_f1 (fun _ h => h) | exact ro_f1 (fun _ => slc_rsl) | exact ro_f2 (fun _ h => h) | exact ro_f2 (fun _ => slc_rsl) | exact ro_f3 (fun _ h => h) | exact ro_f3 (fun _ => slc_rsl) | exact ro_f4 (fun _ h => h) | exact ro_f4 (fun _ => slc_rsl) | exact ro_f5 (fun _ h => h) | exact ro_f5 (fun _ => slc_rsl) | exact ro_f6 (fun _ h => h) | exact ro_f6 (fun _ => slc_rsl)) ?_)))) (wm_ex fun x17 hx17 => ?_)
      refine wm_c rfl rfl (fun _ _ _ => trivial) (yc_spec (fst := []) (cap := []) _ FN59 (writeT_c 88 (.inr rfl) b (s ++ flatF (l.take i)) (textF x) (by rw [List.length_append]; omega)) rfl rfl rfl (by (repeat (first | exact pt_nil | apply pt0 | apply pt1 | apply pt2 | apply pt3 | apply pt4 | apply pt5 | apply pt6 | apply pt7 | apply pt8 | apply pt9 | apply pt10 | apply pt11 | apply pt12 | apply pt13 | apply pt14 | apply pt15 | apply pt16 | apply pt17))) (by (repeat (first | exact ro_nil | exact ro_rest (by assumption) | refine ro_cons (by first | exact .inl (by assumption) | exact ro_f0 (fun _ h => h) | exact ro_f0 (fun _ => slc_rsl) | exact ro_f1 (fun _ h => h) | exact ro_f1 (fun _ => slc_rsl) | exact ro_f2 (fun _ h => h) | exact ro_f2 (fun _ => slc_rsl) | exact ro_f3 (fun _ h => h) | exact ro_f3 (fun _ => slc_rsl) | exact ro_f4 (fun _ h => h) | exact ro_f4 (fun _ => slc_rsl) | exact ro_f5 (fun _ h => h) | exact ro_f5 (fun _ => slc_rsl) | exact ro_f6 (fun _ h => h) | exact ro_f6 (fun _ => slc_rsl)) ?_)))) (wm_ex fun x18 hx18 => ?_)
      refine wm_nil ?_
      refine all_wq ?_
      refine wq_block_normal ?_
      refine wq_then ?_
      refine wc_region ?_
      refine wl_y rfl (y_add rfl rfl (by omega)) ?_
      refine wl_y rfl (y_move rfl) ?_
      refine wl_nil ?_
      exact wq_round (i + 1) (by omega) (by omega) ⟨rfl, rfl, rfl, rfl, trivial⟩ (fun w hw => by rw [hft, ← List.append_assoc]; exact hw.sub (by (repeat (first | exact pt_nil | apply pt0 | apply pt1 | apply pt2 | apply pt3 | apply pt4 | apply pt5 | apply pt6 | apply pt7 | apply pt8 | apply pt9 | apply pt10 | apply pt11 | apply pt12 | apply pt13 | apply pt14 | apply pt15 | apply pt16 | apply pt17))))
    ·
      simp at hc10
      refine wc_exit ?_
      refine wq_then_exit (wq_then_exit (wq_block_exit ?_))
      refine wq_then ?_
      refine wc_seq ?_
      refine wc_region ?_
      obtain rfl : i = l.length := by omega
      refine wl_world (S' := Hp w0 K [bldA 88 5 b (s ++ flatF l)]) (fun w hw => by rw [List.take_length] at hw; exact hw) ?_
      refine wl_y rfl (y_move rfl) ?_
      refine wl_y rfl (y_assign rfl) ?_
      refine wl_nil ?_
      refine wq_then ?_
      refine wc_ret ?_
      refine wq_ret1 rfl rfl (fun w hw => ?_)
      exact ⟨(), trivial, rfl, hw⟩

set_option maxHeartbeats 1000000 in
theorem sheet_num (b : Nat) (s : Str) (l : List Int) (oo : Option Addr) (cc : Nat) (hi : ∀ n ∈ l, inR n) (hl : s.length + (flatF (l.map itoa)).length ≤ 900000000) :
    Ctr Tryz.prog 43 #[ptr b, .slice oo l.length cc] [libS, rsl oo l.length 1 (l.map vI)] [bldA 88 5 b (s)] (fun _ : Unit => True) (fun _ => ptr b) (fun _ => [bldA 88 5 b (s ++ flatF (l.map itoa))]) := by
  refine spec_start (n := 21) [(0, ptr b), (1, .slice oo l.length cc)] Tryz.func43 rfl rfl ⟨rfl, rfl, trivial⟩ rfl ?_
  intro w0 K hR
  have hB := hR libS (by simp)
  have hA := hR (rsl oo l.length 1 (l.map vI)) (by simp)
  have hn := num_map (g := itoa) l
  refine wc_seq ?_
  refine wc_region ?_
  refine wl_y rfl (y_assign rfl) ?_
  refine wl_nil ?_
  refine wq_then ?_
  refine wc_seq ?_
  refine wc_seq ?_
  refine wc_region ?_
  refine wl_y rfl (y_move rfl) ?_
  refine wl_y rfl (y_lenSl Tryz.underlying112 rfl) ?_
  refine wl_y rfl (y_move rfl) ?_
  refine wl_nil ?_
  refine wq_then ?_
  refine wc_block ?_
  refine wc_loop (α := Nat) (fun y => y ≤ l.length) [(0, _), (7, _), (8, _)] (fun y => [(9, vI y)]) (fun y => Hp w0 K [bldA 88 5 b (s ++ flatF ((l.take y).map itoa))]) (fun y => l.length - y) 0 ?_ ⟨rfl, rfl, rfl, rfl, trivial⟩ ?_ ?_
  · exact Nat.zero_le _
  · exact fun w hw => by simpa [flatF] using hw
  · intro i hi2
    refine wc_seq ?_
    refine wc_region ?_
    refine wl_y rfl (y_lss rfl rfl) ?_
    refine wl_nil ?_
    refine wq_then ?_
    refine wc_seq ?_
    refine wc_cond rfl (fun hc10 => ?_) (fun hc10 => ?_)
    ·
      simp at hc10
      refine wc_skip ?_
      refine wq_then ?_
      refine wc_seq ?_
      refine wc_block ?_
      refine wc_seq ?_
      refine wc_region ?_
      obtain ⟨x, hx⟩ : ∃ x, l[i]? = some x := ⟨_, List.getElem?_eq_getElem (by omega)⟩
      have hxm := List.mem_of_getElem? hx
      have hft := flat_takeI hx
      have hfp := flat_preI l (i + 1)
      rw [hft, List.length_append] at hfp
      refine wl_y rfl (y_indexAddr Tryz.underlying112 T3 rfl rfl rfl (by omega) (by first | assumption | exact fun _ _ => rfl | exact fun _ _ => hA.isSome (by omega) | exact fun w hw => hw.slc_isSome [] (by omega) | exact fun w hw => hw.slc_isSome [_] (by omega) | exact fun w hw => hw.slc_isSome [_, _] (by omega) | exact fun w hw => hw.slc_isSome [_, _, _] (by omega) | exact fun w hw => hw.slc_isSome [_, _, _, _] (by omega))) ?_
      refine wl_y rfl (y_load NA3 rfl (cell_ro hA (row_at hx))) ?_
      refine wl_y rfl (y_assign rfl) ?_
      refine wl_nil ?_
      refine wq_then ?_
      refine wc_mix (.q 0 0 (.q 1 0 (.q 2 0 (.q 3 0 (.w 4 2 (.w 5 2 .nil .nil) .nil))))) (fun _ => True) MO (by kernel_rfl) (Hp.drawless _ _ _) (fun _ _ => trivial) ?_
      refine wm_g rfl rfl (y_move rfl) ?_
      refine wm_g rfl rfl (y_nilCheck rfl) ?_
      refine wm_g rfl rfl (y_fieldAddr F88_0 rfl) ?_
      refine wm_g rfl rfl (y_move rfl) ?_
      refine wm_c rfl rfl (fun _ _ _ => trivial) (yc_spec (fst := []) (cap := []) _ FN60 (pnum_c x (hi x hxm)) rfl rfl rfl (by (repeat (first | exact pt_nil | apply pt0 | apply pt1 | apply pt2 | apply pt3 | apply pt4 | apply pt5 | apply pt6 | apply pt7 | apply pt8 | apply pt9 | apply pt10 | apply pt11 | apply pt12 | apply pt13 | apply pt14 | apply pt15 | apply pt16 | apply pt17))) (by (repeat (first | exact ro_nil | exact ro_rest (by assumption) | refine ro_cons (by first | exact .inl (by assumption) | exact ro_f0 (fun _ h => h) | exact ro_f0 (fun _ => slc_rsl) | exact ro_f1 (fun _ h => h) | exact ro_f1 (fun _ => slc_rsl) | exact ro_f2 (fun _ h => h) | exact ro_f2 (fun _ => slc_rsl) | exact ro_f3 (fun _ h => h) | exact ro_f3 (fun _ => slc_rsl) | exact ro_f4 (fun _ h => h) | exact ro_f4 (fun _ => slc_rsl) | exact ro_f5 (fun _ h => h) | exact ro_f5 (fun _ => slc_rsl) | exact ro_f6 (fun _ h => h) | exact ro_f6 (fun _ => slc_rsl)) ?_)))) (wm_ex fun x17 hx17 => ?_)
      refine wm_c rfl rfl (fun _ _ _ => trivial) (yc_spec (fst := []) (cap := []) _ FN59 (writeT_c 88 (.inr rfl) b (s ++ flatF ((l.take i).map itoa)) (textF (itoa x)) (by rw [List.length_append]; omega)) rfl rfl rfl (by (repeat (first | exact pt_nil | apply pt0 | apply pt1 | apply pt2 | apply pt3 | apply pt4 | apply pt5 | apply pt6 | apply pt7 | apply pt8 | apply pt9 | apply pt10 | apply pt11 | apply pt12 | apply pt13 | apply pt14 | apply pt15 | apply pt16 | apply pt17))) (by (repeat (first | exact ro_nil | exact ro_rest (by assumption) | refine ro_cons (by first | exact .inl (by assumption) | exact ro_f0 (fun _ h => h) | exact ro_f0 (fun _ => slc_rsl) | exact ro_f1 (fun _ h => h) | exact ro_f1 (fun _ => slc_rsl) | exact ro_f2 (fun _ h => h) | exact ro_f2 (fun _ => slc_rsl) | exact ro_f3 (fun _ h => h) | exact ro_f3 (fun _ => slc_rsl) | exact ro_f4 (fun _ h => h) | exact ro_f4 (fun _ => slc_rsl) | exact ro_f5 (fun _ h => h) | exact ro_f5 (fun _ => slc_rsl) | exact ro_f6 (fun _ h => h) | exact ro_f6 (fun _ => slc_rsl)) ?_)))) (wm_ex fun x18 hx18 => ?_)
      refine wm_nil ?_
      refine all_wq ?_
      refine wq_block_normal ?_
      refine wq_then ?_
      refine wc_region ?_
      refine wl_y rfl (y_add rfl rfl (by omega)) ?_
      refine wl_y rfl (y_move rfl) ?_
      refine wl_nil ?_
      exact wq_round (i + 1) (by omega) (by omega) ⟨rfl, rfl, rfl, rfl, trivial⟩ (fun w hw => by rw [hft, ← List.append_assoc]; exact hw.sub (by (repeat (first | exact pt_nil | apply pt0 | apply pt1 | apply pt2 | apply pt3 | apply pt4 | apply pt5 | apply pt6 | apply pt7 | apply pt8 | apply pt9 | apply pt10 | apply pt11 | apply pt12 | apply pt13 | apply pt14 | apply pt15 | apply pt16 | apply pt17))))
    ·
      simp at hc10
      refine wc_exit ?_
      refine wq_then_exit (wq_then_exit (wq_block_exit ?_))
      refine wq_then ?_
      refine wc_seq ?_
      refine wc_region ?_
      obtain rfl : i = l.length := by omega
      refine wl_world (S' := Hp w0 K [bldA 88 5 b (s ++ flatF (l.map itoa))]) (fun w hw => by rw [List.take_length] at hw; exact hw) ?_
      refine wl_y rfl (y_move rfl) ?_
      refine wl_y rfl (y_assign rfl) ?_
      refine wl_nil ?_
      refine wq_then ?_
      refine wc_ret ?_
      refine wq_ret1 rfl rfl (fun w hw => ?_)
      exact ⟨(), trivial, rfl, hw⟩

set_option maxHeartbeats 1000000 in
theorem sheet_files (b : Nat) (s : Str) (f : Sl PF) (hl : s.length + (filesT f.xs).length ≤ 800000000) :
    Ctr Tryz.prog 63 #[ptr b, vSl f] [libS, filesA f] [bldA 88 5 b (s)] (fun _ : Unit => True) (fun _ => ptr b) (fun _ => [bldA 88 5 b (s ++ flatF [filesT f.xs])]) := by
  refine spec_start (n := 10) [(0, ptr b), (1, vSl f)] Tryz.func63 rfl rfl ⟨rfl, rfl, trivial⟩ rfl ?_
  intro w0 K hR
  have hB := hR libS (by simp)
  have hA := hR (filesA f) (by simp)
  refine wc_seq ?_
  refine wc_region ?_
  refine wl_y rfl (y_assign rfl) ?_
  refine wl_nil ?_
  refine wq_then ?_
  refine wc_seq ?_
  refine wc_region ?_
  refine wl_y rfl (y_move rfl) ?_
  refine wl_y rfl (y_move rfl) ?_
  refine wl_q (fun _ _ => want_none) rfl (yq_spec (fst := []) (cap := []) _ FN81 (kfiles_c f (by omega)) rfl rfl rfl (by (repeat (first | exact pt_nil | apply pt0 | apply pt1 | apply pt2 | apply pt3 | apply pt4 | apply pt5 | apply pt6 | apply pt7 | apply pt8 | apply pt9 | apply pt10 | apply pt11 | apply pt12 | apply pt13 | apply pt14 | apply pt15 | apply pt16 | apply pt17))) (by (repeat (first | exact ro_nil | exact ro_rest (by assumption) | refine ro_cons (by first | exact .inl (by assumption) | exact ro_f0 (fun _ h => h) | exact ro_f0 (fun _ => slc_rsl) | exact ro_f1 (fun _ h => h) | exact ro_f1 (fun _ => slc_rsl) | exact ro_f2 (fun _ h => h) | exact ro_f2 (fun _ => slc_rsl) | exact ro_f3 (fun _ h => h) | exact ro_f3 (fun _ => slc_rsl) | exact ro_f4 (fun _ h => h) | exact ro_f4 (fun _ => slc_rsl) | exact ro_f5 (fun _ h => h) | exact ro_f5 (fun _ => slc_rsl) | exact ro_f6 (fun _ h => h) | exact ro_f6 (fun _ => slc_rsl)) ?_))) (fun _ _ => rfl) (fun _ _ _ h => h.sub (by (repeat (first | exact pt_nil | apply pt0 | apply pt1 | apply pt2 | apply pt3 | apply pt4 | apply pt5 | apply pt6 | apply pt7 | apply pt8 | apply pt9 | apply pt10 | apply pt11 | apply pt12 | apply pt13 | apply pt14 | apply pt15 | apply pt16 | apply pt17))))) ?_
  refine wl_w (fun _ _ => want_none) rfl (yw_buildSlice (cs := [_]) Tryz.underlying39 T9 rfl rfl rfl rfl rfl rfl rfl) (wl_ex fun b8 _ => ?_)
  refine wl_c (fun _ _ => want_none) rfl (yc_spec (fst := []) (cap := []) _ FN61 (sheet_text b s [filesT f.xs] (some ⟨b8, 0, none⟩) 1 (by rw [flat_cons, flat_nil, List.append_nil]; have := textF_le (filesT f.xs) (by omega); omega)) rfl rfl rfl (by (repeat (first | exact pt_nil | apply pt0 | apply pt1 | apply pt2 | apply pt3 | apply pt4 | apply pt5 | apply pt6 | apply pt7 | apply pt8 | apply pt9 | apply pt10 | apply pt11 | apply pt12 | apply pt13 | apply pt14 | apply pt15 | apply pt16 | apply pt17))) (by (repeat (first | exact ro_nil | exact ro_rest (by assumption) | refine ro_cons (by first | exact .inl (by assumption) | exact ro_f0 (fun _ h => h) | exact ro_f0 (fun _ => slc_rsl) | exact ro_f1 (fun _ h => h) | exact ro_f1 (fun _ => slc_rsl) | exact ro_f2 (fun _ h => h) | exact ro_f2 (fun _ => slc_rsl) | exact ro_f3 (fun _ h => h) | exact ro_f3 (fun _ => slc_rsl) | exact ro_f4 (fun _ h => h) | exact ro_f4 (fun _ => slc_rsl) | exact ro_f5 (fun _ h => h) | exact ro_f5 (fun _ => slc_rsl) | exact ro_f6 (fun _ h => h) | exact ro_f6 (fun _ => slc_rsl)) ?_)))) (wl_ex fun x9 hx9 => ?_)
  refine wl_y rfl (y_assign rfl) ?_
  refine wl_nil ?_
  refine wq_then ?_
  refine wc_ret ?_
  refine wq_ret1 rfl rfl (fun w hw => ?_)
  exact ⟨(), trivial, rfl, hw.sub (by (repeat (first | exact pt_nil | apply pt0 | apply pt1 | apply pt2 | apply pt3 | apply pt4 | apply pt5 | apply pt6 | apply pt7 | apply pt8 | apply pt9 | apply pt10 | apply pt11 | apply pt12 | apply pt13 | apply pt14 | apply pt15 | apply pt16 | apply pt17)))⟩

end Go.Proofs.YtbnahfjhlbibcaaGreatDoor
