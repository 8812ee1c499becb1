/-
  Walks: the reference's texts of files and targets.
-/
import Derived.Test.YtbnahfjhlbibcaaDoorWalkM
namespace Go.Proofs.YtbnahfjhlbibcaaDoor
open Go.Eng

open Go.Lib
set_option maxHeartbeats 1000000 in
theorem rtext16_c (s : Str) (hl : s.length ≤ 1000000000) :
    Ctr Tryd.prog 54 #[vS s] [] [] (fun _ : Unit => True) (fun _ => vS (textF s)) (fun _ => []) := by
  refine spec_start (n := 5) [(0, vS s)] Tryd.func54 rfl rfl ⟨rfl, trivial⟩ rfl ?_
  intro w0 K hR
  refine wc_seq ?_
  refine wc_region ?_
  refine wl_y rfl (y_assign rfl) ?_
  refine wl_nil ?_
  refine wq_then ?_
  refine wc_seq ?_
  refine wc_region ?_
  refine wl_y rfl (y_move rfl) ?_
  refine wl_q (fun _ _ => want_none) rfl (yq_spec (fst := []) (cap := []) _ FN74 (rtextP_c s hl) rfl rfl rfl (by (repeat (first | exact pt_nil | apply pt0 | apply pt1 | apply pt2 | apply pt3 | apply pt4 | apply pt5 | apply pt6 | apply pt7 | apply pt8 | apply pt9 | apply pt10 | apply pt11 | apply pt12 | apply pt13 | apply pt14 | apply pt15 | apply pt16 | apply pt17))) (by (repeat (first | exact ro_nil | exact ro_rest (by assumption) | refine ro_cons (by first | exact .inl (by assumption) | exact ro_f0 (fun _ h => h) | exact ro_f0 (fun _ => slc_rsl) | exact ro_f1 (fun _ h => h) | exact ro_f1 (fun _ => slc_rsl) | exact ro_f2 (fun _ h => h) | exact ro_f2 (fun _ => slc_rsl) | exact ro_f3 (fun _ h => h) | exact ro_f3 (fun _ => slc_rsl) | exact ro_f4 (fun _ h => h) | exact ro_f4 (fun _ => slc_rsl) | exact ro_f5 (fun _ h => h) | exact ro_f5 (fun _ => slc_rsl) | exact ro_f6 (fun _ h => h) | exact ro_f6 (fun _ => slc_rsl)) ?_))) (fun _ _ => rfl) (fun _ _ _ h => h.sub (by (repeat (first | exact pt_nil | apply pt0 | apply pt1 | apply pt2 | apply pt3 | apply pt4 | apply pt5 | apply pt6 | apply pt7 | apply pt8 | apply pt9 | apply pt10 | apply pt11 | apply pt12 | apply pt13 | apply pt14 | apply pt15 | apply pt16 | apply pt17))))) ?_
  refine wl_y rfl (y_assign rfl) ?_
  refine wl_nil ?_
  refine wq_then ?_
  refine wc_ret ?_
  refine wq_ret1 rfl rfl (fun w hw => ?_)
  exact ⟨(), trivial, rfl, hw.bare⟩

set_option maxHeartbeats 1000000 in
theorem rnum16_c (n : Int) (h : inR n) :
    Ctr Tryd.prog 52 #[vI n] [] [] (fun _ : Unit => True) (fun _ => vS (textF (itoa n))) (fun _ => []) := by
  refine spec_start (n := 5) [(0, vI n)] Tryd.func52 rfl rfl ⟨rfl, trivial⟩ rfl ?_
  intro w0 K hR
  refine wc_seq ?_
  refine wc_region ?_
  refine wl_y rfl (y_assign rfl) ?_
  refine wl_nil ?_
  refine wq_then ?_
  refine wc_seq ?_
  refine wc_region ?_
  refine wl_y rfl (y_move rfl) ?_
  refine wl_q (fun _ _ => want_none) rfl (yq_spec (fst := []) (cap := []) _ FN71 (rnumP_c n h) rfl rfl rfl (by (repeat (first | exact pt_nil | apply pt0 | apply pt1 | apply pt2 | apply pt3 | apply pt4 | apply pt5 | apply pt6 | apply pt7 | apply pt8 | apply pt9 | apply pt10 | apply pt11 | apply pt12 | apply pt13 | apply pt14 | apply pt15 | apply pt16 | apply pt17))) (by (repeat (first | exact ro_nil | exact ro_rest (by assumption) | refine ro_cons (by first | exact .inl (by assumption) | exact ro_f0 (fun _ h => h) | exact ro_f0 (fun _ => slc_rsl) | exact ro_f1 (fun _ h => h) | exact ro_f1 (fun _ => slc_rsl) | exact ro_f2 (fun _ h => h) | exact ro_f2 (fun _ => slc_rsl) | exact ro_f3 (fun _ h => h) | exact ro_f3 (fun _ => slc_rsl) | exact ro_f4 (fun _ h => h) | exact ro_f4 (fun _ => slc_rsl) | exact ro_f5 (fun _ h => h) | exact ro_f5 (fun _ => slc_rsl) | exact ro_f6 (fun _ h => h) | exact ro_f6 (fun _ => slc_rsl)) ?_))) (fun _ _ => rfl) (fun _ _ _ h => h.sub (by (repeat (first | exact pt_nil | apply pt0 | apply pt1 | apply pt2 | apply pt3 | apply pt4 | apply pt5 | apply pt6 | apply pt7 | apply pt8 | apply pt9 | apply pt10 | apply pt11 | apply pt12 | apply pt13 | apply pt14 | apply pt15 | apply pt16 | apply pt17))))) ?_
  refine wl_y rfl (y_assign rfl) ?_
  refine wl_nil ?_
  refine wq_then ?_
  refine wc_ret ?_
  refine wq_ret1 rfl rfl (fun w hw => ?_)
  exact ⟨(), trivial, rfl, hw.bare⟩

set_option maxHeartbeats 1000000 in
theorem rfilesX_c (s : Sl PF) (hl : (flatF (s.xs.map fS)).length ≤ 800000000) :
    Ctr Tryd.prog 75 #[vSl s] [filesA s] [] (fun _ : Unit => True) (fun _ => vS (textF (flatF (s.xs.map fS)))) (fun _ => []) := by
  refine spec_start (n := 29) [(0, vSl s)] Tryd.func75 rfl rfl ⟨rfl, trivial⟩ rfl ?_
  intro w0 K hR
  have hA := hR (filesA s) (by simp)
  unfold filesA at hA
  have hnm := num_map (g := fS) s.xs
  refine wc_seq ?_
  refine wc_region ?_
  refine wl_y rfl (y_assign rfl) ?_
  refine wl_nil ?_
  refine wq_then ?_
  refine wc_seq ?_
  refine wc_region ?_
  refine wl_y rfl (y_assign rfl) ?_
  refine wl_nil ?_
  refine wq_then ?_
  refine wc_seq ?_
  refine wc_seq ?_
  refine wc_region ?_
  refine wl_y rfl (y_assign rfl) ?_
  refine wl_nil ?_
  refine wq_then ?_
  refine wc_block ?_
  refine wc_loop (α := Nat × Option Addr × Nat) (fun y => y.1 ≤ s.xs.length) [(0, _)] (fun y => [(4, vI y.1), (3, .slice y.2.1 y.1 y.2.2)]) (fun y => Hp w0 K [slc 9 1 y.2.1 y.1 y.2.2 (((s.xs.take y.1).map fS).map vS)]) (fun y => s.xs.length - y.1) (0, none, 0) ?_ ⟨rfl, rfl, rfl, trivial⟩ ?_ ?_
  · exact Nat.zero_le _
  · exact fun w hw => Hp.addNil [] _ hw
  · rintro ⟨i, a, cap⟩ hi0
    refine wc_world (S' := Hp w0 K [slc 9 1 a i cap (((s.xs.take i).map fS).map vS)]) (fun w hw => hw) ?_
    refine wc_same 4 (vI i) rfl rfl ?_
    refine wc_same 3 (.slice a i cap) rfl rfl ?_
    refine wc_seq ?_
    refine wc_seq ?_
    refine wc_region ?_
    refine wl_y rfl (y_move rfl) ?_
    refine wl_y rfl (y_move rfl) ?_
    refine wl_y rfl (y_lenSl Tryd.underlying22 rfl) ?_
    refine wl_y rfl (y_lss rfl rfl) ?_
    refine wl_nil ?_
    refine wq_then ?_
    refine wc_cond rfl (fun hc8 => ?_) (fun hc8 => ?_)
    ·
      simp at hc8
      refine wc_skip ?_
      refine wq_then ?_
      refine wc_seq ?_
      refine wc_block ?_
      refine wc_mix (.q 0 0 (.q 1 0 (.q 2 0 (.q 3 0 (.q 4 0 (.q 5 0 (.q 7 0 (.q 8 0 (.q 9 0 (.q 10 0 (.q 11 0 (.w 6 2 (.w 12 2 (.q 13 0 (.w 14 2 (.w 15 2 (.q 16 0 .nil) .nil) .nil)) .nil) .nil)))))))))))) (Sees [rsl s.a s.xs.length 2 (s.xs.flatMap encF)]) MO (by kernel_rfl) (Hp.drawless _ _ _) (fun w hw => by refine ⟨?_, trivial⟩ <;> first | exact hw.seen [] | exact hw.seen [_] | exact hw.seen [_, _] | exact hw.seen [_, _, _] | exact hw.seen [_, _, _, _] | exact hw.seen [_, _, _, _, _] | exact hA.seen hw) ?_
      obtain ⟨x, hx⟩ : ∃ x, s.xs[i]? = some x := ⟨_, List.getElem?_eq_getElem (by omega)⟩
      have hxm := List.mem_of_getElem? hx
      have hxl := map_in (g := fS) hxm
      have hos := hA.isSome (show 0 < s.xs.length by omega)
      have e := flat2 x.1 x.2
      have hxe : fS x = textF x.1 ++ textF x.2 := e
      rw [hxe, List.length_append] at hxl
      have h1 := len_textF x.1
      have h2 := len_textF x.2
      refine wm_g rfl rfl (y_move rfl) ?_
      refine wm_g rfl rfl (y_move rfl) ?_
      refine wm_g rfl rfl (y_move rfl) ?_
      refine wm_g rfl rfl (y_indexAddr Tryd.underlying22 T104 rfl rfl rfl (by omega) (fun _ _ => hos)) ?_
      refine wm_g rfl rfl (y_fieldAddr_adr F104_0 rfl) ?_
      refine wm_g rfl rfl (y_load NA9 rfl (fun w hw => hw.1.cell (rows_get encF_len hx rfl))) ?_
      refine wm_g rfl rfl (y_move rfl) ?_
      refine wm_g rfl rfl (y_move rfl) ?_
      refine wm_g rfl rfl (y_indexAddr Tryd.underlying22 T104 rfl rfl rfl (by omega) (fun _ _ => hos)) ?_
      refine wm_g rfl rfl (y_fieldAddr_adr F104_1 rfl) ?_
      refine wm_g rfl rfl (y_load NA9 rfl (fun w hw => hw.1.cell (rows_get encF_len hx rfl))) ?_
      refine wm_c rfl rfl ?hC (yc_spec (fst := []) (cap := []) _ FN74 (rtextP_c x.1 (by omega)) rfl rfl rfl (by (repeat (first | exact pt_nil | apply pt0 | apply pt1 | apply pt2 | apply pt3 | apply pt4 | apply pt5 | apply pt6 | apply pt7 | apply pt8 | apply pt9 | apply pt10 | apply pt11 | apply pt12 | apply pt13 | apply pt14 | apply pt15 | apply pt16 | apply pt17))) (by (repeat (first | exact ro_nil | exact ro_rest (by assumption) | refine ro_cons (by first | exact .inl (by assumption) | exact ro_f0 (fun _ h => h) | exact ro_f0 (fun _ => slc_rsl) | exact ro_f1 (fun _ h => h) | exact ro_f1 (fun _ => slc_rsl) | exact ro_f2 (fun _ h => h) | exact ro_f2 (fun _ => slc_rsl) | exact ro_f3 (fun _ h => h) | exact ro_f3 (fun _ => slc_rsl) | exact ro_f4 (fun _ h => h) | exact ro_f4 (fun _ => slc_rsl) | exact ro_f5 (fun _ h => h) | exact ro_f5 (fun _ => slc_rsl) | exact ro_f6 (fun _ h => h) | exact ro_f6 (fun _ => slc_rsl)) ?_)))) (wm_ex fun x17 hx17 => ?_)
      case hC => exact (fun _ _ h => by obtain ⟨_, _, _, hw⟩ := h; exact (by refine ⟨?_, trivial⟩ <;> first | exact hw.seen [] | exact hw.seen [_] | exact hw.seen [_, _] | exact hw.seen [_, _, _] | exact hw.seen [_, _, _, _] | exact hw.seen [_, _, _, _, _] | exact hA.seen hw))
      refine wm_c rfl rfl ?hC (yc_spec (fst := []) (cap := []) _ FN74 (rtextP_c x.2 (by omega)) rfl rfl rfl (by (repeat (first | exact pt_nil | apply pt0 | apply pt1 | apply pt2 | apply pt3 | apply pt4 | apply pt5 | apply pt6 | apply pt7 | apply pt8 | apply pt9 | apply pt10 | apply pt11 | apply pt12 | apply pt13 | apply pt14 | apply pt15 | apply pt16 | apply pt17))) (by (repeat (first | exact ro_nil | exact ro_rest (by assumption) | refine ro_cons (by first | exact .inl (by assumption) | exact ro_f0 (fun _ h => h) | exact ro_f0 (fun _ => slc_rsl) | exact ro_f1 (fun _ h => h) | exact ro_f1 (fun _ => slc_rsl) | exact ro_f2 (fun _ h => h) | exact ro_f2 (fun _ => slc_rsl) | exact ro_f3 (fun _ h => h) | exact ro_f3 (fun _ => slc_rsl) | exact ro_f4 (fun _ h => h) | exact ro_f4 (fun _ => slc_rsl) | exact ro_f5 (fun _ h => h) | exact ro_f5 (fun _ => slc_rsl) | exact ro_f6 (fun _ h => h) | exact ro_f6 (fun _ => slc_rsl)) ?_)))) (wm_ex fun x23 hx23 => ?_)
      case hC => exact (fun _ _ h => by obtain ⟨_, _, _, hw⟩ := h; exact (by refine ⟨?_, trivial⟩ <;> first | exact hw.seen [] | exact hw.seen [_] | exact hw.seen [_, _] | exact hw.seen [_, _, _] | exact hw.seen [_, _, _, _] | exact hw.seen [_, _, _, _, _] | exact hA.seen hw))
      refine wm_g rfl rfl (y_addS rfl rfl (by omega)) ?_
      refine wm_same 24 (vS (fS x)) rfl (by rw [hxe]) ?_
      refine wm_w rfl rfl ?hC (yw_buildSlice (cs := [vS (fS x)]) Tryd.underlying23 T9 rfl rfl rfl rfl rfl rfl rfl) (wm_ex fun b25 _ => ?_)
      case hC => exact (fun _ _ h => by obtain ⟨_, _, _, hw⟩ := h; exact (by refine ⟨?_, trivial⟩ <;> first | exact hw.seen [] | exact hw.seen [_] | exact hw.seen [_, _] | exact hw.seen [_, _, _] | exact hw.seen [_, _, _, _] | exact hw.seen [_, _, _, _, _] | exact hA.seen hw))
      refine wm_w rfl rfl ?hC (yw_append [_] (cs := ((s.xs.take i).map fS).map vS) (news := [vS (fS x)]) Tryd.underlying23 Tryd.underlying23 (.inl ⟨_, rfl⟩) T9 rfl rfl rfl (fun w hw => Src.slice ((hw.seen []).mono fun _ => slc_rsl)) (by omega) (by unfold maxLen; omega) (by simp [Value.oneCell']) rfl) (wm_ex fun p26 hp26 => ?_)
      case hC => exact (fun _ _ h => by obtain ⟨_, _, _, hw⟩ := h; exact (by refine ⟨?_, trivial⟩ <;> first | exact hw.seen [] | exact hw.seen [_] | exact hw.seen [_, _] | exact hw.seen [_, _, _] | exact hw.seen [_, _, _, _] | exact hw.seen [_, _, _, _, _] | exact hA.seen hw))
      refine wm_g rfl rfl (y_assign rfl) ?_
      refine wm_nil ?_
      refine all_wq ?_
      refine wq_block_normal ?_
      refine wq_then ?_
      refine wc_region ?_
      refine wl_y rfl (y_move rfl) ?_
      refine wl_y rfl (y_add rfl rfl (by omega)) ?_
      refine wl_y rfl (y_assign rfl) ?_
      refine wl_nil ?_
      have e9 := outs_step (g := fS) hx
      exact wq_round (i + 1, p26.1, p26.2) (by simp only; omega) (by omega) ⟨rfl, rfl, rfl, trivial⟩ (fun w hw => by rw [e9] at hw; exact hw.sub (by (repeat (first | exact pt_nil | apply pt0 | apply pt1 | apply pt2 | apply pt3 | apply pt4 | apply pt5 | apply pt6 | apply pt7 | apply pt8 | apply pt9 | apply pt10 | apply pt11 | apply pt12 | apply pt13 | apply pt14 | apply pt15 | apply pt16 | apply pt17))))
    ·
      simp at hc8
      refine wc_exit ?_
      refine wq_then_exit (wq_then_exit (wq_block_exit ?_))
      refine wq_then ?_
      refine wc_seq ?_
      refine wc_region ?_
      obtain rfl : i = s.xs.length := by omega
      refine wl_world (S' := Hp w0 K [slc 9 1 a s.xs.length cap ((s.xs.map fS).map vS)]) (fun w hw => by rw [List.take_length] at hw; exact hw) ?_
      refine wl_y rfl (y_move rfl) ?_
      refine wl_q (fun _ _ => want_none) rfl (yq_spec (fst := []) (cap := []) _ FN56 (rlistK_c (s.xs.map fS) s.xs.length (List.length_map _) a cap (by omega)) rfl rfl rfl (by (repeat (first | exact pt_nil | apply pt0 | apply pt1 | apply pt2 | apply pt3 | apply pt4 | apply pt5 | apply pt6 | apply pt7 | apply pt8 | apply pt9 | apply pt10 | apply pt11 | apply pt12 | apply pt13 | apply pt14 | apply pt15 | apply pt16 | apply pt17))) (by (repeat (first | exact ro_nil | exact ro_rest (by assumption) | refine ro_cons (by first | exact .inl (by assumption) | exact ro_f0 (fun _ h => h) | exact ro_f0 (fun _ => slc_rsl) | exact ro_f1 (fun _ h => h) | exact ro_f1 (fun _ => slc_rsl) | exact ro_f2 (fun _ h => h) | exact ro_f2 (fun _ => slc_rsl) | exact ro_f3 (fun _ h => h) | exact ro_f3 (fun _ => slc_rsl) | exact ro_f4 (fun _ h => h) | exact ro_f4 (fun _ => slc_rsl) | exact ro_f5 (fun _ h => h) | exact ro_f5 (fun _ => slc_rsl) | exact ro_f6 (fun _ h => h) | exact ro_f6 (fun _ => slc_rsl)) ?_))) (fun _ _ => rfl) (fun _ _ _ h => h.sub (by (repeat (first | exact pt_nil | apply pt0 | apply pt1 | apply pt2 | apply pt3 | apply pt4 | apply pt5 | apply pt6 | apply pt7 | apply pt8 | apply pt9 | apply pt10 | apply pt11 | apply pt12 | apply pt13 | apply pt14 | apply pt15 | apply pt16 | apply pt17))))) ?_
      refine wl_y rfl (y_assign rfl) ?_
      refine wl_nil ?_
      refine wq_then ?_
      refine wc_ret ?_
      refine wq_ret1 rfl rfl (fun w hw => ?_)
      exact ⟨(), trivial, rfl, hw.bare⟩

set_option maxHeartbeats 1000000 in
theorem rgraphX_c (s : Sl TgV) (hl : (flatF (s.xs.map tS)).length ≤ 800000000) :
    Ctr Tryd.prog 72 #[vSl s] [graphA s] [] (fun _ : Unit => True) (fun _ => vS (textF (flatF (s.xs.map tS)))) (fun _ => []) := by
  refine spec_start (n := 43) [(0, vSl s)] Tryd.func72 rfl rfl ⟨rfl, trivial⟩ rfl ?_
  intro w0 K hR
  obtain ⟨hA, hT⟩ := graph_ro (hR (graphA s) (by simp))
  have hnm := num_map (g := tS) s.xs
  refine wc_seq ?_
  refine wc_region ?_
  refine wl_y rfl (y_assign rfl) ?_
  refine wl_nil ?_
  refine wq_then ?_
  refine wc_seq ?_
  refine wc_region ?_
  refine wl_y rfl (y_assign rfl) ?_
  refine wl_nil ?_
  refine wq_then ?_
  refine wc_seq ?_
  refine wc_seq ?_
  refine wc_region ?_
  refine wl_y rfl (y_assign rfl) ?_
  refine wl_nil ?_
  refine wq_then ?_
  refine wc_block ?_
  refine wc_loop (α := Nat × Option Addr × Nat) (fun y => y.1 ≤ s.xs.length) [(0, _)] (fun y => [(4, vI y.1), (3, .slice y.2.1 y.1 y.2.2)]) (fun y => Hp w0 K [slc 9 1 y.2.1 y.1 y.2.2 (((s.xs.take y.1).map tS).map vS)]) (fun y => s.xs.length - y.1) (0, none, 0) ?_ ⟨rfl, rfl, rfl, trivial⟩ ?_ ?_
  · exact Nat.zero_le _
  · exact fun w hw => Hp.addNil [] _ hw
  · rintro ⟨i, a, cap⟩ hi0
    refine wc_world (S' := Hp w0 K [slc 9 1 a i cap (((s.xs.take i).map tS).map vS)]) (fun w hw => hw) ?_
    refine wc_same 4 (vI i) rfl rfl ?_
    refine wc_same 3 (.slice a i cap) rfl rfl ?_
    refine wc_seq ?_
    refine wc_seq ?_
    refine wc_region ?_
    refine wl_y rfl (y_move rfl) ?_
    refine wl_y rfl (y_move rfl) ?_
    refine wl_y rfl (y_lenSl Tryd.underlying43 rfl) ?_
    refine wl_y rfl (y_lss rfl rfl) ?_
    refine wl_nil ?_
    refine wq_then ?_
    refine wc_cond rfl (fun hc8 => ?_) (fun hc8 => ?_)
    ·
      simp at hc8
      refine wc_skip ?_
      refine wq_then ?_
      refine wc_seq ?_
      refine wc_block ?_
      refine wc_mix (.q 0 0 (.q 1 0 (.q 2 0 (.q 3 0 (.q 4 0 (.q 5 0 (.q 7 0 (.q 8 0 (.q 9 0 (.q 10 0 (.q 11 0 (.q 14 0 (.q 15 0 (.q 16 0 (.q 17 0 (.q 18 0 (.q 21 0 (.q 22 0 (.q 23 0 (.q 24 0 (.q 25 0 (.w 6 2 (.w 12 2 (.q 13 0 (.w 19 2 (.q 20 0 (.w 26 2 (.q 27 0 (.w 28 2 (.w 29 2 (.q 30 0 .nil) .nil) .nil)) .nil)) .nil)) .nil) .nil)))))))))))))))))))))) (Sees [rsl s.a s.xs.length 4 (s.xs.flatMap encTg)]) MO (by kernel_rfl) (Hp.drawless _ _ _) (fun w hw => by refine ⟨?_, trivial⟩ <;> first | exact hw.seen [] | exact hw.seen [_] | exact hw.seen [_, _] | exact hw.seen [_, _, _] | exact hw.seen [_, _, _, _] | exact hw.seen [_, _, _, _, _] | exact hA.seen hw) ?_
      obtain ⟨x, hx⟩ : ∃ x, s.xs[i]? = some x := ⟨_, List.getElem?_eq_getElem (by omega)⟩
      have hxm := List.mem_of_getElem? hx
      have hxl := map_in (g := tS) hxm
      have hos := hA.isSome (show 0 < s.xs.length by omega)
      obtain ⟨hS, hU⟩ := hT x hxm
      unfold strsA at hS hU
      have hxe : tS x = textF x.name ++ textF x.cmd ++ textF (flatF x.deps.xs) ++ textF (flatF x.srcs.xs) := flat4 _ _ _ _
      rw [hxe, List.length_append, List.length_append, List.length_append] at hxl
      have h1 := len_textF x.name
      have h2 := len_textF x.cmd
      have h3 := len_textF (flatF x.deps.xs)
      have h4 := len_textF (flatF x.srcs.xs)
      refine wm_g rfl rfl (y_move rfl) ?_
      refine wm_g rfl rfl (y_move rfl) ?_
      refine wm_g rfl rfl (y_move rfl) ?_
      refine wm_g rfl rfl (y_indexAddr Tryd.underlying43 T64 rfl rfl rfl (by omega) (fun _ _ => hos)) ?_
      refine wm_g rfl rfl (y_fieldAddr_adr F64_0 rfl) ?_
      refine wm_g rfl rfl (y_load NA9 rfl (fun w hw => hw.1.cell (rows_get encTg_len hx rfl))) ?_
      refine wm_g rfl rfl (y_move rfl) ?_
      refine wm_g rfl rfl (y_move rfl) ?_
      refine wm_g rfl rfl (y_indexAddr Tryd.underlying43 T64 rfl rfl rfl (by omega) (fun _ _ => hos)) ?_
      refine wm_g rfl rfl (y_fieldAddr_adr F64_1 rfl) ?_
      refine wm_g rfl rfl (y_load NA9 rfl (fun w hw => hw.1.cell (rows_get encTg_len hx rfl))) ?_
      refine wm_g rfl rfl (y_move rfl) ?_
      refine wm_g rfl rfl (y_move rfl) ?_
      refine wm_g rfl rfl (y_indexAddr Tryd.underlying43 T64 rfl rfl rfl (by omega) (fun _ _ => hos)) ?_
      refine wm_g rfl rfl (y_fieldAddr_adr F64_2 rfl) ?_
      refine wm_g rfl rfl (y_load NA23 rfl (fun w hw => hw.1.cell (rows_get encTg_len hx rfl))) ?_
      refine wm_g rfl rfl (y_move rfl) ?_
      refine wm_g rfl rfl (y_move rfl) ?_
      refine wm_g rfl rfl (y_indexAddr Tryd.underlying43 T64 rfl rfl rfl (by omega) (fun _ _ => hos)) ?_
      refine wm_g rfl rfl (y_fieldAddr_adr F64_3 rfl) ?_
      refine wm_g rfl rfl (y_load NA23 rfl (fun w hw => hw.1.cell (rows_get encTg_len hx rfl))) ?_
      refine wm_c rfl rfl ?hC (yc_spec (fst := []) (cap := []) _ FN74 (rtextP_c x.name (by omega)) rfl rfl rfl (by (repeat (first | exact pt_nil | apply pt0 | apply pt1 | apply pt2 | apply pt3 | apply pt4 | apply pt5 | apply pt6 | apply pt7 | apply pt8 | apply pt9 | apply pt10 | apply pt11 | apply pt12 | apply pt13 | apply pt14 | apply pt15 | apply pt16 | apply pt17))) (by (repeat (first | exact ro_nil | exact ro_rest (by assumption) | refine ro_cons (by first | exact .inl (by assumption) | exact ro_f0 (fun _ h => h) | exact ro_f0 (fun _ => slc_rsl) | exact ro_f1 (fun _ h => h) | exact ro_f1 (fun _ => slc_rsl) | exact ro_f2 (fun _ h => h) | exact ro_f2 (fun _ => slc_rsl) | exact ro_f3 (fun _ h => h) | exact ro_f3 (fun _ => slc_rsl) | exact ro_f4 (fun _ h => h) | exact ro_f4 (fun _ => slc_rsl) | exact ro_f5 (fun _ h => h) | exact ro_f5 (fun _ => slc_rsl) | exact ro_f6 (fun _ h => h) | exact ro_f6 (fun _ => slc_rsl)) ?_)))) (wm_ex fun x17 hx17 => ?_)
      case hC => exact (fun _ _ h => by obtain ⟨_, _, _, hw⟩ := h; exact (by refine ⟨?_, trivial⟩ <;> first | exact hw.seen [] | exact hw.seen [_] | exact hw.seen [_, _] | exact hw.seen [_, _, _] | exact hw.seen [_, _, _, _] | exact hw.seen [_, _, _, _, _] | exact hA.seen hw))
      refine wm_c rfl rfl ?hC (yc_spec (fst := []) (cap := []) _ FN74 (rtextP_c x.cmd (by omega)) rfl rfl rfl (by (repeat (first | exact pt_nil | apply pt0 | apply pt1 | apply pt2 | apply pt3 | apply pt4 | apply pt5 | apply pt6 | apply pt7 | apply pt8 | apply pt9 | apply pt10 | apply pt11 | apply pt12 | apply pt13 | apply pt14 | apply pt15 | apply pt16 | apply pt17))) (by (repeat (first | exact ro_nil | exact ro_rest (by assumption) | refine ro_cons (by first | exact .inl (by assumption) | exact ro_f0 (fun _ h => h) | exact ro_f0 (fun _ => slc_rsl) | exact ro_f1 (fun _ h => h) | exact ro_f1 (fun _ => slc_rsl) | exact ro_f2 (fun _ h => h) | exact ro_f2 (fun _ => slc_rsl) | exact ro_f3 (fun _ h => h) | exact ro_f3 (fun _ => slc_rsl) | exact ro_f4 (fun _ h => h) | exact ro_f4 (fun _ => slc_rsl) | exact ro_f5 (fun _ h => h) | exact ro_f5 (fun _ => slc_rsl) | exact ro_f6 (fun _ h => h) | exact ro_f6 (fun _ => slc_rsl)) ?_)))) (wm_ex fun x23 hx23 => ?_)
      case hC => exact (fun _ _ h => by obtain ⟨_, _, _, hw⟩ := h; exact (by refine ⟨?_, trivial⟩ <;> first | exact hw.seen [] | exact hw.seen [_] | exact hw.seen [_, _] | exact hw.seen [_, _, _] | exact hw.seen [_, _, _, _] | exact hw.seen [_, _, _, _, _] | exact hA.seen hw))
      refine wm_g rfl rfl (y_addS rfl rfl (by omega)) ?_
      refine wm_c rfl rfl ?hC (yc_spec (fst := []) (cap := []) _ FN56 (rlistG_c x.deps.xs x.deps.a x.deps.cap (by omega)) rfl rfl rfl (by (repeat (first | exact pt_nil | apply pt0 | apply pt1 | apply pt2 | apply pt3 | apply pt4 | apply pt5 | apply pt6 | apply pt7 | apply pt8 | apply pt9 | apply pt10 | apply pt11 | apply pt12 | apply pt13 | apply pt14 | apply pt15 | apply pt16 | apply pt17))) (by (repeat (first | exact ro_nil | exact ro_rest (by assumption) | refine ro_cons (by first | exact .inl (by assumption) | exact ro_f0 (fun _ h => h) | exact ro_f0 (fun _ => slc_rsl) | exact ro_f1 (fun _ h => h) | exact ro_f1 (fun _ => slc_rsl) | exact ro_f2 (fun _ h => h) | exact ro_f2 (fun _ => slc_rsl) | exact ro_f3 (fun _ h => h) | exact ro_f3 (fun _ => slc_rsl) | exact ro_f4 (fun _ h => h) | exact ro_f4 (fun _ => slc_rsl) | exact ro_f5 (fun _ h => h) | exact ro_f5 (fun _ => slc_rsl) | exact ro_f6 (fun _ h => h) | exact ro_f6 (fun _ => slc_rsl)) ?_)))) (wm_ex fun x30 hx30 => ?_)
      case hC => exact (fun _ _ h => by obtain ⟨_, _, _, hw⟩ := h; exact (by refine ⟨?_, trivial⟩ <;> first | exact hw.seen [] | exact hw.seen [_] | exact hw.seen [_, _] | exact hw.seen [_, _, _] | exact hw.seen [_, _, _, _] | exact hw.seen [_, _, _, _, _] | exact hA.seen hw))
      refine wm_g rfl rfl (y_addS rfl rfl (by rw [List.length_append]; omega)) ?_
      refine wm_c rfl rfl ?hC (yc_spec (fst := []) (cap := []) _ FN56 (rlistG_c x.srcs.xs x.srcs.a x.srcs.cap (by omega)) rfl rfl rfl (by (repeat (first | exact pt_nil | apply pt0 | apply pt1 | apply pt2 | apply pt3 | apply pt4 | apply pt5 | apply pt6 | apply pt7 | apply pt8 | apply pt9 | apply pt10 | apply pt11 | apply pt12 | apply pt13 | apply pt14 | apply pt15 | apply pt16 | apply pt17))) (by (repeat (first | exact ro_nil | exact ro_rest (by assumption) | refine ro_cons (by first | exact .inl (by assumption) | exact ro_f0 (fun _ h => h) | exact ro_f0 (fun _ => slc_rsl) | exact ro_f1 (fun _ h => h) | exact ro_f1 (fun _ => slc_rsl) | exact ro_f2 (fun _ h => h) | exact ro_f2 (fun _ => slc_rsl) | exact ro_f3 (fun _ h => h) | exact ro_f3 (fun _ => slc_rsl) | exact ro_f4 (fun _ h => h) | exact ro_f4 (fun _ => slc_rsl) | exact ro_f5 (fun _ h => h) | exact ro_f5 (fun _ => slc_rsl) | exact ro_f6 (fun _ h => h) | exact ro_f6 (fun _ => slc_rsl)) ?_)))) (wm_ex fun x37 hx37 => ?_)
      case hC => exact (fun _ _ h => by obtain ⟨_, _, _, hw⟩ := h; exact (by refine ⟨?_, trivial⟩ <;> first | exact hw.seen [] | exact hw.seen [_] | exact hw.seen [_, _] | exact hw.seen [_, _, _] | exact hw.seen [_, _, _, _] | exact hw.seen [_, _, _, _, _] | exact hA.seen hw))
      refine wm_g rfl rfl (y_addS rfl rfl (by rw [List.length_append, List.length_append]; omega)) ?_
      refine wm_same 38 (vS (tS x)) rfl (by rw [hxe]) ?_
      refine wm_w rfl rfl ?hC (yw_buildSlice (cs := [vS (tS x)]) Tryd.underlying23 T9 rfl rfl rfl rfl rfl rfl rfl) (wm_ex fun b39 _ => ?_)
      case hC => exact (fun _ _ h => by obtain ⟨_, _, _, hw⟩ := h; exact (by refine ⟨?_, trivial⟩ <;> first | exact hw.seen [] | exact hw.seen [_] | exact hw.seen [_, _] | exact hw.seen [_, _, _] | exact hw.seen [_, _, _, _] | exact hw.seen [_, _, _, _, _] | exact hA.seen hw))
      refine wm_w rfl rfl ?hC (yw_append [_] (cs := ((s.xs.take i).map tS).map vS) (news := [vS (tS x)]) Tryd.underlying23 Tryd.underlying23 (.inl ⟨_, rfl⟩) T9 rfl rfl rfl (fun w hw => Src.slice ((hw.seen []).mono fun _ => slc_rsl)) (by omega) (by unfold maxLen; omega) (by simp [Value.oneCell']) rfl) (wm_ex fun p40 hp40 => ?_)
      case hC => exact (fun _ _ h => by obtain ⟨_, _, _, hw⟩ := h; exact (by refine ⟨?_, trivial⟩ <;> first | exact hw.seen [] | exact hw.seen [_] | exact hw.seen [_, _] | exact hw.seen [_, _, _] | exact hw.seen [_, _, _, _] | exact hw.seen [_, _, _, _, _] | exact hA.seen hw))
      refine wm_g rfl rfl (y_assign rfl) ?_
      refine wm_nil ?_
      refine all_wq ?_
      refine wq_block_normal ?_
      refine wq_then ?_
      refine wc_region ?_
      refine wl_y rfl (y_move rfl) ?_
      refine wl_y rfl (y_add rfl rfl (by omega)) ?_
      refine wl_y rfl (y_assign rfl) ?_
      refine wl_nil ?_
      have e9 := outs_step (g := tS) hx
      exact wq_round (i + 1, p40.1, p40.2) (by simp only; omega) (by omega) ⟨rfl, rfl, rfl, trivial⟩ (fun w hw => by rw [e9] at hw; exact hw.sub (by (repeat (first | exact pt_nil | apply pt0 | apply pt1 | apply pt2 | apply pt3 | apply pt4 | apply pt5 | apply pt6 | apply pt7 | apply pt8 | apply pt9 | apply pt10 | apply pt11 | apply pt12 | apply pt13 | apply pt14 | apply pt15 | apply pt16 | apply pt17))))
    ·
      simp at hc8
      refine wc_exit ?_
      refine wq_then_exit (wq_then_exit (wq_block_exit ?_))
      refine wq_then ?_
      refine wc_seq ?_
      refine wc_region ?_
      obtain rfl : i = s.xs.length := by omega
      refine wl_world (S' := Hp w0 K [slc 9 1 a s.xs.length cap ((s.xs.map tS).map vS)]) (fun w hw => by rw [List.take_length] at hw; exact hw) ?_
      refine wl_y rfl (y_move rfl) ?_
      refine wl_q (fun _ _ => want_none) rfl (yq_spec (fst := []) (cap := []) _ FN56 (rlistK_c (s.xs.map tS) s.xs.length (List.length_map _) a cap (by omega)) rfl rfl rfl (by (repeat (first | exact pt_nil | apply pt0 | apply pt1 | apply pt2 | apply pt3 | apply pt4 | apply pt5 | apply pt6 | apply pt7 | apply pt8 | apply pt9 | apply pt10 | apply pt11 | apply pt12 | apply pt13 | apply pt14 | apply pt15 | apply pt16 | apply pt17))) (by (repeat (first | exact ro_nil | exact ro_rest (by assumption) | refine ro_cons (by first | exact .inl (by assumption) | exact ro_f0 (fun _ h => h) | exact ro_f0 (fun _ => slc_rsl) | exact ro_f1 (fun _ h => h) | exact ro_f1 (fun _ => slc_rsl) | exact ro_f2 (fun _ h => h) | exact ro_f2 (fun _ => slc_rsl) | exact ro_f3 (fun _ h => h) | exact ro_f3 (fun _ => slc_rsl) | exact ro_f4 (fun _ h => h) | exact ro_f4 (fun _ => slc_rsl) | exact ro_f5 (fun _ h => h) | exact ro_f5 (fun _ => slc_rsl) | exact ro_f6 (fun _ h => h) | exact ro_f6 (fun _ => slc_rsl)) ?_))) (fun _ _ => rfl) (fun _ _ _ h => h.sub (by (repeat (first | exact pt_nil | apply pt0 | apply pt1 | apply pt2 | apply pt3 | apply pt4 | apply pt5 | apply pt6 | apply pt7 | apply pt8 | apply pt9 | apply pt10 | apply pt11 | apply pt12 | apply pt13 | apply pt14 | apply pt15 | apply pt16 | apply pt17))))) ?_
      refine wl_y rfl (y_assign rfl) ?_
      refine wl_nil ?_
      refine wq_then ?_
      refine wc_ret ?_
      refine wq_ret1 rfl rfl (fun w hw => ?_)
      exact ⟨(), trivial, rfl, hw.bare⟩

theorem rfiles9_c (s : Sl PF) (hl : (filesT s.xs).length ≤ 800000000) : Ctr Tryd.prog 75 #[vSl s] [filesA s] [] (fun _ : Unit => True) (fun _ => vS (filesT s.xs)) (fun _ => []) := rfilesX_c s (by have := len_textF (flatF (s.xs.map fS)); rw [filesT_e] at hl; omega)
theorem rgraph9_c (s : Sl TgV) (hl : (graphT (grE s)).length ≤ 800000000) : Ctr Tryd.prog 72 #[vSl s] [graphA s] [] (fun _ : Unit => True) (fun _ => vS (graphT (grE s))) (fun _ => []) := by
  have h := rgraphX_c s (by have := len_textF (flatF (s.xs.map tS)); rw [graphT_e] at hl; omega)
  rw [← graphT_e] at h
  exact h
set_option maxHeartbeats 1000000 in
theorem rfiles16_c (s : Sl PF) (hl : (filesT s.xs).length ≤ 800000000) :
    Ctr Tryd.prog 55 #[vSl s] [filesA s] [] (fun _ : Unit => True) (fun _ => vS (textF (filesT s.xs))) (fun _ => []) := by
  refine spec_start (n := 6) [(0, vSl s)] Tryd.func55 rfl rfl ⟨rfl, trivial⟩ rfl ?_
  intro w0 K hR
  have hA := hR (filesA s) (by simp)
  refine wc_seq ?_
  refine wc_region ?_
  refine wl_y rfl (y_assign rfl) ?_
  refine wl_nil ?_
  refine wq_then ?_
  refine wc_seq ?_
  refine wc_region ?_
  refine wl_y rfl (y_move rfl) ?_
  refine wl_q (fun _ _ => want_none) rfl (yq_spec (fst := []) (cap := []) _ FN75 (rfiles9_c s hl) rfl rfl rfl (by (repeat (first | exact pt_nil | apply pt0 | apply pt1 | apply pt2 | apply pt3 | apply pt4 | apply pt5 | apply pt6 | apply pt7 | apply pt8 | apply pt9 | apply pt10 | apply pt11 | apply pt12 | apply pt13 | apply pt14 | apply pt15 | apply pt16 | apply pt17))) (by (repeat (first | exact ro_nil | exact ro_rest (by assumption) | refine ro_cons (by first | exact .inl (by assumption) | exact ro_f0 (fun _ h => h) | exact ro_f0 (fun _ => slc_rsl) | exact ro_f1 (fun _ h => h) | exact ro_f1 (fun _ => slc_rsl) | exact ro_f2 (fun _ h => h) | exact ro_f2 (fun _ => slc_rsl) | exact ro_f3 (fun _ h => h) | exact ro_f3 (fun _ => slc_rsl) | exact ro_f4 (fun _ h => h) | exact ro_f4 (fun _ => slc_rsl) | exact ro_f5 (fun _ h => h) | exact ro_f5 (fun _ => slc_rsl) | exact ro_f6 (fun _ h => h) | exact ro_f6 (fun _ => slc_rsl)) ?_))) (fun _ _ => rfl) (fun _ _ _ h => h.sub (by (repeat (first | exact pt_nil | apply pt0 | apply pt1 | apply pt2 | apply pt3 | apply pt4 | apply pt5 | apply pt6 | apply pt7 | apply pt8 | apply pt9 | apply pt10 | apply pt11 | apply pt12 | apply pt13 | apply pt14 | apply pt15 | apply pt16 | apply pt17))))) ?_
  refine wl_q (fun _ _ => want_none) rfl (yq_spec (fst := []) (cap := []) _ FN54 (rtext16_c (filesT s.xs) (by omega)) rfl rfl rfl (by (repeat (first | exact pt_nil | apply pt0 | apply pt1 | apply pt2 | apply pt3 | apply pt4 | apply pt5 | apply pt6 | apply pt7 | apply pt8 | apply pt9 | apply pt10 | apply pt11 | apply pt12 | apply pt13 | apply pt14 | apply pt15 | apply pt16 | apply pt17))) (by (repeat (first | exact ro_nil | exact ro_rest (by assumption) | refine ro_cons (by first | exact .inl (by assumption) | exact ro_f0 (fun _ h => h) | exact ro_f0 (fun _ => slc_rsl) | exact ro_f1 (fun _ h => h) | exact ro_f1 (fun _ => slc_rsl) | exact ro_f2 (fun _ h => h) | exact ro_f2 (fun _ => slc_rsl) | exact ro_f3 (fun _ h => h) | exact ro_f3 (fun _ => slc_rsl) | exact ro_f4 (fun _ h => h) | exact ro_f4 (fun _ => slc_rsl) | exact ro_f5 (fun _ h => h) | exact ro_f5 (fun _ => slc_rsl) | exact ro_f6 (fun _ h => h) | exact ro_f6 (fun _ => slc_rsl)) ?_))) (fun _ _ => rfl) (fun _ _ _ h => h.sub (by (repeat (first | exact pt_nil | apply pt0 | apply pt1 | apply pt2 | apply pt3 | apply pt4 | apply pt5 | apply pt6 | apply pt7 | apply pt8 | apply pt9 | apply pt10 | apply pt11 | apply pt12 | apply pt13 | apply pt14 | apply pt15 | apply pt16 | apply pt17))))) ?_
  refine wl_y rfl (y_assign rfl) ?_
  refine wl_nil ?_
  refine wq_then ?_
  refine wc_ret ?_
  refine wq_ret1 rfl rfl (fun w hw => ?_)
  exact ⟨(), trivial, rfl, hw.bare⟩

end Go.Proofs.YtbnahfjhlbibcaaDoor
