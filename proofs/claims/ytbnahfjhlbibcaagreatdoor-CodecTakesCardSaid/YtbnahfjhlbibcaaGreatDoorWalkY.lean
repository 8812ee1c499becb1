/-
  Walks: the examples.
-/
import Derived.Test.YtbnahfjhlbibcaaGreatDoorWalkU
import Derived.Test.YtbnahfjhlbibcaaGreatDoorWalkP
namespace Go.Proofs.YtbnahfjhlbibcaaGreatDoor
open Go.Eng

open Go.Lib
theorem ro_z {w0 : World} {O : Nat → Prop} {n : Nat} : Ro w0 O (rsl none 0 n []) := ⟨[], ⟨by simp, .inl ⟨rfl, rfl⟩⟩, by simp⟩
theorem ro_t0 {w0 : World} {O : Nat → Prop} : Ro w0 O (tgsA []) := all_ro (As := []) (fun A hA => by cases hA)
theorem text_10 {r : Rdr'} (h : r.bad = 10) : r.text = (r, []) := if_pos (by rw [h]; decide)
theorem num_10 {r : Rdr'} (h : r.bad = 10) : r.num.1.bad = 10 := by
  have e := text_10 h
  rw [Rdr'.num, e, if_pos (show r.bad ≠ 0 by rw [h]; decide)]; exact h
theorem list_10 {r : Rdr'} (h : r.bad = 10) : r.list.1.bad = 10 := by
  have e := text_10 h
  rw [Rdr'.list, e]
  simp only [texts_nil]; exact h
theorem rdTask_nil : (rdTask []).2 = 10 := by
  have h0 : (take0 []).text.1.r.bad = 10 := by
    have e : nextF [] = ([], [], 10) := by rw [nextF, if_pos (show kLen [] = ([] : Str).length from Nat.le_zero.1 (kLen_le []))]
    show (Rdr'.mk [] 0).text.1.bad = 10
    rw [Rdr'.text, if_neg (fun h => h rfl)]
    simp only [e]
    rw [if_pos (by decide)]
  have tx : ∀ {s : Scn}, s.r.bad = 10 → s.text.1.r.bad = 10 := fun {s} h => by show s.r.text.1.bad = 10; rw [text_10 h]; exact h
  have fl : ∀ {s : Scn}, s.r.bad = 10 → s.files.1.r.bad = 10 := fun {s} h => by show s.r.text.1.bad = 10; rw [text_10 h]; exact h
  have h1 : (take0 []).task.1.r.bad = 10 := num_10 (list_10 (fl (tx (num_10 h0))))
  have h2 : (take0 []).task.1.r.fin = 10 := by rw [Rdr'.fin, if_neg (fun h => by rw [h1] at h; exact absurd h.1 (by decide))]; exact h1
  rw [show (rdTask []).2 = (take0 []).task.1.fin from done_fin, sfin_bad (by rw [h2]; decide), h2]
theorem text_nil0 : textF [] = [48, 58, 44] := by rw [textF, itoa_small (by decide) (by decide)]; decide
theorem text_3 : textF [48, 58, 44] = [51, 58, 48, 58, 44, 44] := by rw [textF, itoa_small (by decide) (by decide)]; decide
theorem text_0 : textF (itoa 0) = [49, 58, 48, 44] := by rw [itoa_small (by decide) (by decide), textF, itoa_small (by decide) (by decide)]; decide
theorem rdTable_nil : rdTable [48, 58, 44] = ([], 0) := by
  rw [← text_nil0, ← flat_nil, rdTable, rdL_step (l := []) (by decide)]
  rfl
theorem ev_zero : flatF (evL 0 OpV.zero.er) = [49, 58, 48, 44, 48, 58, 44, 51, 58, 48, 58, 44, 44, 51, 58, 48, 58, 44, 44, 48, 58, 44, 49, 58, 48, 44, 49, 58, 48, 44, 48, 58, 44, 48, 58, 44, 51, 58, 48, 58, 44, 44] := by
  have e1 : graphT (grE OpV.zero.graph) = [48, 58, 44] := text_nil0
  have e2 : filesT OpV.zero.snap.xs = [48, 58, 44] := text_nil0
  have e3 : filesT OpV.zero.res.files.xs = [48, 58, 44] := text_nil0
  rw [ev_split, op_split, res_split, e1, e2, e3]
  simp only [flat_cons, flat_nil, List.map_cons, List.map_nil, List.append_nil, List.nil_append, text_3]
  rw [show OpV.zero.name = [] from rfl, show OpV.zero.goal = [] from rfl, show OpV.zero.state = 0 from rfl, show OpV.zero.res.err = 0 from rfl, show OpV.zero.res.loc = [] from rfl, show OpV.zero.res.text = [] from rfl, text_0, text_nil0]; rfl
theorem ro_op0 {w0 : World} {O : Nat → Prop} : Ro w0 O (opA OpV.zero) := all_ro (As := [_, _, _]) (fun A hA => by
  simp only [List.mem_cons, List.not_mem_nil, or_false] at hA
  rcases hA with rfl | rfl | rfl
  · exact all_ro (As := [_, _]) (fun A hA => by
      simp only [List.mem_cons, List.not_mem_nil, or_false] at hA
      rcases hA with rfl | rfl
      · exact ro_z
      · exact ro_t0)
  · exact ro_z
  · exact ro_z)
theorem inr0 : inR 0 := by unfold inR; omega
set_option maxHeartbeats 1000000 in
theorem awake_c  :
    Ctr Tryz.prog 5 #[] [libS] [] (fun _ : Unit => True) (fun _ => vB true) (fun _ => []) := by
  refine spec_start (n := 29) [] Tryz.func5 rfl rfl trivial rfl ?_
  intro w0 K hR
  have hB := hR libS (by simp)
  have hO : Ro w0 K (opA OpV.zero) := ro_op0
  refine wc_seq ?_
  refine wc_region ?_
  refine wl_y rfl (y_assign rfl) ?_
  refine wl_nil ?_
  refine wq_then ?_
  refine wc_seq ?_
  refine wc_region ?_
  refine wl_c (fun _ _ => want_none) rfl (yc_spec (fst := []) (cap := []) _ FN11 (readTask_c [] (by decide)) rfl rfl rfl (by (repeat (first | exact pt_nil | apply pt0 | apply pt1 | apply pt2 | apply pt3 | apply pt4 | apply pt5 | apply pt6 | apply pt7 | apply pt8 | apply pt9 | apply pt10 | apply pt11 | apply pt12 | apply pt13 | apply pt14 | apply pt15 | apply pt16 | apply pt17))) (by (repeat (first | exact ro_nil | exact ro_rest (by assumption) | refine ro_cons (by first | exact .inl (by assumption) | exact ro_f0 (fun _ h => h) | exact ro_f0 (fun _ => slc_rsl) | exact ro_f1 (fun _ h => h) | exact ro_f1 (fun _ => slc_rsl) | exact ro_f2 (fun _ h => h) | exact ro_f2 (fun _ => slc_rsl) | exact ro_f3 (fun _ h => h) | exact ro_f3 (fun _ => slc_rsl) | exact ro_f4 (fun _ h => h) | exact ro_f4 (fun _ => slc_rsl) | exact ro_f5 (fun _ h => h) | exact ro_f5 (fun _ => slc_rsl) | exact ro_f6 (fun _ h => h) | exact ro_f6 (fun _ => slc_rsl)) ?_)))) (wl_ex fun x6 hx6 => ?_)
  refine wl_y rfl (y_move rfl) ?_
  refine wl_y rfl (y_extract rfl rfl) ?_
  refine wl_y rfl (y_extract rfl rfl) ?_
  refine wl_w (fun _ _ => want_none) rfl (yw_alloc T41 rfl) (wl_ex fun b1 _ => ?_)
  first | refine wl_u (yu_storeAgg [] (l' := [_, _, _, _, _, _]) T41 rfl rfl rfl (by simp [Value.oneCell']) rfl rfl) ?_ | refine wl_u (yu_storeAgg [_] (l' := [_, _, _, _, _, _]) T41 rfl rfl rfl (by simp [Value.oneCell']) rfl rfl) ?_ | refine wl_u (yu_storeAgg [_, _] (l' := [_, _, _, _, _, _]) T41 rfl rfl rfl (by simp [Value.oneCell']) rfl rfl) ?_ | refine wl_u (yu_storeAgg [_, _, _] (l' := [_, _, _, _, _, _]) T41 rfl rfl rfl (by simp [Value.oneCell']) rfl rfl) ?_ | refine wl_u (yu_storeAgg [_, _, _, _] (l' := [_, _, _, _, _, _]) T41 rfl rfl rfl (by simp [Value.oneCell']) rfl rfl) ?_
  refine wl_y rfl (y_assign rfl) ?_
  refine wl_nil ?_
  refine wq_then ?_
  refine wc_seq ?_
  refine wc_region ?_
  refine wl_c (fun _ _ => want_none) rfl (yc_spec (fst := []) (cap := []) _ FN8 (readTable_c [48, 58, 44] (by decide)) rfl rfl rfl (by (repeat (first | exact pt_nil | apply pt0 | apply pt1 | apply pt2 | apply pt3 | apply pt4 | apply pt5 | apply pt6 | apply pt7 | apply pt8 | apply pt9 | apply pt10 | apply pt11 | apply pt12 | apply pt13 | apply pt14 | apply pt15 | apply pt16 | apply pt17))) (by (repeat (first | exact ro_nil | exact ro_rest (by assumption) | refine ro_cons (by first | exact .inl (by assumption) | exact ro_f0 (fun _ h => h) | exact ro_f0 (fun _ => slc_rsl) | exact ro_f1 (fun _ h => h) | exact ro_f1 (fun _ => slc_rsl) | exact ro_f2 (fun _ h => h) | exact ro_f2 (fun _ => slc_rsl) | exact ro_f3 (fun _ h => h) | exact ro_f3 (fun _ => slc_rsl) | exact ro_f4 (fun _ h => h) | exact ro_f4 (fun _ => slc_rsl) | exact ro_f5 (fun _ h => h) | exact ro_f5 (fun _ => slc_rsl) | exact ro_f6 (fun _ h => h) | exact ro_f6 (fun _ => slc_rsl)) ?_)))) (wl_ex fun x10 hx10 => ?_)
  refine wl_y rfl (y_move rfl) ?_
  refine wl_y rfl (y_extract rfl rfl) ?_
  refine wl_y rfl (y_extract rfl rfl) ?_
  refine wl_y rfl (y_assign rfl) ?_
  refine wl_y rfl (y_assign rfl) ?_
  refine wl_nil ?_
  refine wq_then ?_
  refine wc_seq ?_
  refine wc_region ?_
  refine wl_y rfl (y_build (cs := [_, _, _, _, _, _, _, _, _, _]) T31 PL31 rfl rfl rfl) ?_
  refine wl_q (fun _ _ => want_none) rfl (yq_spec (fst := []) (cap := []) _ FN17 (event_c 0 OpV.zero inr0 ⟨inr0, inr0⟩ (by rw [ev_zero]; decide)) rfl rfl rfl (by (repeat (first | exact pt_nil | apply pt0 | apply pt1 | apply pt2 | apply pt3 | apply pt4 | apply pt5 | apply pt6 | apply pt7 | apply pt8 | apply pt9 | apply pt10 | apply pt11 | apply pt12 | apply pt13 | apply pt14 | apply pt15 | apply pt16 | apply pt17))) (by (repeat (first | exact ro_nil | exact ro_rest (by assumption) | refine ro_cons (by first | exact .inl (by assumption) | exact ro_f0 (fun _ h => h) | exact ro_f0 (fun _ => slc_rsl) | exact ro_f1 (fun _ h => h) | exact ro_f1 (fun _ => slc_rsl) | exact ro_f2 (fun _ h => h) | exact ro_f2 (fun _ => slc_rsl) | exact ro_f3 (fun _ h => h) | exact ro_f3 (fun _ => slc_rsl) | exact ro_f4 (fun _ h => h) | exact ro_f4 (fun _ => slc_rsl) | exact ro_f5 (fun _ h => h) | exact ro_f5 (fun _ => slc_rsl) | exact ro_f6 (fun _ h => h) | exact ro_f6 (fun _ => slc_rsl)) ?_))) (fun _ _ => rfl) (fun _ _ _ h => h.sub (by (repeat (first | exact pt_nil | apply pt0 | apply pt1 | apply pt2 | apply pt3 | apply pt4 | apply pt5 | apply pt6 | apply pt7 | apply pt8 | apply pt9 | apply pt10 | apply pt11 | apply pt12 | apply pt13 | apply pt14 | apply pt15 | apply pt16 | apply pt17))))) ?_
  refine wl_y rfl (y_eqlS rfl rfl) ?_
  refine wl_y rfl (y_move rfl) ?_
  refine wl_known 16 true rfl (decide_eq_true ev_zero) ?_
  refine wl_yg rfl rfl rfl (y_move rfl) ?_
  refine wl_yg rfl rfl rfl (y_eqlI rfl rfl) ?_
  refine wl_y rfl (y_pick_t rfl rfl) ?_
  refine wl_y rfl (y_move rfl) ?_
  refine wl_known 20 true rfl (by rw [rdTask_nil]; rfl) ?_
  refine wl_yg rfl rfl rfl (y_move rfl) ?_
  refine wl_yg rfl rfl rfl (y_eqlI rfl rfl) ?_
  refine wl_y rfl (y_pick_t rfl rfl) ?_
  refine wl_y rfl (y_move rfl) ?_
  refine wl_known 24 true rfl (by rw [rdTable_nil]; rfl) ?_
  refine wl_yg rfl rfl rfl (y_move rfl) ?_
  refine wl_yg rfl rfl rfl (y_lenSl Tryz.underlying34 rfl) ?_
  refine wl_yg rfl rfl rfl (y_eqlI rfl rfl) ?_
  refine wl_y rfl (y_pick_t rfl rfl) ?_
  refine wl_y rfl (y_assign rfl) ?_
  refine wl_nil ?_
  refine wq_then ?_
  refine wc_ret ?_
  refine wq_ret1 rfl rfl (fun w hw => ?_)
  have e9 : x10.xs = [] := by
    have h9 : x10.xs.map OpV.er = [] := by rw [show x10.xs.map OpV.er = _ from hx10, rdTable_nil]
    exact List.map_eq_nil_iff.1 h9
  exact ⟨(), trivial, by rw [e9]; rfl, hw.bare⟩

end Go.Proofs.YtbnahfjhlbibcaaGreatDoor
