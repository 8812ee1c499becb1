/-
  Walks: lists compared, counted, packed by the reference.
-/
import Derived.Test.YtfoeghobpoakiaaDoorWalkE
namespace Go.Proofs.YtfoeghobpoakiaaDoor
open Go.Eng

open Go.Lib
theorem take_same {α : Type} {l m : List α} {i : Nat} {x y : α} (h : l.take i = m.take i) (hx : l[i]? = some x) (hy : m[i]? = some y) (he : x = y) : l.take (i + 1) = m.take (i + 1) := by
  rw [List.take_add_one, List.take_add_one, h, hx, hy, he]
theorem step_of {α : Type} {p : α → Prop} {l : List α} {i : Nat} {x : α} (hall : ∀ j z, j < i → l[j]? = some z → p z) (hx : l[i]? = some x) (hp : p x) : ∀ j z, j < i + 1 → l[j]? = some z → p z := fun j z hj hz => by
  rcases Nat.lt_or_ge j i with h | h
  · exact hall j z h hz
  · obtain rfl : j = i := by omega
    rw [hx] at hz; cases hz; exact hp
theorem all_of_step {α : Type} {p : α → Prop} {l : List α} {i : Nat} (hall : ∀ j z, j < i → l[j]? = some z → p z) (hi : l.length ≤ i) : ∀ x ∈ l, p x := fun x hx => by
  obtain ⟨j, hj⟩ := List.mem_iff_getElem?.1 hx
  exact hall j x (by have := (List.getElem?_eq_some_iff.1 hj).1; omega) hj
theorem row_at {α : Type} {l : List α} {i : Nat} {x : α} {f : α → Value} (h : l[i]? = some x) : (l.map f)[i * 1]? = some (f x) := by rw [Nat.mul_one, List.getElem?_map, h]; rfl
def fewX (x : Str) : Bool := !decide ((2000 : Int) < (x.length : Nat))
def fewF (l : List Str) : Bool := !decide ((200 : Int) < (l.length : Nat)) && l.all fewX
theorem fewF_spec {l : List Str} (h : fewF l = true) : l.length ≤ 200 ∧ ∀ x ∈ l, x.length ≤ 2000 := by
  simp only [fewF, fewX, Bool.and_eq_true, Bool.not_eq_true', decide_eq_false_iff_not, List.all_eq_true] at h
  exact ⟨by omega, fun x hx => by have := h.2 x hx; omega⟩
theorem few_sml {l : List Str} (h : fewF l = true) : sml l := by
  obtain ⟨h1, h2⟩ := fewF_spec h
  exact ⟨by omega, fun x hx => by have := h2 x hx; omega⟩
set_option maxHeartbeats 1000000 in
theorem texts_c (l m : List Str) (oo om : Option Addr) (cc cm : Nat) (hl : l.length ≤ 1000000000) :
    Ctr Tryd.prog 19 #[.slice oo l.length cc, .slice om m.length cm] [rsl oo l.length 1 (l.map vS), rsl om m.length 1 (m.map vS)] [] (fun _ : Unit => True) (fun _ => vB (decide (l = m))) (fun _ => []) := by
  refine spec_start (n := 26) [(0, .slice oo l.length cc), (1, .slice om m.length cm)] Tryd.func19 rfl rfl ⟨rfl, rfl, trivial⟩ rfl ?_
  intro w0 K hR
  have hA := hR _ (List.mem_cons_self ..)
  have hB := hR _ (List.mem_cons_of_mem _ (List.mem_cons_self ..))
  refine wc_seq ?_
  refine wc_region ?_
  refine wl_y rfl (y_assign rfl) ?_
  refine wl_nil ?_
  refine wq_then ?_
  refine wc_seq ?_
  refine wc_seq ?_
  refine wc_region ?_
  refine wl_y rfl (y_move rfl) ?_
  refine wl_y rfl (y_lenSl Tryd.underlying27 rfl) ?_
  refine wl_y rfl (y_move rfl) ?_
  refine wl_y rfl (y_lenSl Tryd.underlying27 rfl) ?_
  refine wl_y rfl (y_neqI rfl rfl) ?_
  refine wl_nil ?_
  refine wq_then ?_
  refine wc_cond rfl (fun hc10 => ?_) (fun hc10 => ?_)
  ·
    simp at hc10
    refine wc_seq ?_
    refine wc_region ?_
    refine wl_y rfl (y_assign rfl) ?_
    refine wl_nil ?_
    refine wq_then ?_
    refine wc_ret ?_
    refine wq_then_ret ?_
    refine wq_ret1 rfl rfl (fun w hw => ?_)
    exact ⟨(), trivial, by rw [decide_eq_false (fun e => hc10 (by rw [e]))], hw⟩
  ·
    simp at hc10
    refine wc_skip ?_
    refine wq_then ?_
    refine wc_seq ?_
    refine wc_seq ?_
    refine wc_region ?_
    refine wl_y rfl (y_assign rfl) ?_
    refine wl_nil ?_
    refine wq_then ?_
    refine wc_block ?_
    refine wc_loop (α := Nat) (fun y => y ≤ l.length ∧ l.take y = m.take y) [(0, _), (1, _)] (fun y => [(5, vI y)]) (fun y => Hp w0 K []) (fun y => l.length - y) 0 ?_ ⟨rfl, rfl, rfl, trivial⟩ ?_ ?_
    · exact ⟨Nat.zero_le _, rfl⟩
    · exact fun w hw => hw
    · rintro i ⟨hi, hall⟩
      refine wc_seq ?_
      refine wc_seq ?_
      refine wc_region ?_
      refine wl_y rfl (y_move rfl) ?_
      refine wl_y rfl (y_move rfl) ?_
      refine wl_y rfl (y_lenSl Tryd.underlying27 rfl) ?_
      refine wl_y rfl (y_lss rfl rfl) ?_
      refine wl_nil ?_
      refine wq_then ?_
      refine wc_cond rfl (fun hc14 => ?_) (fun hc14 => ?_)
      ·
        simp at hc14
        refine wc_skip ?_
        refine wq_then ?_
        refine wc_seq ?_
        refine wc_block ?_
        refine wc_seq ?_
        refine wc_quiet MO (by kernel_rfl) (Hp.drawless _ _ _) ?_
        obtain ⟨x, hx⟩ : ∃ x, l[i]? = some x := ⟨_, List.getElem?_eq_getElem (by omega)⟩
        obtain ⟨y, hy⟩ : ∃ y, m[i]? = some y := ⟨_, List.getElem?_eq_getElem (by omega)⟩
        refine wt_y rfl (y_move rfl) ?_
        refine wt_y rfl (y_move rfl) ?_
        refine wt_y rfl (y_indexAddr Tryd.underlying27 T9 rfl rfl rfl (by omega) (fun _ _ => hA.isSome (by omega))) ?_
        refine wt_y rfl (y_load NA9 rfl (cell_ro hA (row_at hx))) ?_
        refine wt_y rfl (y_move rfl) ?_
        refine wt_y rfl (y_move rfl) ?_
        refine wt_y rfl (y_indexAddr Tryd.underlying27 T9 rfl rfl rfl (by omega) (fun _ _ => hB.isSome (by omega))) ?_
        refine wt_y rfl (y_load NA9 rfl (cell_ro hB (row_at hy))) ?_
        refine wt_y rfl (y_neqS rfl rfl) ?_
        refine wt_nil ?_
        refine wq_then ?_
        refine wc_cond rfl (fun hc25 => ?_) (fun hc25 => ?_)
        ·
          simp at hc25
          refine wc_seq ?_
          refine wc_region ?_
          refine wl_y rfl (y_assign rfl) ?_
          refine wl_nil ?_
          refine wq_then ?_
          refine wc_ret ?_
          refine wq_block_ret (wq_then_ret (wq_then_ret (wq_block_ret (wq_then_ret ?_))))
          refine wq_ret1 rfl rfl (fun w hw => ?_)
          exact ⟨(), trivial, by rw [decide_eq_false (fun e => hc25 (by rw [e, hy] at hx; exact (Option.some.inj hx).symm))], hw⟩
        ·
          simp at hc25
          refine wc_skip ?_
          refine wq_block_normal ?_
          refine wq_then ?_
          refine wc_region ?_
          refine wl_y rfl (y_move rfl) ?_
          refine wl_y rfl (y_add rfl rfl (by omega)) ?_
          refine wl_y rfl (y_assign rfl) ?_
          refine wl_nil ?_
          exact wq_round (i + 1) (by omega) ⟨by omega, take_same hall hx hy hc25⟩ ⟨rfl, rfl, rfl, trivial⟩ (fun w hw => hw)
      ·
        simp at hc14
        refine wc_exit ?_
        refine wq_then_exit (wq_then_exit (wq_block_exit ?_))
        refine wq_then ?_
        refine wc_seq ?_
        refine wc_region ?_
        refine wl_y rfl (y_assign rfl) ?_
        refine wl_nil ?_
        refine wq_then ?_
        refine wc_ret ?_
        refine wq_ret1 rfl rfl (fun w hw => ?_)
        exact ⟨(), trivial, by rw [decide_eq_true (by rw [List.take_of_length_le (by omega), List.take_of_length_le (by omega)] at hall; exact hall)], hw⟩

set_option maxHeartbeats 1000000 in
theorem few_c (l : List Str) (oo : Option Addr) (cc : Nat) :
    Ctr Tryd.prog 16 #[.slice oo l.length cc] [rsl oo l.length 1 (l.map vS)] [] (fun _ : Unit => True) (fun _ => vB (fewF l)) (fun _ => []) := by
  refine spec_start (n := 19) [(0, .slice oo l.length cc)] Tryd.func16 rfl rfl ⟨rfl, trivial⟩ rfl ?_
  intro w0 K hR
  have hA := hR (rsl oo l.length 1 (l.map vS)) (by simp)
  refine wc_seq ?_
  refine wc_region ?_
  refine wl_y rfl (y_assign rfl) ?_
  refine wl_nil ?_
  refine wq_then ?_
  refine wc_seq ?_
  refine wc_seq ?_
  refine wc_region ?_
  refine wl_y rfl (y_move rfl) ?_
  refine wl_y rfl (y_lenSl Tryd.underlying27 rfl) ?_
  refine wl_y rfl (y_gtr rfl rfl) ?_
  refine wl_nil ?_
  refine wq_then ?_
  refine wc_cond rfl (fun hc6 => ?_) (fun hc6 => ?_)
  ·
    simp at hc6
    refine wc_seq ?_
    refine wc_region ?_
    refine wl_y rfl (y_assign rfl) ?_
    refine wl_nil ?_
    refine wq_then ?_
    refine wc_ret ?_
    refine wq_then_ret ?_
    refine wq_ret1 rfl rfl (fun w hw => ?_)
    exact ⟨(), trivial, by rw [fewF, decide_eq_true (by omega)]; rfl, hw⟩
  ·
    simp at hc6
    refine wc_skip ?_
    refine wq_then ?_
    refine wc_seq ?_
    refine wc_seq ?_
    refine wc_region ?_
    refine wl_y rfl (y_assign rfl) ?_
    refine wl_nil ?_
    refine wq_then ?_
    refine wc_block ?_
    refine wc_loop (α := Nat) (fun y => y ≤ l.length ∧ ∀ j z, j < y → l[j]? = some z → fewX z = true) [(0, _)] (fun y => [(3, vI y)]) (fun y => Hp w0 K []) (fun y => l.length - y) 0 ?_ ⟨rfl, rfl, trivial⟩ ?_ ?_
    · exact ⟨Nat.zero_le _, fun j _ hj => absurd hj (Nat.not_lt_zero _)⟩
    · exact fun w hw => hw
    · rintro i ⟨hi, hall⟩
      refine wc_seq ?_
      refine wc_seq ?_
      refine wc_region ?_
      refine wl_y rfl (y_move rfl) ?_
      refine wl_y rfl (y_move rfl) ?_
      refine wl_y rfl (y_lenSl Tryd.underlying27 rfl) ?_
      refine wl_y rfl (y_lss rfl rfl) ?_
      refine wl_nil ?_
      refine wq_then ?_
      refine wc_cond rfl (fun hc10 => ?_) (fun hc10 => ?_)
      ·
        simp at hc10
        refine wc_skip ?_
        refine wq_then ?_
        refine wc_seq ?_
        refine wc_block ?_
        refine wc_seq ?_
        refine wc_region ?_
        obtain ⟨x, hx⟩ : ∃ x, l[i]? = some x := ⟨_, List.getElem?_eq_getElem (by omega)⟩
        have hxm := List.mem_of_getElem? hx
        refine wl_y rfl (y_move rfl) ?_
        refine wl_y rfl (y_move rfl) ?_
        refine wl_y rfl (y_indexAddr Tryd.underlying27 T9 rfl rfl rfl (by omega) (by first | assumption | exact fun _ _ => rfl | exact fun _ _ => hA.isSome (by omega) | exact fun w hw => hw.slc_isSome [] (by omega) | exact fun w hw => hw.slc_isSome [_] (by omega) | exact fun w hw => hw.slc_isSome [_, _] (by omega) | exact fun w hw => hw.slc_isSome [_, _, _] (by omega))) ?_
        refine wl_y rfl (y_load NA9 rfl (cell_ro hA (row_at hx))) ?_
        refine wl_y rfl (y_lenS Tryd.underlying9 rfl) ?_
        refine wl_y rfl (y_gtr rfl rfl) ?_
        refine wl_nil ?_
        refine wq_then ?_
        refine wc_cond rfl (fun hc18 => ?_) (fun hc18 => ?_)
        ·
          refine wc_seq ?_
          refine wc_region ?_
          refine wl_y rfl (y_assign rfl) ?_
          refine wl_nil ?_
          refine wq_then ?_
          refine wc_ret ?_
          refine wq_block_ret (wq_then_ret (wq_then_ret (wq_block_ret (wq_then_ret ?_))))
          refine wq_ret1 rfl rfl (fun w hw => ?_)
          exact ⟨(), trivial, by rw [fewF, show l.all fewX = false by exact List.all_eq_false.2 ⟨x, List.mem_of_getElem? hx, by rw [fewX, hc18]; decide⟩, Bool.and_false], hw⟩
        ·
          refine wc_skip ?_
          refine wq_block_normal ?_
          refine wq_then ?_
          refine wc_region ?_
          refine wl_y rfl (y_move rfl) ?_
          refine wl_y rfl (y_add rfl rfl (by omega)) ?_
          refine wl_y rfl (y_assign rfl) ?_
          refine wl_nil ?_
          exact wq_round (i + 1) (by omega) ⟨by omega, step_of hall hx (by rw [fewX, hc18]; rfl)⟩ ⟨rfl, rfl, trivial⟩ (fun w hw => hw)
      ·
        simp at hc10
        refine wc_exit ?_
        refine wq_then_exit (wq_then_exit (wq_block_exit ?_))
        refine wq_then ?_
        refine wc_seq ?_
        refine wc_region ?_
        refine wl_y rfl (y_assign rfl) ?_
        refine wl_nil ?_
        refine wq_then ?_
        refine wc_ret ?_
        refine wq_ret1 rfl rfl (fun w hw => ?_)
        exact ⟨(), trivial, by rw [fewF, decide_eq_false (by omega), show l.all fewX = true by exact List.all_eq_true.2 (all_of_step hall (by omega))]; rfl, hw⟩

set_option maxHeartbeats 1000000 in
theorem rlistP_c (l : List Str) (oo : Option Addr) (cc : Nat) (hs : sml l) :
    Ctr Tryd.prog 18 #[.slice oo l.length cc] [rsl oo l.length 1 (l.map vS)] [] (fun _ : Unit => True) (fun _ => vS (listF l)) (fun _ => []) := by
  refine spec_start (n := 21) [(0, .slice oo l.length cc)] Tryd.func18 rfl rfl ⟨rfl, trivial⟩ rfl ?_
  intro w0 K hR
  obtain ⟨hs1, hs2⟩ := id hs
  have hsf := sml_flat hs
  have hA := hR (rsl oo l.length 1 (l.map vS)) (by simp)
  refine wc_seq ?_
  refine wc_region ?_
  refine wl_y rfl (y_assign rfl) ?_
  refine wl_nil ?_
  refine wq_then ?_
  refine wc_seq ?_
  refine wc_region ?_
  refine wl_y rfl (y_assign rfl) ?_
  refine wl_nil ?_
  refine wq_then ?_
  refine wc_seq ?_
  refine wc_seq ?_
  refine wc_region ?_
  refine wl_y rfl (y_assign rfl) ?_
  refine wl_nil ?_
  refine wq_then ?_
  refine wc_block ?_
  refine wc_loop (α := Nat × Option Addr × Nat) (fun y => y.1 ≤ l.length ∧ okB y.2.1 y.2.2) [(0, _)] (fun y => [(4, vI y.1), (3, .slice y.2.1 (flatF (l.take y.1)).length y.2.2)]) (fun y => Hp w0 K [slc 5 1 y.2.1 (flatF (l.take y.1)).length y.2.2 (byC (flatF (l.take y.1)))]) (fun y => l.length - y.1) (0, none, 0) ?_ ⟨rfl, rfl, rfl, trivial⟩ ?_ ?_
  · exact ⟨Nat.zero_le _, okB_nil⟩
  · exact fun w hw => Hp.addNil [] _ hw
  · rintro ⟨i, a, cap⟩ ⟨hi, hok⟩; simp only at hi hok
    refine wc_world (S' := Hp w0 K [slc 5 1 a (flatF (l.take i)).length cap (byC (flatF (l.take i)))]) (fun w hw => hw) ?_
    refine wc_same 4 (vI i) rfl rfl ?_
    refine wc_same 3 (.slice a (flatF (l.take i)).length cap) rfl rfl ?_
    refine wc_seq ?_
    refine wc_seq ?_
    refine wc_region ?_
    refine wl_y rfl (y_move rfl) ?_
    refine wl_y rfl (y_move rfl) ?_
    refine wl_y rfl (y_lenSl Tryd.underlying27 rfl) ?_
    refine wl_y rfl (y_lss rfl rfl) ?_
    refine wl_nil ?_
    refine wq_then ?_
    refine wc_cond rfl (fun hc8 => ?_) (fun hc8 => ?_)
    ·
      simp at hc8
      refine wc_skip ?_
      refine wq_then ?_
      refine wc_seq ?_
      refine wc_block ?_
      refine wc_region ?_
      obtain ⟨x, hx⟩ : ∃ x, l[i]? = some x := ⟨_, List.getElem?_eq_getElem (by omega)⟩
      have hxm := List.mem_of_getElem? hx
      have hft := flat_take hx
      have hfp := flat_pre l (i + 1)
      rw [hft, List.length_append] at hfp
      refine wl_y rfl (y_move rfl) ?_
      refine wl_y rfl (y_move rfl) ?_
      refine wl_y rfl (y_move rfl) ?_
      refine wl_y rfl (y_indexAddr Tryd.underlying27 T9 rfl rfl rfl (by omega) (by first | assumption | exact fun _ _ => rfl | exact fun _ _ => hA.isSome (by omega) | exact fun w hw => hw.slc_isSome [] (by omega) | exact fun w hw => hw.slc_isSome [_] (by omega) | exact fun w hw => hw.slc_isSome [_, _] (by omega) | exact fun w hw => hw.slc_isSome [_, _, _] (by omega))) ?_
      refine wl_y rfl (y_load NA9 rfl (cell_ro hA (row_at hx))) ?_
      refine wl_q (fun _ _ => want_none) rfl (yq_spec (fst := []) (cap := []) _ FN12 (rtextP_c x (by have := hs2 x hxm; omega)) rfl rfl rfl (by (repeat (first | exact pt_nil | apply pt0 | apply pt1 | apply pt2 | apply pt3 | apply pt4 | apply pt5 | apply pt6 | apply pt7 | apply pt8 | apply pt9 | apply pt10 | apply pt11 | apply pt12 | apply pt13 | apply pt14 | apply pt15 | apply pt16 | apply pt17))) (by (repeat (first | exact ro_nil | exact ro_rest (by assumption) | refine ro_cons (by first | exact .inl (by assumption) | exact ro_f0 (fun _ h => h) | exact ro_f0 (fun _ => slc_rsl) | exact ro_f1 (fun _ h => h) | exact ro_f1 (fun _ => slc_rsl) | exact ro_f2 (fun _ h => h) | exact ro_f2 (fun _ => slc_rsl) | exact ro_f3 (fun _ h => h) | exact ro_f3 (fun _ => slc_rsl) | exact ro_f4 (fun _ h => h) | exact ro_f4 (fun _ => slc_rsl) | exact ro_f5 (fun _ h => h) | exact ro_f5 (fun _ => slc_rsl) | exact ro_f6 (fun _ h => h) | exact ro_f6 (fun _ => slc_rsl)) ?_))) (fun _ _ => rfl) (fun _ _ _ h => h.sub (by (repeat (first | exact pt_nil | apply pt0 | apply pt1 | apply pt2 | apply pt3 | apply pt4 | apply pt5 | apply pt6 | apply pt7 | apply pt8 | apply pt9 | apply pt10 | apply pt11 | apply pt12 | apply pt13 | apply pt14 | apply pt15 | apply pt16 | apply pt17))))) ?_
      refine wl_w (fun _ _ => want_none) rfl (yw_appendS [] Tryd.underlying47 Tryd.underlying9 T5 rfl rfl rfl hok (by omega) (by unfold maxLen; omega)) (wl_ex fun p17 hp17 => ?_)
      refine wl_y rfl (y_assign rfl) ?_
      refine wl_nil ?_
      refine wq_block_normal ?_
      refine wq_then ?_
      refine wc_region ?_
      refine wl_y rfl (y_move rfl) ?_
      refine wl_y rfl (y_add rfl rfl (by omega)) ?_
      refine wl_y rfl (y_assign rfl) ?_
      refine wl_nil ?_
      exact wq_round (i + 1, p17.1, p17.2) (by simp only; omega) ⟨by simp only; omega, hp17⟩ ⟨rfl, by simp only [hft, List.length_append]; rfl, rfl, trivial⟩ (fun w hw => by simp only [hft, List.length_append, List.map_append]; exact hw.sub (by (repeat (first | exact pt_nil | apply pt0 | apply pt1 | apply pt2 | apply pt3 | apply pt4 | apply pt5 | apply pt6 | apply pt7 | apply pt8 | apply pt9 | apply pt10 | apply pt11 | apply pt12 | apply pt13 | apply pt14 | apply pt15 | apply pt16 | apply pt17))))
    ·
      simp at hc8
      refine wc_exit ?_
      refine wq_then_exit (wq_then_exit (wq_block_exit ?_))
      refine wq_then ?_
      refine wc_seq ?_
      refine wc_region ?_
      obtain rfl : i = l.length := by omega
      refine wl_same 3 (.slice a (flatF l).length cap) rfl (by rw [List.take_length]) ?_
      refine wl_world (S' := Hp w0 K [slc 5 1 a (flatF l).length cap (byC (flatF l))]) (fun w hw => by rw [List.take_length] at hw; exact hw) ?_
      refine wl_y rfl (y_move rfl) ?_
      refine wl_w (fun _ _ => want_none) rfl (yw_of (y_convBytes (l := flatF l) Tryd.underlying47 Tryd.underlying5 Tryd.underlying9 rfl (by first | exact fun w hw => (hw.seen []).mono fun _ => slc_rsl | exact fun w hw => (hw.seen [_]).mono fun _ => slc_rsl | exact fun w hw => (hw.seen [_, _]).mono fun _ => slc_rsl | exact fun w hw => (hw.seen [_, _, _]).mono fun _ => slc_rsl))) (wl_ex fun _ _ => ?_)
      refine wl_q (fun _ _ => want_none) rfl (yq_spec (fst := []) (cap := []) _ FN12 (rtextP_c (flatF l) (by omega)) rfl rfl rfl (by (repeat (first | exact pt_nil | apply pt0 | apply pt1 | apply pt2 | apply pt3 | apply pt4 | apply pt5 | apply pt6 | apply pt7 | apply pt8 | apply pt9 | apply pt10 | apply pt11 | apply pt12 | apply pt13 | apply pt14 | apply pt15 | apply pt16 | apply pt17))) (by (repeat (first | exact ro_nil | exact ro_rest (by assumption) | refine ro_cons (by first | exact .inl (by assumption) | exact ro_f0 (fun _ h => h) | exact ro_f0 (fun _ => slc_rsl) | exact ro_f1 (fun _ h => h) | exact ro_f1 (fun _ => slc_rsl) | exact ro_f2 (fun _ h => h) | exact ro_f2 (fun _ => slc_rsl) | exact ro_f3 (fun _ h => h) | exact ro_f3 (fun _ => slc_rsl) | exact ro_f4 (fun _ h => h) | exact ro_f4 (fun _ => slc_rsl) | exact ro_f5 (fun _ h => h) | exact ro_f5 (fun _ => slc_rsl) | exact ro_f6 (fun _ h => h) | exact ro_f6 (fun _ => slc_rsl)) ?_))) (fun _ _ => rfl) (fun _ _ _ h => h.sub (by (repeat (first | exact pt_nil | apply pt0 | apply pt1 | apply pt2 | apply pt3 | apply pt4 | apply pt5 | apply pt6 | apply pt7 | apply pt8 | apply pt9 | apply pt10 | apply pt11 | apply pt12 | apply pt13 | apply pt14 | apply pt15 | apply pt16 | apply pt17))))) ?_
      refine wl_y rfl (y_assign rfl) ?_
      refine wl_nil ?_
      refine wq_then ?_
      refine wc_ret ?_
      refine wq_ret1 rfl rfl (fun w hw => ?_)
      exact ⟨(), trivial, rfl, hw.bare⟩

end Go.Proofs.YtfoeghobpoakiaaDoor
