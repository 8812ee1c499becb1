/-
  Walks: found by a function.
-/
import Derived.Test.YtemopomapankmaaDoorFDef
namespace Go.Proofs.YtemopomapankmaaDoor
open Go.Eng

set_option maxHeartbeats 1000000 in
theorem indexFunc_c (l : List Fl) (oo : Option Addr) (cc : Nat) (g : Nat) (cap : List Value) (p : Fl → Bool) (Rs : List Atom) (hg : FN Tryd.prog g) (hp : ∀ x ∈ l, Ctr Tryd.prog g (agF x :: cap).toArray Rs [] (fun _ : Unit => True) (fun _ => vB (p x)) (fun _ => [])) (hl : l.length ≤ 1000000000) :
    Ctr Tryd.prog 43 #[.slice oo l.length cc, .func (.func g) #[] cap.toArray] (rsl oo l.length 2 (l.flatMap encF) :: Rs) [] (fun _ : Unit => True) (fun _ => vI (idxF p l)) (fun _ => []) := by
  refine spec_start (n := 19) [(0, .slice oo l.length cc), (1, .func (.func g) #[] cap.toArray)] Tryd.func43 rfl rfl ⟨rfl, rfl, trivial⟩ rfl ?_
  intro w0 K hR
  have hA := hR _ (List.mem_cons_self ..)
  refine wc_seq ?_
  refine wc_region ?_
  refine wl_y rfl (y_assign rfl) ?_
  refine wl_nil ?_
  refine wq_then ?_
  refine wc_seq ?_
  refine wc_seq ?_
  refine wc_region ?_
  refine wl_y rfl (y_move rfl) ?_
  refine wl_y rfl (y_lenSl Tryd.underlying22 rfl) ?_
  refine wl_y rfl (y_move rfl) ?_
  refine wl_nil ?_
  refine wq_then ?_
  refine wc_block ?_
  refine wc_loop (α := Nat) (fun y => y ≤ l.length ∧ ∀ j z, j < y → l[j]? = some z → p z = false) [(0, _), (1, _), (7, _)] (fun y => [(8, vI y)]) (fun y => Hp w0 K []) (fun y => l.length - y) 0 ?_ ⟨rfl, rfl, rfl, rfl, trivial⟩ ?_ ?_
  · exact ⟨Nat.zero_le _, fun j _ hj => absurd hj (Nat.not_lt_zero _)⟩
  · exact fun w hw => hw
  · rintro i ⟨hi, hall⟩
    refine wc_seq ?_
    refine wc_region ?_
    refine wl_y rfl (y_lss rfl rfl) ?_
    refine wl_nil ?_
    refine wq_then ?_
    refine wc_seq ?_
    refine wc_cond rfl (fun hc9 => ?_) (fun hc9 => ?_)
    ·
      simp at hc9
      refine wc_skip ?_
      refine wq_then ?_
      refine wc_seq ?_
      refine wc_block ?_
      refine wc_seq ?_
      refine wc_region ?_
      obtain ⟨x, hx⟩ : ∃ x, l[i]? = some x := ⟨_, List.getElem?_eq_getElem (by omega)⟩
      refine wl_y rfl (y_move rfl) ?_
      refine wl_y rfl (y_assign rfl) ?_
      refine wl_nil ?_
      refine wq_then ?_
      refine wc_seq ?_
      refine wc_region ?_
      refine wl_y rfl (y_move rfl) ?_
      refine wl_y rfl (y_move rfl) ?_
      refine wl_y rfl (y_move rfl) ?_
      refine wl_y rfl (y_indexAddr Tryd.underlying22 T24 rfl rfl rfl (by omega) (by first | assumption | exact fun _ _ => rfl | exact fun _ _ => hA.isSome (by omega) | exact fun w hw => hw.slc_isSome [] (by omega) | exact fun w hw => hw.slc_isSome [_] (by omega) | exact fun w hw => hw.slc_isSome [_, _] (by omega) | exact fun w hw => hw.slc_isSome [_, _, _] (by omega))) ?_
      refine wl_y rfl (y_loadAgg (l := encF x) AG24 rfl rfl (by first | exact agg_ro hA (fun i u h => rows_get encF_len hx h) | exact agg_own [] (fun i u h => rows_get encF_len hx h) | exact agg_own [_] (fun i u h => rows_get encF_len hx h) | exact agg_own [_, _] (fun i u h => rows_get encF_len hx h) | exact agg_own [_, _, _] (fun i u h => rows_get encF_len hx h))) ?_
      refine wl_q (fun _ _ => want_none) rfl (yq_spec (fst := []) (cap := cap) _ hg (hp x (List.mem_of_getElem? hx)) rfl rfl rfl (by (repeat (first | exact pt_nil | apply pt0 | apply pt1 | apply pt2 | apply pt3 | apply pt4 | apply pt5 | apply pt6 | apply pt7 | apply pt8 | apply pt9 | apply pt10 | apply pt11 | apply pt12 | apply pt13 | apply pt14 | apply pt15 | apply pt16 | apply pt17))) (fun A hA => .inl (hR A (List.mem_cons_of_mem _ hA))) (fun _ _ => rfl) (fun _ _ _ h => h.sub (by (repeat (first | exact pt_nil | apply pt0 | apply pt1 | apply pt2 | apply pt3 | apply pt4 | apply pt5 | apply pt6 | apply pt7 | apply pt8 | apply pt9 | apply pt10 | apply pt11 | apply pt12 | apply pt13 | apply pt14 | apply pt15 | apply pt16 | apply pt17))))) ?_
      refine wl_nil ?_
      refine wq_then ?_
      refine wc_cond rfl (fun hc16 => ?_) (fun hc16 => ?_)
      ·
        refine wc_seq ?_
        refine wc_region ?_
        refine wl_y rfl (y_move rfl) ?_
        refine wl_y rfl (y_assign rfl) ?_
        refine wl_nil ?_
        refine wq_then ?_
        refine wc_ret ?_
        refine wq_block_ret (wq_then_ret (wq_then_ret (wq_block_ret (wq_then_ret ?_))))
        refine wq_ret1 rfl rfl (fun w hw => ?_)
        exact ⟨(), trivial, by rw [idxF_hit hx hc16 hall], hw⟩
      ·
        refine wc_skip ?_
        refine wq_block_normal ?_
        refine wq_then ?_
        refine wc_region ?_
        refine wl_y rfl (y_add rfl rfl (by omega)) ?_
        refine wl_y rfl (y_move rfl) ?_
        refine wl_nil ?_
        exact wq_round (i + 1) (by omega) ⟨by omega, none_step hall hx hc16⟩ ⟨rfl, rfl, rfl, rfl, trivial⟩ (fun w hw => hw)
    ·
      simp at hc9
      refine wc_exit ?_
      refine wq_then_exit (wq_then_exit (wq_block_exit ?_))
      refine wq_then ?_
      refine wc_seq ?_
      refine wc_region ?_
      refine wl_y rfl (y_assign rfl) ?_
      refine wl_nil ?_
      refine wq_then ?_
      refine wc_ret ?_
      refine wq_ret1 rfl rfl (fun w hw => ?_)
      exact ⟨(), trivial, by rw [idxF_miss (fun z hz => by obtain ⟨j, hj⟩ := List.mem_iff_getElem?.1 hz; exact hall j z (by have := (List.getElem?_eq_some_iff.1 hj).1; omega) hj)], hw⟩

set_option maxHeartbeats 1000000 in
theorem containsFunc_c (l : List Fl) (oo : Option Addr) (cc : Nat) (g : Nat) (cap : List Value) (p : Fl → Bool) (Rs : List Atom) (hg : FN Tryd.prog g) (hp : ∀ x ∈ l, Ctr Tryd.prog g (agF x :: cap).toArray Rs [] (fun _ : Unit => True) (fun _ => vB (p x)) (fun _ => [])) (hl : l.length ≤ 1000000000) :
    Ctr Tryd.prog 38 #[.slice oo l.length cc, .func (.func g) #[] cap.toArray] (rsl oo l.length 2 (l.flatMap encF) :: Rs) [] (fun _ : Unit => True) (fun _ => vB (l.any p)) (fun _ => []) := by
  refine spec_start (n := 9) [(0, .slice oo l.length cc), (1, .func (.func g) #[] cap.toArray)] Tryd.func38 rfl rfl ⟨rfl, rfl, trivial⟩ rfl ?_
  intro w0 K hR
  refine wc_seq ?_
  refine wc_region ?_
  refine wl_y rfl (y_assign rfl) ?_
  refine wl_nil ?_
  refine wq_then ?_
  refine wc_seq ?_
  refine wc_region ?_
  refine wl_y rfl (y_move rfl) ?_
  refine wl_y rfl (y_move rfl) ?_
  refine wl_c (fun _ _ => want_none) rfl (yc_spec (fst := []) (cap := []) _ FN43 (indexFunc_c l oo cc g cap p Rs hg hp hl) rfl rfl rfl (by (repeat (first | exact pt_nil | apply pt0 | apply pt1 | apply pt2 | apply pt3 | apply pt4 | apply pt5 | apply pt6 | apply pt7 | apply pt8 | apply pt9 | apply pt10 | apply pt11 | apply pt12 | apply pt13 | apply pt14 | apply pt15 | apply pt16 | apply pt17))) (fun A hA => .inl (hR A hA))) (wl_ex fun x7 hx7 => ?_)
  refine wl_y rfl (y_geq rfl rfl) ?_
  refine wl_y rfl (y_assign rfl) ?_
  refine wl_nil ?_
  refine wq_then ?_
  refine wc_ret ?_
  refine wq_ret1 rfl rfl (fun w hw => ?_)
  refine ⟨(), trivial, ?_, hw⟩
  rcases idxF_cases p l with ⟨h1, h2⟩ | ⟨i, x, h1, h2, h3, _⟩
  · rw [h1, show l.any p = false by simpa using h2]; rfl
  · rw [h1, show l.any p = true by exact List.any_eq_true.2 ⟨x, List.mem_of_getElem? h2, h3⟩]; simp

end Go.Proofs.YtemopomapankmaaDoor
