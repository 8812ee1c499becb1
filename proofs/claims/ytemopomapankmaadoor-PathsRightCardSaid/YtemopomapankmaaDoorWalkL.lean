/-
  Walks: files apart from a path.
-/
import Derived.Test.YtemopomapankmaaDoorDelLaw
namespace Go.Proofs.YtemopomapankmaaDoor
open Go.Eng

set_option maxHeartbeats 1000000 in
theorem deleteFunc_c (l : List Fl) (oo : Option Addr) (cc : Nat) (g : Nat) (cap : List Value) (p : Fl → Bool) (Rs : List Atom) (hg : FN Tryd.prog g) (hp : ∀ x ∈ l, Ctr Tryd.prog g (agF x :: cap).toArray Rs [] (fun _ : Unit => True) (fun _ => vB (p x)) (fun _ => [])) (hl : l.length ≤ 1000000000) :
    Ctr Tryd.prog 50 #[.slice oo l.length cc, .func (.func g) #[] cap.toArray] Rs [slc 24 2 oo l.length cc (l.flatMap encF)] (fun _ : Option Addr × Nat => True) (fun r => .slice r.1 (l.filter (fun x => !p x)).length r.2) (fun r => [slc 24 2 r.1 (l.filter (fun x => !p x)).length r.2 ((l.filter (fun x => !p x)).flatMap encF)]) := by
  refine spec_start (n := 42) [(0, .slice oo l.length cc), (1, .func (.func g) #[] cap.toArray)] Tryd.func50 rfl rfl ⟨rfl, rfl, trivial⟩ rfl ?_
  intro w0 K hR
  refine wc_seq ?_
  refine wc_region ?_
  refine wl_y rfl (y_assign rfl) ?_
  refine wl_nil ?_
  refine wq_then ?_
  refine wc_seq ?_
  refine wc_region ?_
  refine wl_y rfl (y_move rfl) ?_
  refine wl_y rfl (y_move rfl) ?_
  refine wl_q (fun _ _ => want_none) rfl (yq_spec (fst := []) (cap := []) _ FN43 (indexFunc_c l oo cc g cap p Rs hg hp hl) rfl rfl rfl (by (repeat (first | exact pt_nil | apply pt0 | apply pt1 | apply pt2 | apply pt3 | apply pt4 | apply pt5 | apply pt6 | apply pt7 | apply pt8 | apply pt9 | apply pt10 | apply pt11 | apply pt12 | apply pt13 | apply pt14 | apply pt15 | apply pt16 | apply pt17))) (by (repeat (first | exact ro_nil | exact ro_rest (by assumption) | refine ro_cons (by first | exact .inl (by assumption) | exact ro_f0 (fun _ h => h) | exact ro_f0 (fun _ => slc_rsl) | exact ro_f1 (fun _ h => h) | exact ro_f1 (fun _ => slc_rsl) | exact ro_f2 (fun _ h => h) | exact ro_f2 (fun _ => slc_rsl) | exact ro_f3 (fun _ h => h) | exact ro_f3 (fun _ => slc_rsl) | exact ro_f4 (fun _ h => h) | exact ro_f4 (fun _ => slc_rsl) | exact ro_f5 (fun _ h => h) | exact ro_f5 (fun _ => slc_rsl) | exact ro_f6 (fun _ h => h) | exact ro_f6 (fun _ => slc_rsl)) ?_))) (fun _ _ => rfl) (fun _ _ _ h => h.sub (by (repeat (first | exact pt_nil | apply pt0 | apply pt1 | apply pt2 | apply pt3 | apply pt4 | apply pt5 | apply pt6 | apply pt7 | apply pt8 | apply pt9 | apply pt10 | apply pt11 | apply pt12 | apply pt13 | apply pt14 | apply pt15 | apply pt16 | apply pt17))))) ?_
  refine wl_y rfl (y_assign rfl) ?_
  refine wl_nil ?_
  refine wq_then ?_
  refine wc_seq ?_
  refine wc_seq ?_
  refine wc_region ?_
  refine wl_y rfl (y_move rfl) ?_
  refine wl_y rfl (y_eqlI rfl rfl) ?_
  refine wl_nil ?_
  refine wq_then ?_
  refine wc_cond rfl (fun hc12 => ?_) (fun hc12 => ?_)
  ·
    simp at hc12
    refine wc_seq ?_
    refine wc_region ?_
    refine wl_y rfl (y_move rfl) ?_
    refine wl_y rfl (y_assign rfl) ?_
    refine wl_nil ?_
    refine wq_then ?_
    refine wc_ret ?_
    refine wq_then_ret ?_
    refine wq_ret1 rfl rfl (fun w hw => ?_)
    have hnone := (idxF_cases p l).resolve_right (fun ⟨i, x, h, _⟩ => by omega)
    have he : l.filter (fun x => !p x) = l := List.filter_eq_self.2 fun x hx => by simp [hnone.2 x hx]
    exact ⟨(oo, cc), trivial, by rw [he], by rw [he]; exact hw⟩
  ·
    simp at hc12
    obtain ⟨i, x0, hi, hx0, hp0, hn⟩ : ∃ i x, idxF p l = (i : Nat) ∧ l[i]? = some x ∧ p x = true ∧ ∀ j y, j < i → l[j]? = some y → p y = false := (idxF_cases p l).resolve_left (fun h => hc12 h.1)
    have hil := (List.getElem?_eq_some_iff.1 hx0).1
    refine wc_same 5 (vI (i : Nat)) rfl (by rw [hi]) ?_
    refine wc_skip ?_
    refine wq_then ?_
    refine wc_seq ?_
    refine wc_seq ?_
    refine wc_region ?_
    refine wl_y rfl (y_move rfl) ?_
    refine wl_y rfl (y_add rfl rfl (by omega)) ?_
    refine wl_y rfl (y_assign rfl) ?_
    refine wl_nil ?_
    refine wq_then ?_
    refine wc_block ?_
    refine wc_loop (α := List Fl × Nat × Nat) (fun y => DelS p l y.1 y.2.1 y.2.2) [(0, _), (1, _)] (fun y => [(5, vI y.2.1), (6, vI y.2.2)]) (fun y => Hp w0 K [slc 24 2 oo l.length cc ((y.1).flatMap encF)]) (fun y => l.length - y.2.2) (l, i, i + 1) ?_ ⟨rfl, rfl, rfl, rfl, trivial⟩ ?_ ?_
    · exact DelS.start hx0 hp0 hn
    · exact fun w hw => hw
    · rintro ⟨A, i2, j⟩ hD; simp only at hD
      refine wc_world (S' := Hp w0 K [slc 24 2 oo l.length cc ((A).flatMap encF)]) (fun w hw => hw) ?_
      refine wc_same 5 (vI i2) rfl rfl ?_
      refine wc_same 6 (vI j) rfl rfl ?_
      refine wc_seq ?_
      refine wc_seq ?_
      refine wc_region ?_
      refine wl_y rfl (y_move rfl) ?_
      refine wl_y rfl (y_move rfl) ?_
      refine wl_y rfl (y_lenSl Tryd.underlying22 rfl) ?_
      refine wl_y rfl (y_lss rfl rfl) ?_
      refine wl_nil ?_
      refine wq_then ?_
      refine wc_cond rfl (fun hc19 => ?_) (fun hc19 => ?_)
      ·
        simp at hc19
        refine wc_skip ?_
        refine wq_then ?_
        refine wc_seq ?_
        refine wc_block ?_
        refine wc_seq ?_
        refine wc_region ?_
        obtain ⟨x, hx⟩ : ∃ x, A[j]? = some x := ⟨_, List.getElem?_eq_getElem (by have := hD.len; omega)⟩
        have hDij := hD.ij
        have hDl := hD.len
        refine wl_y rfl (y_move rfl) ?_
        refine wl_y rfl (y_move rfl) ?_
        refine wl_y rfl (y_indexAddr (i := j) Tryd.underlying22 T24 rfl rfl rfl (by omega) (fun w hw => hw.slc_isSome [] (by omega))) ?_
        refine wl_y rfl (y_loadAgg (l := encF x) AG24 rfl rfl (by first | exact agg_own [] (fun i u h => rows_get encF_len hx h) | exact agg_own [_] (fun i u h => rows_get encF_len hx h) | exact agg_own [_, _] (fun i u h => rows_get encF_len hx h) | exact agg_own [_, _, _] (fun i u h => rows_get encF_len hx h))) ?_
        refine wl_w (fun _ _ => want_none) rfl (yw_alloc T24 rfl) (wl_ex fun b7 _ => ?_)
        first | refine wl_u (yu_storeAgg [] (l' := [_, _]) T24 rfl rfl rfl (by simp [Value.oneCell', encF]) rfl rfl) ?_ | refine wl_u (yu_storeAgg [_] (l' := [_, _]) T24 rfl rfl rfl (by simp [Value.oneCell', encF]) rfl rfl) ?_ | refine wl_u (yu_storeAgg [_, _] (l' := [_, _]) T24 rfl rfl rfl (by simp [Value.oneCell', encF]) rfl rfl) ?_
        refine wl_nil ?_
        refine wq_then ?_
        refine wc_seq ?_
        refine wc_region ?_
        refine wl_y rfl (y_move rfl) ?_
        refine wl_y rfl (y_loadAgg (l := [_, _]) AG24 rfl rfl (by first | exact cells_blk [] rfl | exact cells_blk [_] rfl | exact cells_blk [_, _] rfl | exact cellsR_blk (by assumption) rfl)) ?_
        refine wl_q (fun _ _ => want_none) rfl (yq_spec (fst := []) (cap := cap) _ hg (hp x (List.mem_of_getElem? (hD.get hx))) rfl rfl rfl (by (repeat (first | exact pt_nil | apply pt0 | apply pt1 | apply pt2 | apply pt3 | apply pt4 | apply pt5 | apply pt6 | apply pt7 | apply pt8 | apply pt9 | apply pt10 | apply pt11 | apply pt12 | apply pt13 | apply pt14 | apply pt15 | apply pt16 | apply pt17))) (by (repeat (first | exact ro_nil | exact ro_rest (by assumption) | refine ro_cons (by first | exact .inl (by assumption) | exact ro_f0 (fun _ h => h) | exact ro_f0 (fun _ => slc_rsl) | exact ro_f1 (fun _ h => h) | exact ro_f1 (fun _ => slc_rsl) | exact ro_f2 (fun _ h => h) | exact ro_f2 (fun _ => slc_rsl) | exact ro_f3 (fun _ h => h) | exact ro_f3 (fun _ => slc_rsl) | exact ro_f4 (fun _ h => h) | exact ro_f4 (fun _ => slc_rsl) | exact ro_f5 (fun _ h => h) | exact ro_f5 (fun _ => slc_rsl) | exact ro_f6 (fun _ h => h) | exact ro_f6 (fun _ => slc_rsl)) ?_))) (fun _ _ => rfl) (fun _ _ _ h => h.sub (by (repeat (first | exact pt_nil | apply pt0 | apply pt1 | apply pt2 | apply pt3 | apply pt4 | apply pt5 | apply pt6 | apply pt7 | apply pt8 | apply pt9 | apply pt10 | apply pt11 | apply pt12 | apply pt13 | apply pt14 | apply pt15 | apply pt16 | apply pt17))))) ?_
        refine wl_y rfl (y_not rfl) ?_
        refine wl_nil ?_
        refine wq_then ?_
        refine wc_cond rfl (fun hc29 => ?_) (fun hc29 => ?_)
        ·
          simp at hc29
          refine wc_seq ?_
          refine wc_region ?_
          refine wl_y rfl (y_move rfl) ?_
          refine wl_y rfl (y_move rfl) ?_
          refine wl_y rfl (y_loadAgg (l := [_, _]) AG24 rfl rfl (by first | exact cells_blk [] rfl | exact cells_blk [_] rfl | exact cells_blk [_, _] rfl | exact cellsR_blk (by assumption) rfl)) ?_
          refine wl_y rfl (y_indexAddr (i := i2) Tryd.underlying22 T24 rfl rfl rfl (by omega) (fun w hw => hw.slc_isSome [_] (by omega))) ?_
          refine wl_u (yu_storeAggSl [_] (vs := encF x) T24 rfl rfl rfl (encF_one x) (by rw [rows_length encF_len, encF_len]; omega)) ?_
          refine wl_world (S' := Hp w0 K [blk b7 (.cells (encF x).toArray 24 (0, 0)), slc 24 2 oo l.length cc ((A.set i2 x).flatMap encF)]) (fun w hw => by rw [rows_set encF_len x (by omega)] at hw; exact hw) ?_
          refine wl_nil ?_
          refine wq_then ?_
          refine wc_region ?_
          refine wl_y rfl (y_move rfl) ?_
          refine wl_y rfl (y_add rfl rfl (by omega)) ?_
          refine wl_y rfl (y_assign rfl) ?_
          refine wl_nil ?_
          refine wq_block_normal ?_
          refine wq_then ?_
          refine wc_region ?_
          refine wl_y rfl (y_move rfl) ?_
          refine wl_y rfl (y_add rfl rfl (by omega)) ?_
          refine wl_y rfl (y_assign rfl) ?_
          refine wl_nil ?_
          exact wq_round (A.set i2 x, i2 + 1, j + 1) (by simp only; omega) (hD.keep hx hc29) ⟨rfl, rfl, rfl, rfl, trivial⟩ (fun w hw => hw.sub (by (repeat (first | exact pt_nil | apply pt0 | apply pt1 | apply pt2 | apply pt3 | apply pt4 | apply pt5 | apply pt6 | apply pt7 | apply pt8 | apply pt9 | apply pt10 | apply pt11 | apply pt12 | apply pt13 | apply pt14 | apply pt15 | apply pt16 | apply pt17))))
        ·
          simp at hc29
          refine wc_skip ?_
          refine wq_block_normal ?_
          refine wq_then ?_
          refine wc_region ?_
          refine wl_y rfl (y_move rfl) ?_
          refine wl_y rfl (y_add rfl rfl (by omega)) ?_
          refine wl_y rfl (y_assign rfl) ?_
          refine wl_nil ?_
          exact wq_round (A, i2, j + 1) (by simp only; omega) (hD.skip hx hc29) ⟨rfl, rfl, rfl, rfl, trivial⟩ (fun w hw => hw.sub (by (repeat (first | exact pt_nil | apply pt0 | apply pt1 | apply pt2 | apply pt3 | apply pt4 | apply pt5 | apply pt6 | apply pt7 | apply pt8 | apply pt9 | apply pt10 | apply pt11 | apply pt12 | apply pt13 | apply pt14 | apply pt15 | apply pt16 | apply pt17))))
      ·
        simp at hc19
        refine wc_exit ?_
        refine wq_then_exit (wq_then_exit (wq_block_exit ?_))
        refine wq_then ?_
        refine wc_seq ?_
        refine wc_region ?_
        have hDij := hD.ij
        have hDl := hD.len
        have hDj := hD.jl
        refine wl_have (p := l.length ≤ cc) (fun w hw => hw.slc_le []) (fun hcc => ?_)
        refine wl_y rfl (y_move rfl) ?_
        refine wl_y rfl (y_move rfl) ?_
        refine wl_y rfl (y_sliceSl (i := i2) (j := l.length) Tryd.underlying22 T24 rfl ⟨_, rfl, rfl⟩ rfl (by omega) (by omega)) ?_
        refine yu_clearSl [] Tryd.underlying22 T24 rfl rfl (by simp [Value.oneCell']) rfl (by omega) ?_
        refine wl_nil ?_
        refine wq_then ?_
        refine wc_seq ?_
        refine wc_region ?_
        refine wl_y rfl (y_move rfl) ?_
        refine wl_y rfl (y_move rfl) ?_
        refine wl_y rfl (y_sliceSl (i := 0) (j := i2) Tryd.underlying22 T24 rfl rfl ⟨_, rfl, rfl⟩ (Nat.zero_le _) (by omega)) ?_
        refine wl_y rfl (y_assign rfl) ?_
        refine wl_nil ?_
        refine wq_then ?_
        refine wc_ret ?_
        refine wq_ret1 rfl rfl (fun w hw => ?_)
        have hfin := hD.pre
        rw [show j = l.length by omega, List.take_length] at hfin
        have hfl := congrArg List.length hfin
        rw [List.length_take] at hfl
        have h3 := Hp.mono_at [] hw (fun g hg => slc_take i2 hg (by omega))
        rw [setAll_take, rows_take encF_len i2 (by omega), hfin] at h3
        exact ⟨(_, cc), trivial, by rw [← hfl, Nat.min_eq_left (by omega)]; rfl, by rw [← hfl, Nat.min_eq_left (by omega)]; exact h3⟩

set_option maxHeartbeats 1000000 in
theorem without_c (l : List Fl) (oo : Option Addr) (cc : Nat) (q : Str) (hl : l.length ≤ 1000000) (hq : q.length ≤ 9223372036854775806) :
    Ctr Tryd.prog 36 #[.slice oo l.length cc, vS q] [rsl oo l.length 2 (l.flatMap encF)] [] (fun _ : Option Addr × Nat => True) (fun r => .slice r.1 (withoutF l q).length r.2) (fun r => [slc 24 2 r.1 (withoutF l q).length r.2 ((withoutF l q).flatMap encF)]) := by
  refine spec_start (n := 9) [(0, .slice oo l.length cc), (1, vS q)] Tryd.func36 rfl rfl ⟨rfl, rfl, trivial⟩ rfl ?_
  intro w0 K hR
  have hA := hR _ (List.mem_cons_self ..)
  refine wc_seq ?_
  refine wc_region ?_
  refine wl_w (fun _ _ => want_none) rfl (yw_box rfl rfl) (wl_ex fun b3 _ => ?_)
  refine wl_y rfl (y_assign rfl) ?_
  refine wl_nil ?_
  refine wq_then ?_
  refine wc_seq ?_
  refine wc_region ?_
  refine wl_y rfl (y_move rfl) ?_
  refine wl_c (fun _ _ => want_none) rfl (yc_spec (fst := []) (cap := []) _ FN41 (clone_c l oo cc (by omega)) rfl rfl rfl (by (repeat (first | exact pt_nil | apply pt0 | apply pt1 | apply pt2 | apply pt3 | apply pt4 | apply pt5 | apply pt6 | apply pt7 | apply pt8 | apply pt9 | apply pt10 | apply pt11 | apply pt12 | apply pt13 | apply pt14 | apply pt15 | apply pt16 | apply pt17))) (by (repeat (first | exact ro_nil | exact ro_rest (by assumption) | refine ro_cons (by first | exact .inl (by assumption) | exact ro_f0 (fun _ h => h) | exact ro_f0 (fun _ => slc_rsl) | exact ro_f1 (fun _ h => h) | exact ro_f1 (fun _ => slc_rsl) | exact ro_f2 (fun _ h => h) | exact ro_f2 (fun _ => slc_rsl) | exact ro_f3 (fun _ h => h) | exact ro_f3 (fun _ => slc_rsl) | exact ro_f4 (fun _ h => h) | exact ro_f4 (fun _ => slc_rsl) | exact ro_f5 (fun _ h => h) | exact ro_f5 (fun _ => slc_rsl) | exact ro_f6 (fun _ h => h) | exact ro_f6 (fun _ => slc_rsl)) ?_)))) (wl_ex fun x6 hx6 => ?_)
  refine wl_y rfl (y_makeFunc rfl rfl) ?_
  refine wl_c (fun _ _ => want_none) rfl (yc_spec (fst := []) (cap := []) _ FN50 (deleteFunc_c l x6.1 x6.2 51 [ptr b3] (fun x => below x.1 q || decide (x.1 = q)) [blk b3 (.cells [vS q].toArray 9 (0, 0))] FN51 (fun x _ => withoutIs_c q x b3 hq) (by omega)) rfl rfl rfl (by (repeat (first | exact pt_nil | apply pt0 | apply pt1 | apply pt2 | apply pt3 | apply pt4 | apply pt5 | apply pt6 | apply pt7 | apply pt8 | apply pt9 | apply pt10 | apply pt11 | apply pt12 | apply pt13 | apply pt14 | apply pt15 | apply pt16 | apply pt17))) (by (repeat (first | exact ro_nil | exact ro_rest (by assumption) | refine ro_cons (by first | exact .inl (by assumption) | exact ro_f0 (fun _ h => h) | exact ro_f0 (fun _ => slc_rsl) | exact ro_f1 (fun _ h => h) | exact ro_f1 (fun _ => slc_rsl) | exact ro_f2 (fun _ h => h) | exact ro_f2 (fun _ => slc_rsl) | exact ro_f3 (fun _ h => h) | exact ro_f3 (fun _ => slc_rsl) | exact ro_f4 (fun _ h => h) | exact ro_f4 (fun _ => slc_rsl) | exact ro_f5 (fun _ h => h) | exact ro_f5 (fun _ => slc_rsl) | exact ro_f6 (fun _ h => h) | exact ro_f6 (fun _ => slc_rsl)) ?_)))) (wl_ex fun x8 hx8 => ?_)
  refine wl_y rfl (y_assign rfl) ?_
  refine wl_nil ?_
  refine wq_then ?_
  refine wc_ret ?_
  refine wq_ret1 rfl rfl (fun w hw => ?_)
  have he : withoutF l q = l.filter (fun x => !(below x.1 q || decide (x.1 = q))) := by
    clear hA hR hw hl hx6 hx8
    induction l with
    | nil => rfl
    | cons x l ih =>
      simp only [withoutF, withoutG, List.flatMap_cons, List.filter_cons] at ih ⊢
      rw [ih]
      cases (below x.1 q || decide (x.1 = q)) <;> simp
  exact ⟨x8, trivial, by rw [he], by rw [he]; exact hw.sub (by (repeat (first | exact pt_nil | apply pt0 | apply pt1 | apply pt2 | apply pt3 | apply pt4 | apply pt5 | apply pt6 | apply pt7 | apply pt8 | apply pt9 | apply pt10 | apply pt11 | apply pt12 | apply pt13 | apply pt14 | apply pt15 | apply pt16 | apply pt17)))⟩

end Go.Proofs.YtemopomapankmaaDoor
