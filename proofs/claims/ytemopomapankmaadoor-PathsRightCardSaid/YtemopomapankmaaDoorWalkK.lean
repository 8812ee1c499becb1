/-
  Walks: files below a path.
-/
import Derived.Test.YtemopomapankmaaDoorIntoLaw
namespace Go.Proofs.YtemopomapankmaaDoor
open Go.Eng

set_option maxHeartbeats 1000000 in
theorem into_c (l : List Fl) (oo : Option Addr) (cc : Nat) (q : Str) (hl : l.length ≤ 1000000) (hs : ∀ x ∈ l, x.1.length ≤ 1000000) :
    Ctr Tryd.prog 32 #[.slice oo l.length cc, vS q] [rsl oo l.length 2 (l.flatMap encF)] [] (fun _ : Option Addr × Nat => True) (fun r => .tuple #[.slice r.1 (intoF l q).2.length r.2, vI (intoF l q).1]) (fun r => [slc 24 2 r.1 ((intoF l q).2).length r.2 (((intoF l q).2).flatMap encF)]) := by
  refine spec_start (n := 40) [(0, .slice oo l.length cc), (1, vS q)] Tryd.func32 rfl rfl ⟨rfl, rfl, trivial⟩ rfl ?_
  intro w0 K hR
  have hA := hR _ (List.mem_cons_self ..)
  refine wc_seq ?_
  refine wc_region ?_
  refine wl_y rfl (y_assign rfl) ?_
  refine wl_y rfl (y_assign rfl) ?_
  refine wl_nil ?_
  refine wq_then ?_
  refine wc_seq ?_
  refine wc_seq ?_
  refine wc_region ?_
  refine wl_y rfl (y_move rfl) ?_
  refine wl_q (fun _ _ => want_none) rfl (yq_spec (fst := []) (cap := []) _ FN22 (path_c q) rfl rfl rfl (by (repeat (first | exact pt_nil | apply pt0 | apply pt1 | apply pt2 | apply pt3 | apply pt4 | apply pt5 | apply pt6 | apply pt7 | apply pt8 | apply pt9 | apply pt10 | apply pt11 | apply pt12 | apply pt13 | apply pt14 | apply pt15 | apply pt16 | apply pt17))) (by (repeat (first | exact ro_nil | exact ro_rest (by assumption) | refine ro_cons (by first | exact .inl (by assumption) | exact ro_f0 (fun _ h => h) | exact ro_f0 (fun _ => slc_rsl) | exact ro_f1 (fun _ h => h) | exact ro_f1 (fun _ => slc_rsl) | exact ro_f2 (fun _ h => h) | exact ro_f2 (fun _ => slc_rsl) | exact ro_f3 (fun _ h => h) | exact ro_f3 (fun _ => slc_rsl) | exact ro_f4 (fun _ h => h) | exact ro_f4 (fun _ => slc_rsl) | exact ro_f5 (fun _ h => h) | exact ro_f5 (fun _ => slc_rsl) | exact ro_f6 (fun _ h => h) | exact ro_f6 (fun _ => slc_rsl)) ?_))) (fun _ _ => rfl) (fun _ _ _ h => h.sub (by (repeat (first | exact pt_nil | apply pt0 | apply pt1 | apply pt2 | apply pt3 | apply pt4 | apply pt5 | apply pt6 | apply pt7 | apply pt8 | apply pt9 | apply pt10 | apply pt11 | apply pt12 | apply pt13 | apply pt14 | apply pt15 | apply pt16 | apply pt17))))) ?_
  refine wl_y rfl (y_assign rfl) ?_
  refine wl_nil ?_
  refine wq_then ?_
  refine wc_seq ?_
  refine wc_region ?_
  refine wl_y rfl (y_move rfl) ?_
  refine wl_y rfl (y_neqI rfl rfl) ?_
  refine wl_nil ?_
  refine wq_then ?_
  refine wc_cond rfl (fun hcp => ?_) (fun hcp => ?_)
  ·
    simp at hcp
    obtain ⟨hp1, hp2⟩ := pathE_ne hcp
    refine wc_seq ?_
    refine wc_region ?_
    refine wl_y rfl (y_move rfl) ?_
    refine wl_y rfl (y_assign rfl) ?_
    refine wl_y rfl (y_assign rfl) ?_
    refine wl_nil ?_
    refine wq_then ?_
    refine wc_ret ?_
    refine wq_then_ret ?_
    refine wq_ret2 rfl rfl rfl (fun w hw => ?_)
    exact ⟨(none, 0), trivial, by simp only [intoF_q hp1, hp2]; rfl, by simp only [intoF_q hp1]; exact Hp.addNil [] [] (hw.bare)⟩
  ·
    simp at hcp
    have hq := pathE_eq hcp
    have hql := isPath_len hq
    refine wc_skip ?_
    refine wq_then ?_
    refine wc_seq ?_
    refine wc_region ?_
    refine wl_y rfl (y_assign rfl) ?_
    refine wl_nil ?_
    refine wq_then ?_
    refine wc_seq ?_
    refine wc_seq ?_
    refine wc_region ?_
    refine wl_world (fun w hw => Hp.addNil (e := 24) (sz := 2) [] _ hw) ?_
    refine wl_y rfl (y_move rfl) ?_
    refine wl_y rfl (y_lenSl Tryd.underlying22 rfl) ?_
    refine wl_y rfl (y_move rfl) ?_
    refine wl_nil ?_
    refine wq_then ?_
    refine wc_block ?_
    refine wc_loop (α := Nat × Option Addr × Nat) (fun y => y.1 ≤ l.length ∧ ∀ j z, j < y.1 → l[j]? = some z → isPath (intoX q z).1 = true) [(1, _), (16, _), (17, _)] (fun y => [(18, vI y.1), (7, .slice y.2.1 ((l.take y.1).flatMap (intoG q)).length y.2.2)]) (fun y => Hp w0 K [slc 24 2 y.2.1 ((l.take y.1).flatMap (intoG q)).length y.2.2 (((l.take y.1).flatMap (intoG q)).flatMap encF)]) (fun y => l.length - y.1) (0, none, 0) ?_ ⟨rfl, rfl, rfl, rfl, rfl, trivial⟩ ?_ ?_
    · exact ⟨Nat.zero_le _, fun j _ hj => absurd hj (Nat.not_lt_zero _)⟩
    · exact fun w hw => hw
    · rintro ⟨i, p⟩ ⟨hi, hall⟩; simp only at hi hall
      have hfl := fm_take (intoG_le q) l i
      refine wc_world (S' := Hp w0 K [slc 24 2 p.1 ((l.take i).flatMap (intoG q)).length p.2 (((l.take i).flatMap (intoG q)).flatMap encF)]) (fun w hw => hw) ?_
      refine wc_same 18 (vI i) rfl rfl ?_
      refine wc_same 7 (.slice p.1 ((l.take i).flatMap (intoG q)).length p.2) rfl rfl ?_
      refine wc_seq ?_
      refine wc_region ?_
      refine wl_y rfl (y_lss rfl rfl) ?_
      refine wl_nil ?_
      refine wq_then ?_
      refine wc_seq ?_
      refine wc_cond rfl (fun hci => ?_) (fun hci => ?_)
      ·
        simp at hci
        refine wc_skip ?_
        refine wq_then ?_
        refine wc_seq ?_
        refine wc_block ?_
        refine wc_seq ?_
        refine wc_region ?_
        obtain ⟨x, hx⟩ : ∃ x, l[i]? = some x := ⟨_, List.getElem?_eq_getElem (by omega)⟩
        have hxl := hs x (List.mem_of_getElem? hx)
        refine wl_y rfl (y_indexAddr Tryd.underlying22 T24 rfl rfl rfl (by omega) (by first | assumption | exact fun _ _ => rfl | exact fun _ _ => hA.isSome (by omega) | exact fun w hw => hw.slc_isSome [] (by omega) | exact fun w hw => hw.slc_isSome [_] (by omega) | exact fun w hw => hw.slc_isSome [_, _] (by omega) | exact fun w hw => hw.slc_isSome [_, _, _] (by omega))) ?_
        refine wl_y rfl (y_loadAgg (l := encF x) AG24 rfl rfl (by first | exact agg_ro hA (fun i u h => rows_get encF_len hx h) | exact agg_own [] (fun i u h => rows_get encF_len hx h) | exact agg_own [_] (fun i u h => rows_get encF_len hx h) | exact agg_own [_, _] (fun i u h => rows_get encF_len hx h) | exact agg_own [_, _, _] (fun i u h => rows_get encF_len hx h))) ?_
        refine wl_w (fun _ _ => want_none) rfl (yw_alloc T24 rfl) (wl_ex fun b9 _ => ?_)
        first | refine wl_u (yu_storeAgg [] (l' := [_, _]) T24 rfl rfl rfl (by simp [Value.oneCell', encF]) rfl rfl) ?_ | refine wl_u (yu_storeAgg [_] (l' := [_, _]) T24 rfl rfl rfl (by simp [Value.oneCell', encF]) rfl rfl) ?_ | refine wl_u (yu_storeAgg [_, _] (l' := [_, _]) T24 rfl rfl rfl (by simp [Value.oneCell', encF]) rfl rfl) ?_
        refine wl_nil ?_
        refine wq_then ?_
        refine wc_seq ?_
        refine wc_region ?_
        refine wl_y rfl (y_move rfl) ?_
        refine wl_y rfl (y_addS rfl rfl (by simp; omega)) ?_
        refine wl_y rfl (y_fieldAddr F24_0 rfl) ?_
        refine wl_y rfl (y_load NA9 rfl (by first | exact cell_blk [] rfl | exact cell_blk [_] rfl | exact cell_blk [_, _] rfl | exact cellR_blk (by assumption) rfl)) ?_
        refine wl_y rfl (y_addS rfl rfl (by simp; omega)) ?_
        refine wl_y rfl (y_fieldAddr F24_0 rfl) ?_
        first | refine wl_u (yu_store [] (l' := [_, _]) T9 rfl rfl rfl rfl rfl rfl rfl) ?_ | refine wl_u (yu_store [_] (l' := [_, _]) T9 rfl rfl rfl rfl rfl rfl rfl) ?_ | refine wl_u (yu_store [_, _] (l' := [_, _]) T9 rfl rfl rfl rfl rfl rfl rfl) ?_
        refine wl_nil ?_
        refine wq_then ?_
        refine wc_seq ?_
        refine wc_seq ?_
        refine wc_region ?_
        refine wl_y rfl (y_fieldAddr F24_0 rfl) ?_
        refine wl_y rfl (y_load NA9 rfl (by first | exact cell_blk [] rfl | exact cell_blk [_] rfl | exact cell_blk [_, _] rfl | exact cellR_blk (by assumption) rfl)) ?_
        refine wl_q (fun _ _ => want_none) rfl (yq_spec (fst := []) (cap := []) _ FN22 (path_c (intoX q x).1) rfl rfl rfl (by (repeat (first | exact pt_nil | apply pt0 | apply pt1 | apply pt2 | apply pt3 | apply pt4 | apply pt5 | apply pt6 | apply pt7 | apply pt8 | apply pt9 | apply pt10 | apply pt11 | apply pt12 | apply pt13 | apply pt14 | apply pt15 | apply pt16 | apply pt17))) (by (repeat (first | exact ro_nil | exact ro_rest (by assumption) | refine ro_cons (by first | exact .inl (by assumption) | exact ro_f0 (fun _ h => h) | exact ro_f0 (fun _ => slc_rsl) | exact ro_f1 (fun _ h => h) | exact ro_f1 (fun _ => slc_rsl) | exact ro_f2 (fun _ h => h) | exact ro_f2 (fun _ => slc_rsl) | exact ro_f3 (fun _ h => h) | exact ro_f3 (fun _ => slc_rsl) | exact ro_f4 (fun _ h => h) | exact ro_f4 (fun _ => slc_rsl) | exact ro_f5 (fun _ h => h) | exact ro_f5 (fun _ => slc_rsl) | exact ro_f6 (fun _ h => h) | exact ro_f6 (fun _ => slc_rsl)) ?_))) (fun _ _ => rfl) (fun _ _ _ h => h.sub (by (repeat (first | exact pt_nil | apply pt0 | apply pt1 | apply pt2 | apply pt3 | apply pt4 | apply pt5 | apply pt6 | apply pt7 | apply pt8 | apply pt9 | apply pt10 | apply pt11 | apply pt12 | apply pt13 | apply pt14 | apply pt15 | apply pt16 | apply pt17))))) ?_
        refine wl_y rfl (y_assign rfl) ?_
        refine wl_nil ?_
        refine wq_then ?_
        refine wc_seq ?_
        refine wc_region ?_
        refine wl_y rfl (y_move rfl) ?_
        refine wl_y rfl (y_neqI rfl rfl) ?_
        refine wl_nil ?_
        refine wq_then ?_
        refine wc_cond rfl (fun hcx => ?_) (fun hcx => ?_)
        ·
          simp at hcx
          obtain ⟨hp1, hp2⟩ := pathE_ne hcx
          refine wc_seq ?_
          refine wc_region ?_
          refine wl_y rfl (y_move rfl) ?_
          refine wl_y rfl (y_assign rfl) ?_
          refine wl_y rfl (y_assign rfl) ?_
          refine wl_nil ?_
          refine wq_then ?_
          refine wc_ret ?_
          refine wq_then_ret (wq_block_ret (wq_then_ret (wq_then_ret (wq_block_ret (wq_then_ret ?_)))))
          refine wq_ret2 rfl rfl rfl (fun w hw => ?_)
          exact ⟨(none, 0), trivial, by simp only [intoF_x (List.mem_of_getElem? hx) hp1, hp2]; rfl, by simp only [intoF_x (List.mem_of_getElem? hx) hp1]; exact Hp.addNil [] [] (hw.bare)⟩
        ·
          simp at hcx
          have hxp := pathE_eq hcx
          refine wc_skip ?_
          refine wq_then ?_
          refine wc_region ?_
          refine wl_y rfl (y_move rfl) ?_
          refine wl_y rfl (y_loadAgg (l := [_, _]) AG24 rfl rfl (by first | exact cells_blk [] rfl | exact cells_blk [_] rfl | exact cells_blk [_, _] rfl | exact cellsR_blk (by assumption) rfl)) ?_
          refine wl_w (fun _ _ => want_none) rfl (yw_buildSlice (cs := encF (intoX q x)) Tryd.underlying22 T24 rfl rfl rfl rfl rfl rfl rfl) (wl_ex fun b36 _ => ?_)
          refine wl_w (fun _ _ => want_none) rfl (yw_append [_, _] Tryd.underlying22 Tryd.underlying22 (.inl ⟨_, rfl⟩) T24 rfl rfl rfl (fun w hw => Src.slice ((hw.seen []).mono fun _ => slc_rsl)) (by omega) (by unfold maxLen; omega) (encF_one _) rfl) (wl_ex fun p37 hp37 => ?_)
          refine wl_y rfl (y_assign rfl) ?_
          have hst : (l.take (i + 1)).flatMap (intoG q) = (l.take i).flatMap (intoG q) ++ [intoX q x] := by rw [fm_step hx]; simp [intoG]
          refine wl_same 7 (.slice p37.1 ((l.take (i + 1)).flatMap (intoG q)).length p37.2) rfl (by rw [hst, List.length_append]; rfl) ?_
          refine wl_nil ?_
          refine wq_block_normal ?_
          refine wq_then ?_
          refine wc_region ?_
          refine wl_y rfl (y_add rfl rfl (by omega)) ?_
          refine wl_y rfl (y_move rfl) ?_
          refine wl_nil ?_
          exact wq_round (i + 1, p37) (by simp only; omega) ⟨by simp only; omega, step_of hall hx hxp⟩ ⟨rfl, rfl, rfl, rfl, rfl, trivial⟩ (fun w hw => by simp only; rw [hst, List.length_append, List.flatMap_append, List.flatMap_singleton]; exact hw.sub (by (repeat (first | exact pt_nil | apply pt0 | apply pt1 | apply pt2 | apply pt3 | apply pt4 | apply pt5 | apply pt6 | apply pt7 | apply pt8 | apply pt9 | apply pt10 | apply pt11 | apply pt12 | apply pt13 | apply pt14 | apply pt15 | apply pt16 | apply pt17))))
      ·
        simp at hci
        refine wc_exit ?_
        refine wq_then_exit (wq_then_exit (wq_block_exit ?_))
        refine wq_then ?_
        refine wc_seq ?_
        refine wc_region ?_
        refine wl_y rfl (y_move rfl) ?_
        refine wl_y rfl (y_assign rfl) ?_
        refine wl_y rfl (y_assign rfl) ?_
        refine wl_nil ?_
        refine wq_then ?_
        refine wc_ret ?_
        refine wq_ret2 rfl rfl rfl (fun w hw => ?_)
        have hil : i = l.length := by omega
        subst hil
        rw [List.take_length] at hw
        exact ⟨p, trivial, by rw [intoF_ok hq (all_of_step hall (Nat.le_refl _)), List.take_length], by rw [intoF_ok hq (all_of_step hall (Nat.le_refl _))]; exact hw⟩

set_option maxHeartbeats 1000000 in
theorem rinto_c (l : List Fl) (oo : Option Addr) (cc : Nat) (q : Str) (hl : l.length ≤ 1000000) (hs : ∀ x ∈ l, x.1.length ≤ 1000000) :
    Ctr Tryd.prog 33 #[.slice oo l.length cc, vS q] [rsl oo l.length 2 (l.flatMap encF)] [] (fun _ : Option Addr × Nat => True) (fun r => .tuple #[.slice r.1 (intoF l q).2.length r.2, vI (intoF l q).1]) (fun r => [slc 24 2 r.1 ((intoF l q).2).length r.2 (((intoF l q).2).flatMap encF)]) := by
  refine spec_start (n := 40) [(0, .slice oo l.length cc), (1, vS q)] Tryd.func33 rfl rfl ⟨rfl, rfl, trivial⟩ rfl ?_
  intro w0 K hR
  have hA := hR _ (List.mem_cons_self ..)
  refine wc_seq ?_
  refine wc_region ?_
  refine wl_y rfl (y_assign rfl) ?_
  refine wl_y rfl (y_assign rfl) ?_
  refine wl_nil ?_
  refine wq_then ?_
  refine wc_seq ?_
  refine wc_seq ?_
  refine wc_region ?_
  refine wl_y rfl (y_move rfl) ?_
  refine wl_q (fun _ _ => want_none) rfl (yq_spec (fst := []) (cap := []) _ FN23 (rpath_c q) rfl rfl rfl (by (repeat (first | exact pt_nil | apply pt0 | apply pt1 | apply pt2 | apply pt3 | apply pt4 | apply pt5 | apply pt6 | apply pt7 | apply pt8 | apply pt9 | apply pt10 | apply pt11 | apply pt12 | apply pt13 | apply pt14 | apply pt15 | apply pt16 | apply pt17))) (by (repeat (first | exact ro_nil | exact ro_rest (by assumption) | refine ro_cons (by first | exact .inl (by assumption) | exact ro_f0 (fun _ h => h) | exact ro_f0 (fun _ => slc_rsl) | exact ro_f1 (fun _ h => h) | exact ro_f1 (fun _ => slc_rsl) | exact ro_f2 (fun _ h => h) | exact ro_f2 (fun _ => slc_rsl) | exact ro_f3 (fun _ h => h) | exact ro_f3 (fun _ => slc_rsl) | exact ro_f4 (fun _ h => h) | exact ro_f4 (fun _ => slc_rsl) | exact ro_f5 (fun _ h => h) | exact ro_f5 (fun _ => slc_rsl) | exact ro_f6 (fun _ h => h) | exact ro_f6 (fun _ => slc_rsl)) ?_))) (fun _ _ => rfl) (fun _ _ _ h => h.sub (by (repeat (first | exact pt_nil | apply pt0 | apply pt1 | apply pt2 | apply pt3 | apply pt4 | apply pt5 | apply pt6 | apply pt7 | apply pt8 | apply pt9 | apply pt10 | apply pt11 | apply pt12 | apply pt13 | apply pt14 | apply pt15 | apply pt16 | apply pt17))))) ?_
  refine wl_y rfl (y_neqI rfl rfl) ?_
  refine wl_nil ?_
  refine wq_then ?_
  refine wc_cond rfl (fun hcp => ?_) (fun hcp => ?_)
  ·
    simp at hcp
    obtain ⟨hp1, hp2⟩ := pathE_ne hcp
    refine wc_seq ?_
    refine wc_region ?_
    refine wl_y rfl (y_assign rfl) ?_
    refine wl_y rfl (y_assign rfl) ?_
    refine wl_nil ?_
    refine wq_then ?_
    refine wc_ret ?_
    refine wq_then_ret ?_
    refine wq_ret2 rfl rfl rfl (fun w hw => ?_)
    exact ⟨(none, 0), trivial, by simp only [intoF_q hp1]; rfl, by simp only [intoF_q hp1]; exact Hp.addNil [] [] (hw.bare)⟩
  ·
    simp at hcp
    have hq := pathE_eq hcp
    have hql := isPath_len hq
    refine wc_skip ?_
    refine wq_then ?_
    refine wc_seq ?_
    refine wc_region ?_
    refine wl_y rfl (y_assign rfl) ?_
    refine wl_nil ?_
    refine wq_then ?_
    refine wc_seq ?_
    refine wc_seq ?_
    refine wc_region ?_
    refine wl_world (fun w hw => Hp.addNil (e := 24) (sz := 2) [] _ hw) ?_
    refine wl_y rfl (y_assign rfl) ?_
    refine wl_nil ?_
    refine wq_then ?_
    refine wc_block ?_
    refine wc_loop (α := Nat × Option Addr × Nat) (fun y => y.1 ≤ l.length ∧ ∀ j z, j < y.1 → l[j]? = some z → isPath (intoX q z).1 = true) [(0, _), (1, _)] (fun y => [(7, vI y.1), (6, .slice y.2.1 ((l.take y.1).flatMap (intoG q)).length y.2.2)]) (fun y => Hp w0 K [slc 24 2 y.2.1 ((l.take y.1).flatMap (intoG q)).length y.2.2 (((l.take y.1).flatMap (intoG q)).flatMap encF)]) (fun y => l.length - y.1) (0, none, 0) ?_ ⟨rfl, rfl, rfl, rfl, trivial⟩ ?_ ?_
    · exact ⟨Nat.zero_le _, fun j _ hj => absurd hj (Nat.not_lt_zero _)⟩
    · exact fun w hw => hw
    · rintro ⟨i, p⟩ ⟨hi, hall⟩; simp only at hi hall
      have hfl := fm_take (intoG_le q) l i
      refine wc_world (S' := Hp w0 K [slc 24 2 p.1 ((l.take i).flatMap (intoG q)).length p.2 (((l.take i).flatMap (intoG q)).flatMap encF)]) (fun w hw => hw) ?_
      refine wc_same 7 (vI i) rfl rfl ?_
      refine wc_same 6 (.slice p.1 ((l.take i).flatMap (intoG q)).length p.2) rfl rfl ?_
      refine wc_seq ?_
      refine wc_seq ?_
      refine wc_region ?_
      refine wl_y rfl (y_move rfl) ?_
      refine wl_y rfl (y_move rfl) ?_
      refine wl_y rfl (y_lenSl Tryd.underlying22 rfl) ?_
      refine wl_y rfl (y_lss rfl rfl) ?_
      refine wl_nil ?_
      refine wq_then ?_
      refine wc_cond rfl (fun hci => ?_) (fun hci => ?_)
      ·
        simp at hci
        refine wc_skip ?_
        refine wq_then ?_
        refine wc_seq ?_
        refine wc_block ?_
        refine wc_seq ?_
        refine wc_region ?_
        obtain ⟨x, hx⟩ : ∃ x, l[i]? = some x := ⟨_, List.getElem?_eq_getElem (by omega)⟩
        have hxl := hs x (List.mem_of_getElem? hx)
        refine wl_y rfl (y_move rfl) ?_
        refine wl_y rfl (y_addS rfl rfl (by simp; omega)) ?_
        refine wl_y rfl (y_move rfl) ?_
        refine wl_y rfl (y_move rfl) ?_
        refine wl_y rfl (y_indexAddr Tryd.underlying22 T24 rfl rfl rfl (by omega) (by first | assumption | exact fun _ _ => rfl | exact fun _ _ => hA.isSome (by omega) | exact fun w hw => hw.slc_isSome [] (by omega) | exact fun w hw => hw.slc_isSome [_] (by omega) | exact fun w hw => hw.slc_isSome [_, _] (by omega) | exact fun w hw => hw.slc_isSome [_, _, _] (by omega))) ?_
        refine wl_y rfl (y_fieldAddr_adr F24_0 rfl) ?_
        refine wl_y rfl (y_load NA9 rfl (by first | exact cell_ro hA (rows_get encF_len hx rfl) | exact cell_own [] (rows_get encF_len hx rfl) | exact cell_own [_] (rows_get encF_len hx rfl) | exact cell_own [_, _] (rows_get encF_len hx rfl) | exact cell_own [_, _, _] (rows_get encF_len hx rfl))) ?_
        refine wl_y rfl (y_addS rfl rfl (by simp; omega)) ?_
        refine wl_y rfl (y_assign rfl) ?_
        refine wl_nil ?_
        refine wq_then ?_
        refine wc_seq ?_
        refine wc_seq ?_
        refine wc_region ?_
        refine wl_y rfl (y_move rfl) ?_
        refine wl_q (fun _ _ => want_none) rfl (yq_spec (fst := []) (cap := []) _ FN23 (rpath_c (intoX q x).1) rfl rfl rfl (by (repeat (first | exact pt_nil | apply pt0 | apply pt1 | apply pt2 | apply pt3 | apply pt4 | apply pt5 | apply pt6 | apply pt7 | apply pt8 | apply pt9 | apply pt10 | apply pt11 | apply pt12 | apply pt13 | apply pt14 | apply pt15 | apply pt16 | apply pt17))) (by (repeat (first | exact ro_nil | exact ro_rest (by assumption) | refine ro_cons (by first | exact .inl (by assumption) | exact ro_f0 (fun _ h => h) | exact ro_f0 (fun _ => slc_rsl) | exact ro_f1 (fun _ h => h) | exact ro_f1 (fun _ => slc_rsl) | exact ro_f2 (fun _ h => h) | exact ro_f2 (fun _ => slc_rsl) | exact ro_f3 (fun _ h => h) | exact ro_f3 (fun _ => slc_rsl) | exact ro_f4 (fun _ h => h) | exact ro_f4 (fun _ => slc_rsl) | exact ro_f5 (fun _ h => h) | exact ro_f5 (fun _ => slc_rsl) | exact ro_f6 (fun _ h => h) | exact ro_f6 (fun _ => slc_rsl)) ?_))) (fun _ _ => rfl) (fun _ _ _ h => h.sub (by (repeat (first | exact pt_nil | apply pt0 | apply pt1 | apply pt2 | apply pt3 | apply pt4 | apply pt5 | apply pt6 | apply pt7 | apply pt8 | apply pt9 | apply pt10 | apply pt11 | apply pt12 | apply pt13 | apply pt14 | apply pt15 | apply pt16 | apply pt17))))) ?_
        refine wl_y rfl (y_neqI rfl rfl) ?_
        refine wl_nil ?_
        refine wq_then ?_
        refine wc_cond rfl (fun hcx => ?_) (fun hcx => ?_)
        ·
          simp at hcx
          obtain ⟨hp1, hp2⟩ := pathE_ne hcx
          refine wc_seq ?_
          refine wc_region ?_
          refine wl_y rfl (y_assign rfl) ?_
          refine wl_y rfl (y_assign rfl) ?_
          refine wl_nil ?_
          refine wq_then ?_
          refine wc_ret ?_
          refine wq_then_ret (wq_block_ret (wq_then_ret (wq_then_ret (wq_block_ret (wq_then_ret ?_)))))
          refine wq_ret2 rfl rfl rfl (fun w hw => ?_)
          exact ⟨(none, 0), trivial, by simp only [intoF_x (List.mem_of_getElem? hx) hp1]; rfl, by simp only [intoF_x (List.mem_of_getElem? hx) hp1]; exact Hp.addNil [] [] (hw.bare)⟩
        ·
          simp at hcx
          have hxp := pathE_eq hcx
          refine wc_skip ?_
          refine wq_then ?_
          refine wc_region ?_
          refine wl_y rfl (y_move rfl) ?_
          refine wl_y rfl (y_move rfl) ?_
          refine wl_y rfl (y_move rfl) ?_
          refine wl_y rfl (y_move rfl) ?_
          refine wl_y rfl (y_indexAddr Tryd.underlying22 T24 rfl rfl rfl (by omega) (by first | assumption | exact fun _ _ => rfl | exact fun _ _ => hA.isSome (by omega) | exact fun w hw => hw.slc_isSome [] (by omega) | exact fun w hw => hw.slc_isSome [_] (by omega) | exact fun w hw => hw.slc_isSome [_, _] (by omega) | exact fun w hw => hw.slc_isSome [_, _, _] (by omega))) ?_
          refine wl_y rfl (y_fieldAddr_adr F24_1 rfl) ?_
          refine wl_y rfl (y_load NA9 rfl (by first | exact cell_ro hA (rows_get encF_len hx rfl) | exact cell_own [] (rows_get encF_len hx rfl) | exact cell_own [_] (rows_get encF_len hx rfl) | exact cell_own [_, _] (rows_get encF_len hx rfl) | exact cell_own [_, _, _] (rows_get encF_len hx rfl))) ?_
          refine wl_y rfl (y_build (cs := [_, _]) T24 PL24 rfl rfl rfl) ?_
          refine wl_w (fun _ _ => want_none) rfl (yw_buildSlice (cs := encF (intoX q x)) Tryd.underlying22 T24 rfl rfl rfl rfl rfl rfl rfl) (wl_ex fun b37 _ => ?_)
          refine wl_w (fun _ _ => want_none) rfl (yw_append [_] Tryd.underlying22 Tryd.underlying22 (.inl ⟨_, rfl⟩) T24 rfl rfl rfl (fun w hw => Src.slice ((hw.seen []).mono fun _ => slc_rsl)) (by omega) (by unfold maxLen; omega) (encF_one _) rfl) (wl_ex fun p38 hp38 => ?_)
          refine wl_y rfl (y_assign rfl) ?_
          have hst : (l.take (i + 1)).flatMap (intoG q) = (l.take i).flatMap (intoG q) ++ [intoX q x] := by rw [fm_step hx]; simp [intoG]
          refine wl_same 6 (.slice p38.1 ((l.take (i + 1)).flatMap (intoG q)).length p38.2) rfl (by rw [hst, List.length_append]; rfl) ?_
          refine wl_nil ?_
          refine wq_block_normal ?_
          refine wq_then ?_
          refine wc_region ?_
          refine wl_y rfl (y_move rfl) ?_
          refine wl_y rfl (y_add rfl rfl (by omega)) ?_
          refine wl_y rfl (y_assign rfl) ?_
          refine wl_nil ?_
          exact wq_round (i + 1, p38) (by simp only; omega) ⟨by simp only; omega, step_of hall hx hxp⟩ ⟨rfl, rfl, rfl, rfl, trivial⟩ (fun w hw => by simp only; rw [hst, List.length_append, List.flatMap_append, List.flatMap_singleton]; exact hw.sub (by (repeat (first | exact pt_nil | apply pt0 | apply pt1 | apply pt2 | apply pt3 | apply pt4 | apply pt5 | apply pt6 | apply pt7 | apply pt8 | apply pt9 | apply pt10 | apply pt11 | apply pt12 | apply pt13 | apply pt14 | apply pt15 | apply pt16 | apply pt17))))
      ·
        simp at hci
        refine wc_exit ?_
        refine wq_then_exit (wq_then_exit (wq_block_exit ?_))
        refine wq_then ?_
        refine wc_seq ?_
        refine wc_region ?_
        refine wl_y rfl (y_move rfl) ?_
        refine wl_y rfl (y_assign rfl) ?_
        refine wl_y rfl (y_assign rfl) ?_
        refine wl_nil ?_
        refine wq_then ?_
        refine wc_ret ?_
        refine wq_ret2 rfl rfl rfl (fun w hw => ?_)
        have hil : i = l.length := by omega
        subst hil
        rw [List.take_length] at hw
        exact ⟨p, trivial, by rw [intoF_ok hq (all_of_step hall (Nat.le_refl _)), List.take_length], by rw [intoF_ok hq (all_of_step hall (Nat.le_refl _))]; exact hw⟩

end Go.Proofs.YtemopomapankmaaDoor
