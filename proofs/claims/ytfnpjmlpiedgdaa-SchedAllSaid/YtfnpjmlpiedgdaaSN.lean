/-
  Law: all jobs come.
-/
import Derived.Test.YtfnpjmlpiedgdaaSM
namespace Go.Proofs.Ytfnpjmlpiedgdaa
open Go.Eng

set_option maxHeartbeats 1000000 in
theorem lawAll (a n : Int) (ops : List SOp) (oo : Option Addr) (cc : Nat) (hks : ∀ x ∈ ops, x.job.key.length ≤ maxLen) :
    Ctr Try.prog 3 #[vI a, vI n, .slice oo ops.length cc] [rsl oo ops.length 7 (ops.flatMap encO)] [] (fun _ : Unit => True) (fun _ => vB true) (fun _ => []) := by
  refine spec_start (n := 161) [(0, vI a), (1, vI n), (2, .slice oo ops.length cc)] Try.func3 rfl rfl ⟨rfl, rfl, rfl, trivial⟩ rfl ?_
  intro w0 K hR
  have hA := hR _ (List.mem_cons_self ..)
  refine wc_seq ?_
  refine wc_region ?_
  refine wl_y rfl (y_assign rfl) ?_
  refine wl_nil ?_
  refine wq_then ?_
  refine wc_seq ?_
  refine wc_region ?_
  rcases (show (a < 1 ∨ 1000000 < a) ∨ (1 ≤ a ∧ a ≤ 1000000 ∧ (n < 1 ∨ 1000000 < n)) ∨ (1 ≤ a ∧ a ≤ 1000000 ∧ 1 ≤ n ∧ n ≤ 1000000) by omega) with h | ⟨a1, a2, h⟩ | ⟨a1, a2, h1, h2⟩
  ·
    refine wl_y rfl (y_move rfl) ?_
    refine wl_y rfl (y_move rfl) ?_
    refine wl_c (fun _ _ => want_none) rfl (yc_spec (fst := []) (cap := []) _ FN7 (snew_a a n h) rfl rfl rfl (by (repeat (first | exact pt_nil | apply pt0 | apply pt1 | apply pt2 | apply pt3 | apply pt4 | apply pt5 | apply pt6 | apply pt7 | apply pt8 | apply pt9 | apply pt10 | apply pt11 | apply pt12 | apply pt13 | apply pt14 | apply pt15 | apply pt16 | apply pt17))) (by (repeat (first | exact ro_nil | exact ro_rest (by assumption) | refine ro_cons (by first | exact .inl (by assumption) | exact ro_f0 (fun _ h => h) | exact ro_f0 (fun _ => slc_rsl) | exact ro_f1 (fun _ h => h) | exact ro_f1 (fun _ => slc_rsl) | exact ro_f2 (fun _ h => h) | exact ro_f2 (fun _ => slc_rsl) | exact ro_f3 (fun _ h => h) | exact ro_f3 (fun _ => slc_rsl) | exact ro_f4 (fun _ h => h) | exact ro_f4 (fun _ => slc_rsl) | exact ro_f5 (fun _ h => h) | exact ro_f5 (fun _ => slc_rsl) | exact ro_f6 (fun _ h => h) | exact ro_f6 (fun _ => slc_rsl)) ?_)))) (wl_ex fun x23 hx23 => ?_)
    refine wl_y rfl (y_move rfl) ?_
    refine wl_y rfl (y_extract rfl rfl) ?_
    refine wl_y rfl (y_extract rfl rfl) ?_
    refine wl_y rfl (y_assign rfl) ?_
    refine wl_y rfl (y_assign rfl) ?_
    refine wl_nil ?_
    refine wq_then ?_
    refine wc_seq ?_
    refine wc_seq ?_
    refine wc_region ?_
    refine wl_y rfl (y_move rfl) ?_
    refine wl_y rfl (y_neqI rfl rfl) ?_
    refine wl_nil ?_
    refine wq_then ?_
    refine wc_known 27 true rfl (by decide) ?_
    refine wc_cond_true rfl ?_
    refine wc_seq ?_
    refine wc_region ?_
    refine wl_y rfl (y_move rfl) ?_
    refine wl_y rfl (y_eqlI rfl rfl) ?_
    refine wl_y rfl (y_move rfl) ?_
    refine wl_known 30 true rfl (by decide) ?_
    refine wl_yg rfl rfl rfl (y_move rfl) ?_
    refine wl_yg rfl rfl rfl (y_eqlP Try.underlying23 rfl rfl) ?_
    refine wl_y rfl (y_pick_t rfl rfl) ?_
    refine wl_y rfl (y_move rfl) ?_
    refine wl_known 34 true rfl (by decide) ?_
    refine wl_q (want_some rfl rfl) rfl (yq_spec (fst := []) (cap := []) _ FN8 awake_c rfl rfl rfl (by (repeat (first | exact pt_nil | apply pt0 | apply pt1 | apply pt2 | apply pt3 | apply pt4 | apply pt5 | apply pt6 | apply pt7 | apply pt8 | apply pt9 | apply pt10 | apply pt11 | apply pt12 | apply pt13 | apply pt14 | apply pt15 | apply pt16 | apply pt17))) (by (repeat (first | exact ro_nil | exact ro_rest (by assumption) | refine ro_cons (by first | exact .inl (by assumption) | exact ro_f0 (fun _ h => h) | exact ro_f0 (fun _ => slc_rsl) | exact ro_f1 (fun _ h => h) | exact ro_f1 (fun _ => slc_rsl) | exact ro_f2 (fun _ h => h) | exact ro_f2 (fun _ => slc_rsl) | exact ro_f3 (fun _ h => h) | exact ro_f3 (fun _ => slc_rsl) | exact ro_f4 (fun _ h => h) | exact ro_f4 (fun _ => slc_rsl) | exact ro_f5 (fun _ h => h) | exact ro_f5 (fun _ => slc_rsl) | exact ro_f6 (fun _ h => h) | exact ro_f6 (fun _ => slc_rsl)) ?_))) (fun _ _ => rfl) (fun _ _ _ h => h.sub (by (repeat (first | exact pt_nil | apply pt0 | apply pt1 | apply pt2 | apply pt3 | apply pt4 | apply pt5 | apply pt6 | apply pt7 | apply pt8 | apply pt9 | apply pt10 | apply pt11 | apply pt12 | apply pt13 | apply pt14 | apply pt15 | apply pt16 | apply pt17))))) ?_
    refine wl_y rfl (y_pick_t rfl rfl) ?_
    refine wl_y rfl (y_assign rfl) ?_
    refine wl_nil ?_
    refine wq_then ?_
    refine wc_ret ?_
    refine wq_then_ret ?_
    refine wq_ret1 rfl rfl (fun w hw => ?_)
    exact ⟨(), trivial, rfl, hw.bare⟩
  ·
    refine wl_y rfl (y_move rfl) ?_
    refine wl_y rfl (y_move rfl) ?_
    refine wl_c (fun _ _ => want_none) rfl (yc_spec (fst := []) (cap := []) _ FN7 (snew_b a n a1 a2 h) rfl rfl rfl (by (repeat (first | exact pt_nil | apply pt0 | apply pt1 | apply pt2 | apply pt3 | apply pt4 | apply pt5 | apply pt6 | apply pt7 | apply pt8 | apply pt9 | apply pt10 | apply pt11 | apply pt12 | apply pt13 | apply pt14 | apply pt15 | apply pt16 | apply pt17))) (by (repeat (first | exact ro_nil | exact ro_rest (by assumption) | refine ro_cons (by first | exact .inl (by assumption) | exact ro_f0 (fun _ h => h) | exact ro_f0 (fun _ => slc_rsl) | exact ro_f1 (fun _ h => h) | exact ro_f1 (fun _ => slc_rsl) | exact ro_f2 (fun _ h => h) | exact ro_f2 (fun _ => slc_rsl) | exact ro_f3 (fun _ h => h) | exact ro_f3 (fun _ => slc_rsl) | exact ro_f4 (fun _ h => h) | exact ro_f4 (fun _ => slc_rsl) | exact ro_f5 (fun _ h => h) | exact ro_f5 (fun _ => slc_rsl) | exact ro_f6 (fun _ h => h) | exact ro_f6 (fun _ => slc_rsl)) ?_)))) (wl_ex fun x23 hx23 => ?_)
    refine wl_y rfl (y_move rfl) ?_
    refine wl_y rfl (y_extract rfl rfl) ?_
    refine wl_y rfl (y_extract rfl rfl) ?_
    refine wl_y rfl (y_assign rfl) ?_
    refine wl_y rfl (y_assign rfl) ?_
    refine wl_nil ?_
    refine wq_then ?_
    refine wc_seq ?_
    refine wc_seq ?_
    refine wc_region ?_
    refine wl_y rfl (y_move rfl) ?_
    refine wl_y rfl (y_neqI rfl rfl) ?_
    refine wl_nil ?_
    refine wq_then ?_
    refine wc_known 27 true rfl (by decide) ?_
    refine wc_cond_true rfl ?_
    refine wc_seq ?_
    refine wc_region ?_
    refine wl_y rfl (y_move rfl) ?_
    refine wl_y rfl (y_eqlI rfl rfl) ?_
    refine wl_y rfl (y_move rfl) ?_
    refine wl_known 30 true rfl (by decide) ?_
    refine wl_yg rfl rfl rfl (y_move rfl) ?_
    refine wl_yg rfl rfl rfl (y_eqlP Try.underlying23 rfl rfl) ?_
    refine wl_y rfl (y_pick_t rfl rfl) ?_
    refine wl_y rfl (y_move rfl) ?_
    refine wl_known 34 true rfl (by decide) ?_
    refine wl_q (want_some rfl rfl) rfl (yq_spec (fst := []) (cap := []) _ FN8 awake_c rfl rfl rfl (by (repeat (first | exact pt_nil | apply pt0 | apply pt1 | apply pt2 | apply pt3 | apply pt4 | apply pt5 | apply pt6 | apply pt7 | apply pt8 | apply pt9 | apply pt10 | apply pt11 | apply pt12 | apply pt13 | apply pt14 | apply pt15 | apply pt16 | apply pt17))) (by (repeat (first | exact ro_nil | exact ro_rest (by assumption) | refine ro_cons (by first | exact .inl (by assumption) | exact ro_f0 (fun _ h => h) | exact ro_f0 (fun _ => slc_rsl) | exact ro_f1 (fun _ h => h) | exact ro_f1 (fun _ => slc_rsl) | exact ro_f2 (fun _ h => h) | exact ro_f2 (fun _ => slc_rsl) | exact ro_f3 (fun _ h => h) | exact ro_f3 (fun _ => slc_rsl) | exact ro_f4 (fun _ h => h) | exact ro_f4 (fun _ => slc_rsl) | exact ro_f5 (fun _ h => h) | exact ro_f5 (fun _ => slc_rsl) | exact ro_f6 (fun _ h => h) | exact ro_f6 (fun _ => slc_rsl)) ?_))) (fun _ _ => rfl) (fun _ _ _ h => h.sub (by (repeat (first | exact pt_nil | apply pt0 | apply pt1 | apply pt2 | apply pt3 | apply pt4 | apply pt5 | apply pt6 | apply pt7 | apply pt8 | apply pt9 | apply pt10 | apply pt11 | apply pt12 | apply pt13 | apply pt14 | apply pt15 | apply pt16 | apply pt17))))) ?_
    refine wl_y rfl (y_pick_t rfl rfl) ?_
    refine wl_y rfl (y_assign rfl) ?_
    refine wl_nil ?_
    refine wq_then ?_
    refine wc_ret ?_
    refine wq_then_ret ?_
    refine wq_ret1 rfl rfl (fun w hw => ?_)
    exact ⟨(), trivial, rfl, hw.bare⟩
  ·
    refine wl_y rfl (y_move rfl) ?_
    refine wl_y rfl (y_move rfl) ?_
    refine wl_c (fun _ _ => want_none) rfl (yc_spec (fst := []) (cap := []) _ FN7 (snew_ok a n a1 a2 h1 h2) rfl rfl rfl (by (repeat (first | exact pt_nil | apply pt0 | apply pt1 | apply pt2 | apply pt3 | apply pt4 | apply pt5 | apply pt6 | apply pt7 | apply pt8 | apply pt9 | apply pt10 | apply pt11 | apply pt12 | apply pt13 | apply pt14 | apply pt15 | apply pt16 | apply pt17))) (by (repeat (first | exact ro_nil | exact ro_rest (by assumption) | refine ro_cons (by first | exact .inl (by assumption) | exact ro_f0 (fun _ h => h) | exact ro_f0 (fun _ => slc_rsl) | exact ro_f1 (fun _ h => h) | exact ro_f1 (fun _ => slc_rsl) | exact ro_f2 (fun _ h => h) | exact ro_f2 (fun _ => slc_rsl) | exact ro_f3 (fun _ h => h) | exact ro_f3 (fun _ => slc_rsl) | exact ro_f4 (fun _ h => h) | exact ro_f4 (fun _ => slc_rsl) | exact ro_f5 (fun _ h => h) | exact ro_f5 (fun _ => slc_rsl) | exact ro_f6 (fun _ h => h) | exact ro_f6 (fun _ => slc_rsl)) ?_)))) (wl_ex fun x23 hx23 => ?_)
    refine wl_y rfl (y_move rfl) ?_
    refine wl_y rfl (y_extract rfl rfl) ?_
    refine wl_y rfl (y_extract rfl rfl) ?_
    refine wl_y rfl (y_assign rfl) ?_
    refine wl_y rfl (y_assign rfl) ?_
    refine wl_nil ?_
    refine wq_then ?_
    refine wc_seq ?_
    refine wc_seq ?_
    refine wc_region ?_
    refine wl_y rfl (y_move rfl) ?_
    refine wl_y rfl (y_neqI rfl rfl) ?_
    refine wl_nil ?_
    refine wq_then ?_
    refine wc_known 27 false rfl (by decide) ?_
    refine wc_cond_false rfl ?_
    refine wc_skip ?_
    refine wq_then ?_
    refine wc_seq ?_
    refine wc_region ?_
    refine wl_w (fun _ _ => want_none) rfl (yw_makeMap (ek := vS) (ev := vB)) (wl_ex fun b37 _ => ?_)
    refine wl_y rfl (y_assign rfl) ?_
    refine wl_nil ?_
    refine wq_then ?_
    refine wc_seq ?_
    refine wc_region ?_
    refine wl_w (fun _ _ => want_none) rfl (yw_makeMap (ek := vS) (ev := vB)) (wl_ex fun b38 _ => ?_)
    refine wl_y rfl (y_assign rfl) ?_
    refine wl_nil ?_
    refine wq_then ?_
    refine wc_seq ?_
    refine wc_seq ?_
    refine wc_region ?_
    refine wl_y rfl (y_assign rfl) ?_
    refine wl_nil ?_
    refine wq_then ?_
    refine wc_block ?_
    refine wc_loop (α := Nat × Sc × List (Str × Bool)) (fun y => y.1 ≤ ops.length ∧ y.1 ≤ 100 ∧ P1 y.2.1 y.2.2 n y.1) [(2, _), (7, _), (9, _), (10, _)] (fun y => [(11, vI y.1)]) (fun y => Hp w0 K [scA x23 y.2.1, mapA vS vB b37 y.2.1.th, mapA vS vB b38 y.2.2]) (fun y => ops.length - y.1) (0, ⟨a, 0, [], ⟨n, 0, []⟩, [], []⟩, []) ?_ ⟨rfl, rfl, rfl, rfl, rfl, trivial⟩ ?_ ?_
    · exact ⟨Nat.zero_le _, Nat.zero_le _, in_new a1 a2, rfl, Nat.le_refl _⟩
    · exact fun w hw => hw.sub (by (repeat (first | exact pt_nil | apply pt0 | apply pt1 | apply pt2 | apply pt3 | apply pt4 | apply pt5 | apply pt6 | apply pt7 | apply pt8 | apply pt9 | apply pt10 | apply pt11 | apply pt12 | apply pt13 | apply pt14 | apply pt15 | apply pt16 | apply pt17)))
    · rintro ⟨i, s, W⟩ ⟨hi, hi2, hI⟩; simp only at hi hi2 hI
      refine wc_world (S' := Hp w0 K [scA x23 s, mapA vS vB b37 s.th, mapA vS vB b38 W]) (fun w hw => hw) ?_
      refine wc_same 11 (vI i) rfl rfl ?_
      refine wc_seq ?_
      refine wc_seq ?_
      refine wc_region ?_
      refine wl_y rfl (y_move rfl) ?_
      refine wl_y rfl (y_move rfl) ?_
      refine wl_y rfl (y_lenSl Try.underlying22 rfl) ?_
      refine wl_y rfl (y_lss rfl rfl) ?_
      refine wl_y rfl (y_move rfl) ?_
      apply wl_and 3 46 [(2, _), (7, _), (9, _), (10, _), (11, _)] (t := 43) rfl ⟨rfl, rfl, rfl, rfl, rfl, trivial⟩
      · intro hg43 hM46
        try (simp at hg43)
        refine wl_yg rfl rfl rfl (y_move rfl) ?_
        refine wl_yg rfl rfl rfl (y_lss rfl rfl) ?_
        refine wl_y rfl (y_pick_t rfl rfl) ?_
        exact wl_weaken hM46 ⟨rfl, rfl, rfl, rfl, rfl, rfl, trivial⟩
      · intro hg43 hM46
        refine wl_sk rfl rfl rfl rfl ?_
        refine wl_sk rfl rfl rfl rfl ?_
        refine wl_y rfl (y_pick_f rfl rfl) ?_
        exact wl_weaken hM46 ⟨rfl, rfl, rfl, rfl, rfl, rfl, trivial⟩
      ·
        refine wl_nil ?_
        refine wq_then ?_
        refine wc_cond rfl (fun hc46 => ?_) (fun hc46 => ?_)
        ·
          simp at hc46
          refine wc_skip ?_
          refine wq_then ?_
          refine wc_seq ?_
          refine wc_block ?_
          refine wc_seq ?_
          refine wc_region ?_
          obtain ⟨x, hx⟩ : ∃ x, ops[i]? = some x := ⟨_, List.getElem?_eq_getElem (by omega)⟩
          have hkl := hks x (List.mem_of_getElem? hx)
          have hi490 : i ≤ 490 := by omega
          refine wl_y rfl (y_move rfl) ?_
          refine wl_y rfl (y_move rfl) ?_
          refine wl_y rfl (y_indexAddr Try.underlying22 T32 rfl rfl rfl (by omega) (by first | assumption | exact fun _ _ => rfl | exact fun _ _ => hA.isSome (by omega) | exact fun w hw => hw.slc_isSome [] (by omega) | exact fun w hw => hw.slc_isSome [_] (by omega) | exact fun w hw => hw.slc_isSome [_, _] (by omega) | exact fun w hw => hw.slc_isSome [_, _, _] (by omega) | exact fun w hw => hw.slc_isSome [_, _, _, _] (by omega) | exact fun w hw => hw.slc_isSome [_, _, _, _, _] (by omega) | exact fun w hw => hw.slc_isSome [_, _, _, _, _, _] (by omega) | exact fun w hw => hw.slc_isSome [_, _, _, _, _, _, _] (by omega) | exact fun w hw => hw.slc_isSome [_, _, _, _, _, _, _, _] (by omega))) ?_
          refine wl_y rfl (y_loadAgg (l := encO x) AG32 rfl rfl (by first | exact agg_ro hA (fun i u h => rows_get encO_len hx h) | exact agg_own [] (fun i u h => rows_get encO_len hx h) | exact agg_own [_] (fun i u h => rows_get encO_len hx h) | exact agg_own [_, _] (fun i u h => rows_get encO_len hx h) | exact agg_own [_, _, _] (fun i u h => rows_get encO_len hx h) | exact agg_own [_, _, _, _] (fun i u h => rows_get encO_len hx h) | exact agg_own [_, _, _, _, _] (fun i u h => rows_get encO_len hx h) | exact agg_own [_, _, _, _, _, _] (fun i u h => rows_get encO_len hx h) | exact agg_own [_, _, _, _, _, _, _] (fun i u h => rows_get encO_len hx h) | exact agg_own [_, _, _, _, _, _, _, _] (fun i u h => rows_get encO_len hx h))) ?_
          refine wl_w (fun _ _ => want_none) rfl (yw_alloc T32 rfl) (wl_ex fun b12 _ => ?_)
          first | refine wl_u (yu_storeAgg [] (l' := [_, _, _, _, _, _, _]) T32 rfl rfl rfl (by simp [Value.oneCell', encL, encJ, encO]) rfl rfl) ?_ | refine wl_u (yu_storeAgg [_] (l' := [_, _, _, _, _, _, _]) T32 rfl rfl rfl (by simp [Value.oneCell', encL, encJ, encO]) rfl rfl) ?_ | refine wl_u (yu_storeAgg [_, _] (l' := [_, _, _, _, _, _, _]) T32 rfl rfl rfl (by simp [Value.oneCell', encL, encJ, encO]) rfl rfl) ?_ | refine wl_u (yu_storeAgg [_, _, _] (l' := [_, _, _, _, _, _, _]) T32 rfl rfl rfl (by simp [Value.oneCell', encL, encJ, encO]) rfl rfl) ?_ | refine wl_u (yu_storeAgg [_, _, _, _] (l' := [_, _, _, _, _, _, _]) T32 rfl rfl rfl (by simp [Value.oneCell', encL, encJ, encO]) rfl rfl) ?_ | refine wl_u (yu_storeAgg [_, _, _, _, _] (l' := [_, _, _, _, _, _, _]) T32 rfl rfl rfl (by simp [Value.oneCell', encL, encJ, encO]) rfl rfl) ?_ | refine wl_u (yu_storeAgg [_, _, _, _, _, _] (l' := [_, _, _, _, _, _, _]) T32 rfl rfl rfl (by simp [Value.oneCell', encL, encJ, encO]) rfl rfl) ?_ | refine wl_u (yu_storeAgg [_, _, _, _, _, _, _] (l' := [_, _, _, _, _, _, _]) T32 rfl rfl rfl (by simp [Value.oneCell', encL, encJ, encO]) rfl rfl) ?_ | refine wl_u (yu_storeAgg [_, _, _, _, _, _, _, _] (l' := [_, _, _, _, _, _, _]) T32 rfl rfl rfl (by simp [Value.oneCell', encL, encJ, encO]) rfl rfl) ?_
          refine wl_nil ?_
          refine wq_then ?_
          refine wc_seq ?_
          refine wc_region ?_
          refine wl_y rfl (y_fieldAddr F32_0 rfl) ?_
          refine wl_y rfl (y_load NA3 rfl (by first | exact cell_blk [] rfl | exact cell_blk [_] rfl | exact cell_blk [_, _] rfl | exact cell_blk [_, _, _] rfl | exact cell_blk [_, _, _, _] rfl | exact cell_blk [_, _, _, _, _] rfl | exact cell_blk [_, _, _, _, _, _] rfl | exact cell_blk [_, _, _, _, _, _, _] rfl | exact cell_blk [_, _, _, _, _, _, _, _] rfl | exact cellR_blk (by assumption) rfl)) ?_
          refine wl_nil ?_
          refine wq_then ?_
          refine wc_block ?_
          refine wc_seq ?_
          refine wc_region ?_
          refine wl_y rfl (y_eqlI rfl rfl) ?_
          refine wl_y rfl (y_assign rfl) ?_
          refine wl_nil ?_
          refine wq_then ?_
          refine wc_cond rfl (fun hc55 => ?_) (fun hc55 => ?_)
          ·
            simp at hc55
            refine wc_seq ?_
            refine wc_region ?_
            refine wl_y rfl (y_move rfl) ?_
            refine wl_y rfl (y_fieldAddr F32_1 rfl) ?_
            refine wl_y rfl (y_loadAgg (l := [_, _, _]) AG30 rfl rfl (by first | exact cells_blk [] rfl | exact cells_blk [_] rfl | exact cells_blk [_, _] rfl | exact cells_blk [_, _, _] rfl | exact cells_blk [_, _, _, _] rfl | exact cells_blk [_, _, _, _, _] rfl | exact cells_blk [_, _, _, _, _, _] rfl | exact cells_blk [_, _, _, _, _, _, _] rfl | exact cells_blk [_, _, _, _, _, _, _, _] rfl | exact cellsR_blk (by assumption) rfl)) ?_
            refine wl_c (fun _ _ => want_none) rfl (yc_spec (fst := []) (cap := []) _ FN9 (sadd_c x23 s x.job ((hI.inn.qk hi490).mono (by omega))) rfl rfl rfl (by (repeat (first | exact pt_nil | apply pt0 | apply pt1 | apply pt2 | apply pt3 | apply pt4 | apply pt5 | apply pt6 | apply pt7 | apply pt8 | apply pt9 | apply pt10 | apply pt11 | apply pt12 | apply pt13 | apply pt14 | apply pt15 | apply pt16 | apply pt17))) (by (repeat (first | exact ro_nil | exact ro_rest (by assumption) | refine ro_cons (by first | exact .inl (by assumption) | exact ro_f0 (fun _ h => h) | exact ro_f0 (fun _ => slc_rsl) | exact ro_f1 (fun _ h => h) | exact ro_f1 (fun _ => slc_rsl) | exact ro_f2 (fun _ h => h) | exact ro_f2 (fun _ => slc_rsl) | exact ro_f3 (fun _ h => h) | exact ro_f3 (fun _ => slc_rsl) | exact ro_f4 (fun _ h => h) | exact ro_f4 (fun _ => slc_rsl) | exact ro_f5 (fun _ h => h) | exact ro_f5 (fun _ => slc_rsl) | exact ro_f6 (fun _ h => h) | exact ro_f6 (fun _ => slc_rsl)) ?_)))) (wl_ex fun x60 hx60 => ?_)
            rcases add_cases s x.job with ⟨ha, hm, hs⟩ | ⟨ha, hm, hs⟩ | ⟨ha, hm, hs⟩
            ·
              refine wl_y rfl (y_eqlI rfl rfl) ?_
              refine wl_nil ?_
              refine wq_then ?_
              refine wc_known 61 false rfl (by rw [ha]; decide) ?_
              refine wc_cond_false rfl ?_
              refine wc_skip ?_
              refine wq_block_normal ?_
              refine wq_block_normal ?_
              refine wq_then ?_
              refine wc_region ?_
              refine wl_y rfl (y_move rfl) ?_
              refine wl_y rfl (y_add rfl rfl (by omega)) ?_
              refine wl_y rfl (y_assign rfl) ?_
              refine wl_nil ?_
              exact wq_round (i + 1, (s.add x.job).1, W) (by simp only; omega) ⟨by simp only; omega, by simp only; omega, hI.add hi490 _ hkl⟩ ⟨rfl, rfl, rfl, rfl, rfl, trivial⟩ (fun w hw => by simp only; rw [hs] at hw ⊢; exact hw.sub (by (repeat (first | exact pt_nil | apply pt0 | apply pt1 | apply pt2 | apply pt3 | apply pt4 | apply pt5 | apply pt6 | apply pt7 | apply pt8 | apply pt9 | apply pt10 | apply pt11 | apply pt12 | apply pt13 | apply pt14 | apply pt15 | apply pt16 | apply pt17))))
            ·
              refine wl_y rfl (y_eqlI rfl rfl) ?_
              refine wl_nil ?_
              refine wq_then ?_
              refine wc_known 61 true rfl (by rw [ha]; decide) ?_
              refine wc_cond_true rfl ?_
              refine wc_region ?_
              refine wl_y rfl (y_move rfl) ?_
              refine wl_y rfl (y_fieldAddr F32_1 rfl) ?_
              refine wl_y rfl (y_fieldAddr F30_0 rfl) ?_
              refine wl_y rfl (y_load NA9 rfl (by first | exact cell_blk [] rfl | exact cell_blk [_] rfl | exact cell_blk [_, _] rfl | exact cell_blk [_, _, _] rfl | exact cell_blk [_, _, _, _] rfl | exact cell_blk [_, _, _, _, _] rfl | exact cell_blk [_, _, _, _, _, _] rfl | exact cell_blk [_, _, _, _, _, _, _] rfl | exact cell_blk [_, _, _, _, _, _, _, _] rfl | exact cellR_blk (by assumption) rfl)) ?_
              first | refine wl_u (yu_mapUpdate [] Try.underlying28 (keyE_str Try.underlying9) rfl rfl rfl) ?_ | refine wl_u (yu_mapUpdate [_] Try.underlying28 (keyE_str Try.underlying9) rfl rfl rfl) ?_ | refine wl_u (yu_mapUpdate [_, _] Try.underlying28 (keyE_str Try.underlying9) rfl rfl rfl) ?_ | refine wl_u (yu_mapUpdate [_, _, _] Try.underlying28 (keyE_str Try.underlying9) rfl rfl rfl) ?_ | refine wl_u (yu_mapUpdate [_, _, _, _] Try.underlying28 (keyE_str Try.underlying9) rfl rfl rfl) ?_ | refine wl_u (yu_mapUpdate [_, _, _, _, _] Try.underlying28 (keyE_str Try.underlying9) rfl rfl rfl) ?_ | refine wl_u (yu_mapUpdate [_, _, _, _, _, _] Try.underlying28 (keyE_str Try.underlying9) rfl rfl rfl) ?_ | refine wl_u (yu_mapUpdate [_, _, _, _, _, _, _] Try.underlying28 (keyE_str Try.underlying9) rfl rfl rfl) ?_ | refine wl_u (yu_mapUpdate [_, _, _, _, _, _, _, _] Try.underlying28 (keyE_str Try.underlying9) rfl rfl rfl) ?_
              refine wl_nil ?_
              refine wq_block_normal ?_
              refine wq_block_normal ?_
              refine wq_then ?_
              refine wc_region ?_
              refine wl_y rfl (y_move rfl) ?_
              refine wl_y rfl (y_add rfl rfl (by omega)) ?_
              refine wl_y rfl (y_assign rfl) ?_
              refine wl_nil ?_
              exact wq_round (i + 1, (s.add x.job).1, W) (by simp only; omega) ⟨by simp only; omega, by simp only; omega, hI.add hi490 _ hkl⟩ ⟨rfl, rfl, rfl, rfl, rfl, trivial⟩ (fun w hw => by simp only; rw [hs]; exact hw.sub (by (repeat (first | exact pt_nil | apply pt0 | apply pt1 | apply pt2 | apply pt3 | apply pt4 | apply pt5 | apply pt6 | apply pt7 | apply pt8 | apply pt9 | apply pt10 | apply pt11 | apply pt12 | apply pt13 | apply pt14 | apply pt15 | apply pt16 | apply pt17))))
            ·
              refine wl_y rfl (y_eqlI rfl rfl) ?_
              refine wl_nil ?_
              refine wq_then ?_
              refine wc_known 61 false rfl (by rw [ha]; decide) ?_
              refine wc_cond_false rfl ?_
              refine wc_skip ?_
              refine wq_block_normal ?_
              refine wq_block_normal ?_
              refine wq_then ?_
              refine wc_region ?_
              refine wl_y rfl (y_move rfl) ?_
              refine wl_y rfl (y_add rfl rfl (by omega)) ?_
              refine wl_y rfl (y_assign rfl) ?_
              refine wl_nil ?_
              exact wq_round (i + 1, (s.add x.job).1, W) (by simp only; omega) ⟨by simp only; omega, by simp only; omega, hI.add hi490 _ hkl⟩ ⟨rfl, rfl, rfl, rfl, rfl, trivial⟩ (fun w hw => by simp only; rw [hs] at hw ⊢; exact hw.sub (by (repeat (first | exact pt_nil | apply pt0 | apply pt1 | apply pt2 | apply pt3 | apply pt4 | apply pt5 | apply pt6 | apply pt7 | apply pt8 | apply pt9 | apply pt10 | apply pt11 | apply pt12 | apply pt13 | apply pt14 | apply pt15 | apply pt16 | apply pt17))))
          ·
            simp at hc55
            refine wc_seq ?_
            refine wc_region ?_
            refine wl_y rfl (y_eqlI rfl rfl) ?_
            refine wl_y rfl (y_assign rfl) ?_
            refine wl_nil ?_
            refine wq_then ?_
            refine wc_cond rfl (fun hc66 => ?_) (fun hc66 => ?_)
            ·
              simp at hc66
              refine wc_seq ?_
              refine wc_region ?_
              refine wl_y rfl (y_move rfl) ?_
              refine wl_y rfl (y_fieldAddr F32_2 rfl) ?_
              refine wl_y rfl (y_load NA9 rfl (by first | exact cell_blk [] rfl | exact cell_blk [_] rfl | exact cell_blk [_, _] rfl | exact cell_blk [_, _, _] rfl | exact cell_blk [_, _, _, _] rfl | exact cell_blk [_, _, _, _, _] rfl | exact cell_blk [_, _, _, _, _, _] rfl | exact cell_blk [_, _, _, _, _, _, _] rfl | exact cell_blk [_, _, _, _, _, _, _, _] rfl | exact cellR_blk (by assumption) rfl)) ?_
              refine wl_c (fun _ _ => want_none) rfl (yc_spec (fst := []) (cap := []) _ FN10 (sjoin_c x23 s x.worker) rfl rfl rfl (by (repeat (first | exact pt_nil | apply pt0 | apply pt1 | apply pt2 | apply pt3 | apply pt4 | apply pt5 | apply pt6 | apply pt7 | apply pt8 | apply pt9 | apply pt10 | apply pt11 | apply pt12 | apply pt13 | apply pt14 | apply pt15 | apply pt16 | apply pt17))) (by (repeat (first | exact ro_nil | exact ro_rest (by assumption) | refine ro_cons (by first | exact .inl (by assumption) | exact ro_f0 (fun _ h => h) | exact ro_f0 (fun _ => slc_rsl) | exact ro_f1 (fun _ h => h) | exact ro_f1 (fun _ => slc_rsl) | exact ro_f2 (fun _ h => h) | exact ro_f2 (fun _ => slc_rsl) | exact ro_f3 (fun _ h => h) | exact ro_f3 (fun _ => slc_rsl) | exact ro_f4 (fun _ h => h) | exact ro_f4 (fun _ => slc_rsl) | exact ro_f5 (fun _ h => h) | exact ro_f5 (fun _ => slc_rsl) | exact ro_f6 (fun _ h => h) | exact ro_f6 (fun _ => slc_rsl)) ?_)))) (wl_ex fun x71 hx71 => ?_)
              rcases join_cases s x.worker with ⟨hj, hs⟩ | ⟨hj, hn9, hs⟩
              ·
                refine wl_y rfl (y_eqlI rfl rfl) ?_
                refine wl_nil ?_
                refine wq_then ?_
                refine wc_known 72 false rfl (decide_eq_false hj) ?_
                refine wc_cond_false rfl ?_
                refine wc_skip ?_
                refine wq_block_normal ?_
                refine wq_block_normal ?_
                refine wq_then ?_
                refine wc_region ?_
                refine wl_y rfl (y_move rfl) ?_
                refine wl_y rfl (y_add rfl rfl (by omega)) ?_
                refine wl_y rfl (y_assign rfl) ?_
                refine wl_nil ?_
                exact wq_round (i + 1, s, W) (by simp only; omega) ⟨by simp only; omega, by simp only; omega, hI.up⟩ ⟨rfl, rfl, rfl, rfl, rfl, trivial⟩ (fun w hw => by rw [hs] at hw; exact hw.sub (by (repeat (first | exact pt_nil | apply pt0 | apply pt1 | apply pt2 | apply pt3 | apply pt4 | apply pt5 | apply pt6 | apply pt7 | apply pt8 | apply pt9 | apply pt10 | apply pt11 | apply pt12 | apply pt13 | apply pt14 | apply pt15 | apply pt16 | apply pt17))))
              ·
                refine wl_y rfl (y_eqlI rfl rfl) ?_
                refine wl_nil ?_
                refine wq_then ?_
                refine wc_known 72 true rfl (decide_eq_true hj) ?_
                refine wc_cond_true rfl ?_
                refine wc_region ?_
                refine wl_y rfl (y_move rfl) ?_
                refine wl_y rfl (y_fieldAddr F32_2 rfl) ?_
                refine wl_y rfl (y_load NA9 rfl (by first | exact cell_blk [] rfl | exact cell_blk [_] rfl | exact cell_blk [_, _] rfl | exact cell_blk [_, _, _] rfl | exact cell_blk [_, _, _, _] rfl | exact cell_blk [_, _, _, _, _] rfl | exact cell_blk [_, _, _, _, _, _] rfl | exact cell_blk [_, _, _, _, _, _, _] rfl | exact cell_blk [_, _, _, _, _, _, _, _] rfl | exact cellR_blk (by assumption) rfl)) ?_
                first | refine wl_u (yu_mapUpdate [] Try.underlying28 (keyE_str Try.underlying9) rfl rfl rfl) ?_ | refine wl_u (yu_mapUpdate [_] Try.underlying28 (keyE_str Try.underlying9) rfl rfl rfl) ?_ | refine wl_u (yu_mapUpdate [_, _] Try.underlying28 (keyE_str Try.underlying9) rfl rfl rfl) ?_ | refine wl_u (yu_mapUpdate [_, _, _] Try.underlying28 (keyE_str Try.underlying9) rfl rfl rfl) ?_ | refine wl_u (yu_mapUpdate [_, _, _, _] Try.underlying28 (keyE_str Try.underlying9) rfl rfl rfl) ?_ | refine wl_u (yu_mapUpdate [_, _, _, _, _] Try.underlying28 (keyE_str Try.underlying9) rfl rfl rfl) ?_ | refine wl_u (yu_mapUpdate [_, _, _, _, _, _] Try.underlying28 (keyE_str Try.underlying9) rfl rfl rfl) ?_ | refine wl_u (yu_mapUpdate [_, _, _, _, _, _, _] Try.underlying28 (keyE_str Try.underlying9) rfl rfl rfl) ?_ | refine wl_u (yu_mapUpdate [_, _, _, _, _, _, _, _] Try.underlying28 (keyE_str Try.underlying9) rfl rfl rfl) ?_
                refine wl_nil ?_
                refine wq_block_normal ?_
                refine wq_block_normal ?_
                refine wq_then ?_
                refine wc_region ?_
                refine wl_y rfl (y_move rfl) ?_
                refine wl_y rfl (y_add rfl rfl (by omega)) ?_
                refine wl_y rfl (y_assign rfl) ?_
                refine wl_nil ?_
                exact wq_round (i + 1, (s.join x.worker).1, mput W x.worker true) (by simp only; omega) ⟨by simp only; omega, by simp only; omega, hI.join hs⟩ ⟨rfl, rfl, rfl, rfl, rfl, trivial⟩ (fun w hw => by simp only; rw [join_th]; exact hw.sub (by (repeat (first | exact pt_nil | apply pt0 | apply pt1 | apply pt2 | apply pt3 | apply pt4 | apply pt5 | apply pt6 | apply pt7 | apply pt8 | apply pt9 | apply pt10 | apply pt11 | apply pt12 | apply pt13 | apply pt14 | apply pt15 | apply pt16 | apply pt17))))
            ·
              simp at hc66
              refine wc_seq ?_
              refine wc_region ?_
              refine wl_y rfl (y_eqlI rfl rfl) ?_
              refine wl_y rfl (y_assign rfl) ?_
              refine wl_nil ?_
              refine wq_then ?_
              refine wc_cond rfl (fun hc76 => ?_) (fun hc76 => ?_)
              ·
                simp at hc76
                refine wc_region ?_
                refine wl_y rfl (y_move rfl) ?_
                refine wl_y rfl (y_fieldAddr F32_2 rfl) ?_
                refine wl_y rfl (y_load NA9 rfl (by first | exact cell_blk [] rfl | exact cell_blk [_] rfl | exact cell_blk [_, _] rfl | exact cell_blk [_, _, _] rfl | exact cell_blk [_, _, _, _] rfl | exact cell_blk [_, _, _, _, _] rfl | exact cell_blk [_, _, _, _, _, _] rfl | exact cell_blk [_, _, _, _, _, _, _] rfl | exact cell_blk [_, _, _, _, _, _, _, _] rfl | exact cellR_blk (by assumption) rfl)) ?_
                refine wl_y rfl (y_fieldAddr F32_4 rfl) ?_
                refine wl_y rfl (y_load NA3 rfl (by first | exact cell_blk [] rfl | exact cell_blk [_] rfl | exact cell_blk [_, _] rfl | exact cell_blk [_, _, _] rfl | exact cell_blk [_, _, _, _] rfl | exact cell_blk [_, _, _, _, _] rfl | exact cell_blk [_, _, _, _, _, _] rfl | exact cell_blk [_, _, _, _, _, _, _] rfl | exact cell_blk [_, _, _, _, _, _, _, _] rfl | exact cellR_blk (by assumption) rfl)) ?_
                refine wl_c (fun _ _ => want_none) rfl (yc_spec (fst := []) (cap := []) _ FN11 (snext_c x23 s x.worker x.now n i hI.inn h1 h2 hi490) rfl rfl rfl (by (repeat (first | exact pt_nil | apply pt0 | apply pt1 | apply pt2 | apply pt3 | apply pt4 | apply pt5 | apply pt6 | apply pt7 | apply pt8 | apply pt9 | apply pt10 | apply pt11 | apply pt12 | apply pt13 | apply pt14 | apply pt15 | apply pt16 | apply pt17))) (by (repeat (first | exact ro_nil | exact ro_rest (by assumption) | refine ro_cons (by first | exact .inl (by assumption) | exact ro_f0 (fun _ h => h) | exact ro_f0 (fun _ => slc_rsl) | exact ro_f1 (fun _ h => h) | exact ro_f1 (fun _ => slc_rsl) | exact ro_f2 (fun _ h => h) | exact ro_f2 (fun _ => slc_rsl) | exact ro_f3 (fun _ h => h) | exact ro_f3 (fun _ => slc_rsl) | exact ro_f4 (fun _ h => h) | exact ro_f4 (fun _ => slc_rsl) | exact ro_f5 (fun _ h => h) | exact ro_f5 (fun _ => slc_rsl) | exact ro_f6 (fun _ h => h) | exact ro_f6 (fun _ => slc_rsl)) ?_)))) (wl_ex fun x83 hx83 => ?_)
                refine wl_nil ?_
                refine wq_block_normal ?_
                refine wq_block_normal ?_
                refine wq_then ?_
                refine wc_region ?_
                refine wl_y rfl (y_move rfl) ?_
                refine wl_y rfl (y_add rfl rfl (by omega)) ?_
                refine wl_y rfl (y_assign rfl) ?_
                refine wl_nil ?_
                exact wq_round (i + 1, (s.next x.worker x.now).1, W) (by simp only; omega) ⟨by simp only; omega, by simp only; omega, hI.next hi490 _ _⟩ ⟨rfl, rfl, rfl, rfl, rfl, trivial⟩ (fun w hw => by simp only; rw [next_th hI.inn hi490]; exact hw.sub (by (repeat (first | exact pt_nil | apply pt0 | apply pt1 | apply pt2 | apply pt3 | apply pt4 | apply pt5 | apply pt6 | apply pt7 | apply pt8 | apply pt9 | apply pt10 | apply pt11 | apply pt12 | apply pt13 | apply pt14 | apply pt15 | apply pt16 | apply pt17))))
              ·
                simp at hc76
                refine wc_skip ?_
                refine wq_block_normal ?_
                refine wq_block_normal ?_
                refine wq_then ?_
                refine wc_region ?_
                refine wl_y rfl (y_move rfl) ?_
                refine wl_y rfl (y_add rfl rfl (by omega)) ?_
                refine wl_y rfl (y_assign rfl) ?_
                refine wl_nil ?_
                exact wq_round (i + 1, s, W) (by simp only; omega) ⟨by simp only; omega, by simp only; omega, hI.up⟩ ⟨rfl, rfl, rfl, rfl, rfl, trivial⟩ (fun w hw => hw.sub (by (repeat (first | exact pt_nil | apply pt0 | apply pt1 | apply pt2 | apply pt3 | apply pt4 | apply pt5 | apply pt6 | apply pt7 | apply pt8 | apply pt9 | apply pt10 | apply pt11 | apply pt12 | apply pt13 | apply pt14 | apply pt15 | apply pt16 | apply pt17))))
        ·
          simp at hc46
          refine wc_exit ?_
          refine wq_then_exit (wq_then_exit (wq_block_exit ?_))
          refine wq_then ?_
          refine wc_seq ?_
          refine wc_seq ?_
          refine wc_region ?_
          refine wl_y rfl (y_move rfl) ?_
          first | refine wl_w (fun _ _ => want_none) rfl (yw_range [] Try.underlying28 rfl) (wl_ex fun b85 _ => ?_) | refine wl_w (fun _ _ => want_none) rfl (yw_range [_] Try.underlying28 rfl) (wl_ex fun b85 _ => ?_) | refine wl_w (fun _ _ => want_none) rfl (yw_range [_, _] Try.underlying28 rfl) (wl_ex fun b85 _ => ?_) | refine wl_w (fun _ _ => want_none) rfl (yw_range [_, _, _] Try.underlying28 rfl) (wl_ex fun b85 _ => ?_) | refine wl_w (fun _ _ => want_none) rfl (yw_range [_, _, _, _] Try.underlying28 rfl) (wl_ex fun b85 _ => ?_) | refine wl_w (fun _ _ => want_none) rfl (yw_range [_, _, _, _, _] Try.underlying28 rfl) (wl_ex fun b85 _ => ?_) | refine wl_w (fun _ _ => want_none) rfl (yw_range [_, _, _, _, _, _] Try.underlying28 rfl) (wl_ex fun b85 _ => ?_) | refine wl_w (fun _ _ => want_none) rfl (yw_range [_, _, _, _, _, _, _] Try.underlying28 rfl) (wl_ex fun b85 _ => ?_) | refine wl_w (fun _ _ => want_none) rfl (yw_range [_, _, _, _, _, _, _, _] Try.underlying28 rfl) (wl_ex fun b85 _ => ?_)
          refine wl_nil ?_
          refine wq_then ?_
          refine wc_block ?_
          refine wc_loop (α := List Str × Sc × Nat) (fun y => P2 y.2.1 W y.1 n y.2.2) [(7, _), (9, _), (85, _)] (fun y => []) (fun y => Hp w0 K [rngA vS vB b38 b85 W y.1, scA x23 y.2.1, mapA vS vB b37 y.2.1.th]) (fun y => leftM W y.1) ([], s, i) ?_ ⟨rfl, rfl, rfl, trivial⟩ ?_ ?_
          · exact hI.two hi2
          · exact fun w hw => hw.sub (by (repeat (first | exact pt_nil | apply pt0 | apply pt1 | apply pt2 | apply pt3 | apply pt4 | apply pt5 | apply pt6 | apply pt7 | apply pt8 | apply pt9 | apply pt10 | apply pt11 | apply pt12 | apply pt13 | apply pt14 | apply pt15 | apply pt16 | apply pt17)))
          · have hWk := hI.keyed
            clear hI
            rintro ⟨dn, s, k⟩ hI; simp only at hI
            have hc9 := hI.cnt
            refine wc_world (S' := Hp w0 K [rngA vS vB b38 b85 W dn, scA x23 s, mapA vS vB b37 s.th]) (fun w hw => hw) ?_
            refine wc_seq ?_
            refine wc_region ?_
            first | refine wl_w (fun _ _ => want_none) rfl (yw_next [] rfl) (wl_ex fun x86 hx86 => ?_) | refine wl_w (fun _ _ => want_none) rfl (yw_next [_] rfl) (wl_ex fun x86 hx86 => ?_) | refine wl_w (fun _ _ => want_none) rfl (yw_next [_, _] rfl) (wl_ex fun x86 hx86 => ?_) | refine wl_w (fun _ _ => want_none) rfl (yw_next [_, _, _] rfl) (wl_ex fun x86 hx86 => ?_) | refine wl_w (fun _ _ => want_none) rfl (yw_next [_, _, _, _] rfl) (wl_ex fun x86 hx86 => ?_) | refine wl_w (fun _ _ => want_none) rfl (yw_next [_, _, _, _, _] rfl) (wl_ex fun x86 hx86 => ?_) | refine wl_w (fun _ _ => want_none) rfl (yw_next [_, _, _, _, _, _] rfl) (wl_ex fun x86 hx86 => ?_) | refine wl_w (fun _ _ => want_none) rfl (yw_next [_, _, _, _, _, _, _] rfl) (wl_ex fun x86 hx86 => ?_) | refine wl_w (fun _ _ => want_none) rfl (yw_next [_, _, _, _, _, _, _, _] rfl) (wl_ex fun x86 hx86 => ?_)
            rcases x86 with _ | q86
            ·
              refine wl_y rfl (y_extract rfl rfl) ?_
              refine wl_nil ?_
              refine wq_then ?_
              refine wc_seq ?_
              refine wc_known 87 false rfl (rfl) ?_
              refine wc_cond_false rfl ?_
              refine wc_exit ?_
              refine wq_then_exit (wq_then_exit (wq_block_exit ?_))
              refine wq_then ?_
              refine wc_seq ?_
              refine wc_seq ?_
              refine wc_region ?_
              obtain ⟨he1, he2⟩ := hI.end hx86
              have hI3 := hI.three hx86
              have hsz : s.t.srt.length = 0 := by rw [Tb.srt_len, he2]; rfl
              have hoc := once_count hI.inn
              have hN : s.th.length ≤ 100 := by rw [hI.inn.th_len]; exact hI.jobs
              refine wl_world (S' := Hp w0 K [scA x23 s, mapA vS vB b37 s.th]) (fun w hw => (Hp.rngEnd hw).sub (by (repeat (first | exact pt_nil | apply pt0 | apply pt1 | apply pt2 | apply pt3 | apply pt4 | apply pt5 | apply pt6 | apply pt7 | apply pt8 | apply pt9 | apply pt10 | apply pt11 | apply pt12 | apply pt13 | apply pt14 | apply pt15 | apply pt16 | apply pt17)))) ?_
              refine wl_y rfl (y_move rfl) ?_
              refine wl_c (fun _ _ => want_none) rfl (yc_spec (fst := []) (cap := []) _ FN13 (sleases_c x23 s (hI.inn.fits (by omega))) rfl rfl rfl (by (repeat (first | exact pt_nil | apply pt0 | apply pt1 | apply pt2 | apply pt3 | apply pt4 | apply pt5 | apply pt6 | apply pt7 | apply pt8 | apply pt9 | apply pt10 | apply pt11 | apply pt12 | apply pt13 | apply pt14 | apply pt15 | apply pt16 | apply pt17))) (by (repeat (first | exact ro_nil | exact ro_rest (by assumption) | refine ro_cons (by first | exact .inl (by assumption) | exact ro_f0 (fun _ h => h) | exact ro_f0 (fun _ => slc_rsl) | exact ro_f1 (fun _ h => h) | exact ro_f1 (fun _ => slc_rsl) | exact ro_f2 (fun _ h => h) | exact ro_f2 (fun _ => slc_rsl) | exact ro_f3 (fun _ h => h) | exact ro_f3 (fun _ => slc_rsl) | exact ro_f4 (fun _ h => h) | exact ro_f4 (fun _ => slc_rsl) | exact ro_f5 (fun _ h => h) | exact ro_f5 (fun _ => slc_rsl) | exact ro_f6 (fun _ h => h) | exact ro_f6 (fun _ => slc_rsl)) ?_)))) (wl_ex fun x95 hx95 => ?_)
              refine wl_y rfl (y_lenSl Try.underlying39 rfl) ?_
              refine wl_y rfl (y_neqI rfl rfl) ?_
              refine wl_y rfl (y_move rfl) ?_
              refine wl_known 98 false rfl (by rw [hsz]; decide) ?_
              refine wl_yg rfl rfl rfl (y_move rfl) ?_
              refine wl_c (want_some rfl rfl) rfl (yc_spec (fst := []) (cap := []) _ FN14 (swait_c x23 s hI.inn.keyed (by have := waiting_le hI.inn; omega)) rfl rfl rfl (by (repeat (first | exact pt_nil | apply pt0 | apply pt1 | apply pt2 | apply pt3 | apply pt4 | apply pt5 | apply pt6 | apply pt7 | apply pt8 | apply pt9 | apply pt10 | apply pt11 | apply pt12 | apply pt13 | apply pt14 | apply pt15 | apply pt16 | apply pt17))) (by (repeat (first | exact ro_nil | exact ro_rest (by assumption) | refine ro_cons (by first | exact .inl (by assumption) | exact ro_f0 (fun _ h => h) | exact ro_f0 (fun _ => slc_rsl) | exact ro_f1 (fun _ h => h) | exact ro_f1 (fun _ => slc_rsl) | exact ro_f2 (fun _ h => h) | exact ro_f2 (fun _ => slc_rsl) | exact ro_f3 (fun _ h => h) | exact ro_f3 (fun _ => slc_rsl) | exact ro_f4 (fun _ h => h) | exact ro_f4 (fun _ => slc_rsl) | exact ro_f5 (fun _ h => h) | exact ro_f5 (fun _ => slc_rsl) | exact ro_f6 (fun _ h => h) | exact ro_f6 (fun _ => slc_rsl)) ?_)))) (wl_ex fun x100 hx100 => ?_)
              refine wl_yg rfl rfl rfl (y_move rfl) ?_
              refine wl_yg rfl rfl rfl (y_lenMap Try.underlying28 rfl (by first | exact fun w hw => hw.seen [] | exact fun w hw => hw.seen [_] | exact fun w hw => hw.seen [_, _] | exact fun w hw => hw.seen [_, _, _] | exact fun w hw => hw.seen [_, _, _, _] | exact fun w hw => hw.seen [_, _, _, _, _] | exact fun w hw => hw.seen [_, _, _, _, _, _] | exact fun w hw => hw.seen [_, _, _, _, _, _, _] | exact fun w hw => hw.seen [_, _, _, _, _, _, _, _] | exact fun w hw => Seen.rngMap (hw.seen []) | exact fun w hw => Seen.rngMap (hw.seen [_]) | exact fun w hw => Seen.rngMap (hw.seen [_, _]) | exact fun w hw => Seen.rngMap (hw.seen [_, _, _]) | exact fun w hw => Seen.rngMap (hw.seen [_, _, _, _]) | exact fun w hw => Seen.rngMap (hw.seen [_, _, _, _, _]) | exact fun w hw => Seen.rngMap (hw.seen [_, _, _, _, _, _]) | exact fun w hw => Seen.rngMap (hw.seen [_, _, _, _, _, _, _]) | exact fun w hw => Seen.rngMap (hw.seen [_, _, _, _, _, _, _, _]))) ?_
              refine wl_yg rfl rfl rfl (y_neqI rfl rfl) ?_
              refine wl_y rfl (y_pick_f rfl rfl) ?_
              refine wl_y rfl (y_move rfl) ?_
              refine wl_known 105 false rfl (by simp; omega) ?_
              refine wl_yg rfl rfl rfl (y_move rfl) ?_
              refine wl_c (want_some rfl rfl) rfl (yc_spec (fst := []) (cap := []) _ FN10 (sjoin_c x23 s lastS) rfl rfl rfl (by (repeat (first | exact pt_nil | apply pt0 | apply pt1 | apply pt2 | apply pt3 | apply pt4 | apply pt5 | apply pt6 | apply pt7 | apply pt8 | apply pt9 | apply pt10 | apply pt11 | apply pt12 | apply pt13 | apply pt14 | apply pt15 | apply pt16 | apply pt17))) (by (repeat (first | exact ro_nil | exact ro_rest (by assumption) | refine ro_cons (by first | exact .inl (by assumption) | exact ro_f0 (fun _ h => h) | exact ro_f0 (fun _ => slc_rsl) | exact ro_f1 (fun _ h => h) | exact ro_f1 (fun _ => slc_rsl) | exact ro_f2 (fun _ h => h) | exact ro_f2 (fun _ => slc_rsl) | exact ro_f3 (fun _ h => h) | exact ro_f3 (fun _ => slc_rsl) | exact ro_f4 (fun _ h => h) | exact ro_f4 (fun _ => slc_rsl) | exact ro_f5 (fun _ h => h) | exact ro_f5 (fun _ => slc_rsl) | exact ro_f6 (fun _ h => h) | exact ro_f6 (fun _ => slc_rsl)) ?_)))) (wl_ex fun x107 hx107 => ?_)
              refine wl_same 107 (vI 0) rfl (by rw [(join_last he1).1]) ?_
              refine wl_yg rfl rfl rfl (y_neqI rfl rfl) ?_
              refine wl_y rfl (y_pick_f rfl rfl) ?_
              refine wl_nil ?_
              refine wq_then ?_
              refine wc_known 109 false rfl (by decide) ?_
              refine wc_cond_false rfl ?_
              refine wc_skip ?_
              refine wq_then ?_
              refine wc_seq ?_
              refine wc_region ?_
              obtain ⟨N, hNe⟩ : ∃ N, s.th.length = N := ⟨_, rfl⟩
              rw [hNe] at hI3 hN
              have hjt : (s.join lastS).1.th = s.th := join_th _ _
              refine wl_world (S' := Hp w0 K [scA x23 (s.join lastS).1, mapA vS vB b37 (s.join lastS).1.th]) (fun w hw => by rw [hjt]; exact hw.sub (by (repeat (first | exact pt_nil | apply pt0 | apply pt1 | apply pt2 | apply pt3 | apply pt4 | apply pt5 | apply pt6 | apply pt7 | apply pt8 | apply pt9 | apply pt10 | apply pt11 | apply pt12 | apply pt13 | apply pt14 | apply pt15 | apply pt16 | apply pt17)))) ?_
              refine wl_y rfl (y_move rfl) ?_
              refine wl_y rfl (y_lenMap Try.underlying28 rfl (by first | exact fun w hw => hw.seen [] | exact fun w hw => hw.seen [_] | exact fun w hw => hw.seen [_, _] | exact fun w hw => hw.seen [_, _, _] | exact fun w hw => hw.seen [_, _, _, _] | exact fun w hw => hw.seen [_, _, _, _, _] | exact fun w hw => hw.seen [_, _, _, _, _, _] | exact fun w hw => hw.seen [_, _, _, _, _, _, _] | exact fun w hw => hw.seen [_, _, _, _, _, _, _, _] | exact fun w hw => Seen.rngMap (hw.seen []) | exact fun w hw => Seen.rngMap (hw.seen [_]) | exact fun w hw => Seen.rngMap (hw.seen [_, _]) | exact fun w hw => Seen.rngMap (hw.seen [_, _, _]) | exact fun w hw => Seen.rngMap (hw.seen [_, _, _, _]) | exact fun w hw => Seen.rngMap (hw.seen [_, _, _, _, _]) | exact fun w hw => Seen.rngMap (hw.seen [_, _, _, _, _, _]) | exact fun w hw => Seen.rngMap (hw.seen [_, _, _, _, _, _, _]) | exact fun w hw => Seen.rngMap (hw.seen [_, _, _, _, _, _, _, _]))) ?_
              refine wl_same 111 (vI (N : Nat)) rfl (by rw [hjt, hNe]) ?_
              refine wl_y rfl (y_assign rfl) ?_
              refine wl_nil ?_
              refine wq_then ?_
              refine wc_seq ?_
              refine wc_seq ?_
              refine wc_region ?_
              refine wl_y rfl (y_assign rfl) ?_
              refine wl_nil ?_
              refine wq_then ?_
              refine wc_block ?_
              refine wc_loop (α := Nat × Sc × Nat) (fun y => y.1 ≤ N ∧ P3 y.2.1 n y.2.2 y.1 N) [(7, _), (9, _), (14, _)] (fun y => [(15, vI y.1)]) (fun y => Hp w0 K [scA x23 y.2.1, mapA vS vB b37 y.2.1.th]) (fun y => N - y.1) (0, (s.join lastS).1, k + 1) ?_ ⟨rfl, rfl, rfl, rfl, trivial⟩ ?_ ?_
              · exact ⟨Nat.zero_le _, hI3⟩
              · exact fun w hw => hw
              · clear hI hI3 he1 he2 hsz hoc hNe hjt hc9
                rintro ⟨i, s, k⟩ ⟨hi9, hI⟩; simp only at hi9 hI
                refine wc_world (S' := Hp w0 K [scA x23 s, mapA vS vB b37 s.th]) (fun w hw => hw) ?_
                refine wc_same 15 (vI i) rfl rfl ?_
                refine wc_seq ?_
                refine wc_seq ?_
                refine wc_region ?_
                refine wl_y rfl (y_move rfl) ?_
                refine wl_y rfl (y_move rfl) ?_
                refine wl_y rfl (y_lss rfl rfl) ?_
                refine wl_nil ?_
                refine wq_then ?_
                refine wc_cond rfl (fun hc114 => ?_) (fun hc114 => ?_)
                ·
                  simp at hc114
                  refine wc_skip ?_
                  refine wq_then ?_
                  refine wc_seq ?_
                  refine wc_block ?_
                  refine wc_seq ?_
                  refine wc_region ?_
                  obtain ⟨l, hl, hG⟩ := hI.some (by omega) hN
                  obtain ⟨hIn, hf, hI2⟩ := hI.step (by omega) hN hG
                  have hc9 := hI.cnt
                  refine wl_y rfl (y_move rfl) ?_
                  refine wl_c (fun _ _ => want_none) rfl (yc_spec (fst := []) (cap := []) _ FN11 (snext_c x23 s lastS 0 n k hI.inn h1 h2 (by omega)) rfl rfl rfl (by (repeat (first | exact pt_nil | apply pt0 | apply pt1 | apply pt2 | apply pt3 | apply pt4 | apply pt5 | apply pt6 | apply pt7 | apply pt8 | apply pt9 | apply pt10 | apply pt11 | apply pt12 | apply pt13 | apply pt14 | apply pt15 | apply pt16 | apply pt17))) (by (repeat (first | exact ro_nil | exact ro_rest (by assumption) | refine ro_cons (by first | exact .inl (by assumption) | exact ro_f0 (fun _ h => h) | exact ro_f0 (fun _ => slc_rsl) | exact ro_f1 (fun _ h => h) | exact ro_f1 (fun _ => slc_rsl) | exact ro_f2 (fun _ h => h) | exact ro_f2 (fun _ => slc_rsl) | exact ro_f3 (fun _ h => h) | exact ro_f3 (fun _ => slc_rsl) | exact ro_f4 (fun _ h => h) | exact ro_f4 (fun _ => slc_rsl) | exact ro_f5 (fun _ h => h) | exact ro_f5 (fun _ => slc_rsl) | exact ro_f6 (fun _ h => h) | exact ro_f6 (fun _ => slc_rsl)) ?_)))) (wl_ex fun x119 hx119 => ?_)
                  refine wl_y rfl (y_move rfl) ?_
                  refine wl_y rfl (y_extract rfl rfl) ?_
                  refine wl_same 120 (agL l) rfl (by rw [hl]) ?_
                  refine wl_y rfl (y_extract rfl rfl) ?_
                  refine wl_same 121 (vI 0) rfl (by rw [hl]) ?_
                  refine wl_w (fun _ _ => want_none) rfl (yw_alloc T36 rfl) (wl_ex fun b16 _ => ?_)
                  first | refine wl_u (yu_storeAgg [] (l' := [_, _, _, _, _, _]) T36 rfl rfl rfl (by simp [Value.oneCell', encL, encJ, encO]) rfl rfl) ?_ | refine wl_u (yu_storeAgg [_] (l' := [_, _, _, _, _, _]) T36 rfl rfl rfl (by simp [Value.oneCell', encL, encJ, encO]) rfl rfl) ?_ | refine wl_u (yu_storeAgg [_, _] (l' := [_, _, _, _, _, _]) T36 rfl rfl rfl (by simp [Value.oneCell', encL, encJ, encO]) rfl rfl) ?_ | refine wl_u (yu_storeAgg [_, _, _] (l' := [_, _, _, _, _, _]) T36 rfl rfl rfl (by simp [Value.oneCell', encL, encJ, encO]) rfl rfl) ?_ | refine wl_u (yu_storeAgg [_, _, _, _] (l' := [_, _, _, _, _, _]) T36 rfl rfl rfl (by simp [Value.oneCell', encL, encJ, encO]) rfl rfl) ?_ | refine wl_u (yu_storeAgg [_, _, _, _, _] (l' := [_, _, _, _, _, _]) T36 rfl rfl rfl (by simp [Value.oneCell', encL, encJ, encO]) rfl rfl) ?_ | refine wl_u (yu_storeAgg [_, _, _, _, _, _] (l' := [_, _, _, _, _, _]) T36 rfl rfl rfl (by simp [Value.oneCell', encL, encJ, encO]) rfl rfl) ?_ | refine wl_u (yu_storeAgg [_, _, _, _, _, _, _] (l' := [_, _, _, _, _, _]) T36 rfl rfl rfl (by simp [Value.oneCell', encL, encJ, encO]) rfl rfl) ?_ | refine wl_u (yu_storeAgg [_, _, _, _, _, _, _, _] (l' := [_, _, _, _, _, _]) T36 rfl rfl rfl (by simp [Value.oneCell', encL, encJ, encO]) rfl rfl) ?_
                  refine wl_y rfl (y_assign rfl) ?_
                  refine wl_nil ?_
                  refine wq_then ?_
                  refine wc_seq ?_
                  refine wc_seq ?_
                  refine wc_region ?_
                  refine wl_y rfl (y_move rfl) ?_
                  refine wl_y rfl (y_neqI rfl rfl) ?_
                  refine wl_y rfl (y_move rfl) ?_
                  refine wl_known 124 false rfl (by decide) ?_
                  refine wl_yg rfl rfl rfl (y_move rfl) ?_
                  refine wl_yg rfl rfl rfl (y_fieldAddr F36_0 rfl) ?_
                  refine wl_yg rfl rfl rfl (y_fieldAddr F30_0 rfl) ?_
                  refine wl_yg rfl rfl rfl (y_load NA9 rfl (by first | exact cell_blk [] rfl | exact cell_blk [_] rfl | exact cell_blk [_, _] rfl | exact cell_blk [_, _, _] rfl | exact cell_blk [_, _, _, _] rfl | exact cell_blk [_, _, _, _, _] rfl | exact cell_blk [_, _, _, _, _, _] rfl | exact cell_blk [_, _, _, _, _, _, _] rfl | exact cell_blk [_, _, _, _, _, _, _, _] rfl | exact cellR_blk (by assumption) rfl)) ?_
                  refine wl_yg rfl rfl rfl (y_lookup Try.underlying28 (keyE_str Try.underlying9) T4 rfl rfl (by first | exact fun w hw => hw.seen [] | exact fun w hw => hw.seen [_] | exact fun w hw => hw.seen [_, _] | exact fun w hw => hw.seen [_, _, _] | exact fun w hw => hw.seen [_, _, _, _] | exact fun w hw => hw.seen [_, _, _, _, _] | exact fun w hw => hw.seen [_, _, _, _, _, _] | exact fun w hw => hw.seen [_, _, _, _, _, _, _] | exact fun w hw => hw.seen [_, _, _, _, _, _, _, _] | exact fun w hw => Seen.rngMap (hw.seen []) | exact fun w hw => Seen.rngMap (hw.seen [_]) | exact fun w hw => Seen.rngMap (hw.seen [_, _]) | exact fun w hw => Seen.rngMap (hw.seen [_, _, _]) | exact fun w hw => Seen.rngMap (hw.seen [_, _, _, _]) | exact fun w hw => Seen.rngMap (hw.seen [_, _, _, _, _]) | exact fun w hw => Seen.rngMap (hw.seen [_, _, _, _, _, _]) | exact fun w hw => Seen.rngMap (hw.seen [_, _, _, _, _, _, _]) | exact fun w hw => Seen.rngMap (hw.seen [_, _, _, _, _, _, _, _]))) ?_
                  refine wl_same 129 (vB true) rfl (by rw [look_th]; congr 1; exact (hI.inn.has _).2 ⟨l.job, hG.mem, rfl⟩) ?_
                  refine wl_yg rfl rfl rfl (y_not rfl) ?_
                  refine wl_y rfl (y_pick_f rfl rfl) ?_
                  refine wl_y rfl (y_move rfl) ?_
                  refine wl_known 132 false rfl (rfl) ?_
                  refine wl_yg rfl rfl rfl (y_move rfl) ?_
                  refine wl_yg rfl rfl rfl (y_fieldAddr F36_0 rfl) ?_
                  refine wl_yg rfl rfl rfl (y_fieldAddr F30_0 rfl) ?_
                  refine wl_yg rfl rfl rfl (y_load NA9 rfl (by first | exact cell_blk [] rfl | exact cell_blk [_] rfl | exact cell_blk [_, _] rfl | exact cell_blk [_, _, _] rfl | exact cell_blk [_, _, _, _] rfl | exact cell_blk [_, _, _, _, _] rfl | exact cell_blk [_, _, _, _, _, _] rfl | exact cell_blk [_, _, _, _, _, _, _] rfl | exact cell_blk [_, _, _, _, _, _, _, _] rfl | exact cellR_blk (by assumption) rfl)) ?_
                  refine wl_yg rfl rfl rfl (y_fieldAddr F36_2 rfl) ?_
                  refine wl_yg rfl rfl rfl (y_load NA3 rfl (by first | exact cell_blk [] rfl | exact cell_blk [_] rfl | exact cell_blk [_, _] rfl | exact cell_blk [_, _, _] rfl | exact cell_blk [_, _, _, _] rfl | exact cell_blk [_, _, _, _, _] rfl | exact cell_blk [_, _, _, _, _, _] rfl | exact cell_blk [_, _, _, _, _, _, _] rfl | exact cell_blk [_, _, _, _, _, _, _, _] rfl | exact cellR_blk (by assumption) rfl)) ?_
                  refine wl_c (want_some rfl rfl) rfl (yc_spec (fst := []) (cap := []) _ FN15 (sfinish_c x23 (s.next lastS 0).1 l.job.key l.epoch) rfl rfl rfl (by (repeat (first | exact pt_nil | apply pt0 | apply pt1 | apply pt2 | apply pt3 | apply pt4 | apply pt5 | apply pt6 | apply pt7 | apply pt8 | apply pt9 | apply pt10 | apply pt11 | apply pt12 | apply pt13 | apply pt14 | apply pt15 | apply pt16 | apply pt17))) (by (repeat (first | exact ro_nil | exact ro_rest (by assumption) | refine ro_cons (by first | exact .inl (by assumption) | exact ro_f0 (fun _ h => h) | exact ro_f0 (fun _ => slc_rsl) | exact ro_f1 (fun _ h => h) | exact ro_f1 (fun _ => slc_rsl) | exact ro_f2 (fun _ h => h) | exact ro_f2 (fun _ => slc_rsl) | exact ro_f3 (fun _ h => h) | exact ro_f3 (fun _ => slc_rsl) | exact ro_f4 (fun _ h => h) | exact ro_f4 (fun _ => slc_rsl) | exact ro_f5 (fun _ h => h) | exact ro_f5 (fun _ => slc_rsl) | exact ro_f6 (fun _ h => h) | exact ro_f6 (fun _ => slc_rsl)) ?_)))) (wl_ex fun x139 hx139 => ?_)
                  refine wl_same 139 (vI 0) rfl (by rw [hf]) ?_
                  refine wl_yg rfl rfl rfl (y_neqI rfl rfl) ?_
                  refine wl_y rfl (y_pick_f rfl rfl) ?_
                  refine wl_nil ?_
                  refine wq_then ?_
                  refine wc_known 141 false rfl (by decide) ?_
                  refine wc_cond_false rfl ?_
                  refine wc_skip ?_
                  refine wq_then ?_
                  refine wc_region ?_
                  refine wl_y rfl (y_move rfl) ?_
                  refine wl_y rfl (y_fieldAddr F36_0 rfl) ?_
                  refine wl_y rfl (y_fieldAddr F30_0 rfl) ?_
                  refine wl_y rfl (y_load NA9 rfl (by first | exact cell_blk [] rfl | exact cell_blk [_] rfl | exact cell_blk [_, _] rfl | exact cell_blk [_, _, _] rfl | exact cell_blk [_, _, _, _] rfl | exact cell_blk [_, _, _, _, _] rfl | exact cell_blk [_, _, _, _, _, _] rfl | exact cell_blk [_, _, _, _, _, _, _] rfl | exact cell_blk [_, _, _, _, _, _, _, _] rfl | exact cellR_blk (by assumption) rfl)) ?_
                  first | refine yu_delete [] Try.underlying28 (keyE_str Try.underlying9) rfl rfl ?_ | refine yu_delete [_] Try.underlying28 (keyE_str Try.underlying9) rfl rfl ?_ | refine yu_delete [_, _] Try.underlying28 (keyE_str Try.underlying9) rfl rfl ?_ | refine yu_delete [_, _, _] Try.underlying28 (keyE_str Try.underlying9) rfl rfl ?_ | refine yu_delete [_, _, _, _] Try.underlying28 (keyE_str Try.underlying9) rfl rfl ?_ | refine yu_delete [_, _, _, _, _] Try.underlying28 (keyE_str Try.underlying9) rfl rfl ?_ | refine yu_delete [_, _, _, _, _, _] Try.underlying28 (keyE_str Try.underlying9) rfl rfl ?_ | refine yu_delete [_, _, _, _, _, _, _] Try.underlying28 (keyE_str Try.underlying9) rfl rfl ?_ | refine yu_delete [_, _, _, _, _, _, _, _] Try.underlying28 (keyE_str Try.underlying9) rfl rfl ?_
                  refine wl_nil ?_
                  refine wq_block_normal ?_
                  refine wq_then ?_
                  refine wc_region ?_
                  refine wl_y rfl (y_move rfl) ?_
                  refine wl_y rfl (y_add rfl rfl (by omega)) ?_
                  refine wl_y rfl (y_assign rfl) ?_
                  refine wl_nil ?_
                  have hth9 := next_th hI.inn (by omega) lastS 0
                  have e9 : (offS (s.next lastS 0).1 l).th = mdel s.th l.job.key := congrArg (fun m => mdel m l.job.key) hth9
                  exact wq_round (i + 1, offS (s.next lastS 0).1 l, k + 2) (by simp only; omega) ⟨by simp only; omega, hI2⟩ ⟨rfl, rfl, rfl, rfl, trivial⟩ (fun w hw => by
                    rw [hf] at hw
                    show Hp w0 K [scA x23 (offS (s.next lastS 0).1 l), mapA vS vB b37 (offS (s.next lastS 0).1 l).th] w
                    rw [e9]
                    exact hw.sub (by (repeat (first | exact pt_nil | apply pt0 | apply pt1 | apply pt2 | apply pt3 | apply pt4 | apply pt5 | apply pt6 | apply pt7 | apply pt8 | apply pt9 | apply pt10 | apply pt11 | apply pt12 | apply pt13 | apply pt14 | apply pt15 | apply pt16 | apply pt17))))
                ·
                  simp at hc114
                  refine wc_exit ?_
                  refine wq_then_exit (wq_then_exit (wq_block_exit ?_))
                  refine wq_then ?_
                  refine wc_seq ?_
                  refine wc_region ?_
                  obtain rfl : i = N := by omega
                  have hc9 := hI.cnt
                  have hbz := hI.busy hN
                  have hth9 : s.th.length = 0 := by have := hI.left; omega
                  refine wl_y rfl (y_move rfl) ?_
                  refine wl_c (fun _ _ => want_none) rfl (yc_spec (fst := []) (cap := []) _ FN11 (snext_c x23 s lastS 0 n k hI.inn h1 h2 (by omega)) rfl rfl rfl (by (repeat (first | exact pt_nil | apply pt0 | apply pt1 | apply pt2 | apply pt3 | apply pt4 | apply pt5 | apply pt6 | apply pt7 | apply pt8 | apply pt9 | apply pt10 | apply pt11 | apply pt12 | apply pt13 | apply pt14 | apply pt15 | apply pt16 | apply pt17))) (by (repeat (first | exact ro_nil | exact ro_rest (by assumption) | refine ro_cons (by first | exact .inl (by assumption) | exact ro_f0 (fun _ h => h) | exact ro_f0 (fun _ => slc_rsl) | exact ro_f1 (fun _ h => h) | exact ro_f1 (fun _ => slc_rsl) | exact ro_f2 (fun _ h => h) | exact ro_f2 (fun _ => slc_rsl) | exact ro_f3 (fun _ h => h) | exact ro_f3 (fun _ => slc_rsl) | exact ro_f4 (fun _ h => h) | exact ro_f4 (fun _ => slc_rsl) | exact ro_f5 (fun _ h => h) | exact ro_f5 (fun _ => slc_rsl) | exact ro_f6 (fun _ h => h) | exact ro_f6 (fun _ => slc_rsl)) ?_)))) (wl_ex fun x148 hx148 => ?_)
                  refine wl_y rfl (y_move rfl) ?_
                  refine wl_y rfl (y_extract rfl rfl) ?_
                  refine wl_same 149 (agL noL) rfl (by rw [hbz]) ?_
                  refine wl_y rfl (y_extract rfl rfl) ?_
                  refine wl_same 150 (vI 45) rfl (by rw [hbz]) ?_
                  refine wl_w (fun _ _ => want_none) rfl (yw_alloc T36 rfl) (wl_ex fun b18 _ => ?_)
                  first | refine wl_u (yu_storeAgg [] (l' := [_, _, _, _, _, _]) T36 rfl rfl rfl (by simp [Value.oneCell', encL, encJ, encO]) rfl rfl) ?_ | refine wl_u (yu_storeAgg [_] (l' := [_, _, _, _, _, _]) T36 rfl rfl rfl (by simp [Value.oneCell', encL, encJ, encO]) rfl rfl) ?_ | refine wl_u (yu_storeAgg [_, _] (l' := [_, _, _, _, _, _]) T36 rfl rfl rfl (by simp [Value.oneCell', encL, encJ, encO]) rfl rfl) ?_ | refine wl_u (yu_storeAgg [_, _, _] (l' := [_, _, _, _, _, _]) T36 rfl rfl rfl (by simp [Value.oneCell', encL, encJ, encO]) rfl rfl) ?_ | refine wl_u (yu_storeAgg [_, _, _, _] (l' := [_, _, _, _, _, _]) T36 rfl rfl rfl (by simp [Value.oneCell', encL, encJ, encO]) rfl rfl) ?_ | refine wl_u (yu_storeAgg [_, _, _, _, _] (l' := [_, _, _, _, _, _]) T36 rfl rfl rfl (by simp [Value.oneCell', encL, encJ, encO]) rfl rfl) ?_ | refine wl_u (yu_storeAgg [_, _, _, _, _, _] (l' := [_, _, _, _, _, _]) T36 rfl rfl rfl (by simp [Value.oneCell', encL, encJ, encO]) rfl rfl) ?_ | refine wl_u (yu_storeAgg [_, _, _, _, _, _, _] (l' := [_, _, _, _, _, _]) T36 rfl rfl rfl (by simp [Value.oneCell', encL, encJ, encO]) rfl rfl) ?_ | refine wl_u (yu_storeAgg [_, _, _, _, _, _, _, _] (l' := [_, _, _, _, _, _]) T36 rfl rfl rfl (by simp [Value.oneCell', encL, encJ, encO]) rfl rfl) ?_
                  refine wl_y rfl (y_assign rfl) ?_
                  refine wl_nil ?_
                  refine wq_then ?_
                  refine wc_seq ?_
                  refine wc_region ?_
                  refine wl_y rfl (y_move rfl) ?_
                  refine wl_y rfl (y_eqlI rfl rfl) ?_
                  refine wl_y rfl (y_move rfl) ?_
                  refine wl_known 153 true rfl (by decide) ?_
                  refine wl_yg rfl rfl rfl (y_move rfl) ?_
                  refine wl_yg rfl rfl rfl (y_lenMap Try.underlying28 rfl (by first | exact fun w hw => hw.seen [] | exact fun w hw => hw.seen [_] | exact fun w hw => hw.seen [_, _] | exact fun w hw => hw.seen [_, _, _] | exact fun w hw => hw.seen [_, _, _, _] | exact fun w hw => hw.seen [_, _, _, _, _] | exact fun w hw => hw.seen [_, _, _, _, _, _] | exact fun w hw => hw.seen [_, _, _, _, _, _, _] | exact fun w hw => hw.seen [_, _, _, _, _, _, _, _] | exact fun w hw => Seen.rngMap (hw.seen []) | exact fun w hw => Seen.rngMap (hw.seen [_]) | exact fun w hw => Seen.rngMap (hw.seen [_, _]) | exact fun w hw => Seen.rngMap (hw.seen [_, _, _]) | exact fun w hw => Seen.rngMap (hw.seen [_, _, _, _]) | exact fun w hw => Seen.rngMap (hw.seen [_, _, _, _, _]) | exact fun w hw => Seen.rngMap (hw.seen [_, _, _, _, _, _]) | exact fun w hw => Seen.rngMap (hw.seen [_, _, _, _, _, _, _]) | exact fun w hw => Seen.rngMap (hw.seen [_, _, _, _, _, _, _, _]))) ?_
                  refine wl_same 155 (vI 0) rfl (by rw [hth9]; rfl) ?_
                  refine wl_yg rfl rfl rfl (y_eqlI rfl rfl) ?_
                  refine wl_y rfl (y_pick_t rfl rfl) ?_
                  refine wl_y rfl (y_move rfl) ?_
                  refine wl_known 158 true rfl (by decide) ?_
                  refine wl_q (want_some rfl rfl) rfl (yq_spec (fst := []) (cap := []) _ FN8 awake_c rfl rfl rfl (by (repeat (first | exact pt_nil | apply pt0 | apply pt1 | apply pt2 | apply pt3 | apply pt4 | apply pt5 | apply pt6 | apply pt7 | apply pt8 | apply pt9 | apply pt10 | apply pt11 | apply pt12 | apply pt13 | apply pt14 | apply pt15 | apply pt16 | apply pt17))) (by (repeat (first | exact ro_nil | exact ro_rest (by assumption) | refine ro_cons (by first | exact .inl (by assumption) | exact ro_f0 (fun _ h => h) | exact ro_f0 (fun _ => slc_rsl) | exact ro_f1 (fun _ h => h) | exact ro_f1 (fun _ => slc_rsl) | exact ro_f2 (fun _ h => h) | exact ro_f2 (fun _ => slc_rsl) | exact ro_f3 (fun _ h => h) | exact ro_f3 (fun _ => slc_rsl) | exact ro_f4 (fun _ h => h) | exact ro_f4 (fun _ => slc_rsl) | exact ro_f5 (fun _ h => h) | exact ro_f5 (fun _ => slc_rsl) | exact ro_f6 (fun _ h => h) | exact ro_f6 (fun _ => slc_rsl)) ?_))) (fun _ _ => rfl) (fun _ _ _ h => h.sub (by (repeat (first | exact pt_nil | apply pt0 | apply pt1 | apply pt2 | apply pt3 | apply pt4 | apply pt5 | apply pt6 | apply pt7 | apply pt8 | apply pt9 | apply pt10 | apply pt11 | apply pt12 | apply pt13 | apply pt14 | apply pt15 | apply pt16 | apply pt17))))) ?_
                  refine wl_y rfl (y_pick_t rfl rfl) ?_
                  refine wl_y rfl (y_assign rfl) ?_
                  refine wl_nil ?_
                  refine wq_then ?_
                  refine wc_ret ?_
                  refine wq_ret1 rfl rfl (fun w hw => ?_)
                  exact ⟨(), trivial, rfl, hw.bare⟩
            ·
              refine wl_y rfl (y_extract rfl rfl) ?_
              refine wl_nil ?_
              refine wq_then ?_
              refine wc_seq ?_
              refine wc_known 87 true rfl (rfl) ?_
              refine wc_cond_true rfl ?_
              refine wc_skip ?_
              refine wq_then ?_
              refine wc_block ?_
              refine wc_seq ?_
              refine wc_region ?_
              refine wl_y rfl (y_entry rfl (mget_of_mem (k := q86.1) (v := q86.2) hWk hx86.1) (by first | exact fun w hw => hw.seen [] | exact fun w hw => hw.seen [_] | exact fun w hw => hw.seen [_, _] | exact fun w hw => hw.seen [_, _, _] | exact fun w hw => hw.seen [_, _, _, _] | exact fun w hw => hw.seen [_, _, _, _, _] | exact fun w hw => hw.seen [_, _, _, _, _, _] | exact fun w hw => hw.seen [_, _, _, _, _, _, _] | exact fun w hw => hw.seen [_, _, _, _, _, _, _, _])) ?_
              refine wl_y rfl (y_extract rfl rfl) ?_
              refine wl_y rfl (y_assign rfl) ?_
              refine wl_nil ?_
              refine wq_then ?_
              refine wc_seq ?_
              refine wc_region ?_
              have hc9 := hI.cnt
              obtain ⟨hlv, hI2⟩ := hI.leave hx86
              refine wl_y rfl (y_move rfl) ?_
              refine wl_y rfl (y_move rfl) ?_
              refine wl_c (fun _ _ => want_none) rfl (yc_spec (fst := []) (cap := []) _ FN12 (sleave_c x23 s q86.1 n k hI.inn h1 h2 (by omega)) rfl rfl rfl (by (repeat (first | exact pt_nil | apply pt0 | apply pt1 | apply pt2 | apply pt3 | apply pt4 | apply pt5 | apply pt6 | apply pt7 | apply pt8 | apply pt9 | apply pt10 | apply pt11 | apply pt12 | apply pt13 | apply pt14 | apply pt15 | apply pt16 | apply pt17))) (by (repeat (first | exact ro_nil | exact ro_rest (by assumption) | refine ro_cons (by first | exact .inl (by assumption) | exact ro_f0 (fun _ h => h) | exact ro_f0 (fun _ => slc_rsl) | exact ro_f1 (fun _ h => h) | exact ro_f1 (fun _ => slc_rsl) | exact ro_f2 (fun _ h => h) | exact ro_f2 (fun _ => slc_rsl) | exact ro_f3 (fun _ h => h) | exact ro_f3 (fun _ => slc_rsl) | exact ro_f4 (fun _ h => h) | exact ro_f4 (fun _ => slc_rsl) | exact ro_f5 (fun _ h => h) | exact ro_f5 (fun _ => slc_rsl) | exact ro_f6 (fun _ h => h) | exact ro_f6 (fun _ => slc_rsl)) ?_)))) (wl_ex fun x92 hx92 => ?_)
              refine wl_y rfl (y_neqI rfl rfl) ?_
              refine wl_nil ?_
              refine wq_then ?_
              refine wc_known 93 false rfl (by rw [hlv]; decide) ?_
              refine wc_cond_false rfl ?_
              refine wc_skip ?_
              refine wq_block_normal ?_
              exact wq_round (q86.1 :: dn, (s.leave q86.1).1, k + 1) (leftM_lt hx86) hI2 ⟨rfl, rfl, rfl, trivial⟩ (fun w hw => by simp only; rw [leave_th]; exact hw.sub (by (repeat (first | exact pt_nil | apply pt0 | apply pt1 | apply pt2 | apply pt3 | apply pt4 | apply pt5 | apply pt6 | apply pt7 | apply pt8 | apply pt9 | apply pt10 | apply pt11 | apply pt12 | apply pt13 | apply pt14 | apply pt15 | apply pt16 | apply pt17))))

end Go.Proofs.Ytfnpjmlpiedgdaa
