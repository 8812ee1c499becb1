/-
  Law: each job is in just one place.
-/
import Derived.Test.YtfnpjmlpiedgdaaSK
namespace Go.Proofs.Ytfnpjmlpiedgdaa
open Go.Eng

set_option maxHeartbeats 1000000 in
theorem lawOnce (a n : Int) (ops : List SOp) (oo : Option Addr) (cc : Nat) (hks : ∀ x ∈ ops, x.job.key.length ≤ maxLen) :
    Ctr Try.prog 5 #[vI a, vI n, .slice oo ops.length cc] [rsl oo ops.length 7 (ops.flatMap encO)] [] (fun _ : Unit => True) (fun _ => vB true) (fun _ => []) := by
  refine spec_start (n := 207) [(0, vI a), (1, vI n), (2, .slice oo ops.length cc)] Try.func5 rfl rfl ⟨rfl, rfl, rfl, trivial⟩ rfl ?_
  intro w0 K hR
  have hA := hR _ (List.mem_cons_self ..)
  refine wc_seq ?_
  refine wc_region ?_
  refine wl_y rfl (y_assign rfl) ?_
  refine wl_nil ?_
  refine wq_then ?_
  refine wc_seq ?_
  refine wc_region ?_
  rcases (show (a < 1 ∨ 1000000 < a) ∨ (1 ≤ a ∧ a ≤ 1000000 ∧ (n < 1 ∨ 1000000 < n)) ∨ (1 ≤ a ∧ a ≤ 1000000 ∧ 1 ≤ n ∧ n ≤ 1000000) by omega) with h | ⟨a1, a2, h⟩ | ⟨a1, a2, h1, h2⟩
  ·
    refine wl_y rfl (y_move rfl) ?_
    refine wl_y rfl (y_move rfl) ?_
    refine wl_c (fun _ _ => want_none) rfl (yc_spec (fst := []) (cap := []) _ FN7 (snew_a a n h) rfl rfl rfl (by (repeat (first | exact pt_nil | apply pt0 | apply pt1 | apply pt2 | apply pt3 | apply pt4 | apply pt5 | apply pt6 | apply pt7 | apply pt8 | apply pt9 | apply pt10 | apply pt11 | apply pt12 | apply pt13 | apply pt14 | apply pt15 | apply pt16 | apply pt17))) (by (repeat (first | exact ro_nil | exact ro_rest (by assumption) | refine ro_cons (by first | exact .inl (by assumption) | exact ro_f0 (fun _ h => h) | exact ro_f0 (fun _ => slc_rsl) | exact ro_f1 (fun _ h => h) | exact ro_f1 (fun _ => slc_rsl) | exact ro_f2 (fun _ h => h) | exact ro_f2 (fun _ => slc_rsl) | exact ro_f3 (fun _ h => h) | exact ro_f3 (fun _ => slc_rsl) | exact ro_f4 (fun _ h => h) | exact ro_f4 (fun _ => slc_rsl) | exact ro_f5 (fun _ h => h) | exact ro_f5 (fun _ => slc_rsl) | exact ro_f6 (fun _ h => h) | exact ro_f6 (fun _ => slc_rsl)) ?_)))) (wl_ex fun x22 hx22 => ?_)
    refine wl_y rfl (y_move rfl) ?_
    refine wl_y rfl (y_extract rfl rfl) ?_
    refine wl_y rfl (y_extract rfl rfl) ?_
    refine wl_y rfl (y_assign rfl) ?_
    refine wl_y rfl (y_assign rfl) ?_
    refine wl_nil ?_
    refine wq_then ?_
    refine wc_seq ?_
    refine wc_seq ?_
    refine wc_region ?_
    refine wl_y rfl (y_move rfl) ?_
    refine wl_y rfl (y_neqI rfl rfl) ?_
    refine wl_nil ?_
    refine wq_then ?_
    refine wc_known 26 true rfl (by decide) ?_
    refine wc_cond_true rfl ?_
    refine wc_seq ?_
    refine wc_region ?_
    refine wl_y rfl (y_move rfl) ?_
    refine wl_y rfl (y_eqlI rfl rfl) ?_
    refine wl_y rfl (y_move rfl) ?_
    refine wl_known 29 true rfl (by decide) ?_
    refine wl_yg rfl rfl rfl (y_move rfl) ?_
    refine wl_yg rfl rfl rfl (y_eqlP Try.underlying23 rfl rfl) ?_
    refine wl_y rfl (y_pick_t rfl rfl) ?_
    refine wl_y rfl (y_move rfl) ?_
    refine wl_known 33 true rfl (by decide) ?_
    refine wl_q (want_some rfl rfl) rfl (yq_spec (fst := []) (cap := []) _ FN8 awake_c rfl rfl rfl (by (repeat (first | exact pt_nil | apply pt0 | apply pt1 | apply pt2 | apply pt3 | apply pt4 | apply pt5 | apply pt6 | apply pt7 | apply pt8 | apply pt9 | apply pt10 | apply pt11 | apply pt12 | apply pt13 | apply pt14 | apply pt15 | apply pt16 | apply pt17))) (by (repeat (first | exact ro_nil | exact ro_rest (by assumption) | refine ro_cons (by first | exact .inl (by assumption) | exact ro_f0 (fun _ h => h) | exact ro_f0 (fun _ => slc_rsl) | exact ro_f1 (fun _ h => h) | exact ro_f1 (fun _ => slc_rsl) | exact ro_f2 (fun _ h => h) | exact ro_f2 (fun _ => slc_rsl) | exact ro_f3 (fun _ h => h) | exact ro_f3 (fun _ => slc_rsl) | exact ro_f4 (fun _ h => h) | exact ro_f4 (fun _ => slc_rsl) | exact ro_f5 (fun _ h => h) | exact ro_f5 (fun _ => slc_rsl) | exact ro_f6 (fun _ h => h) | exact ro_f6 (fun _ => slc_rsl)) ?_))) (fun _ _ => rfl) (fun _ _ _ h => h.sub (by (repeat (first | exact pt_nil | apply pt0 | apply pt1 | apply pt2 | apply pt3 | apply pt4 | apply pt5 | apply pt6 | apply pt7 | apply pt8 | apply pt9 | apply pt10 | apply pt11 | apply pt12 | apply pt13 | apply pt14 | apply pt15 | apply pt16 | apply pt17))))) ?_
    refine wl_y rfl (y_pick_t rfl rfl) ?_
    refine wl_y rfl (y_assign rfl) ?_
    refine wl_nil ?_
    refine wq_then ?_
    refine wc_ret ?_
    refine wq_then_ret ?_
    refine wq_ret1 rfl rfl (fun w hw => ?_)
    exact ⟨(), trivial, rfl, hw.bare⟩
  ·
    refine wl_y rfl (y_move rfl) ?_
    refine wl_y rfl (y_move rfl) ?_
    refine wl_c (fun _ _ => want_none) rfl (yc_spec (fst := []) (cap := []) _ FN7 (snew_b a n a1 a2 h) rfl rfl rfl (by (repeat (first | exact pt_nil | apply pt0 | apply pt1 | apply pt2 | apply pt3 | apply pt4 | apply pt5 | apply pt6 | apply pt7 | apply pt8 | apply pt9 | apply pt10 | apply pt11 | apply pt12 | apply pt13 | apply pt14 | apply pt15 | apply pt16 | apply pt17))) (by (repeat (first | exact ro_nil | exact ro_rest (by assumption) | refine ro_cons (by first | exact .inl (by assumption) | exact ro_f0 (fun _ h => h) | exact ro_f0 (fun _ => slc_rsl) | exact ro_f1 (fun _ h => h) | exact ro_f1 (fun _ => slc_rsl) | exact ro_f2 (fun _ h => h) | exact ro_f2 (fun _ => slc_rsl) | exact ro_f3 (fun _ h => h) | exact ro_f3 (fun _ => slc_rsl) | exact ro_f4 (fun _ h => h) | exact ro_f4 (fun _ => slc_rsl) | exact ro_f5 (fun _ h => h) | exact ro_f5 (fun _ => slc_rsl) | exact ro_f6 (fun _ h => h) | exact ro_f6 (fun _ => slc_rsl)) ?_)))) (wl_ex fun x22 hx22 => ?_)
    refine wl_y rfl (y_move rfl) ?_
    refine wl_y rfl (y_extract rfl rfl) ?_
    refine wl_y rfl (y_extract rfl rfl) ?_
    refine wl_y rfl (y_assign rfl) ?_
    refine wl_y rfl (y_assign rfl) ?_
    refine wl_nil ?_
    refine wq_then ?_
    refine wc_seq ?_
    refine wc_seq ?_
    refine wc_region ?_
    refine wl_y rfl (y_move rfl) ?_
    refine wl_y rfl (y_neqI rfl rfl) ?_
    refine wl_nil ?_
    refine wq_then ?_
    refine wc_known 26 true rfl (by decide) ?_
    refine wc_cond_true rfl ?_
    refine wc_seq ?_
    refine wc_region ?_
    refine wl_y rfl (y_move rfl) ?_
    refine wl_y rfl (y_eqlI rfl rfl) ?_
    refine wl_y rfl (y_move rfl) ?_
    refine wl_known 29 true rfl (by decide) ?_
    refine wl_yg rfl rfl rfl (y_move rfl) ?_
    refine wl_yg rfl rfl rfl (y_eqlP Try.underlying23 rfl rfl) ?_
    refine wl_y rfl (y_pick_t rfl rfl) ?_
    refine wl_y rfl (y_move rfl) ?_
    refine wl_known 33 true rfl (by decide) ?_
    refine wl_q (want_some rfl rfl) rfl (yq_spec (fst := []) (cap := []) _ FN8 awake_c rfl rfl rfl (by (repeat (first | exact pt_nil | apply pt0 | apply pt1 | apply pt2 | apply pt3 | apply pt4 | apply pt5 | apply pt6 | apply pt7 | apply pt8 | apply pt9 | apply pt10 | apply pt11 | apply pt12 | apply pt13 | apply pt14 | apply pt15 | apply pt16 | apply pt17))) (by (repeat (first | exact ro_nil | exact ro_rest (by assumption) | refine ro_cons (by first | exact .inl (by assumption) | exact ro_f0 (fun _ h => h) | exact ro_f0 (fun _ => slc_rsl) | exact ro_f1 (fun _ h => h) | exact ro_f1 (fun _ => slc_rsl) | exact ro_f2 (fun _ h => h) | exact ro_f2 (fun _ => slc_rsl) | exact ro_f3 (fun _ h => h) | exact ro_f3 (fun _ => slc_rsl) | exact ro_f4 (fun _ h => h) | exact ro_f4 (fun _ => slc_rsl) | exact ro_f5 (fun _ h => h) | exact ro_f5 (fun _ => slc_rsl) | exact ro_f6 (fun _ h => h) | exact ro_f6 (fun _ => slc_rsl)) ?_))) (fun _ _ => rfl) (fun _ _ _ h => h.sub (by (repeat (first | exact pt_nil | apply pt0 | apply pt1 | apply pt2 | apply pt3 | apply pt4 | apply pt5 | apply pt6 | apply pt7 | apply pt8 | apply pt9 | apply pt10 | apply pt11 | apply pt12 | apply pt13 | apply pt14 | apply pt15 | apply pt16 | apply pt17))))) ?_
    refine wl_y rfl (y_pick_t rfl rfl) ?_
    refine wl_y rfl (y_assign rfl) ?_
    refine wl_nil ?_
    refine wq_then ?_
    refine wc_ret ?_
    refine wq_then_ret ?_
    refine wq_ret1 rfl rfl (fun w hw => ?_)
    exact ⟨(), trivial, rfl, hw.bare⟩
  ·
    refine wl_y rfl (y_move rfl) ?_
    refine wl_y rfl (y_move rfl) ?_
    refine wl_c (fun _ _ => want_none) rfl (yc_spec (fst := []) (cap := []) _ FN7 (snew_ok a n a1 a2 h1 h2) rfl rfl rfl (by (repeat (first | exact pt_nil | apply pt0 | apply pt1 | apply pt2 | apply pt3 | apply pt4 | apply pt5 | apply pt6 | apply pt7 | apply pt8 | apply pt9 | apply pt10 | apply pt11 | apply pt12 | apply pt13 | apply pt14 | apply pt15 | apply pt16 | apply pt17))) (by (repeat (first | exact ro_nil | exact ro_rest (by assumption) | refine ro_cons (by first | exact .inl (by assumption) | exact ro_f0 (fun _ h => h) | exact ro_f0 (fun _ => slc_rsl) | exact ro_f1 (fun _ h => h) | exact ro_f1 (fun _ => slc_rsl) | exact ro_f2 (fun _ h => h) | exact ro_f2 (fun _ => slc_rsl) | exact ro_f3 (fun _ h => h) | exact ro_f3 (fun _ => slc_rsl) | exact ro_f4 (fun _ h => h) | exact ro_f4 (fun _ => slc_rsl) | exact ro_f5 (fun _ h => h) | exact ro_f5 (fun _ => slc_rsl) | exact ro_f6 (fun _ h => h) | exact ro_f6 (fun _ => slc_rsl)) ?_)))) (wl_ex fun x22 hx22 => ?_)
    refine wl_y rfl (y_move rfl) ?_
    refine wl_y rfl (y_extract rfl rfl) ?_
    refine wl_y rfl (y_extract rfl rfl) ?_
    refine wl_y rfl (y_assign rfl) ?_
    refine wl_y rfl (y_assign rfl) ?_
    refine wl_nil ?_
    refine wq_then ?_
    refine wc_seq ?_
    refine wc_seq ?_
    refine wc_region ?_
    refine wl_y rfl (y_move rfl) ?_
    refine wl_y rfl (y_neqI rfl rfl) ?_
    refine wl_nil ?_
    refine wq_then ?_
    refine wc_known 26 false rfl (by decide) ?_
    refine wc_cond_false rfl ?_
    refine wc_skip ?_
    refine wq_then ?_
    refine wc_seq ?_
    refine wc_region ?_
    refine wl_w (fun _ _ => want_none) rfl (yw_makeMap (ek := vS) (ev := vB)) (wl_ex fun b36 _ => ?_)
    refine wl_y rfl (y_assign rfl) ?_
    refine wl_nil ?_
    refine wq_then ?_
    refine wc_seq ?_
    refine wc_seq ?_
    refine wc_region ?_
    refine wl_y rfl (y_assign rfl) ?_
    refine wl_nil ?_
    refine wq_then ?_
    refine wc_block ?_
    refine wc_loop (α := Nat × Sc) (fun y => y.1 ≤ ops.length ∧ y.1 ≤ 150 ∧ y.2.In n y.1) [(2, _), (7, _), (9, _)] (fun y => [(10, vI y.1)]) (fun y => Hp w0 K [scA x22 y.2, mapA vS vB b36 y.2.th]) (fun y => ops.length - y.1) (0, ⟨a, 0, [], ⟨n, 0, []⟩, [], []⟩) ?_ ⟨rfl, rfl, rfl, rfl, trivial⟩ ?_ ?_
    · exact ⟨Nat.zero_le _, Nat.zero_le _, in_new a1 a2⟩
    · exact fun w hw => hw.sub (by (repeat (first | exact pt_nil | apply pt0 | apply pt1 | apply pt2 | apply pt3 | apply pt4 | apply pt5 | apply pt6 | apply pt7 | apply pt8 | apply pt9 | apply pt10 | apply pt11 | apply pt12 | apply pt13 | apply pt14 | apply pt15 | apply pt16 | apply pt17)))
    · rintro ⟨i, s⟩ ⟨hi, hi2, hI⟩; simp only at hi hi2 hI
      refine wc_world (S' := Hp w0 K [scA x22 s, mapA vS vB b36 s.th]) (fun w hw => hw) ?_
      refine wc_same 10 (vI i) rfl rfl ?_
      refine wc_seq ?_
      refine wc_seq ?_
      refine wc_region ?_
      refine wl_y rfl (y_move rfl) ?_
      refine wl_y rfl (y_move rfl) ?_
      refine wl_y rfl (y_lenSl Try.underlying22 rfl) ?_
      refine wl_y rfl (y_lss rfl rfl) ?_
      refine wl_y rfl (y_move rfl) ?_
      refine wl_case 41 rfl (fun hg41 => ?_) (fun hg41 => ?_)
      ·
        simp at hg41
        refine wl_yg rfl rfl rfl (y_move rfl) ?_
        refine wl_yg rfl rfl rfl (y_lss rfl rfl) ?_
        refine wl_y rfl (y_pick_t rfl rfl) ?_
        refine wl_nil ?_
        refine wq_then ?_
        refine wc_cond rfl (fun hc44 => ?_) (fun hc44 => ?_)
        ·
          simp at hc44
          refine wc_skip ?_
          refine wq_then ?_
          refine wc_seq ?_
          refine wc_block ?_
          refine wc_seq ?_
          refine wc_region ?_
          obtain ⟨x, hx⟩ : ∃ x, ops[i]? = some x := ⟨_, List.getElem?_eq_getElem (by omega)⟩
          have hkl := hks x (List.mem_of_getElem? hx)
          have hi490 : i ≤ 490 := by omega
          refine wl_y rfl (y_move rfl) ?_
          refine wl_y rfl (y_move rfl) ?_
          refine wl_y rfl (y_indexAddr Try.underlying22 T32 rfl rfl rfl (by omega) (by first | assumption | exact fun _ _ => rfl | exact fun _ _ => hA.isSome (by omega) | exact fun w hw => hw.slc_isSome [] (by omega) | exact fun w hw => hw.slc_isSome [_] (by omega) | exact fun w hw => hw.slc_isSome [_, _] (by omega) | exact fun w hw => hw.slc_isSome [_, _, _] (by omega) | exact fun w hw => hw.slc_isSome [_, _, _, _] (by omega) | exact fun w hw => hw.slc_isSome [_, _, _, _, _] (by omega) | exact fun w hw => hw.slc_isSome [_, _, _, _, _, _] (by omega) | exact fun w hw => hw.slc_isSome [_, _, _, _, _, _, _] (by omega) | exact fun w hw => hw.slc_isSome [_, _, _, _, _, _, _, _] (by omega))) ?_
          refine wl_y rfl (y_loadAgg (l := encO x) AG32 rfl rfl (by first | exact agg_ro hA (fun i u h => rows_get encO_len hx h) | exact agg_own [] (fun i u h => rows_get encO_len hx h) | exact agg_own [_] (fun i u h => rows_get encO_len hx h) | exact agg_own [_, _] (fun i u h => rows_get encO_len hx h) | exact agg_own [_, _, _] (fun i u h => rows_get encO_len hx h) | exact agg_own [_, _, _, _] (fun i u h => rows_get encO_len hx h) | exact agg_own [_, _, _, _, _] (fun i u h => rows_get encO_len hx h) | exact agg_own [_, _, _, _, _, _] (fun i u h => rows_get encO_len hx h) | exact agg_own [_, _, _, _, _, _, _] (fun i u h => rows_get encO_len hx h) | exact agg_own [_, _, _, _, _, _, _, _] (fun i u h => rows_get encO_len hx h))) ?_
          refine wl_w (fun _ _ => want_none) rfl (yw_alloc T32 rfl) (wl_ex fun b11 _ => ?_)
          first | refine wl_u (yu_storeAgg [] (l' := [_, _, _, _, _, _, _]) T32 rfl rfl rfl (by simp [Value.oneCell', encL, encJ, encO]) rfl rfl) ?_ | refine wl_u (yu_storeAgg [_] (l' := [_, _, _, _, _, _, _]) T32 rfl rfl rfl (by simp [Value.oneCell', encL, encJ, encO]) rfl rfl) ?_ | refine wl_u (yu_storeAgg [_, _] (l' := [_, _, _, _, _, _, _]) T32 rfl rfl rfl (by simp [Value.oneCell', encL, encJ, encO]) rfl rfl) ?_ | refine wl_u (yu_storeAgg [_, _, _] (l' := [_, _, _, _, _, _, _]) T32 rfl rfl rfl (by simp [Value.oneCell', encL, encJ, encO]) rfl rfl) ?_ | refine wl_u (yu_storeAgg [_, _, _, _] (l' := [_, _, _, _, _, _, _]) T32 rfl rfl rfl (by simp [Value.oneCell', encL, encJ, encO]) rfl rfl) ?_ | refine wl_u (yu_storeAgg [_, _, _, _, _] (l' := [_, _, _, _, _, _, _]) T32 rfl rfl rfl (by simp [Value.oneCell', encL, encJ, encO]) rfl rfl) ?_ | refine wl_u (yu_storeAgg [_, _, _, _, _, _] (l' := [_, _, _, _, _, _, _]) T32 rfl rfl rfl (by simp [Value.oneCell', encL, encJ, encO]) rfl rfl) ?_ | refine wl_u (yu_storeAgg [_, _, _, _, _, _, _] (l' := [_, _, _, _, _, _, _]) T32 rfl rfl rfl (by simp [Value.oneCell', encL, encJ, encO]) rfl rfl) ?_ | refine wl_u (yu_storeAgg [_, _, _, _, _, _, _, _] (l' := [_, _, _, _, _, _, _]) T32 rfl rfl rfl (by simp [Value.oneCell', encL, encJ, encO]) rfl rfl) ?_
          refine wl_nil ?_
          refine wq_then ?_
          refine wc_seq (wc_cut (α := Sc) (fun y => y.In n (i + 1)) [(2, _), (7, _), (9, _), (10, _)] (fun y => []) (fun y => Hp w0 K [scA x22 y, mapA vS vB b36 y.th]) ⟨rfl, rfl, rfl, rfl, trivial⟩ ?_ ?_)
          ·
            refine wc_seq ?_
            refine wc_region ?_
            refine wl_y rfl (y_fieldAddr F32_0 rfl) ?_
            refine wl_y rfl (y_load NA3 rfl (by first | exact cell_blk [] rfl | exact cell_blk [_] rfl | exact cell_blk [_, _] rfl | exact cell_blk [_, _, _] rfl | exact cell_blk [_, _, _, _] rfl | exact cell_blk [_, _, _, _, _] rfl | exact cell_blk [_, _, _, _, _, _] rfl | exact cell_blk [_, _, _, _, _, _, _] rfl | exact cell_blk [_, _, _, _, _, _, _, _] rfl | exact cellR_blk (by assumption) rfl)) ?_
            refine wl_nil ?_
            refine wq_then ?_
            refine wc_block ?_
            refine wc_seq ?_
            refine wc_region ?_
            refine wl_y rfl (y_eqlI rfl rfl) ?_
            refine wl_y rfl (y_assign rfl) ?_
            refine wl_nil ?_
            refine wq_then ?_
            refine wc_cond rfl (fun hc57 => ?_) (fun hc57 => ?_)
            ·
              simp at hc57
              refine wc_seq ?_
              refine wc_region ?_
              refine wl_y rfl (y_move rfl) ?_
              refine wl_y rfl (y_fieldAddr F32_1 rfl) ?_
              refine wl_y rfl (y_loadAgg (l := [_, _, _]) AG30 rfl rfl (by first | exact cells_blk [] rfl | exact cells_blk [_] rfl | exact cells_blk [_, _] rfl | exact cells_blk [_, _, _] rfl | exact cells_blk [_, _, _, _] rfl | exact cells_blk [_, _, _, _, _] rfl | exact cells_blk [_, _, _, _, _, _] rfl | exact cells_blk [_, _, _, _, _, _, _] rfl | exact cells_blk [_, _, _, _, _, _, _, _] rfl | exact cellsR_blk (by assumption) rfl)) ?_
              refine wl_c (fun _ _ => want_none) rfl (yc_spec (fst := []) (cap := []) _ FN9 (sadd_c x22 s x.job ((hI.qk hi490).mono (by omega))) rfl rfl rfl (by (repeat (first | exact pt_nil | apply pt0 | apply pt1 | apply pt2 | apply pt3 | apply pt4 | apply pt5 | apply pt6 | apply pt7 | apply pt8 | apply pt9 | apply pt10 | apply pt11 | apply pt12 | apply pt13 | apply pt14 | apply pt15 | apply pt16 | apply pt17))) (by (repeat (first | exact ro_nil | exact ro_rest (by assumption) | refine ro_cons (by first | exact .inl (by assumption) | exact ro_f0 (fun _ h => h) | exact ro_f0 (fun _ => slc_rsl) | exact ro_f1 (fun _ h => h) | exact ro_f1 (fun _ => slc_rsl) | exact ro_f2 (fun _ h => h) | exact ro_f2 (fun _ => slc_rsl) | exact ro_f3 (fun _ h => h) | exact ro_f3 (fun _ => slc_rsl) | exact ro_f4 (fun _ h => h) | exact ro_f4 (fun _ => slc_rsl) | exact ro_f5 (fun _ h => h) | exact ro_f5 (fun _ => slc_rsl) | exact ro_f6 (fun _ h => h) | exact ro_f6 (fun _ => slc_rsl)) ?_)))) (wl_ex fun x62 hx62 => ?_)
              refine wl_y rfl (y_assign rfl) ?_
              refine wl_nil ?_
              refine wq_then ?_
              refine wc_seq ?_
              refine wc_seq ?_
              refine wc_region ?_
              rcases add_cases s x.job with ⟨ha, hm, hs⟩ | ⟨ha, hm, hs⟩ | ⟨ha, hm, hs⟩
              ·
                refine wl_y rfl (y_move rfl) ?_
                refine wl_y rfl (y_eqlI rfl rfl) ?_
                refine wl_y rfl (y_move rfl) ?_
                refine wl_known 65 false rfl (by rw [ha]; decide) ?_
                refine wl_sk rfl rfl rfl rfl ?_
                refine wl_sk rfl rfl rfl rfl ?_
                refine wl_sk rfl rfl rfl rfl ?_
                refine wl_sk rfl rfl rfl rfl ?_
                refine wl_sk rfl rfl rfl rfl ?_
                refine wl_y rfl (y_pick_f rfl rfl) ?_
                refine wl_y rfl (y_move rfl) ?_
                refine wl_yg rfl rfl rfl (y_move rfl) ?_
                refine wl_yg rfl rfl rfl (y_eqlI rfl rfl) ?_
                refine wl_yg rfl rfl rfl (y_move rfl) ?_
                refine wl_known 75 true rfl (by rw [ha]; decide) ?_
                refine wl_yg rfl rfl rfl (y_move rfl) ?_
                refine wl_yg rfl rfl rfl (y_fieldAddr F32_1 rfl) ?_
                refine wl_yg rfl rfl rfl (y_fieldAddr F30_0 rfl) ?_
                refine wl_yg rfl rfl rfl (y_load NA9 rfl (by first | exact cell_blk [] rfl | exact cell_blk [_] rfl | exact cell_blk [_, _] rfl | exact cell_blk [_, _, _] rfl | exact cell_blk [_, _, _, _] rfl | exact cell_blk [_, _, _, _, _] rfl | exact cell_blk [_, _, _, _, _, _] rfl | exact cell_blk [_, _, _, _, _, _, _] rfl | exact cell_blk [_, _, _, _, _, _, _, _] rfl | exact cellR_blk (by assumption) rfl)) ?_
                refine wl_yg rfl rfl rfl (y_lookup Try.underlying28 (keyE_str Try.underlying9) T4 rfl rfl (by first | exact fun w hw => hw.seen [] | exact fun w hw => hw.seen [_] | exact fun w hw => hw.seen [_, _] | exact fun w hw => hw.seen [_, _, _] | exact fun w hw => hw.seen [_, _, _, _] | exact fun w hw => hw.seen [_, _, _, _, _] | exact fun w hw => hw.seen [_, _, _, _, _, _] | exact fun w hw => hw.seen [_, _, _, _, _, _, _] | exact fun w hw => hw.seen [_, _, _, _, _, _, _, _] | exact fun w hw => Seen.rngMap (hw.seen []) | exact fun w hw => Seen.rngMap (hw.seen [_]) | exact fun w hw => Seen.rngMap (hw.seen [_, _]) | exact fun w hw => Seen.rngMap (hw.seen [_, _, _]) | exact fun w hw => Seen.rngMap (hw.seen [_, _, _, _]) | exact fun w hw => Seen.rngMap (hw.seen [_, _, _, _, _]) | exact fun w hw => Seen.rngMap (hw.seen [_, _, _, _, _, _]) | exact fun w hw => Seen.rngMap (hw.seen [_, _, _, _, _, _, _]) | exact fun w hw => Seen.rngMap (hw.seen [_, _, _, _, _, _, _, _]))) ?_
                refine wl_same 80 (vB true) rfl (by rw [look_th]; congr 1) ?_
                refine wl_yg rfl rfl rfl (y_not rfl) ?_
                refine wl_yg rfl rfl rfl (y_pick_t rfl rfl) ?_
                refine wl_y rfl (y_pick_f rfl rfl) ?_
                refine wl_nil ?_
                refine wq_then ?_
                refine wc_known 83 false rfl (rfl) ?_
                refine wc_cond_false rfl ?_
                refine wc_skip ?_
                refine wq_then ?_
                refine wc_seq ?_
                refine wc_region ?_
                refine wl_y rfl (y_move rfl) ?_
                refine wl_y rfl (y_eqlI rfl rfl) ?_
                refine wl_nil ?_
                refine wq_then ?_
                refine wc_known 85 false rfl (by rw [ha]; decide) ?_
                refine wc_cond_false rfl ?_
                refine wc_skip ?_
                refine wq_block_normal ?_
                exact wq_cut (s.add x.job).1 (in_add hI hi490 _ hkl) ⟨rfl, rfl, rfl, rfl, trivial⟩ (fun w hw => by rw [hs] at hw ⊢; exact hw.sub (by (repeat (first | exact pt_nil | apply pt0 | apply pt1 | apply pt2 | apply pt3 | apply pt4 | apply pt5 | apply pt6 | apply pt7 | apply pt8 | apply pt9 | apply pt10 | apply pt11 | apply pt12 | apply pt13 | apply pt14 | apply pt15 | apply pt16 | apply pt17))))
              ·
                refine wl_y rfl (y_move rfl) ?_
                refine wl_y rfl (y_eqlI rfl rfl) ?_
                refine wl_y rfl (y_move rfl) ?_
                refine wl_known 65 true rfl (by rw [ha]; decide) ?_
                refine wl_yg rfl rfl rfl (y_move rfl) ?_
                refine wl_yg rfl rfl rfl (y_fieldAddr F32_1 rfl) ?_
                refine wl_yg rfl rfl rfl (y_fieldAddr F30_0 rfl) ?_
                refine wl_yg rfl rfl rfl (y_load NA9 rfl (by first | exact cell_blk [] rfl | exact cell_blk [_] rfl | exact cell_blk [_, _] rfl | exact cell_blk [_, _, _] rfl | exact cell_blk [_, _, _, _] rfl | exact cell_blk [_, _, _, _, _] rfl | exact cell_blk [_, _, _, _, _, _] rfl | exact cell_blk [_, _, _, _, _, _, _] rfl | exact cell_blk [_, _, _, _, _, _, _, _] rfl | exact cellR_blk (by assumption) rfl)) ?_
                refine wl_yg rfl rfl rfl (y_lookup Try.underlying28 (keyE_str Try.underlying9) T4 rfl rfl (by first | exact fun w hw => hw.seen [] | exact fun w hw => hw.seen [_] | exact fun w hw => hw.seen [_, _] | exact fun w hw => hw.seen [_, _, _] | exact fun w hw => hw.seen [_, _, _, _] | exact fun w hw => hw.seen [_, _, _, _, _] | exact fun w hw => hw.seen [_, _, _, _, _, _] | exact fun w hw => hw.seen [_, _, _, _, _, _, _] | exact fun w hw => hw.seen [_, _, _, _, _, _, _, _] | exact fun w hw => Seen.rngMap (hw.seen []) | exact fun w hw => Seen.rngMap (hw.seen [_]) | exact fun w hw => Seen.rngMap (hw.seen [_, _]) | exact fun w hw => Seen.rngMap (hw.seen [_, _, _]) | exact fun w hw => Seen.rngMap (hw.seen [_, _, _, _]) | exact fun w hw => Seen.rngMap (hw.seen [_, _, _, _, _]) | exact fun w hw => Seen.rngMap (hw.seen [_, _, _, _, _, _]) | exact fun w hw => Seen.rngMap (hw.seen [_, _, _, _, _, _, _]) | exact fun w hw => Seen.rngMap (hw.seen [_, _, _, _, _, _, _, _]))) ?_
                refine wl_same 70 (vB false) rfl (by rw [look_th]; congr 1) ?_
                refine wl_y rfl (y_pick_t rfl rfl) ?_
                refine wl_y rfl (y_move rfl) ?_
                refine wl_known 72 false rfl (rfl) ?_
                refine wl_yg rfl rfl rfl (y_move rfl) ?_
                refine wl_yg rfl rfl rfl (y_eqlI rfl rfl) ?_
                refine wl_yg rfl rfl rfl (y_move rfl) ?_
                refine wl_known 75 false rfl (by rw [ha]; decide) ?_
                refine wl_sk rfl rfl rfl rfl ?_
                refine wl_sk rfl rfl rfl rfl ?_
                refine wl_sk rfl rfl rfl rfl ?_
                refine wl_sk rfl rfl rfl rfl ?_
                refine wl_sk rfl rfl rfl rfl ?_
                refine wl_sk rfl rfl rfl rfl ?_
                refine wl_yg rfl rfl rfl (y_pick_f rfl rfl) ?_
                refine wl_y rfl (y_pick_f rfl rfl) ?_
                refine wl_nil ?_
                refine wq_then ?_
                refine wc_cond_false rfl ?_
                refine wc_skip ?_
                refine wq_then ?_
                refine wc_seq ?_
                refine wc_region ?_
                refine wl_y rfl (y_move rfl) ?_
                refine wl_y rfl (y_eqlI rfl rfl) ?_
                refine wl_nil ?_
                refine wq_then ?_
                refine wc_known 85 true rfl (by rw [ha]; decide) ?_
                refine wc_cond_true rfl ?_
                refine wc_region ?_
                refine wl_y rfl (y_move rfl) ?_
                refine wl_y rfl (y_fieldAddr F32_1 rfl) ?_
                refine wl_y rfl (y_fieldAddr F30_0 rfl) ?_
                refine wl_y rfl (y_load NA9 rfl (by first | exact cell_blk [] rfl | exact cell_blk [_] rfl | exact cell_blk [_, _] rfl | exact cell_blk [_, _, _] rfl | exact cell_blk [_, _, _, _] rfl | exact cell_blk [_, _, _, _, _] rfl | exact cell_blk [_, _, _, _, _, _] rfl | exact cell_blk [_, _, _, _, _, _, _] rfl | exact cell_blk [_, _, _, _, _, _, _, _] rfl | exact cellR_blk (by assumption) rfl)) ?_
                first | refine wl_u (yu_mapUpdate [] Try.underlying28 (keyE_str Try.underlying9) rfl rfl rfl) ?_ | refine wl_u (yu_mapUpdate [_] Try.underlying28 (keyE_str Try.underlying9) rfl rfl rfl) ?_ | refine wl_u (yu_mapUpdate [_, _] Try.underlying28 (keyE_str Try.underlying9) rfl rfl rfl) ?_ | refine wl_u (yu_mapUpdate [_, _, _] Try.underlying28 (keyE_str Try.underlying9) rfl rfl rfl) ?_ | refine wl_u (yu_mapUpdate [_, _, _, _] Try.underlying28 (keyE_str Try.underlying9) rfl rfl rfl) ?_ | refine wl_u (yu_mapUpdate [_, _, _, _, _] Try.underlying28 (keyE_str Try.underlying9) rfl rfl rfl) ?_ | refine wl_u (yu_mapUpdate [_, _, _, _, _, _] Try.underlying28 (keyE_str Try.underlying9) rfl rfl rfl) ?_ | refine wl_u (yu_mapUpdate [_, _, _, _, _, _, _] Try.underlying28 (keyE_str Try.underlying9) rfl rfl rfl) ?_ | refine wl_u (yu_mapUpdate [_, _, _, _, _, _, _, _] Try.underlying28 (keyE_str Try.underlying9) rfl rfl rfl) ?_
                refine wl_nil ?_
                refine wq_block_normal ?_
                exact wq_cut (s.add x.job).1 (in_add hI hi490 _ hkl) ⟨rfl, rfl, rfl, rfl, trivial⟩ (fun w hw => by rw [hs]; exact hw.sub (by (repeat (first | exact pt_nil | apply pt0 | apply pt1 | apply pt2 | apply pt3 | apply pt4 | apply pt5 | apply pt6 | apply pt7 | apply pt8 | apply pt9 | apply pt10 | apply pt11 | apply pt12 | apply pt13 | apply pt14 | apply pt15 | apply pt16 | apply pt17))))
              ·
                refine wl_y rfl (y_move rfl) ?_
                refine wl_y rfl (y_eqlI rfl rfl) ?_
                refine wl_y rfl (y_move rfl) ?_
                refine wl_known 65 false rfl (by rw [ha]; decide) ?_
                refine wl_sk rfl rfl rfl rfl ?_
                refine wl_sk rfl rfl rfl rfl ?_
                refine wl_sk rfl rfl rfl rfl ?_
                refine wl_sk rfl rfl rfl rfl ?_
                refine wl_sk rfl rfl rfl rfl ?_
                refine wl_y rfl (y_pick_f rfl rfl) ?_
                refine wl_y rfl (y_move rfl) ?_
                refine wl_yg rfl rfl rfl (y_move rfl) ?_
                refine wl_yg rfl rfl rfl (y_eqlI rfl rfl) ?_
                refine wl_yg rfl rfl rfl (y_move rfl) ?_
                refine wl_known 75 false rfl (by rw [ha]; decide) ?_
                refine wl_sk rfl rfl rfl rfl ?_
                refine wl_sk rfl rfl rfl rfl ?_
                refine wl_sk rfl rfl rfl rfl ?_
                refine wl_sk rfl rfl rfl rfl ?_
                refine wl_sk rfl rfl rfl rfl ?_
                refine wl_sk rfl rfl rfl rfl ?_
                refine wl_yg rfl rfl rfl (y_pick_f rfl rfl) ?_
                refine wl_y rfl (y_pick_f rfl rfl) ?_
                refine wl_nil ?_
                refine wq_then ?_
                refine wc_cond_false rfl ?_
                refine wc_skip ?_
                refine wq_then ?_
                refine wc_seq ?_
                refine wc_region ?_
                refine wl_y rfl (y_move rfl) ?_
                refine wl_y rfl (y_eqlI rfl rfl) ?_
                refine wl_nil ?_
                refine wq_then ?_
                refine wc_known 85 false rfl (by rw [ha]; decide) ?_
                refine wc_cond_false rfl ?_
                refine wc_skip ?_
                refine wq_block_normal ?_
                exact wq_cut (s.add x.job).1 (in_add hI hi490 _ hkl) ⟨rfl, rfl, rfl, rfl, trivial⟩ (fun w hw => by rw [hs] at hw ⊢; exact hw.sub (by (repeat (first | exact pt_nil | apply pt0 | apply pt1 | apply pt2 | apply pt3 | apply pt4 | apply pt5 | apply pt6 | apply pt7 | apply pt8 | apply pt9 | apply pt10 | apply pt11 | apply pt12 | apply pt13 | apply pt14 | apply pt15 | apply pt16 | apply pt17))))
            ·
              simp at hc57
              refine wc_seq ?_
              refine wc_region ?_
              refine wl_y rfl (y_eqlI rfl rfl) ?_
              refine wl_y rfl (y_assign rfl) ?_
              refine wl_nil ?_
              refine wq_then ?_
              refine wc_cond rfl (fun hc90 => ?_) (fun hc90 => ?_)
              ·
                simp at hc90
                refine wc_region ?_
                refine wl_y rfl (y_move rfl) ?_
                refine wl_y rfl (y_fieldAddr F32_2 rfl) ?_
                refine wl_y rfl (y_load NA9 rfl (by first | exact cell_blk [] rfl | exact cell_blk [_] rfl | exact cell_blk [_, _] rfl | exact cell_blk [_, _, _] rfl | exact cell_blk [_, _, _, _] rfl | exact cell_blk [_, _, _, _, _] rfl | exact cell_blk [_, _, _, _, _, _] rfl | exact cell_blk [_, _, _, _, _, _, _] rfl | exact cell_blk [_, _, _, _, _, _, _, _] rfl | exact cellR_blk (by assumption) rfl)) ?_
                refine wl_c (fun _ _ => want_none) rfl (yc_spec (fst := []) (cap := []) _ FN10 (sjoin_c x22 s x.worker) rfl rfl rfl (by (repeat (first | exact pt_nil | apply pt0 | apply pt1 | apply pt2 | apply pt3 | apply pt4 | apply pt5 | apply pt6 | apply pt7 | apply pt8 | apply pt9 | apply pt10 | apply pt11 | apply pt12 | apply pt13 | apply pt14 | apply pt15 | apply pt16 | apply pt17))) (by (repeat (first | exact ro_nil | exact ro_rest (by assumption) | refine ro_cons (by first | exact .inl (by assumption) | exact ro_f0 (fun _ h => h) | exact ro_f0 (fun _ => slc_rsl) | exact ro_f1 (fun _ h => h) | exact ro_f1 (fun _ => slc_rsl) | exact ro_f2 (fun _ h => h) | exact ro_f2 (fun _ => slc_rsl) | exact ro_f3 (fun _ h => h) | exact ro_f3 (fun _ => slc_rsl) | exact ro_f4 (fun _ h => h) | exact ro_f4 (fun _ => slc_rsl) | exact ro_f5 (fun _ h => h) | exact ro_f5 (fun _ => slc_rsl) | exact ro_f6 (fun _ h => h) | exact ro_f6 (fun _ => slc_rsl)) ?_)))) (wl_ex fun x95 hx95 => ?_)
                refine wl_nil ?_
                refine wq_block_normal ?_
                exact wq_cut (s.join x.worker).1 (in_join hI _) ⟨rfl, rfl, rfl, rfl, trivial⟩ (fun w hw => by rw [join_th]; exact hw.sub (by (repeat (first | exact pt_nil | apply pt0 | apply pt1 | apply pt2 | apply pt3 | apply pt4 | apply pt5 | apply pt6 | apply pt7 | apply pt8 | apply pt9 | apply pt10 | apply pt11 | apply pt12 | apply pt13 | apply pt14 | apply pt15 | apply pt16 | apply pt17))))
              ·
                simp at hc90
                refine wc_seq ?_
                refine wc_region ?_
                refine wl_y rfl (y_eqlI rfl rfl) ?_
                refine wl_y rfl (y_assign rfl) ?_
                refine wl_nil ?_
                refine wq_then ?_
                refine wc_cond rfl (fun hc96 => ?_) (fun hc96 => ?_)
                ·
                  simp at hc96
                  refine wc_region ?_
                  refine wl_y rfl (y_move rfl) ?_
                  refine wl_y rfl (y_fieldAddr F32_2 rfl) ?_
                  refine wl_y rfl (y_load NA9 rfl (by first | exact cell_blk [] rfl | exact cell_blk [_] rfl | exact cell_blk [_, _] rfl | exact cell_blk [_, _, _] rfl | exact cell_blk [_, _, _, _] rfl | exact cell_blk [_, _, _, _, _] rfl | exact cell_blk [_, _, _, _, _, _] rfl | exact cell_blk [_, _, _, _, _, _, _] rfl | exact cell_blk [_, _, _, _, _, _, _, _] rfl | exact cellR_blk (by assumption) rfl)) ?_
                  refine wl_c (fun _ _ => want_none) rfl (yc_spec (fst := []) (cap := []) _ FN12 (sleave_c x22 s x.worker n i hI h1 h2 hi490) rfl rfl rfl (by (repeat (first | exact pt_nil | apply pt0 | apply pt1 | apply pt2 | apply pt3 | apply pt4 | apply pt5 | apply pt6 | apply pt7 | apply pt8 | apply pt9 | apply pt10 | apply pt11 | apply pt12 | apply pt13 | apply pt14 | apply pt15 | apply pt16 | apply pt17))) (by (repeat (first | exact ro_nil | exact ro_rest (by assumption) | refine ro_cons (by first | exact .inl (by assumption) | exact ro_f0 (fun _ h => h) | exact ro_f0 (fun _ => slc_rsl) | exact ro_f1 (fun _ h => h) | exact ro_f1 (fun _ => slc_rsl) | exact ro_f2 (fun _ h => h) | exact ro_f2 (fun _ => slc_rsl) | exact ro_f3 (fun _ h => h) | exact ro_f3 (fun _ => slc_rsl) | exact ro_f4 (fun _ h => h) | exact ro_f4 (fun _ => slc_rsl) | exact ro_f5 (fun _ h => h) | exact ro_f5 (fun _ => slc_rsl) | exact ro_f6 (fun _ h => h) | exact ro_f6 (fun _ => slc_rsl)) ?_)))) (wl_ex fun x101 hx101 => ?_)
                  refine wl_nil ?_
                  refine wq_block_normal ?_
                  exact wq_cut (s.leave x.worker).1 (in_leave hI hi490 _) ⟨rfl, rfl, rfl, rfl, trivial⟩ (fun w hw => by rw [leave_th]; exact hw.sub (by (repeat (first | exact pt_nil | apply pt0 | apply pt1 | apply pt2 | apply pt3 | apply pt4 | apply pt5 | apply pt6 | apply pt7 | apply pt8 | apply pt9 | apply pt10 | apply pt11 | apply pt12 | apply pt13 | apply pt14 | apply pt15 | apply pt16 | apply pt17))))
                ·
                  simp at hc96
                  refine wc_seq ?_
                  refine wc_region ?_
                  refine wl_y rfl (y_eqlI rfl rfl) ?_
                  refine wl_y rfl (y_assign rfl) ?_
                  refine wl_nil ?_
                  refine wq_then ?_
                  refine wc_cond rfl (fun hc102 => ?_) (fun hc102 => ?_)
                  ·
                    simp at hc102
                    refine wc_seq ?_
                    refine wc_region ?_
                    refine wl_y rfl (y_move rfl) ?_
                    refine wl_y rfl (y_fieldAddr F32_2 rfl) ?_
                    refine wl_y rfl (y_load NA9 rfl (by first | exact cell_blk [] rfl | exact cell_blk [_] rfl | exact cell_blk [_, _] rfl | exact cell_blk [_, _, _] rfl | exact cell_blk [_, _, _, _] rfl | exact cell_blk [_, _, _, _, _] rfl | exact cell_blk [_, _, _, _, _, _] rfl | exact cell_blk [_, _, _, _, _, _, _] rfl | exact cell_blk [_, _, _, _, _, _, _, _] rfl | exact cellR_blk (by assumption) rfl)) ?_
                    refine wl_y rfl (y_fieldAddr F32_4 rfl) ?_
                    refine wl_y rfl (y_load NA3 rfl (by first | exact cell_blk [] rfl | exact cell_blk [_] rfl | exact cell_blk [_, _] rfl | exact cell_blk [_, _, _] rfl | exact cell_blk [_, _, _, _] rfl | exact cell_blk [_, _, _, _, _] rfl | exact cell_blk [_, _, _, _, _, _] rfl | exact cell_blk [_, _, _, _, _, _, _] rfl | exact cell_blk [_, _, _, _, _, _, _, _] rfl | exact cellR_blk (by assumption) rfl)) ?_
                    refine wl_c (fun _ _ => want_none) rfl (yc_spec (fst := []) (cap := []) _ FN11 (snext_c x22 s x.worker x.now n i hI h1 h2 hi490) rfl rfl rfl (by (repeat (first | exact pt_nil | apply pt0 | apply pt1 | apply pt2 | apply pt3 | apply pt4 | apply pt5 | apply pt6 | apply pt7 | apply pt8 | apply pt9 | apply pt10 | apply pt11 | apply pt12 | apply pt13 | apply pt14 | apply pt15 | apply pt16 | apply pt17))) (by (repeat (first | exact ro_nil | exact ro_rest (by assumption) | refine ro_cons (by first | exact .inl (by assumption) | exact ro_f0 (fun _ h => h) | exact ro_f0 (fun _ => slc_rsl) | exact ro_f1 (fun _ h => h) | exact ro_f1 (fun _ => slc_rsl) | exact ro_f2 (fun _ h => h) | exact ro_f2 (fun _ => slc_rsl) | exact ro_f3 (fun _ h => h) | exact ro_f3 (fun _ => slc_rsl) | exact ro_f4 (fun _ h => h) | exact ro_f4 (fun _ => slc_rsl) | exact ro_f5 (fun _ h => h) | exact ro_f5 (fun _ => slc_rsl) | exact ro_f6 (fun _ h => h) | exact ro_f6 (fun _ => slc_rsl)) ?_)))) (wl_ex fun x110 hx110 => ?_)
                    refine wl_y rfl (y_move rfl) ?_
                    rcases (next_cases hI hi490 x.worker x.now).2 with ⟨l, hl, hG⟩ | ⟨e, he0, hl, _⟩
                    ·
                      refine wl_y rfl (y_extract rfl rfl) ?_
                      refine wl_same 111 (agL l) rfl (by rw [hl]) ?_
                      refine wl_y rfl (y_extract rfl rfl) ?_
                      refine wl_same 112 (vI 0) rfl (by rw [hl]) ?_
                      refine wl_w (fun _ _ => want_none) rfl (yw_alloc T36 rfl) (wl_ex fun b13 _ => ?_)
                      first | refine wl_u (yu_storeAgg [] (l' := [_, _, _, _, _, _]) T36 rfl rfl rfl (by simp [Value.oneCell', encL, encJ, encO]) rfl rfl) ?_ | refine wl_u (yu_storeAgg [_] (l' := [_, _, _, _, _, _]) T36 rfl rfl rfl (by simp [Value.oneCell', encL, encJ, encO]) rfl rfl) ?_ | refine wl_u (yu_storeAgg [_, _] (l' := [_, _, _, _, _, _]) T36 rfl rfl rfl (by simp [Value.oneCell', encL, encJ, encO]) rfl rfl) ?_ | refine wl_u (yu_storeAgg [_, _, _] (l' := [_, _, _, _, _, _]) T36 rfl rfl rfl (by simp [Value.oneCell', encL, encJ, encO]) rfl rfl) ?_ | refine wl_u (yu_storeAgg [_, _, _, _] (l' := [_, _, _, _, _, _]) T36 rfl rfl rfl (by simp [Value.oneCell', encL, encJ, encO]) rfl rfl) ?_ | refine wl_u (yu_storeAgg [_, _, _, _, _] (l' := [_, _, _, _, _, _]) T36 rfl rfl rfl (by simp [Value.oneCell', encL, encJ, encO]) rfl rfl) ?_ | refine wl_u (yu_storeAgg [_, _, _, _, _, _] (l' := [_, _, _, _, _, _]) T36 rfl rfl rfl (by simp [Value.oneCell', encL, encJ, encO]) rfl rfl) ?_ | refine wl_u (yu_storeAgg [_, _, _, _, _, _, _] (l' := [_, _, _, _, _, _]) T36 rfl rfl rfl (by simp [Value.oneCell', encL, encJ, encO]) rfl rfl) ?_ | refine wl_u (yu_storeAgg [_, _, _, _, _, _, _, _] (l' := [_, _, _, _, _, _]) T36 rfl rfl rfl (by simp [Value.oneCell', encL, encJ, encO]) rfl rfl) ?_
                      refine wl_y rfl (y_assign rfl) ?_
                      refine wl_nil ?_
                      refine wq_then ?_
                      refine wc_seq ?_
                      refine wc_region ?_
                      refine wl_y rfl (y_move rfl) ?_
                      refine wl_y rfl (y_eqlI rfl rfl) ?_
                      refine wl_y rfl (y_move rfl) ?_
                      refine wl_known 115 true rfl (by decide) ?_
                      refine wl_yg rfl rfl rfl (y_move rfl) ?_
                      refine wl_yg rfl rfl rfl (y_fieldAddr F36_0 rfl) ?_
                      refine wl_yg rfl rfl rfl (y_fieldAddr F30_0 rfl) ?_
                      refine wl_yg rfl rfl rfl (y_load NA9 rfl (by first | exact cell_blk [] rfl | exact cell_blk [_] rfl | exact cell_blk [_, _] rfl | exact cell_blk [_, _, _] rfl | exact cell_blk [_, _, _, _] rfl | exact cell_blk [_, _, _, _, _] rfl | exact cell_blk [_, _, _, _, _, _] rfl | exact cell_blk [_, _, _, _, _, _, _] rfl | exact cell_blk [_, _, _, _, _, _, _, _] rfl | exact cellR_blk (by assumption) rfl)) ?_
                      refine wl_yg rfl rfl rfl (y_lookup Try.underlying28 (keyE_str Try.underlying9) T4 rfl rfl (by first | exact fun w hw => hw.seen [] | exact fun w hw => hw.seen [_] | exact fun w hw => hw.seen [_, _] | exact fun w hw => hw.seen [_, _, _] | exact fun w hw => hw.seen [_, _, _, _] | exact fun w hw => hw.seen [_, _, _, _, _] | exact fun w hw => hw.seen [_, _, _, _, _, _] | exact fun w hw => hw.seen [_, _, _, _, _, _, _] | exact fun w hw => hw.seen [_, _, _, _, _, _, _, _] | exact fun w hw => Seen.rngMap (hw.seen []) | exact fun w hw => Seen.rngMap (hw.seen [_]) | exact fun w hw => Seen.rngMap (hw.seen [_, _]) | exact fun w hw => Seen.rngMap (hw.seen [_, _, _]) | exact fun w hw => Seen.rngMap (hw.seen [_, _, _, _]) | exact fun w hw => Seen.rngMap (hw.seen [_, _, _, _, _]) | exact fun w hw => Seen.rngMap (hw.seen [_, _, _, _, _, _]) | exact fun w hw => Seen.rngMap (hw.seen [_, _, _, _, _, _, _]) | exact fun w hw => Seen.rngMap (hw.seen [_, _, _, _, _, _, _, _]))) ?_
                      refine wl_same 120 (vB true) rfl (by rw [look_th]; congr 1; exact (hI.has _).2 ⟨l.job, hG.mem, rfl⟩) ?_
                      refine wl_yg rfl rfl rfl (y_not rfl) ?_
                      refine wl_yg rfl rfl rfl (y_move rfl) ?_
                      refine wl_known 122 false rfl (rfl) ?_
                      refine wl_yg rfl rfl rfl (y_fieldAddr F36_1 rfl) ?_
                      refine wl_yg rfl rfl rfl (y_load NA9 rfl (by first | exact cell_blk [] rfl | exact cell_blk [_] rfl | exact cell_blk [_, _] rfl | exact cell_blk [_, _, _] rfl | exact cell_blk [_, _, _, _] rfl | exact cell_blk [_, _, _, _, _] rfl | exact cell_blk [_, _, _, _, _, _] rfl | exact cell_blk [_, _, _, _, _, _, _] rfl | exact cell_blk [_, _, _, _, _, _, _, _] rfl | exact cellR_blk (by assumption) rfl)) ?_
                      refine wl_yg rfl rfl rfl (y_fieldAddr F32_2 rfl) ?_
                      refine wl_yg rfl rfl rfl (y_load NA9 rfl (by first | exact cell_blk [] rfl | exact cell_blk [_] rfl | exact cell_blk [_, _] rfl | exact cell_blk [_, _, _] rfl | exact cell_blk [_, _, _, _] rfl | exact cell_blk [_, _, _, _, _] rfl | exact cell_blk [_, _, _, _, _, _] rfl | exact cell_blk [_, _, _, _, _, _, _] rfl | exact cell_blk [_, _, _, _, _, _, _, _] rfl | exact cellR_blk (by assumption) rfl)) ?_
                      refine wl_yg rfl rfl rfl (y_neqS rfl rfl) ?_
                      refine wl_yg rfl rfl rfl (y_pick_f rfl rfl) ?_
                      refine wl_y rfl (y_pick_t rfl rfl) ?_
                      refine wl_nil ?_
                      refine wq_then ?_
                      refine wc_known 129 false rfl (by rw [hG.worker]; simp) ?_
                      refine wc_cond_false rfl ?_
                      refine wc_skip ?_
                      refine wq_block_normal ?_
                      exact wq_cut (s.next x.worker x.now).1 (next_cases hI hi490 _ _).1 ⟨rfl, rfl, rfl, rfl, trivial⟩ (fun w hw => by rw [next_th hI hi490]; exact hw.sub (by (repeat (first | exact pt_nil | apply pt0 | apply pt1 | apply pt2 | apply pt3 | apply pt4 | apply pt5 | apply pt6 | apply pt7 | apply pt8 | apply pt9 | apply pt10 | apply pt11 | apply pt12 | apply pt13 | apply pt14 | apply pt15 | apply pt16 | apply pt17))))
                    ·
                      refine wl_y rfl (y_extract rfl rfl) ?_
                      refine wl_same 111 (agL noL) rfl (by rw [hl]) ?_
                      refine wl_y rfl (y_extract rfl rfl) ?_
                      refine wl_same 112 (vI e) rfl (by rw [hl]) ?_
                      refine wl_w (fun _ _ => want_none) rfl (yw_alloc T36 rfl) (wl_ex fun b13 _ => ?_)
                      first | refine wl_u (yu_storeAgg [] (l' := [_, _, _, _, _, _]) T36 rfl rfl rfl (by simp [Value.oneCell', encL, encJ, encO]) rfl rfl) ?_ | refine wl_u (yu_storeAgg [_] (l' := [_, _, _, _, _, _]) T36 rfl rfl rfl (by simp [Value.oneCell', encL, encJ, encO]) rfl rfl) ?_ | refine wl_u (yu_storeAgg [_, _] (l' := [_, _, _, _, _, _]) T36 rfl rfl rfl (by simp [Value.oneCell', encL, encJ, encO]) rfl rfl) ?_ | refine wl_u (yu_storeAgg [_, _, _] (l' := [_, _, _, _, _, _]) T36 rfl rfl rfl (by simp [Value.oneCell', encL, encJ, encO]) rfl rfl) ?_ | refine wl_u (yu_storeAgg [_, _, _, _] (l' := [_, _, _, _, _, _]) T36 rfl rfl rfl (by simp [Value.oneCell', encL, encJ, encO]) rfl rfl) ?_ | refine wl_u (yu_storeAgg [_, _, _, _, _] (l' := [_, _, _, _, _, _]) T36 rfl rfl rfl (by simp [Value.oneCell', encL, encJ, encO]) rfl rfl) ?_ | refine wl_u (yu_storeAgg [_, _, _, _, _, _] (l' := [_, _, _, _, _, _]) T36 rfl rfl rfl (by simp [Value.oneCell', encL, encJ, encO]) rfl rfl) ?_ | refine wl_u (yu_storeAgg [_, _, _, _, _, _, _] (l' := [_, _, _, _, _, _]) T36 rfl rfl rfl (by simp [Value.oneCell', encL, encJ, encO]) rfl rfl) ?_ | refine wl_u (yu_storeAgg [_, _, _, _, _, _, _, _] (l' := [_, _, _, _, _, _]) T36 rfl rfl rfl (by simp [Value.oneCell', encL, encJ, encO]) rfl rfl) ?_
                      refine wl_y rfl (y_assign rfl) ?_
                      refine wl_nil ?_
                      refine wq_then ?_
                      refine wc_seq ?_
                      refine wc_region ?_
                      refine wl_y rfl (y_move rfl) ?_
                      refine wl_y rfl (y_eqlI rfl rfl) ?_
                      refine wl_y rfl (y_move rfl) ?_
                      refine wl_known 115 false rfl (by simp [he0]) ?_
                      refine wl_sk rfl rfl rfl rfl ?_
                      refine wl_sk rfl rfl rfl rfl ?_
                      refine wl_sk rfl rfl rfl rfl ?_
                      refine wl_sk rfl rfl rfl rfl ?_
                      refine wl_sk rfl rfl rfl rfl ?_
                      refine wl_sk rfl rfl rfl rfl ?_
                      refine wl_sk rfl rfl rfl rfl ?_
                      refine wl_sku rfl rfl rfl ?_
                      refine wl_sku rfl rfl rfl ?_
                      refine wl_sku rfl rfl rfl ?_
                      refine wl_sku rfl rfl rfl ?_
                      refine wl_sku rfl rfl rfl ?_
                      refine wl_sk rfl rfl rfl rfl ?_
                      refine wl_y rfl (y_pick_f rfl rfl) ?_
                      refine wl_nil ?_
                      refine wq_then ?_
                      refine wc_cond_false rfl ?_
                      refine wc_skip ?_
                      refine wq_block_normal ?_
                      exact wq_cut (s.next x.worker x.now).1 (next_cases hI hi490 _ _).1 ⟨rfl, rfl, rfl, rfl, trivial⟩ (fun w hw => by rw [next_th hI hi490]; exact hw.sub (by (repeat (first | exact pt_nil | apply pt0 | apply pt1 | apply pt2 | apply pt3 | apply pt4 | apply pt5 | apply pt6 | apply pt7 | apply pt8 | apply pt9 | apply pt10 | apply pt11 | apply pt12 | apply pt13 | apply pt14 | apply pt15 | apply pt16 | apply pt17))))
                  ·
                    simp at hc102
                    refine wc_seq ?_
                    refine wc_region ?_
                    refine wl_y rfl (y_eqlI rfl rfl) ?_
                    refine wl_y rfl (y_assign rfl) ?_
                    refine wl_nil ?_
                    refine wq_then ?_
                    refine wc_cond rfl (fun hc130 => ?_) (fun hc130 => ?_)
                    ·
                      simp at hc130
                      refine wc_seq ?_
                      refine wc_region ?_
                      refine wl_y rfl (y_move rfl) ?_
                      refine wl_c (fun _ _ => want_none) rfl (yc_spec (fst := []) (cap := []) _ FN13 (sleases_c x22 s (hI.fits hi490)) rfl rfl rfl (by (repeat (first | exact pt_nil | apply pt0 | apply pt1 | apply pt2 | apply pt3 | apply pt4 | apply pt5 | apply pt6 | apply pt7 | apply pt8 | apply pt9 | apply pt10 | apply pt11 | apply pt12 | apply pt13 | apply pt14 | apply pt15 | apply pt16 | apply pt17))) (by (repeat (first | exact ro_nil | exact ro_rest (by assumption) | refine ro_cons (by first | exact .inl (by assumption) | exact ro_f0 (fun _ h => h) | exact ro_f0 (fun _ => slc_rsl) | exact ro_f1 (fun _ h => h) | exact ro_f1 (fun _ => slc_rsl) | exact ro_f2 (fun _ h => h) | exact ro_f2 (fun _ => slc_rsl) | exact ro_f3 (fun _ h => h) | exact ro_f3 (fun _ => slc_rsl) | exact ro_f4 (fun _ h => h) | exact ro_f4 (fun _ => slc_rsl) | exact ro_f5 (fun _ h => h) | exact ro_f5 (fun _ => slc_rsl) | exact ro_f6 (fun _ h => h) | exact ro_f6 (fun _ => slc_rsl)) ?_)))) (wl_ex fun x133 hx133 => ?_)
                      refine wl_y rfl (y_assign rfl) ?_
                      refine wl_nil ?_
                      refine wq_then ?_
                      refine wc_seq ?_
                      refine wc_region ?_
                      refine wl_y rfl (y_move rfl) ?_
                      refine wl_y rfl (y_lenSl Try.underlying39 rfl) ?_
                      refine wl_y rfl (y_gtr rfl rfl) ?_
                      refine wl_nil ?_
                      refine wq_then ?_
                      refine wc_cond rfl (fun hc136 => ?_) (fun hc136 => ?_)
                      ·
                        simp at hc136
                        refine wc_seq ?_
                        refine wc_region ?_
                        have hsl : s.t.srt.length ≤ i := by have := hI.lens.2.2; rw [Tb.srt_len]; omega
                        obtain ⟨k, hk, hke, hk1, hk2⟩ := rem_idx x.num (k := s.t.srt.length) (by omega)
                        obtain ⟨l, hl⟩ : ∃ l, s.t.srt[k]? = some l := ⟨_, List.getElem?_eq_getElem hk⟩
                        have hlm := List.mem_of_getElem? hl
                        obtain ⟨hf1, hf2⟩ := finish_hit hI hlm
                        have hlt := srt_there hI hlm
                        refine wl_y rfl (y_move rfl) ?_
                        refine wl_y rfl (y_fieldAddr F32_3 rfl) ?_
                        refine wl_y rfl (y_load NA3 rfl (by first | exact cell_blk [] rfl | exact cell_blk [_] rfl | exact cell_blk [_, _] rfl | exact cell_blk [_, _, _] rfl | exact cell_blk [_, _, _, _] rfl | exact cell_blk [_, _, _, _, _] rfl | exact cell_blk [_, _, _, _, _, _] rfl | exact cell_blk [_, _, _, _, _, _, _] rfl | exact cell_blk [_, _, _, _, _, _, _, _] rfl | exact cellR_blk (by assumption) rfl)) ?_
                        refine wl_y rfl (y_move rfl) ?_
                        refine wl_y rfl (y_lenSl Try.underlying39 rfl) ?_
                        refine wl_y rfl (y_remE (r := x.num.tmod (s.t.srt.length : Nat)) rfl rfl (by omega) rfl) ?_
                        refine wl_y rfl (y_move rfl) ?_
                        refine wl_y rfl (y_lenSl Try.underlying39 rfl) ?_
                        refine wl_y rfl (y_add rfl rfl (by omega)) ?_
                        refine wl_y rfl (y_move rfl) ?_
                        refine wl_y rfl (y_lenSl Try.underlying39 rfl) ?_
                        refine wl_y rfl (y_remE (r := ((k : Nat) : Int)) rfl rfl (by omega) hke) ?_
                        refine wl_y rfl (y_indexAddr (i := k) Try.underlying39 T36 rfl rfl rfl (by omega) (by first | exact fun w hw => hw.slc_isSome [] (by omega) | exact fun w hw => hw.slc_isSome [_] (by omega) | exact fun w hw => hw.slc_isSome [_, _] (by omega) | exact fun w hw => hw.slc_isSome [_, _, _] (by omega) | exact fun w hw => hw.slc_isSome [_, _, _, _] (by omega))) ?_
                        refine wl_y rfl (y_loadAgg AG36 rfl rfl (by first | exact agg_own [] (fun i u h => rows_get encL_len hl h) | exact agg_own [_] (fun i u h => rows_get encL_len hl h) | exact agg_own [_, _] (fun i u h => rows_get encL_len hl h) | exact agg_own [_, _, _] (fun i u h => rows_get encL_len hl h) | exact agg_own [_, _, _, _] (fun i u h => rows_get encL_len hl h))) ?_
                        refine wl_w (fun _ _ => want_none) rfl (yw_alloc T36 rfl) (wl_ex fun b16 _ => ?_)
                        first | refine wl_u (yu_storeAgg [] (l' := [_, _, _, _, _, _]) T36 rfl rfl rfl (by simp [Value.oneCell', encL, encJ, encO]) rfl rfl) ?_ | refine wl_u (yu_storeAgg [_] (l' := [_, _, _, _, _, _]) T36 rfl rfl rfl (by simp [Value.oneCell', encL, encJ, encO]) rfl rfl) ?_ | refine wl_u (yu_storeAgg [_, _] (l' := [_, _, _, _, _, _]) T36 rfl rfl rfl (by simp [Value.oneCell', encL, encJ, encO]) rfl rfl) ?_ | refine wl_u (yu_storeAgg [_, _, _] (l' := [_, _, _, _, _, _]) T36 rfl rfl rfl (by simp [Value.oneCell', encL, encJ, encO]) rfl rfl) ?_ | refine wl_u (yu_storeAgg [_, _, _, _] (l' := [_, _, _, _, _, _]) T36 rfl rfl rfl (by simp [Value.oneCell', encL, encJ, encO]) rfl rfl) ?_ | refine wl_u (yu_storeAgg [_, _, _, _, _] (l' := [_, _, _, _, _, _]) T36 rfl rfl rfl (by simp [Value.oneCell', encL, encJ, encO]) rfl rfl) ?_ | refine wl_u (yu_storeAgg [_, _, _, _, _, _] (l' := [_, _, _, _, _, _]) T36 rfl rfl rfl (by simp [Value.oneCell', encL, encJ, encO]) rfl rfl) ?_ | refine wl_u (yu_storeAgg [_, _, _, _, _, _, _] (l' := [_, _, _, _, _, _]) T36 rfl rfl rfl (by simp [Value.oneCell', encL, encJ, encO]) rfl rfl) ?_ | refine wl_u (yu_storeAgg [_, _, _, _, _, _, _, _] (l' := [_, _, _, _, _, _]) T36 rfl rfl rfl (by simp [Value.oneCell', encL, encJ, encO]) rfl rfl) ?_
                        refine wl_nil ?_
                        refine wq_then ?_
                        refine wc_seq ?_
                        refine wc_seq ?_
                        refine wc_region ?_
                        refine wl_y rfl (y_move rfl) ?_
                        refine wl_y rfl (y_fieldAddr F36_0 rfl) ?_
                        refine wl_y rfl (y_fieldAddr F30_0 rfl) ?_
                        refine wl_y rfl (y_load NA9 rfl (by first | exact cell_blk [] rfl | exact cell_blk [_] rfl | exact cell_blk [_, _] rfl | exact cell_blk [_, _, _] rfl | exact cell_blk [_, _, _, _] rfl | exact cell_blk [_, _, _, _, _] rfl | exact cell_blk [_, _, _, _, _, _] rfl | exact cell_blk [_, _, _, _, _, _, _] rfl | exact cell_blk [_, _, _, _, _, _, _, _] rfl | exact cellR_blk (by assumption) rfl)) ?_
                        refine wl_y rfl (y_fieldAddr F36_2 rfl) ?_
                        refine wl_y rfl (y_load NA3 rfl (by first | exact cell_blk [] rfl | exact cell_blk [_] rfl | exact cell_blk [_, _] rfl | exact cell_blk [_, _, _] rfl | exact cell_blk [_, _, _, _] rfl | exact cell_blk [_, _, _, _, _] rfl | exact cell_blk [_, _, _, _, _, _] rfl | exact cell_blk [_, _, _, _, _, _, _] rfl | exact cell_blk [_, _, _, _, _, _, _, _] rfl | exact cellR_blk (by assumption) rfl)) ?_
                        refine wl_c (fun _ _ => want_none) rfl (yc_spec (fst := []) (cap := []) _ FN15 (sfinish_c x22 s l.job.key l.epoch) rfl rfl rfl (by (repeat (first | exact pt_nil | apply pt0 | apply pt1 | apply pt2 | apply pt3 | apply pt4 | apply pt5 | apply pt6 | apply pt7 | apply pt8 | apply pt9 | apply pt10 | apply pt11 | apply pt12 | apply pt13 | apply pt14 | apply pt15 | apply pt16 | apply pt17))) (by (repeat (first | exact ro_nil | exact ro_rest (by assumption) | refine ro_cons (by first | exact .inl (by assumption) | exact ro_f0 (fun _ h => h) | exact ro_f0 (fun _ => slc_rsl) | exact ro_f1 (fun _ h => h) | exact ro_f1 (fun _ => slc_rsl) | exact ro_f2 (fun _ h => h) | exact ro_f2 (fun _ => slc_rsl) | exact ro_f3 (fun _ h => h) | exact ro_f3 (fun _ => slc_rsl) | exact ro_f4 (fun _ h => h) | exact ro_f4 (fun _ => slc_rsl) | exact ro_f5 (fun _ h => h) | exact ro_f5 (fun _ => slc_rsl) | exact ro_f6 (fun _ h => h) | exact ro_f6 (fun _ => slc_rsl)) ?_)))) (wl_ex fun x157 hx157 => ?_)
                        refine wl_same 157 (vI 0) rfl (by rw [hf1]) ?_
                        refine wl_world (S' := Hp w0 K [scA x22 ({ s with t := { s.t with m := mdel s.t.m l.job.key }, th := mdel s.th l.job.key } : Sc), mapA vS vB b36 s.th, blk b16 (.cells (encL l).toArray 36 (0, 0))]) (fun w hw => by rw [hf1] at hw; exact hw.sub (by (repeat (first | exact pt_nil | apply pt0 | apply pt1 | apply pt2 | apply pt3 | apply pt4 | apply pt5 | apply pt6 | apply pt7 | apply pt8 | apply pt9 | apply pt10 | apply pt11 | apply pt12 | apply pt13 | apply pt14 | apply pt15 | apply pt16 | apply pt17)))) ?_
                        refine wl_y rfl (y_neqI rfl rfl) ?_
                        refine wl_y rfl (y_move rfl) ?_
                        refine wl_known 159 false rfl (by decide) ?_
                        refine wl_yg rfl rfl rfl (y_move rfl) ?_
                        refine wl_yg rfl rfl rfl (y_fieldAddr F36_0 rfl) ?_
                        refine wl_yg rfl rfl rfl (y_fieldAddr F30_0 rfl) ?_
                        refine wl_yg rfl rfl rfl (y_load NA9 rfl (by first | exact cell_blk [] rfl | exact cell_blk [_] rfl | exact cell_blk [_, _] rfl | exact cell_blk [_, _, _] rfl | exact cell_blk [_, _, _, _] rfl | exact cell_blk [_, _, _, _, _] rfl | exact cell_blk [_, _, _, _, _, _] rfl | exact cell_blk [_, _, _, _, _, _, _] rfl | exact cell_blk [_, _, _, _, _, _, _, _] rfl | exact cellR_blk (by assumption) rfl)) ?_
                        refine wl_yg rfl rfl rfl (y_lookup Try.underlying28 (keyE_str Try.underlying9) T4 rfl rfl (by first | exact fun w hw => hw.seen [] | exact fun w hw => hw.seen [_] | exact fun w hw => hw.seen [_, _] | exact fun w hw => hw.seen [_, _, _] | exact fun w hw => hw.seen [_, _, _, _] | exact fun w hw => hw.seen [_, _, _, _, _] | exact fun w hw => hw.seen [_, _, _, _, _, _] | exact fun w hw => hw.seen [_, _, _, _, _, _, _] | exact fun w hw => hw.seen [_, _, _, _, _, _, _, _] | exact fun w hw => Seen.rngMap (hw.seen []) | exact fun w hw => Seen.rngMap (hw.seen [_]) | exact fun w hw => Seen.rngMap (hw.seen [_, _]) | exact fun w hw => Seen.rngMap (hw.seen [_, _, _]) | exact fun w hw => Seen.rngMap (hw.seen [_, _, _, _]) | exact fun w hw => Seen.rngMap (hw.seen [_, _, _, _, _]) | exact fun w hw => Seen.rngMap (hw.seen [_, _, _, _, _, _]) | exact fun w hw => Seen.rngMap (hw.seen [_, _, _, _, _, _, _]) | exact fun w hw => Seen.rngMap (hw.seen [_, _, _, _, _, _, _, _]))) ?_
                        refine wl_same 164 (vB true) rfl (by rw [look_th]; congr 1) ?_
                        refine wl_yg rfl rfl rfl (y_not rfl) ?_
                        refine wl_y rfl (y_pick_f rfl rfl) ?_
                        refine wl_y rfl (y_move rfl) ?_
                        refine wl_known 167 false rfl (rfl) ?_
                        refine wl_yg rfl rfl rfl (y_move rfl) ?_
                        refine wl_yg rfl rfl rfl (y_fieldAddr F36_0 rfl) ?_
                        refine wl_yg rfl rfl rfl (y_fieldAddr F30_0 rfl) ?_
                        refine wl_yg rfl rfl rfl (y_load NA9 rfl (by first | exact cell_blk [] rfl | exact cell_blk [_] rfl | exact cell_blk [_, _] rfl | exact cell_blk [_, _, _] rfl | exact cell_blk [_, _, _, _] rfl | exact cell_blk [_, _, _, _, _] rfl | exact cell_blk [_, _, _, _, _, _] rfl | exact cell_blk [_, _, _, _, _, _, _] rfl | exact cell_blk [_, _, _, _, _, _, _, _] rfl | exact cellR_blk (by assumption) rfl)) ?_
                        refine wl_yg rfl rfl rfl (y_fieldAddr F36_2 rfl) ?_
                        refine wl_yg rfl rfl rfl (y_load NA3 rfl (by first | exact cell_blk [] rfl | exact cell_blk [_] rfl | exact cell_blk [_, _] rfl | exact cell_blk [_, _, _] rfl | exact cell_blk [_, _, _, _] rfl | exact cell_blk [_, _, _, _, _] rfl | exact cell_blk [_, _, _, _, _, _] rfl | exact cell_blk [_, _, _, _, _, _, _] rfl | exact cell_blk [_, _, _, _, _, _, _, _] rfl | exact cellR_blk (by assumption) rfl)) ?_
                        refine wl_c (want_some rfl rfl) rfl (yc_spec (fst := []) (cap := []) _ FN15 (sfinish_c x22 ({ s with t := { s.t with m := mdel s.t.m l.job.key }, th := mdel s.th l.job.key } : Sc) l.job.key l.epoch) rfl rfl rfl (by (repeat (first | exact pt_nil | apply pt0 | apply pt1 | apply pt2 | apply pt3 | apply pt4 | apply pt5 | apply pt6 | apply pt7 | apply pt8 | apply pt9 | apply pt10 | apply pt11 | apply pt12 | apply pt13 | apply pt14 | apply pt15 | apply pt16 | apply pt17))) (by (repeat (first | exact ro_nil | exact ro_rest (by assumption) | refine ro_cons (by first | exact .inl (by assumption) | exact ro_f0 (fun _ h => h) | exact ro_f0 (fun _ => slc_rsl) | exact ro_f1 (fun _ h => h) | exact ro_f1 (fun _ => slc_rsl) | exact ro_f2 (fun _ h => h) | exact ro_f2 (fun _ => slc_rsl) | exact ro_f3 (fun _ h => h) | exact ro_f3 (fun _ => slc_rsl) | exact ro_f4 (fun _ h => h) | exact ro_f4 (fun _ => slc_rsl) | exact ro_f5 (fun _ h => h) | exact ro_f5 (fun _ => slc_rsl) | exact ro_f6 (fun _ h => h) | exact ro_f6 (fun _ => slc_rsl)) ?_)))) (wl_ex fun x174 hx174 => ?_)
                        refine wl_same 174 (vI 17) rfl (by rw [hf2]) ?_
                        refine wl_yg rfl rfl rfl (y_neqI rfl rfl) ?_
                        refine wl_y rfl (y_pick_f rfl rfl) ?_
                        refine wl_nil ?_
                        refine wq_then ?_
                        refine wc_known 176 false rfl (by decide) ?_
                        refine wc_cond_false rfl ?_
                        refine wc_skip ?_
                        refine wq_then ?_
                        refine wc_region ?_
                        refine wl_y rfl (y_move rfl) ?_
                        refine wl_y rfl (y_fieldAddr F36_0 rfl) ?_
                        refine wl_y rfl (y_fieldAddr F30_0 rfl) ?_
                        refine wl_y rfl (y_load NA9 rfl (by first | exact cell_blk [] rfl | exact cell_blk [_] rfl | exact cell_blk [_, _] rfl | exact cell_blk [_, _, _] rfl | exact cell_blk [_, _, _, _] rfl | exact cell_blk [_, _, _, _, _] rfl | exact cell_blk [_, _, _, _, _, _] rfl | exact cell_blk [_, _, _, _, _, _, _] rfl | exact cell_blk [_, _, _, _, _, _, _, _] rfl | exact cellR_blk (by assumption) rfl)) ?_
                        first | refine yu_delete [] Try.underlying28 (keyE_str Try.underlying9) rfl rfl ?_ | refine yu_delete [_] Try.underlying28 (keyE_str Try.underlying9) rfl rfl ?_ | refine yu_delete [_, _] Try.underlying28 (keyE_str Try.underlying9) rfl rfl ?_ | refine yu_delete [_, _, _] Try.underlying28 (keyE_str Try.underlying9) rfl rfl ?_ | refine yu_delete [_, _, _, _] Try.underlying28 (keyE_str Try.underlying9) rfl rfl ?_ | refine yu_delete [_, _, _, _, _] Try.underlying28 (keyE_str Try.underlying9) rfl rfl ?_ | refine yu_delete [_, _, _, _, _, _] Try.underlying28 (keyE_str Try.underlying9) rfl rfl ?_ | refine yu_delete [_, _, _, _, _, _, _] Try.underlying28 (keyE_str Try.underlying9) rfl rfl ?_ | refine yu_delete [_, _, _, _, _, _, _, _] Try.underlying28 (keyE_str Try.underlying9) rfl rfl ?_
                        refine wl_nil ?_
                        refine wq_block_normal ?_
                        exact wq_cut ({ s with t := { s.t with m := mdel s.t.m l.job.key }, th := mdel s.th l.job.key } : Sc) (by have := (in_finish hI l.job.key l.epoch).1; rw [hf1] at this; exact this) ⟨rfl, rfl, rfl, rfl, trivial⟩ (fun w hw => by rw [hf2] at hw; exact hw.sub (by (repeat (first | exact pt_nil | apply pt0 | apply pt1 | apply pt2 | apply pt3 | apply pt4 | apply pt5 | apply pt6 | apply pt7 | apply pt8 | apply pt9 | apply pt10 | apply pt11 | apply pt12 | apply pt13 | apply pt14 | apply pt15 | apply pt16 | apply pt17))))
                      ·
                        simp at hc136
                        refine wc_skip ?_
                        refine wq_block_normal ?_
                        exact wq_cut s (hI.up (by omega)) ⟨rfl, rfl, rfl, rfl, trivial⟩ (fun w hw => hw.sub (by (repeat (first | exact pt_nil | apply pt0 | apply pt1 | apply pt2 | apply pt3 | apply pt4 | apply pt5 | apply pt6 | apply pt7 | apply pt8 | apply pt9 | apply pt10 | apply pt11 | apply pt12 | apply pt13 | apply pt14 | apply pt15 | apply pt16 | apply pt17))))
                    ·
                      simp at hc130
                      refine wc_region ?_
                      refine wl_y rfl (y_move rfl) ?_
                      refine wl_y rfl (y_fieldAddr F32_4 rfl) ?_
                      refine wl_y rfl (y_load NA3 rfl (by first | exact cell_blk [] rfl | exact cell_blk [_] rfl | exact cell_blk [_, _] rfl | exact cell_blk [_, _, _] rfl | exact cell_blk [_, _, _, _] rfl | exact cell_blk [_, _, _, _, _] rfl | exact cell_blk [_, _, _, _, _, _] rfl | exact cell_blk [_, _, _, _, _, _, _] rfl | exact cell_blk [_, _, _, _, _, _, _, _] rfl | exact cellR_blk (by assumption) rfl)) ?_
                      refine wl_c (fun _ _ => want_none) rfl (yc_spec (fst := []) (cap := []) _ FN22 (stick_c x22 s x.now n i hI h1 h2 hi490) rfl rfl rfl (by (repeat (first | exact pt_nil | apply pt0 | apply pt1 | apply pt2 | apply pt3 | apply pt4 | apply pt5 | apply pt6 | apply pt7 | apply pt8 | apply pt9 | apply pt10 | apply pt11 | apply pt12 | apply pt13 | apply pt14 | apply pt15 | apply pt16 | apply pt17))) (by (repeat (first | exact ro_nil | exact ro_rest (by assumption) | refine ro_cons (by first | exact .inl (by assumption) | exact ro_f0 (fun _ h => h) | exact ro_f0 (fun _ => slc_rsl) | exact ro_f1 (fun _ h => h) | exact ro_f1 (fun _ => slc_rsl) | exact ro_f2 (fun _ h => h) | exact ro_f2 (fun _ => slc_rsl) | exact ro_f3 (fun _ h => h) | exact ro_f3 (fun _ => slc_rsl) | exact ro_f4 (fun _ h => h) | exact ro_f4 (fun _ => slc_rsl) | exact ro_f5 (fun _ h => h) | exact ro_f5 (fun _ => slc_rsl) | exact ro_f6 (fun _ h => h) | exact ro_f6 (fun _ => slc_rsl)) ?_)))) (wl_ex fun x56 hx56 => ?_)
                      refine wl_nil ?_
                      refine wq_block_normal ?_
                      exact wq_cut (s.tick x.now).1 (in_tick hI hi490 _) ⟨rfl, rfl, rfl, rfl, trivial⟩ (fun w hw => by rw [show (s.tick x.now).1.th = s.th from back_th _ _]; exact hw.sub (by (repeat (first | exact pt_nil | apply pt0 | apply pt1 | apply pt2 | apply pt3 | apply pt4 | apply pt5 | apply pt6 | apply pt7 | apply pt8 | apply pt9 | apply pt10 | apply pt11 | apply pt12 | apply pt13 | apply pt14 | apply pt15 | apply pt16 | apply pt17))))
          · clear hI
            intro u hu
            refine all_wc ?_
            refine wc_seq ?_
            refine wc_region ?_
            refine wl_y rfl (y_move rfl) ?_
            refine wl_c (fun _ _ => want_none) rfl (yc_spec (fst := []) (cap := []) _ FN13 (sleases_c x22 u (hu.fits (by omega))) rfl rfl rfl (by (repeat (first | exact pt_nil | apply pt0 | apply pt1 | apply pt2 | apply pt3 | apply pt4 | apply pt5 | apply pt6 | apply pt7 | apply pt8 | apply pt9 | apply pt10 | apply pt11 | apply pt12 | apply pt13 | apply pt14 | apply pt15 | apply pt16 | apply pt17))) (by (repeat (first | exact ro_nil | exact ro_rest (by assumption) | refine ro_cons (by first | exact .inl (by assumption) | exact ro_f0 (fun _ h => h) | exact ro_f0 (fun _ => slc_rsl) | exact ro_f1 (fun _ h => h) | exact ro_f1 (fun _ => slc_rsl) | exact ro_f2 (fun _ h => h) | exact ro_f2 (fun _ => slc_rsl) | exact ro_f3 (fun _ h => h) | exact ro_f3 (fun _ => slc_rsl) | exact ro_f4 (fun _ h => h) | exact ro_f4 (fun _ => slc_rsl) | exact ro_f5 (fun _ h => h) | exact ro_f5 (fun _ => slc_rsl) | exact ro_f6 (fun _ h => h) | exact ro_f6 (fun _ => slc_rsl)) ?_)))) (wl_ex fun x182 hx182 => ?_)
            refine wl_y rfl (y_assign rfl) ?_
            refine wl_nil ?_
            refine wq_then ?_
            refine wc_seq ?_
            refine wc_seq ?_
            refine wc_region ?_
            refine wl_y rfl (y_assign rfl) ?_
            refine wl_nil ?_
            refine wq_then ?_
            refine wc_block ?_
            refine wc_loop (α := Nat) (fun y => y ≤ u.t.srt.length) [(2, _), (7, _), (9, _), (10, _), (17, _)] (fun y => [(18, vI y)]) (fun y => Hp w0 K [scA x22 u, slc 36 6 x182.1 u.t.srt.length x182.2 (u.t.srt.flatMap encL), mapA vS vB b36 u.th]) (fun y => u.t.srt.length - y) 0 ?_ ⟨rfl, rfl, rfl, rfl, rfl, rfl, trivial⟩ ?_ ?_
            · exact Nat.zero_le _
            · exact fun w hw => hw.sub (by (repeat (first | exact pt_nil | apply pt0 | apply pt1 | apply pt2 | apply pt3 | apply pt4 | apply pt5 | apply pt6 | apply pt7 | apply pt8 | apply pt9 | apply pt10 | apply pt11 | apply pt12 | apply pt13 | apply pt14 | apply pt15 | apply pt16 | apply pt17)))
            · intro k hk
              have hul : u.t.srt.length ≤ i + 1 := by have := hu.lens.2.2; rw [Tb.srt_len]; omega
              refine wc_seq ?_
              refine wc_seq ?_
              refine wc_region ?_
              refine wl_y rfl (y_move rfl) ?_
              refine wl_y rfl (y_move rfl) ?_
              refine wl_y rfl (y_lenSl Try.underlying39 rfl) ?_
              refine wl_y rfl (y_lss rfl rfl) ?_
              refine wl_nil ?_
              refine wq_then ?_
              refine wc_cond rfl (fun hc186 => ?_) (fun hc186 => ?_)
              ·
                simp at hc186
                refine wc_skip ?_
                refine wq_then ?_
                refine wc_seq ?_
                refine wc_block ?_
                refine wc_seq ?_
                refine wc_region ?_
                obtain ⟨l, hl⟩ : ∃ l, u.t.srt[k]? = some l := ⟨_, List.getElem?_eq_getElem (by omega)⟩
                have hlt := srt_there hu (List.mem_of_getElem? hl)
                refine wl_y rfl (y_move rfl) ?_
                refine wl_y rfl (y_move rfl) ?_
                refine wl_y rfl (y_move rfl) ?_
                refine wl_y rfl (y_indexAddr (i := k) Try.underlying39 T36 rfl rfl rfl (by omega) (by first | exact fun w hw => hw.slc_isSome [] (by omega) | exact fun w hw => hw.slc_isSome [_] (by omega) | exact fun w hw => hw.slc_isSome [_, _] (by omega) | exact fun w hw => hw.slc_isSome [_, _, _] (by omega) | exact fun w hw => hw.slc_isSome [_, _, _, _] (by omega))) ?_
                refine wl_y rfl (y_fieldAddr_adr F36_0 rfl) ?_
                refine wl_y rfl (y_fieldAddr_adr F30_0 rfl) ?_
                refine wl_y rfl (y_load NA9 rfl (by first | exact cell_own [] (rows_get encL_len hl rfl) | exact cell_own [_] (rows_get encL_len hl rfl) | exact cell_own [_, _] (rows_get encL_len hl rfl) | exact cell_own [_, _, _] (rows_get encL_len hl rfl) | exact cell_own [_, _, _, _] (rows_get encL_len hl rfl))) ?_
                refine wl_y rfl (y_lookup Try.underlying28 (keyE_str Try.underlying9) T4 rfl rfl (by first | exact fun w hw => hw.seen [] | exact fun w hw => hw.seen [_] | exact fun w hw => hw.seen [_, _] | exact fun w hw => hw.seen [_, _, _] | exact fun w hw => hw.seen [_, _, _, _] | exact fun w hw => hw.seen [_, _, _, _, _] | exact fun w hw => hw.seen [_, _, _, _, _, _] | exact fun w hw => hw.seen [_, _, _, _, _, _, _] | exact fun w hw => hw.seen [_, _, _, _, _, _, _, _] | exact fun w hw => Seen.rngMap (hw.seen []) | exact fun w hw => Seen.rngMap (hw.seen [_]) | exact fun w hw => Seen.rngMap (hw.seen [_, _]) | exact fun w hw => Seen.rngMap (hw.seen [_, _, _]) | exact fun w hw => Seen.rngMap (hw.seen [_, _, _, _]) | exact fun w hw => Seen.rngMap (hw.seen [_, _, _, _, _]) | exact fun w hw => Seen.rngMap (hw.seen [_, _, _, _, _, _]) | exact fun w hw => Seen.rngMap (hw.seen [_, _, _, _, _, _, _]) | exact fun w hw => Seen.rngMap (hw.seen [_, _, _, _, _, _, _, _]))) ?_
                refine wl_same 196 (vB true) rfl (by rw [look_th]; congr 1) ?_
                refine wl_y rfl (y_not rfl) ?_
                refine wl_nil ?_
                refine wq_then ?_
                refine wc_known 197 false rfl (rfl) ?_
                refine wc_cond_false rfl ?_
                refine wc_skip ?_
                refine wq_block_normal ?_
                refine wq_then ?_
                refine wc_region ?_
                refine wl_y rfl (y_move rfl) ?_
                refine wl_y rfl (y_add rfl rfl (by omega)) ?_
                refine wl_y rfl (y_assign rfl) ?_
                refine wl_nil ?_
                exact wq_round (k + 1) (by omega) (by omega) ⟨rfl, rfl, rfl, rfl, rfl, rfl, trivial⟩ (fun w hw => hw.sub (by (repeat (first | exact pt_nil | apply pt0 | apply pt1 | apply pt2 | apply pt3 | apply pt4 | apply pt5 | apply pt6 | apply pt7 | apply pt8 | apply pt9 | apply pt10 | apply pt11 | apply pt12 | apply pt13 | apply pt14 | apply pt15 | apply pt16 | apply pt17))))
              ·
                simp at hc186
                refine wc_exit ?_
                refine wq_then_exit (wq_then_exit (wq_block_exit ?_))
                refine wq_then ?_
                refine wc_seq ?_
                refine wc_region ?_
                have hwl := waiting_le hu
                have hoc := once_count hu
                refine wl_y rfl (y_move rfl) ?_
                refine wl_c (fun _ _ => want_none) rfl (yc_spec (fst := []) (cap := []) _ FN14 (swait_c x22 u hu.keyed (by have := waiting_le hu; omega)) rfl rfl rfl (by (repeat (first | exact pt_nil | apply pt0 | apply pt1 | apply pt2 | apply pt3 | apply pt4 | apply pt5 | apply pt6 | apply pt7 | apply pt8 | apply pt9 | apply pt10 | apply pt11 | apply pt12 | apply pt13 | apply pt14 | apply pt15 | apply pt16 | apply pt17))) (by (repeat (first | exact ro_nil | exact ro_rest (by assumption) | refine ro_cons (by first | exact .inl (by assumption) | exact ro_f0 (fun _ h => h) | exact ro_f0 (fun _ => slc_rsl) | exact ro_f1 (fun _ h => h) | exact ro_f1 (fun _ => slc_rsl) | exact ro_f2 (fun _ h => h) | exact ro_f2 (fun _ => slc_rsl) | exact ro_f3 (fun _ h => h) | exact ro_f3 (fun _ => slc_rsl) | exact ro_f4 (fun _ h => h) | exact ro_f4 (fun _ => slc_rsl) | exact ro_f5 (fun _ h => h) | exact ro_f5 (fun _ => slc_rsl) | exact ro_f6 (fun _ h => h) | exact ro_f6 (fun _ => slc_rsl)) ?_)))) (wl_ex fun x199 hx199 => ?_)
                refine wl_y rfl (y_move rfl) ?_
                refine wl_y rfl (y_lenSl Try.underlying39 rfl) ?_
                refine wl_y rfl (y_add rfl rfl (by omega)) ?_
                refine wl_y rfl (y_move rfl) ?_
                refine wl_y rfl (y_lenMap Try.underlying28 rfl (by first | exact fun w hw => hw.seen [] | exact fun w hw => hw.seen [_] | exact fun w hw => hw.seen [_, _] | exact fun w hw => hw.seen [_, _, _] | exact fun w hw => hw.seen [_, _, _, _] | exact fun w hw => hw.seen [_, _, _, _, _] | exact fun w hw => hw.seen [_, _, _, _, _, _] | exact fun w hw => hw.seen [_, _, _, _, _, _, _] | exact fun w hw => hw.seen [_, _, _, _, _, _, _, _] | exact fun w hw => Seen.rngMap (hw.seen []) | exact fun w hw => Seen.rngMap (hw.seen [_]) | exact fun w hw => Seen.rngMap (hw.seen [_, _]) | exact fun w hw => Seen.rngMap (hw.seen [_, _, _]) | exact fun w hw => Seen.rngMap (hw.seen [_, _, _, _]) | exact fun w hw => Seen.rngMap (hw.seen [_, _, _, _, _]) | exact fun w hw => Seen.rngMap (hw.seen [_, _, _, _, _, _]) | exact fun w hw => Seen.rngMap (hw.seen [_, _, _, _, _, _, _]) | exact fun w hw => Seen.rngMap (hw.seen [_, _, _, _, _, _, _, _]))) ?_
                refine wl_y rfl (y_neqI rfl rfl) ?_
                refine wl_nil ?_
                refine wq_then ?_
                refine wc_known 205 false rfl (by simp; omega) ?_
                refine wc_cond_false rfl ?_
                refine wc_skip ?_
                refine wq_block_normal ?_
                refine wq_then ?_
                refine wc_region ?_
                refine wl_y rfl (y_move rfl) ?_
                refine wl_y rfl (y_add rfl rfl (by omega)) ?_
                refine wl_y rfl (y_assign rfl) ?_
                refine wl_nil ?_
                exact wq_round (i + 1, u) (by simp only; omega) ⟨by simp only; omega, by simp only; omega, hu⟩ ⟨rfl, rfl, rfl, rfl, trivial⟩ (fun w hw => hw.sub (by (repeat (first | exact pt_nil | apply pt0 | apply pt1 | apply pt2 | apply pt3 | apply pt4 | apply pt5 | apply pt6 | apply pt7 | apply pt8 | apply pt9 | apply pt10 | apply pt11 | apply pt12 | apply pt13 | apply pt14 | apply pt15 | apply pt16 | apply pt17))))
        ·
          simp at hc44
          refine wc_exit ?_
          refine wq_then_exit (wq_then_exit (wq_block_exit ?_))
          refine wq_then ?_
          refine wc_seq ?_
          refine wc_region ?_
          refine wl_q (fun _ _ => want_none) rfl (yq_spec (fst := []) (cap := []) _ FN8 awake_c rfl rfl rfl (by (repeat (first | exact pt_nil | apply pt0 | apply pt1 | apply pt2 | apply pt3 | apply pt4 | apply pt5 | apply pt6 | apply pt7 | apply pt8 | apply pt9 | apply pt10 | apply pt11 | apply pt12 | apply pt13 | apply pt14 | apply pt15 | apply pt16 | apply pt17))) (by (repeat (first | exact ro_nil | exact ro_rest (by assumption) | refine ro_cons (by first | exact .inl (by assumption) | exact ro_f0 (fun _ h => h) | exact ro_f0 (fun _ => slc_rsl) | exact ro_f1 (fun _ h => h) | exact ro_f1 (fun _ => slc_rsl) | exact ro_f2 (fun _ h => h) | exact ro_f2 (fun _ => slc_rsl) | exact ro_f3 (fun _ h => h) | exact ro_f3 (fun _ => slc_rsl) | exact ro_f4 (fun _ h => h) | exact ro_f4 (fun _ => slc_rsl) | exact ro_f5 (fun _ h => h) | exact ro_f5 (fun _ => slc_rsl) | exact ro_f6 (fun _ h => h) | exact ro_f6 (fun _ => slc_rsl)) ?_))) (fun _ _ => rfl) (fun _ _ _ h => h.sub (by (repeat (first | exact pt_nil | apply pt0 | apply pt1 | apply pt2 | apply pt3 | apply pt4 | apply pt5 | apply pt6 | apply pt7 | apply pt8 | apply pt9 | apply pt10 | apply pt11 | apply pt12 | apply pt13 | apply pt14 | apply pt15 | apply pt16 | apply pt17))))) ?_
          refine wl_y rfl (y_assign rfl) ?_
          refine wl_nil ?_
          refine wq_then ?_
          refine wc_ret ?_
          refine wq_ret1 rfl rfl (fun w hw => ?_)
          exact ⟨(), trivial, rfl, hw.bare⟩
      ·
        simp at hg41
        refine wl_sk rfl rfl rfl rfl ?_
        refine wl_sk rfl rfl rfl rfl ?_
        refine wl_y rfl (y_pick_f rfl rfl) ?_
        refine wl_nil ?_
        refine wq_then ?_
        refine wc_cond_false rfl ?_
        refine wc_exit ?_
        refine wq_then_exit (wq_then_exit (wq_block_exit ?_))
        refine wq_then ?_
        refine wc_seq ?_
        refine wc_region ?_
        refine wl_q (fun _ _ => want_none) rfl (yq_spec (fst := []) (cap := []) _ FN8 awake_c rfl rfl rfl (by (repeat (first | exact pt_nil | apply pt0 | apply pt1 | apply pt2 | apply pt3 | apply pt4 | apply pt5 | apply pt6 | apply pt7 | apply pt8 | apply pt9 | apply pt10 | apply pt11 | apply pt12 | apply pt13 | apply pt14 | apply pt15 | apply pt16 | apply pt17))) (by (repeat (first | exact ro_nil | exact ro_rest (by assumption) | refine ro_cons (by first | exact .inl (by assumption) | exact ro_f0 (fun _ h => h) | exact ro_f0 (fun _ => slc_rsl) | exact ro_f1 (fun _ h => h) | exact ro_f1 (fun _ => slc_rsl) | exact ro_f2 (fun _ h => h) | exact ro_f2 (fun _ => slc_rsl) | exact ro_f3 (fun _ h => h) | exact ro_f3 (fun _ => slc_rsl) | exact ro_f4 (fun _ h => h) | exact ro_f4 (fun _ => slc_rsl) | exact ro_f5 (fun _ h => h) | exact ro_f5 (fun _ => slc_rsl) | exact ro_f6 (fun _ h => h) | exact ro_f6 (fun _ => slc_rsl)) ?_))) (fun _ _ => rfl) (fun _ _ _ h => h.sub (by (repeat (first | exact pt_nil | apply pt0 | apply pt1 | apply pt2 | apply pt3 | apply pt4 | apply pt5 | apply pt6 | apply pt7 | apply pt8 | apply pt9 | apply pt10 | apply pt11 | apply pt12 | apply pt13 | apply pt14 | apply pt15 | apply pt16 | apply pt17))))) ?_
        refine wl_y rfl (y_assign rfl) ?_
        refine wl_nil ?_
        refine wq_then ?_
        refine wc_ret ?_
        refine wq_ret1 rfl rfl (fun w hw => ?_)
        exact ⟨(), trivial, rfl, hw.bare⟩

end Go.Proofs.Ytfnpjmlpiedgdaa
