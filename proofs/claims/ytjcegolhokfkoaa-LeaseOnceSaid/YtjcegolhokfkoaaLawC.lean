/-
  Law: who holds which job.
-/
import Derived.Test.YtjcegolhokfkoaaOnceLaw
namespace Go.Proofs.Ytjcegolhokfkoaa
open Go.Eng

set_option maxHeartbeats 1000000 in
theorem lawOnce (n : Int) (ops : List Op) (oo : Option Addr) (cc : Nat) (hks : ∀ x ∈ ops, x.job.key.length ≤ maxLen) :
    Ctr Try.prog 5 #[vI n, .slice oo ops.length cc] [rsl oo ops.length 7 (ops.flatMap encO)] [] (fun _ : Unit => True) (fun _ => vB true) (fun _ => []) := by
  refine spec_start (n := 262) [(0, vI n), (1, .slice oo ops.length cc)] Try.func5 rfl rfl ⟨rfl, rfl, trivial⟩ rfl ?_
  intro w0 K hR
  have hA := hR _ (List.mem_cons_self ..)
  refine wc_seq ?_
  refine wc_region ?_
  refine wl_y rfl (y_assign rfl) ?_
  refine wl_nil ?_
  refine wq_then ?_
  refine wc_seq ?_
  refine wc_region ?_
  rcases (show (n < 1 ∨ 1000000 < n) ∨ (1 ≤ n ∧ n ≤ 1000000) by omega) with h | ⟨h1, h2⟩
  ·
    refine wl_y rfl (y_move rfl) ?_
    refine wl_c (fun _ _ => want_none) rfl (yc_spec (fst := []) (cap := []) _ FN7 (new_lo n h) rfl rfl rfl (by (repeat (first | exact pt_nil | apply pt0 | apply pt1 | apply pt2 | apply pt3 | apply pt4 | apply pt5 | apply pt6 | apply pt7 | apply pt8 | apply pt9 | apply pt10 | apply pt11 | apply pt12 | apply pt13 | apply pt14 | apply pt15 | apply pt16 | apply pt17))) (by (repeat (first | exact ro_nil | exact ro_rest (by assumption) | refine ro_cons (by first | exact .inl (by assumption) | exact ro_f0 (fun _ h => h) | exact ro_f0 (fun _ => slc_rsl) | exact ro_f1 (fun _ h => h) | exact ro_f1 (fun _ => slc_rsl) | exact ro_f2 (fun _ h => h) | exact ro_f2 (fun _ => slc_rsl) | exact ro_f3 (fun _ h => h) | exact ro_f3 (fun _ => slc_rsl) | exact ro_f4 (fun _ h => h) | exact ro_f4 (fun _ => slc_rsl) | exact ro_f5 (fun _ h => h) | exact ro_f5 (fun _ => slc_rsl) | exact ro_f6 (fun _ h => h) | exact ro_f6 (fun _ => slc_rsl)) ?_)))) (wl_ex fun x24 hx24 => ?_)
    refine wl_y rfl (y_move rfl) ?_
    refine wl_y rfl (y_extract rfl rfl) ?_
    refine wl_y rfl (y_extract rfl rfl) ?_
    refine wl_y rfl (y_assign rfl) ?_
    refine wl_y rfl (y_assign rfl) ?_
    refine wl_nil ?_
    refine wq_then ?_
    refine wc_seq ?_
    refine wc_seq ?_
    refine wc_region ?_
    refine wl_y rfl (y_move rfl) ?_
    refine wl_y rfl (y_neqI rfl rfl) ?_
    refine wl_nil ?_
    refine wq_then ?_
    refine wc_known 28 true rfl (by decide) ?_
    refine wc_cond_true rfl ?_
    refine wc_seq ?_
    refine wc_region ?_
    refine wl_y rfl (y_move rfl) ?_
    refine wl_y rfl (y_eqlI rfl rfl) ?_
    refine wl_y rfl (y_move rfl) ?_
    refine wl_known 31 true rfl (by decide) ?_
    refine wl_yg rfl rfl rfl (y_move rfl) ?_
    refine wl_yg rfl rfl rfl (y_eqlP Try.underlying22 rfl rfl) ?_
    refine wl_y rfl (y_pick_t rfl rfl) ?_
    refine wl_y rfl (y_move rfl) ?_
    refine wl_known 35 true rfl (rfl) ?_
    refine wl_q (want_some rfl rfl) rfl (yq_spec (fst := []) (cap := []) _ FN8 awake_c rfl rfl rfl (by (repeat (first | exact pt_nil | apply pt0 | apply pt1 | apply pt2 | apply pt3 | apply pt4 | apply pt5 | apply pt6 | apply pt7 | apply pt8 | apply pt9 | apply pt10 | apply pt11 | apply pt12 | apply pt13 | apply pt14 | apply pt15 | apply pt16 | apply pt17))) (by (repeat (first | exact ro_nil | exact ro_rest (by assumption) | refine ro_cons (by first | exact .inl (by assumption) | exact ro_f0 (fun _ h => h) | exact ro_f0 (fun _ => slc_rsl) | exact ro_f1 (fun _ h => h) | exact ro_f1 (fun _ => slc_rsl) | exact ro_f2 (fun _ h => h) | exact ro_f2 (fun _ => slc_rsl) | exact ro_f3 (fun _ h => h) | exact ro_f3 (fun _ => slc_rsl) | exact ro_f4 (fun _ h => h) | exact ro_f4 (fun _ => slc_rsl) | exact ro_f5 (fun _ h => h) | exact ro_f5 (fun _ => slc_rsl) | exact ro_f6 (fun _ h => h) | exact ro_f6 (fun _ => slc_rsl)) ?_))) (fun _ _ => rfl) (fun _ _ _ h => h.sub (by (repeat (first | exact pt_nil | apply pt0 | apply pt1 | apply pt2 | apply pt3 | apply pt4 | apply pt5 | apply pt6 | apply pt7 | apply pt8 | apply pt9 | apply pt10 | apply pt11 | apply pt12 | apply pt13 | apply pt14 | apply pt15 | apply pt16 | apply pt17))))) ?_
    refine wl_y rfl (y_pick_t rfl rfl) ?_
    refine wl_y rfl (y_assign rfl) ?_
    refine wl_nil ?_
    refine wq_then ?_
    refine wc_ret ?_
    refine wq_then_ret ?_
    refine wq_ret1 rfl rfl (fun w hw => ?_)
    exact ⟨(), trivial, rfl, hw.bare⟩
  ·
    refine wl_y rfl (y_move rfl) ?_
    refine wl_c (fun _ _ => want_none) rfl (yc_spec (fst := []) (cap := []) _ FN7 (new_ok n h1 h2) rfl rfl rfl (by (repeat (first | exact pt_nil | apply pt0 | apply pt1 | apply pt2 | apply pt3 | apply pt4 | apply pt5 | apply pt6 | apply pt7 | apply pt8 | apply pt9 | apply pt10 | apply pt11 | apply pt12 | apply pt13 | apply pt14 | apply pt15 | apply pt16 | apply pt17))) (by (repeat (first | exact ro_nil | exact ro_rest (by assumption) | refine ro_cons (by first | exact .inl (by assumption) | exact ro_f0 (fun _ h => h) | exact ro_f0 (fun _ => slc_rsl) | exact ro_f1 (fun _ h => h) | exact ro_f1 (fun _ => slc_rsl) | exact ro_f2 (fun _ h => h) | exact ro_f2 (fun _ => slc_rsl) | exact ro_f3 (fun _ h => h) | exact ro_f3 (fun _ => slc_rsl) | exact ro_f4 (fun _ h => h) | exact ro_f4 (fun _ => slc_rsl) | exact ro_f5 (fun _ h => h) | exact ro_f5 (fun _ => slc_rsl) | exact ro_f6 (fun _ h => h) | exact ro_f6 (fun _ => slc_rsl)) ?_)))) (wl_ex fun x24 hx24 => ?_)
    refine wl_y rfl (y_move rfl) ?_
    refine wl_y rfl (y_extract rfl rfl) ?_
    refine wl_y rfl (y_extract rfl rfl) ?_
    refine wl_y rfl (y_assign rfl) ?_
    refine wl_y rfl (y_assign rfl) ?_
    refine wl_nil ?_
    refine wq_then ?_
    refine wc_seq ?_
    refine wc_seq ?_
    refine wc_region ?_
    refine wl_y rfl (y_move rfl) ?_
    refine wl_y rfl (y_neqI rfl rfl) ?_
    refine wl_nil ?_
    refine wq_then ?_
    refine wc_known 28 false rfl (by decide) ?_
    refine wc_cond_false rfl ?_
    refine wc_skip ?_
    refine wq_then ?_
    refine wc_seq ?_
    refine wc_region ?_
    refine wl_y rfl (y_assign rfl) ?_
    refine wl_nil ?_
    refine wq_then ?_
    refine wc_seq ?_
    refine wc_region ?_
    refine wl_w (fun _ _ => want_none) rfl (yw_makeMap (ek := vS) (ev := vI)) (wl_ex fun b38 _ => ?_)
    refine wl_y rfl (y_assign rfl) ?_
    refine wl_nil ?_
    refine wq_then ?_
    refine wc_seq ?_
    refine wc_seq ?_
    refine wc_region ?_
    refine wl_y rfl (y_assign rfl) ?_
    refine wl_nil ?_
    refine wq_then ?_
    refine wc_block ?_
    refine wc_loop (α := Nat × Tb × List (Str × Int)) (fun y => y.1 ≤ ops.length ∧ y.1 ≤ 200 ∧ y.2.1.In n y.1 ∧ Held y.2.1 y.2.2) [(1, _), (5, _), (8, _)] (fun y => [(9, vI y.1), (7, vI y.2.1.epoch)]) (fun y => Hp w0 K [tbA x24 y.2.1, mapA vS vI b38 y.2.2]) (fun y => ops.length - y.1) (0, ⟨n, 0, []⟩, []) ?_ ⟨rfl, rfl, rfl, rfl, rfl, trivial⟩ ?_ ?_
    · exact ⟨Nat.zero_le _, Nat.zero_le _, in_new n, held_new n⟩
    · exact fun w hw => hw.sub (by (repeat (first | exact pt_nil | apply pt0 | apply pt1 | apply pt2 | apply pt3 | apply pt4 | apply pt5 | apply pt6 | apply pt7 | apply pt8 | apply pt9 | apply pt10 | apply pt11 | apply pt12 | apply pt13 | apply pt14 | apply pt15 | apply pt16 | apply pt17)))
    · rintro ⟨i, t, hd⟩ ⟨hi, hi2, hI, hH⟩; simp only at hi hi2 hI hH
      refine wc_world (S' := Hp w0 K [tbA x24 t, mapA vS vI b38 hd]) (fun w hw => hw) ?_
      refine wc_same 9 (vI i) rfl rfl ?_
      refine wc_same 7 (vI t.epoch) rfl rfl ?_
      refine wc_seq ?_
      refine wc_seq ?_
      refine wc_region ?_
      refine wl_y rfl (y_move rfl) ?_
      refine wl_y rfl (y_move rfl) ?_
      refine wl_y rfl (y_lenSl Try.underlying39 rfl) ?_
      refine wl_y rfl (y_lss rfl rfl) ?_
      refine wl_y rfl (y_move rfl) ?_
      apply wl_and 3 46 [(1, _), (5, _), (7, _), (8, _), (9, _)] (t := 43) rfl ⟨rfl, rfl, rfl, rfl, rfl, trivial⟩
      · intro hg43 hM46
        try (simp at hg43)
        refine wl_yg rfl rfl rfl (y_move rfl) ?_
        refine wl_yg rfl rfl rfl (y_lss rfl rfl) ?_
        refine wl_y rfl (y_pick_t rfl rfl) ?_
        exact wl_weaken hM46 ⟨rfl, rfl, rfl, rfl, rfl, rfl, trivial⟩
      · intro hg43 hM46
        refine wl_sk rfl rfl rfl rfl ?_
        refine wl_sk rfl rfl rfl rfl ?_
        refine wl_y rfl (y_pick_f rfl rfl) ?_
        exact wl_weaken hM46 ⟨rfl, rfl, rfl, rfl, rfl, rfl, trivial⟩
      ·
        refine wl_nil ?_
        refine wq_then ?_
        refine wc_cond rfl (fun hc46 => ?_) (fun hc46 => ?_)
        ·
          simp at hc46
          refine wc_skip ?_
          refine wq_then ?_
          refine wc_seq ?_
          refine wc_block ?_
          refine wc_seq ?_
          refine wc_region ?_
          obtain ⟨x, hx⟩ : ∃ x, ops[i]? = some x := ⟨_, List.getElem?_eq_getElem (by omega)⟩
          have hkl := hks x (List.mem_of_getElem? hx)
          refine wl_y rfl (y_move rfl) ?_
          refine wl_y rfl (y_move rfl) ?_
          refine wl_y rfl (y_indexAddr Try.underlying39 T44 rfl rfl rfl (by omega) (by first | assumption | exact fun _ _ => rfl | exact fun _ _ => hA.isSome (by omega) | exact fun w hw => hw.slc_isSome [] (by omega) | exact fun w hw => hw.slc_isSome [_] (by omega) | exact fun w hw => hw.slc_isSome [_, _] (by omega) | exact fun w hw => hw.slc_isSome [_, _, _] (by omega) | exact fun w hw => hw.slc_isSome [_, _, _, _] (by omega) | exact fun w hw => hw.slc_isSome [_, _, _, _, _] (by omega) | exact fun w hw => hw.slc_isSome [_, _, _, _, _, _] (by omega) | exact fun w hw => hw.slc_isSome [_, _, _, _, _, _, _] (by omega) | exact fun w hw => hw.slc_isSome [_, _, _, _, _, _, _, _] (by omega))) ?_
          refine wl_y rfl (y_loadAgg (l := encO x) AG44 rfl rfl (by first | exact agg_ro hA (fun i u h => rows_get encO_len hx h) | exact agg_own [] (fun i u h => rows_get encO_len hx h) | exact agg_own [_] (fun i u h => rows_get encO_len hx h) | exact agg_own [_, _] (fun i u h => rows_get encO_len hx h) | exact agg_own [_, _, _] (fun i u h => rows_get encO_len hx h) | exact agg_own [_, _, _, _] (fun i u h => rows_get encO_len hx h) | exact agg_own [_, _, _, _, _] (fun i u h => rows_get encO_len hx h) | exact agg_own [_, _, _, _, _, _] (fun i u h => rows_get encO_len hx h) | exact agg_own [_, _, _, _, _, _, _] (fun i u h => rows_get encO_len hx h) | exact agg_own [_, _, _, _, _, _, _, _] (fun i u h => rows_get encO_len hx h))) ?_
          refine wl_w (fun _ _ => want_none) rfl (yw_alloc T44 rfl) (wl_ex fun b10 _ => ?_)
          first | refine wl_u (yu_storeAgg [] (l' := [_, _, _, _, _, _, _]) T44 rfl rfl rfl (by simp [Value.oneCell', encL, encJ, encO]) rfl rfl) ?_ | refine wl_u (yu_storeAgg [_] (l' := [_, _, _, _, _, _, _]) T44 rfl rfl rfl (by simp [Value.oneCell', encL, encJ, encO]) rfl rfl) ?_ | refine wl_u (yu_storeAgg [_, _] (l' := [_, _, _, _, _, _, _]) T44 rfl rfl rfl (by simp [Value.oneCell', encL, encJ, encO]) rfl rfl) ?_ | refine wl_u (yu_storeAgg [_, _, _] (l' := [_, _, _, _, _, _, _]) T44 rfl rfl rfl (by simp [Value.oneCell', encL, encJ, encO]) rfl rfl) ?_ | refine wl_u (yu_storeAgg [_, _, _, _] (l' := [_, _, _, _, _, _, _]) T44 rfl rfl rfl (by simp [Value.oneCell', encL, encJ, encO]) rfl rfl) ?_ | refine wl_u (yu_storeAgg [_, _, _, _, _] (l' := [_, _, _, _, _, _, _]) T44 rfl rfl rfl (by simp [Value.oneCell', encL, encJ, encO]) rfl rfl) ?_ | refine wl_u (yu_storeAgg [_, _, _, _, _, _] (l' := [_, _, _, _, _, _, _]) T44 rfl rfl rfl (by simp [Value.oneCell', encL, encJ, encO]) rfl rfl) ?_ | refine wl_u (yu_storeAgg [_, _, _, _, _, _, _] (l' := [_, _, _, _, _, _, _]) T44 rfl rfl rfl (by simp [Value.oneCell', encL, encJ, encO]) rfl rfl) ?_ | refine wl_u (yu_storeAgg [_, _, _, _, _, _, _, _] (l' := [_, _, _, _, _, _, _]) T44 rfl rfl rfl (by simp [Value.oneCell', encL, encJ, encO]) rfl rfl) ?_
          refine wl_nil ?_
          refine wq_then ?_
          refine wc_seq (wc_cut (α := Tb × List (Str × Int)) (fun y => y.1.In n (i + 1) ∧ Held y.1 y.2) [(1, _), (5, _), (8, _), (9, _)] (fun y => [(7, vI y.1.epoch)]) (fun y => Hp w0 K [tbA x24 y.1, mapA vS vI b38 y.2]) ⟨rfl, rfl, rfl, rfl, trivial⟩ ?_ ?_)
          ·
            refine wc_seq ?_
            refine wc_region ?_
            refine wl_y rfl (y_fieldAddr F44_0 rfl) ?_
            refine wl_y rfl (y_load NA3 rfl (by first | exact cell_blk [] rfl | exact cell_blk [_] rfl | exact cell_blk [_, _] rfl | exact cell_blk [_, _, _] rfl | exact cell_blk [_, _, _, _] rfl | exact cell_blk [_, _, _, _, _] rfl | exact cell_blk [_, _, _, _, _, _] rfl | exact cell_blk [_, _, _, _, _, _, _] rfl | exact cell_blk [_, _, _, _, _, _, _, _] rfl | exact cellR_blk (by assumption) rfl)) ?_
            refine wl_nil ?_
            refine wq_then ?_
            refine wc_block ?_
            refine wc_seq ?_
            refine wc_region ?_
            refine wl_y rfl (y_eqlI rfl rfl) ?_
            refine wl_y rfl (y_assign rfl) ?_
            refine wl_nil ?_
            refine wq_then ?_
            refine wc_cond rfl (fun hc86 => ?_) (fun hc86 => ?_)
            ·
              simp at hc86
              refine wc_seq ?_
              refine wc_region ?_
              obtain ⟨gt, gx, ge, hgr⟩ : ∃ a b c, t.grant x.job x.worker x.now = (a, b, c) := ⟨_, _, _, rfl⟩
              refine wl_y rfl (y_move rfl) ?_
              refine wl_y rfl (y_fieldAddr F44_1 rfl) ?_
              refine wl_y rfl (y_loadAgg (l := [_, _, _]) AG28 rfl rfl (by first | exact cells_blk [] rfl | exact cells_blk [_] rfl | exact cells_blk [_, _] rfl | exact cells_blk [_, _, _] rfl | exact cells_blk [_, _, _, _] rfl | exact cells_blk [_, _, _, _, _] rfl | exact cells_blk [_, _, _, _, _, _] rfl | exact cells_blk [_, _, _, _, _, _, _] rfl | exact cells_blk [_, _, _, _, _, _, _, _] rfl | exact cellsR_blk (by assumption) rfl)) ?_
              refine wl_y rfl (y_fieldAddr F44_2 rfl) ?_
              refine wl_y rfl (y_load NA9 rfl (by first | exact cell_blk [] rfl | exact cell_blk [_] rfl | exact cell_blk [_, _] rfl | exact cell_blk [_, _, _] rfl | exact cell_blk [_, _, _, _] rfl | exact cell_blk [_, _, _, _, _] rfl | exact cell_blk [_, _, _, _, _, _] rfl | exact cell_blk [_, _, _, _, _, _, _] rfl | exact cell_blk [_, _, _, _, _, _, _, _] rfl | exact cellR_blk (by assumption) rfl)) ?_
              refine wl_y rfl (y_fieldAddr F44_4 rfl) ?_
              refine wl_y rfl (y_load NA3 rfl (by first | exact cell_blk [] rfl | exact cell_blk [_] rfl | exact cell_blk [_, _] rfl | exact cell_blk [_, _, _] rfl | exact cell_blk [_, _, _, _] rfl | exact cell_blk [_, _, _, _, _] rfl | exact cell_blk [_, _, _, _, _, _] rfl | exact cell_blk [_, _, _, _, _, _, _] rfl | exact cell_blk [_, _, _, _, _, _, _, _] rfl | exact cellR_blk (by assumption) rfl)) ?_
              refine wl_c (fun _ _ => want_none) rfl (yc_spec (fst := []) (cap := []) _ FN9 (grant_at (hI.ok h1 h2 (by omega)) hgr) rfl rfl rfl (by (repeat (first | exact pt_nil | apply pt0 | apply pt1 | apply pt2 | apply pt3 | apply pt4 | apply pt5 | apply pt6 | apply pt7 | apply pt8 | apply pt9 | apply pt10 | apply pt11 | apply pt12 | apply pt13 | apply pt14 | apply pt15 | apply pt16 | apply pt17))) (by (repeat (first | exact ro_nil | exact ro_rest (by assumption) | refine ro_cons (by first | exact .inl (by assumption) | exact ro_f0 (fun _ h => h) | exact ro_f0 (fun _ => slc_rsl) | exact ro_f1 (fun _ h => h) | exact ro_f1 (fun _ => slc_rsl) | exact ro_f2 (fun _ h => h) | exact ro_f2 (fun _ => slc_rsl) | exact ro_f3 (fun _ h => h) | exact ro_f3 (fun _ => slc_rsl) | exact ro_f4 (fun _ h => h) | exact ro_f4 (fun _ => slc_rsl) | exact ro_f5 (fun _ h => h) | exact ro_f5 (fun _ => slc_rsl) | exact ro_f6 (fun _ h => h) | exact ro_f6 (fun _ => slc_rsl)) ?_)))) (wl_ex fun x96 hx96 => ?_)
              refine wl_y rfl (y_move rfl) ?_
              refine wl_y rfl (y_extract rfl rfl) ?_
              refine wl_y rfl (y_extract rfl rfl) ?_
              refine wl_w (fun _ _ => want_none) rfl (yw_alloc T30 rfl) (wl_ex fun b11 _ => ?_)
              first | refine wl_u (yu_storeAgg [] (l' := [_, _, _, _, _, _]) T30 rfl rfl rfl (by simp [Value.oneCell', encL, encJ, encO]) rfl rfl) ?_ | refine wl_u (yu_storeAgg [_] (l' := [_, _, _, _, _, _]) T30 rfl rfl rfl (by simp [Value.oneCell', encL, encJ, encO]) rfl rfl) ?_ | refine wl_u (yu_storeAgg [_, _] (l' := [_, _, _, _, _, _]) T30 rfl rfl rfl (by simp [Value.oneCell', encL, encJ, encO]) rfl rfl) ?_ | refine wl_u (yu_storeAgg [_, _, _] (l' := [_, _, _, _, _, _]) T30 rfl rfl rfl (by simp [Value.oneCell', encL, encJ, encO]) rfl rfl) ?_ | refine wl_u (yu_storeAgg [_, _, _, _] (l' := [_, _, _, _, _, _]) T30 rfl rfl rfl (by simp [Value.oneCell', encL, encJ, encO]) rfl rfl) ?_ | refine wl_u (yu_storeAgg [_, _, _, _, _] (l' := [_, _, _, _, _, _]) T30 rfl rfl rfl (by simp [Value.oneCell', encL, encJ, encO]) rfl rfl) ?_ | refine wl_u (yu_storeAgg [_, _, _, _, _, _] (l' := [_, _, _, _, _, _]) T30 rfl rfl rfl (by simp [Value.oneCell', encL, encJ, encO]) rfl rfl) ?_ | refine wl_u (yu_storeAgg [_, _, _, _, _, _, _] (l' := [_, _, _, _, _, _]) T30 rfl rfl rfl (by simp [Value.oneCell', encL, encJ, encO]) rfl rfl) ?_ | refine wl_u (yu_storeAgg [_, _, _, _, _, _, _, _] (l' := [_, _, _, _, _, _]) T30 rfl rfl rfl (by simp [Value.oneCell', encL, encJ, encO]) rfl rfl) ?_
              refine wl_y rfl (y_assign rfl) ?_
              refine wl_nil ?_
              refine wq_then ?_
              refine wc_seq ?_
              refine wc_region ?_
              refine wl_y rfl (y_move rfl) ?_
              refine wl_y rfl (y_eqlI rfl rfl) ?_
              refine wl_nil ?_
              refine wq_then ?_
              refine wc_cond rfl (fun hc100 => ?_) (fun hc100 => ?_)
              ·
                simp at hc100
                subst hc100
                obtain ⟨hn, rfl, rfl⟩ := grant_zero hgr
                have hlk : look hd x.job.key = 0 := by rw [hH.same, eOf, hn]
                refine wc_seq ?_
                refine wc_seq ?_
                refine wc_region ?_
                refine wl_y rfl (y_fieldAddr F30_2 rfl) ?_
                refine wl_y rfl (y_load NA3 rfl (by first | exact cell_blk [] rfl | exact cell_blk [_] rfl | exact cell_blk [_, _] rfl | exact cell_blk [_, _, _] rfl | exact cell_blk [_, _, _, _] rfl | exact cell_blk [_, _, _, _, _] rfl | exact cell_blk [_, _, _, _, _, _] rfl | exact cell_blk [_, _, _, _, _, _, _] rfl | exact cell_blk [_, _, _, _, _, _, _, _] rfl | exact cellR_blk (by assumption) rfl)) ?_
                refine wl_y rfl (y_move rfl) ?_
                refine wl_y rfl (y_leq rfl rfl) ?_
                refine wl_y rfl (y_move rfl) ?_
                apply wl_or 6 111 [(1, _), (5, _), (8, _), (9, _), (10, _), (11, _)] (t := 105) rfl ⟨rfl, rfl, rfl, rfl, rfl, rfl, trivial⟩
                · intro hg105 hM111
                  refine wl_sk rfl rfl rfl rfl ?_
                  refine wl_sk rfl rfl rfl rfl ?_
                  refine wl_sk rfl rfl rfl rfl ?_
                  refine wl_sk rfl rfl rfl rfl ?_
                  refine wl_sk rfl rfl rfl rfl ?_
                  refine wl_y rfl (y_pick_t rfl rfl) ?_
                  exact wl_weaken hM111 ⟨rfl, rfl, rfl, rfl, rfl, rfl, rfl, trivial⟩
                · intro hg105 hM111
                  try (simp at hg105)
                  refine wl_yg rfl rfl rfl (y_fieldAddr F30_0 rfl) ?_
                  refine wl_yg rfl rfl rfl (y_loadAgg (l := [_, _, _]) AG28 rfl rfl (by first | exact cells_blk [] rfl | exact cells_blk [_] rfl | exact cells_blk [_, _] rfl | exact cells_blk [_, _, _] rfl | exact cells_blk [_, _, _, _] rfl | exact cells_blk [_, _, _, _, _] rfl | exact cells_blk [_, _, _, _, _, _] rfl | exact cells_blk [_, _, _, _, _, _, _] rfl | exact cells_blk [_, _, _, _, _, _, _, _] rfl | exact cellsR_blk (by assumption) rfl)) ?_
                  refine wl_yg rfl rfl rfl (y_fieldAddr F44_1 rfl) ?_
                  refine wl_yg rfl rfl rfl (y_loadAgg (l := [_, _, _]) AG28 rfl rfl (by first | exact cells_blk [] rfl | exact cells_blk [_] rfl | exact cells_blk [_, _] rfl | exact cells_blk [_, _, _] rfl | exact cells_blk [_, _, _, _] rfl | exact cells_blk [_, _, _, _, _] rfl | exact cells_blk [_, _, _, _, _, _] rfl | exact cells_blk [_, _, _, _, _, _, _] rfl | exact cells_blk [_, _, _, _, _, _, _, _] rfl | exact cellsR_blk (by assumption) rfl)) ?_
                  refine wl_yg rfl rfl rfl (y_neqAgg (E28 _ _) rfl rfl) ?_
                  refine wl_y rfl (y_pick_f rfl rfl) ?_
                  exact wl_weaken hM111 ⟨rfl, rfl, rfl, rfl, rfl, rfl, rfl, trivial⟩
                ·
                  refine wl_y rfl (y_move rfl) ?_
                  apply wl_or 6 118 [(1, _), (5, _), (8, _), (9, _), (10, _), (11, _)] (t := 112) rfl ⟨rfl, rfl, rfl, rfl, rfl, rfl, trivial⟩
                  · intro hg112 hM118
                    refine wl_sk rfl rfl rfl rfl ?_
                    refine wl_sk rfl rfl rfl rfl ?_
                    refine wl_sk rfl rfl rfl rfl ?_
                    refine wl_sk rfl rfl rfl rfl ?_
                    refine wl_sk rfl rfl rfl rfl ?_
                    refine wl_y rfl (y_pick_t rfl rfl) ?_
                    exact wl_weaken hM118 ⟨rfl, rfl, rfl, rfl, rfl, rfl, rfl, trivial⟩
                  · intro hg112 hM118
                    try (simp at hg112)
                    refine wl_yg rfl rfl rfl (y_fieldAddr F30_1 rfl) ?_
                    refine wl_yg rfl rfl rfl (y_load NA9 rfl (by first | exact cell_blk [] rfl | exact cell_blk [_] rfl | exact cell_blk [_, _] rfl | exact cell_blk [_, _, _] rfl | exact cell_blk [_, _, _, _] rfl | exact cell_blk [_, _, _, _, _] rfl | exact cell_blk [_, _, _, _, _, _] rfl | exact cell_blk [_, _, _, _, _, _, _] rfl | exact cell_blk [_, _, _, _, _, _, _, _] rfl | exact cellR_blk (by assumption) rfl)) ?_
                    refine wl_yg rfl rfl rfl (y_fieldAddr F44_2 rfl) ?_
                    refine wl_yg rfl rfl rfl (y_load NA9 rfl (by first | exact cell_blk [] rfl | exact cell_blk [_] rfl | exact cell_blk [_, _] rfl | exact cell_blk [_, _, _] rfl | exact cell_blk [_, _, _, _] rfl | exact cell_blk [_, _, _, _, _] rfl | exact cell_blk [_, _, _, _, _, _] rfl | exact cell_blk [_, _, _, _, _, _, _] rfl | exact cell_blk [_, _, _, _, _, _, _, _] rfl | exact cellR_blk (by assumption) rfl)) ?_
                    refine wl_yg rfl rfl rfl (y_neqS rfl rfl) ?_
                    refine wl_y rfl (y_pick_f rfl rfl) ?_
                    exact wl_weaken hM118 ⟨rfl, rfl, rfl, rfl, rfl, rfl, rfl, trivial⟩
                  ·
                    refine wl_y rfl (y_move rfl) ?_
                    apply wl_or 7 126 [(1, _), (5, _), (8, _), (9, _), (10, _), (11, _)] (t := 119) rfl ⟨rfl, rfl, rfl, rfl, rfl, rfl, trivial⟩
                    · intro hg119 hM126
                      refine wl_sk rfl rfl rfl rfl ?_
                      refine wl_sk rfl rfl rfl rfl ?_
                      refine wl_sk rfl rfl rfl rfl ?_
                      refine wl_sk rfl rfl rfl rfl ?_
                      refine wl_sk rfl rfl rfl rfl ?_
                      refine wl_sk rfl rfl rfl rfl ?_
                      refine wl_y rfl (y_pick_t rfl rfl) ?_
                      exact wl_weaken hM126 ⟨rfl, rfl, rfl, rfl, rfl, rfl, rfl, trivial⟩
                    · intro hg119 hM126
                      try (simp at hg119)
                      refine wl_yg rfl rfl rfl (y_move rfl) ?_
                      refine wl_yg rfl rfl rfl (y_fieldAddr F44_1 rfl) ?_
                      refine wl_yg rfl rfl rfl (y_fieldAddr F28_0 rfl) ?_
                      refine wl_yg rfl rfl rfl (y_load NA9 rfl (by first | exact cell_blk [] rfl | exact cell_blk [_] rfl | exact cell_blk [_, _] rfl | exact cell_blk [_, _, _] rfl | exact cell_blk [_, _, _, _] rfl | exact cell_blk [_, _, _, _, _] rfl | exact cell_blk [_, _, _, _, _, _] rfl | exact cell_blk [_, _, _, _, _, _, _] rfl | exact cell_blk [_, _, _, _, _, _, _, _] rfl | exact cellR_blk (by assumption) rfl)) ?_
                      refine wl_yg rfl rfl rfl (y_lookup Try.underlying52 (keyE_str Try.underlying9) T3 rfl rfl (by first | exact fun w hw => hw.seen [] | exact fun w hw => hw.seen [_] | exact fun w hw => hw.seen [_, _] | exact fun w hw => hw.seen [_, _, _] | exact fun w hw => hw.seen [_, _, _, _] | exact fun w hw => hw.seen [_, _, _, _, _] | exact fun w hw => hw.seen [_, _, _, _, _, _] | exact fun w hw => hw.seen [_, _, _, _, _, _, _] | exact fun w hw => hw.seen [_, _, _, _, _, _, _, _] | exact fun w hw => Seen.rngMap (hw.seen []) | exact fun w hw => Seen.rngMap (hw.seen [_]) | exact fun w hw => Seen.rngMap (hw.seen [_, _]) | exact fun w hw => Seen.rngMap (hw.seen [_, _, _]) | exact fun w hw => Seen.rngMap (hw.seen [_, _, _, _]) | exact fun w hw => Seen.rngMap (hw.seen [_, _, _, _, _]) | exact fun w hw => Seen.rngMap (hw.seen [_, _, _, _, _, _]) | exact fun w hw => Seen.rngMap (hw.seen [_, _, _, _, _, _, _]) | exact fun w hw => Seen.rngMap (hw.seen [_, _, _, _, _, _, _, _]))) ?_
                      refine wl_same 124 (vI (look hd x.job.key)) rfl (look_int hd _) ?_
                      refine wl_yg rfl rfl rfl (y_neqI rfl rfl) ?_
                      refine wl_y rfl (y_pick_f rfl rfl) ?_
                      exact wl_weaken hM126 ⟨rfl, rfl, rfl, rfl, rfl, rfl, rfl, trivial⟩
                    ·
                      refine wl_nil ?_
                      refine wq_then ?_
                      refine wc_known 126 false rfl (by simp [Tb.lease, hlk]; exact decide_eq_false (by omega)) ?_
                      refine wc_cond_false rfl ?_
                      refine wc_skip ?_
                      refine wq_then ?_
                      refine wc_seq ?_
                      refine wc_region ?_
                      refine wl_y rfl (y_fieldAddr F30_2 rfl) ?_
                      refine wl_y rfl (y_load NA3 rfl (by first | exact cell_blk [] rfl | exact cell_blk [_] rfl | exact cell_blk [_, _] rfl | exact cell_blk [_, _, _] rfl | exact cell_blk [_, _, _, _] rfl | exact cell_blk [_, _, _, _, _] rfl | exact cell_blk [_, _, _, _, _, _] rfl | exact cell_blk [_, _, _, _, _, _, _] rfl | exact cell_blk [_, _, _, _, _, _, _, _] rfl | exact cellR_blk (by assumption) rfl)) ?_
                      refine wl_y rfl (y_assign rfl) ?_
                      refine wl_nil ?_
                      refine wq_then ?_
                      refine wc_region ?_
                      refine wl_y rfl (y_move rfl) ?_
                      refine wl_y rfl (y_fieldAddr F44_1 rfl) ?_
                      refine wl_y rfl (y_fieldAddr F28_0 rfl) ?_
                      refine wl_y rfl (y_load NA9 rfl (by first | exact cell_blk [] rfl | exact cell_blk [_] rfl | exact cell_blk [_, _] rfl | exact cell_blk [_, _, _] rfl | exact cell_blk [_, _, _, _] rfl | exact cell_blk [_, _, _, _, _] rfl | exact cell_blk [_, _, _, _, _, _] rfl | exact cell_blk [_, _, _, _, _, _, _] rfl | exact cell_blk [_, _, _, _, _, _, _, _] rfl | exact cellR_blk (by assumption) rfl)) ?_
                      refine wl_y rfl (y_fieldAddr F30_2 rfl) ?_
                      refine wl_y rfl (y_load NA3 rfl (by first | exact cell_blk [] rfl | exact cell_blk [_] rfl | exact cell_blk [_, _] rfl | exact cell_blk [_, _, _] rfl | exact cell_blk [_, _, _, _] rfl | exact cell_blk [_, _, _, _, _] rfl | exact cell_blk [_, _, _, _, _, _] rfl | exact cell_blk [_, _, _, _, _, _, _] rfl | exact cell_blk [_, _, _, _, _, _, _, _] rfl | exact cellR_blk (by assumption) rfl)) ?_
                      first | refine wl_u (yu_mapUpdate [] Try.underlying52 (keyE_str Try.underlying9) rfl rfl rfl) ?_ | refine wl_u (yu_mapUpdate [_] Try.underlying52 (keyE_str Try.underlying9) rfl rfl rfl) ?_ | refine wl_u (yu_mapUpdate [_, _] Try.underlying52 (keyE_str Try.underlying9) rfl rfl rfl) ?_ | refine wl_u (yu_mapUpdate [_, _, _] Try.underlying52 (keyE_str Try.underlying9) rfl rfl rfl) ?_ | refine wl_u (yu_mapUpdate [_, _, _, _] Try.underlying52 (keyE_str Try.underlying9) rfl rfl rfl) ?_ | refine wl_u (yu_mapUpdate [_, _, _, _, _] Try.underlying52 (keyE_str Try.underlying9) rfl rfl rfl) ?_ | refine wl_u (yu_mapUpdate [_, _, _, _, _, _] Try.underlying52 (keyE_str Try.underlying9) rfl rfl rfl) ?_ | refine wl_u (yu_mapUpdate [_, _, _, _, _, _, _] Try.underlying52 (keyE_str Try.underlying9) rfl rfl rfl) ?_ | refine wl_u (yu_mapUpdate [_, _, _, _, _, _, _, _] Try.underlying52 (keyE_str Try.underlying9) rfl rfl rfl) ?_
                      refine wl_nil ?_
                      refine wq_block_normal ?_
                      exact wq_cut ({ t with epoch := t.epoch + 1, m := mput t.m x.job.key (t.lease x.job x.worker x.now) }, mput hd x.job.key (t.epoch + 1)) ⟨by have := in_grant hI x.job x.worker x.now hkl; rw [hgr] at this; exact this, held_grant hI.good hH hI.lo⟩ ⟨rfl, rfl, rfl, rfl, rfl, trivial⟩ (fun w hw => hw.sub (by (repeat (first | exact pt_nil | apply pt0 | apply pt1 | apply pt2 | apply pt3 | apply pt4 | apply pt5 | apply pt6 | apply pt7 | apply pt8 | apply pt9 | apply pt10 | apply pt11 | apply pt12 | apply pt13 | apply pt14 | apply pt15 | apply pt16 | apply pt17))))
              ·
                simp at hc100
                obtain ⟨hgt, hg16⟩ := grant_bad hgr hc100
                refine wc_seq ?_
                refine wc_region ?_
                refine wl_y rfl (y_move rfl) ?_
                refine wl_y rfl (y_eqlI rfl rfl) ?_
                refine wl_y rfl (y_move rfl) ?_
                apply wl_and 7 144 [(1, _), (5, _), (7, _), (8, _), (9, _)] (t := 137) rfl ⟨rfl, rfl, rfl, rfl, rfl, trivial⟩
                · intro hg137 hM144
                  try (simp at hg137)
                  refine wl_yg rfl rfl rfl (y_move rfl) ?_
                  refine wl_yg rfl rfl rfl (y_fieldAddr F44_1 rfl) ?_
                  refine wl_yg rfl rfl rfl (y_fieldAddr F28_0 rfl) ?_
                  refine wl_yg rfl rfl rfl (y_load NA9 rfl (by first | exact cell_blk [] rfl | exact cell_blk [_] rfl | exact cell_blk [_, _] rfl | exact cell_blk [_, _, _] rfl | exact cell_blk [_, _, _, _] rfl | exact cell_blk [_, _, _, _, _] rfl | exact cell_blk [_, _, _, _, _, _] rfl | exact cell_blk [_, _, _, _, _, _, _] rfl | exact cell_blk [_, _, _, _, _, _, _, _] rfl | exact cellR_blk (by assumption) rfl)) ?_
                  refine wl_yg rfl rfl rfl (y_lookup Try.underlying52 (keyE_str Try.underlying9) T3 rfl rfl (by first | exact fun w hw => hw.seen [] | exact fun w hw => hw.seen [_] | exact fun w hw => hw.seen [_, _] | exact fun w hw => hw.seen [_, _, _] | exact fun w hw => hw.seen [_, _, _, _] | exact fun w hw => hw.seen [_, _, _, _, _] | exact fun w hw => hw.seen [_, _, _, _, _, _] | exact fun w hw => hw.seen [_, _, _, _, _, _, _] | exact fun w hw => hw.seen [_, _, _, _, _, _, _, _] | exact fun w hw => Seen.rngMap (hw.seen []) | exact fun w hw => Seen.rngMap (hw.seen [_]) | exact fun w hw => Seen.rngMap (hw.seen [_, _]) | exact fun w hw => Seen.rngMap (hw.seen [_, _, _]) | exact fun w hw => Seen.rngMap (hw.seen [_, _, _, _]) | exact fun w hw => Seen.rngMap (hw.seen [_, _, _, _, _]) | exact fun w hw => Seen.rngMap (hw.seen [_, _, _, _, _, _]) | exact fun w hw => Seen.rngMap (hw.seen [_, _, _, _, _, _, _]) | exact fun w hw => Seen.rngMap (hw.seen [_, _, _, _, _, _, _, _]))) ?_
                  refine wl_same 142 (vI (look hd x.job.key)) rfl (look_int hd _) ?_
                  refine wl_yg rfl rfl rfl (y_eqlI rfl rfl) ?_
                  refine wl_y rfl (y_pick_t rfl rfl) ?_
                  exact wl_weaken hM144 ⟨rfl, rfl, rfl, rfl, rfl, rfl, trivial⟩
                · intro hg137 hM144
                  refine wl_sk rfl rfl rfl rfl ?_
                  refine wl_sk rfl rfl rfl rfl ?_
                  refine wl_sk rfl rfl rfl rfl ?_
                  refine wl_sk rfl rfl rfl rfl ?_
                  refine wl_sk rfl rfl rfl rfl ?_
                  refine wl_sk rfl rfl rfl rfl ?_
                  refine wl_y rfl (y_pick_f rfl rfl) ?_
                  exact wl_weaken hM144 ⟨rfl, rfl, rfl, rfl, rfl, rfl, trivial⟩
                ·
                  refine wl_nil ?_
                  refine wq_then ?_
                  refine wc_known 144 false rfl (once_grant hH hg16) ?_
                  refine wc_cond_false rfl ?_
                  refine wc_skip ?_
                  refine wq_block_normal ?_
                  exact wq_cut (t, hd) ⟨hI.up, hH⟩ ⟨rfl, rfl, rfl, rfl, rfl, trivial⟩ (fun w hw => by rw [hgt] at hw; exact hw.sub (by (repeat (first | exact pt_nil | apply pt0 | apply pt1 | apply pt2 | apply pt3 | apply pt4 | apply pt5 | apply pt6 | apply pt7 | apply pt8 | apply pt9 | apply pt10 | apply pt11 | apply pt12 | apply pt13 | apply pt14 | apply pt15 | apply pt16 | apply pt17))))
            ·
              simp at hc86
              refine wc_seq ?_
              refine wc_region ?_
              refine wl_y rfl (y_eqlI rfl rfl) ?_
              refine wl_y rfl (y_assign rfl) ?_
              refine wl_nil ?_
              refine wq_then ?_
              refine wc_cond rfl (fun hc145 => ?_) (fun hc145 => ?_)
              ·
                simp at hc145
                refine wc_seq ?_
                refine wc_region ?_
                refine wl_y rfl (y_move rfl) ?_
                refine wl_y rfl (y_fieldAddr F44_1 rfl) ?_
                refine wl_y rfl (y_fieldAddr F28_0 rfl) ?_
                refine wl_y rfl (y_load NA9 rfl (by first | exact cell_blk [] rfl | exact cell_blk [_] rfl | exact cell_blk [_, _] rfl | exact cell_blk [_, _, _] rfl | exact cell_blk [_, _, _, _] rfl | exact cell_blk [_, _, _, _, _] rfl | exact cell_blk [_, _, _, _, _, _] rfl | exact cell_blk [_, _, _, _, _, _, _] rfl | exact cell_blk [_, _, _, _, _, _, _, _] rfl | exact cellR_blk (by assumption) rfl)) ?_
                refine wl_y rfl (y_fieldAddr F44_3 rfl) ?_
                refine wl_y rfl (y_load NA3 rfl (by first | exact cell_blk [] rfl | exact cell_blk [_] rfl | exact cell_blk [_, _] rfl | exact cell_blk [_, _, _] rfl | exact cell_blk [_, _, _, _] rfl | exact cell_blk [_, _, _, _, _] rfl | exact cell_blk [_, _, _, _, _, _] rfl | exact cell_blk [_, _, _, _, _, _, _] rfl | exact cell_blk [_, _, _, _, _, _, _, _] rfl | exact cellR_blk (by assumption) rfl)) ?_
                refine wl_y rfl (y_fieldAddr F44_4 rfl) ?_
                refine wl_y rfl (y_load NA3 rfl (by first | exact cell_blk [] rfl | exact cell_blk [_] rfl | exact cell_blk [_, _] rfl | exact cell_blk [_, _, _] rfl | exact cell_blk [_, _, _, _] rfl | exact cell_blk [_, _, _, _, _] rfl | exact cell_blk [_, _, _, _, _, _] rfl | exact cell_blk [_, _, _, _, _, _, _] rfl | exact cell_blk [_, _, _, _, _, _, _, _] rfl | exact cellR_blk (by assumption) rfl)) ?_
                refine wl_c (fun _ _ => want_none) rfl (yc_spec (fst := []) (cap := []) _ FN11 (renew_c x24 t x.job.key x.epoch x.now (hI.ok h1 h2 (by omega))) rfl rfl rfl (by (repeat (first | exact pt_nil | apply pt0 | apply pt1 | apply pt2 | apply pt3 | apply pt4 | apply pt5 | apply pt6 | apply pt7 | apply pt8 | apply pt9 | apply pt10 | apply pt11 | apply pt12 | apply pt13 | apply pt14 | apply pt15 | apply pt16 | apply pt17))) (by (repeat (first | exact ro_nil | exact ro_rest (by assumption) | refine ro_cons (by first | exact .inl (by assumption) | exact ro_f0 (fun _ h => h) | exact ro_f0 (fun _ => slc_rsl) | exact ro_f1 (fun _ h => h) | exact ro_f1 (fun _ => slc_rsl) | exact ro_f2 (fun _ h => h) | exact ro_f2 (fun _ => slc_rsl) | exact ro_f3 (fun _ h => h) | exact ro_f3 (fun _ => slc_rsl) | exact ro_f4 (fun _ h => h) | exact ro_f4 (fun _ => slc_rsl) | exact ro_f5 (fun _ h => h) | exact ro_f5 (fun _ => slc_rsl) | exact ro_f6 (fun _ h => h) | exact ro_f6 (fun _ => slc_rsl)) ?_)))) (wl_ex fun x155 hx155 => ?_)
                refine wl_y rfl (y_eqlI rfl rfl) ?_
                refine wl_y rfl (y_move rfl) ?_
                apply wl_and 9 166 [(1, _), (5, _), (7, _), (8, _), (9, _)] (t := 157) rfl ⟨rfl, rfl, rfl, rfl, rfl, trivial⟩
                · intro hg157 hM166
                  try (simp at hg157)
                  refine wl_yg rfl rfl rfl (y_move rfl) ?_
                  refine wl_yg rfl rfl rfl (y_fieldAddr F44_1 rfl) ?_
                  refine wl_yg rfl rfl rfl (y_fieldAddr F28_0 rfl) ?_
                  refine wl_yg rfl rfl rfl (y_load NA9 rfl (by first | exact cell_blk [] rfl | exact cell_blk [_] rfl | exact cell_blk [_, _] rfl | exact cell_blk [_, _, _] rfl | exact cell_blk [_, _, _, _] rfl | exact cell_blk [_, _, _, _, _] rfl | exact cell_blk [_, _, _, _, _, _] rfl | exact cell_blk [_, _, _, _, _, _, _] rfl | exact cell_blk [_, _, _, _, _, _, _, _] rfl | exact cellR_blk (by assumption) rfl)) ?_
                  refine wl_yg rfl rfl rfl (y_lookup Try.underlying52 (keyE_str Try.underlying9) T3 rfl rfl (by first | exact fun w hw => hw.seen [] | exact fun w hw => hw.seen [_] | exact fun w hw => hw.seen [_, _] | exact fun w hw => hw.seen [_, _, _] | exact fun w hw => hw.seen [_, _, _, _] | exact fun w hw => hw.seen [_, _, _, _, _] | exact fun w hw => hw.seen [_, _, _, _, _, _] | exact fun w hw => hw.seen [_, _, _, _, _, _, _] | exact fun w hw => hw.seen [_, _, _, _, _, _, _, _] | exact fun w hw => Seen.rngMap (hw.seen []) | exact fun w hw => Seen.rngMap (hw.seen [_]) | exact fun w hw => Seen.rngMap (hw.seen [_, _]) | exact fun w hw => Seen.rngMap (hw.seen [_, _, _]) | exact fun w hw => Seen.rngMap (hw.seen [_, _, _, _]) | exact fun w hw => Seen.rngMap (hw.seen [_, _, _, _, _]) | exact fun w hw => Seen.rngMap (hw.seen [_, _, _, _, _, _]) | exact fun w hw => Seen.rngMap (hw.seen [_, _, _, _, _, _, _]) | exact fun w hw => Seen.rngMap (hw.seen [_, _, _, _, _, _, _, _]))) ?_
                  refine wl_same 162 (vI (look hd x.job.key)) rfl (look_int hd _) ?_
                  refine wl_yg rfl rfl rfl (y_fieldAddr F44_3 rfl) ?_
                  refine wl_yg rfl rfl rfl (y_load NA3 rfl (by first | exact cell_blk [] rfl | exact cell_blk [_] rfl | exact cell_blk [_, _] rfl | exact cell_blk [_, _, _] rfl | exact cell_blk [_, _, _, _] rfl | exact cell_blk [_, _, _, _, _] rfl | exact cell_blk [_, _, _, _, _, _] rfl | exact cell_blk [_, _, _, _, _, _, _] rfl | exact cell_blk [_, _, _, _, _, _, _, _] rfl | exact cellR_blk (by assumption) rfl)) ?_
                  refine wl_yg rfl rfl rfl (y_neqI rfl rfl) ?_
                  refine wl_y rfl (y_pick_t rfl rfl) ?_
                  exact wl_weaken hM166 ⟨rfl, rfl, rfl, rfl, rfl, rfl, trivial⟩
                · intro hg157 hM166
                  refine wl_sk rfl rfl rfl rfl ?_
                  refine wl_sk rfl rfl rfl rfl ?_
                  refine wl_sk rfl rfl rfl rfl ?_
                  refine wl_sk rfl rfl rfl rfl ?_
                  refine wl_sk rfl rfl rfl rfl ?_
                  refine wl_sk rfl rfl rfl rfl ?_
                  refine wl_sk rfl rfl rfl rfl ?_
                  refine wl_sk rfl rfl rfl rfl ?_
                  refine wl_y rfl (y_pick_f rfl rfl) ?_
                  exact wl_weaken hM166 ⟨rfl, rfl, rfl, rfl, rfl, rfl, trivial⟩
                ·
                  refine wl_nil ?_
                  refine wq_then ?_
                  refine wc_known 166 false rfl (renew_ok hH _ _ _) ?_
                  refine wc_cond_false rfl ?_
                  refine wc_skip ?_
                  refine wq_block_normal ?_
                  refine wq_same 7 (vI (t.renew x.job.key x.epoch x.now).1.epoch) rfl (by rw [renew_epoch]) ?_
                  exact wq_cut ((t.renew x.job.key x.epoch x.now).1, hd) ⟨in_renew hI x.job.key x.epoch x.now, held_renew hI.good hH x.job.key x.epoch x.now⟩ ⟨rfl, rfl, rfl, rfl, rfl, trivial⟩ (fun w hw => hw.sub (by (repeat (first | exact pt_nil | apply pt0 | apply pt1 | apply pt2 | apply pt3 | apply pt4 | apply pt5 | apply pt6 | apply pt7 | apply pt8 | apply pt9 | apply pt10 | apply pt11 | apply pt12 | apply pt13 | apply pt14 | apply pt15 | apply pt16 | apply pt17))))
              ·
                simp at hc145
                refine wc_seq ?_
                refine wc_region ?_
                refine wl_y rfl (y_eqlI rfl rfl) ?_
                refine wl_y rfl (y_assign rfl) ?_
                refine wl_nil ?_
                refine wq_then ?_
                refine wc_cond rfl (fun hc167 => ?_) (fun hc167 => ?_)
                ·
                  simp at hc167
                  refine wc_seq ?_
                  refine wc_region ?_
                  refine wl_y rfl (y_move rfl) ?_
                  refine wl_y rfl (y_fieldAddr F44_1 rfl) ?_
                  refine wl_y rfl (y_fieldAddr F28_0 rfl) ?_
                  refine wl_y rfl (y_load NA9 rfl (by first | exact cell_blk [] rfl | exact cell_blk [_] rfl | exact cell_blk [_, _] rfl | exact cell_blk [_, _, _] rfl | exact cell_blk [_, _, _, _] rfl | exact cell_blk [_, _, _, _, _] rfl | exact cell_blk [_, _, _, _, _, _] rfl | exact cell_blk [_, _, _, _, _, _, _] rfl | exact cell_blk [_, _, _, _, _, _, _, _] rfl | exact cellR_blk (by assumption) rfl)) ?_
                  refine wl_y rfl (y_fieldAddr F44_3 rfl) ?_
                  refine wl_y rfl (y_load NA3 rfl (by first | exact cell_blk [] rfl | exact cell_blk [_] rfl | exact cell_blk [_, _] rfl | exact cell_blk [_, _, _] rfl | exact cell_blk [_, _, _, _] rfl | exact cell_blk [_, _, _, _, _] rfl | exact cell_blk [_, _, _, _, _, _] rfl | exact cell_blk [_, _, _, _, _, _, _] rfl | exact cell_blk [_, _, _, _, _, _, _, _] rfl | exact cellR_blk (by assumption) rfl)) ?_
                  refine wl_c (fun _ _ => want_none) rfl (yc_spec (fst := []) (cap := []) _ FN16 (finish_c x24 t x.job.key x.epoch) rfl rfl rfl (by (repeat (first | exact pt_nil | apply pt0 | apply pt1 | apply pt2 | apply pt3 | apply pt4 | apply pt5 | apply pt6 | apply pt7 | apply pt8 | apply pt9 | apply pt10 | apply pt11 | apply pt12 | apply pt13 | apply pt14 | apply pt15 | apply pt16 | apply pt17))) (by (repeat (first | exact ro_nil | exact ro_rest (by assumption) | refine ro_cons (by first | exact .inl (by assumption) | exact ro_f0 (fun _ h => h) | exact ro_f0 (fun _ => slc_rsl) | exact ro_f1 (fun _ h => h) | exact ro_f1 (fun _ => slc_rsl) | exact ro_f2 (fun _ h => h) | exact ro_f2 (fun _ => slc_rsl) | exact ro_f3 (fun _ h => h) | exact ro_f3 (fun _ => slc_rsl) | exact ro_f4 (fun _ h => h) | exact ro_f4 (fun _ => slc_rsl) | exact ro_f5 (fun _ h => h) | exact ro_f5 (fun _ => slc_rsl) | exact ro_f6 (fun _ h => h) | exact ro_f6 (fun _ => slc_rsl)) ?_)))) (wl_ex fun x175 hx175 => ?_)
                  refine wl_y rfl (y_assign rfl) ?_
                  refine wl_nil ?_
                  refine wq_then ?_
                  refine wc_seq ?_
                  refine wc_region ?_
                  refine wl_y rfl (y_move rfl) ?_
                  refine wl_y rfl (y_fieldAddr F44_1 rfl) ?_
                  refine wl_y rfl (y_fieldAddr F28_0 rfl) ?_
                  refine wl_y rfl (y_load NA9 rfl (by first | exact cell_blk [] rfl | exact cell_blk [_] rfl | exact cell_blk [_, _] rfl | exact cell_blk [_, _, _] rfl | exact cell_blk [_, _, _, _] rfl | exact cell_blk [_, _, _, _, _] rfl | exact cell_blk [_, _, _, _, _, _] rfl | exact cell_blk [_, _, _, _, _, _, _] rfl | exact cell_blk [_, _, _, _, _, _, _, _] rfl | exact cellR_blk (by assumption) rfl)) ?_
                  refine wl_y rfl (y_lookup Try.underlying52 (keyE_str Try.underlying9) T3 rfl rfl (by first | exact fun w hw => hw.seen [] | exact fun w hw => hw.seen [_] | exact fun w hw => hw.seen [_, _] | exact fun w hw => hw.seen [_, _, _] | exact fun w hw => hw.seen [_, _, _, _] | exact fun w hw => hw.seen [_, _, _, _, _] | exact fun w hw => hw.seen [_, _, _, _, _, _] | exact fun w hw => hw.seen [_, _, _, _, _, _, _] | exact fun w hw => hw.seen [_, _, _, _, _, _, _, _] | exact fun w hw => Seen.rngMap (hw.seen []) | exact fun w hw => Seen.rngMap (hw.seen [_]) | exact fun w hw => Seen.rngMap (hw.seen [_, _]) | exact fun w hw => Seen.rngMap (hw.seen [_, _, _]) | exact fun w hw => Seen.rngMap (hw.seen [_, _, _, _]) | exact fun w hw => Seen.rngMap (hw.seen [_, _, _, _, _]) | exact fun w hw => Seen.rngMap (hw.seen [_, _, _, _, _, _]) | exact fun w hw => Seen.rngMap (hw.seen [_, _, _, _, _, _, _]) | exact fun w hw => Seen.rngMap (hw.seen [_, _, _, _, _, _, _, _]))) ?_
                  refine wl_same 180 (vI (look hd x.job.key)) rfl (look_int hd _) ?_
                  refine wl_y rfl (y_assign rfl) ?_
                  refine wl_nil ?_
                  refine wq_then ?_
                  refine wc_seq ?_
                  refine wc_seq ?_
                  refine wc_region ?_
                  refine wl_y rfl (y_move rfl) ?_
                  refine wl_y rfl (y_eqlI rfl rfl) ?_
                  refine wl_y rfl (y_move rfl) ?_
                  refine wl_y rfl (y_gtr rfl rfl) ?_
                  refine wl_y rfl (y_move rfl) ?_
                  apply wl_and 5 190 [(1, _), (5, _), (7, _), (8, _), (9, _), (10, _), (13, _), (14, _), (182, _)] (t := 185) rfl ⟨rfl, rfl, rfl, rfl, rfl, rfl, rfl, rfl, rfl, trivial⟩
                  · intro hg185 hM190
                    try (simp at hg185)
                    refine wl_yg rfl rfl rfl (y_move rfl) ?_
                    refine wl_yg rfl rfl rfl (y_fieldAddr F44_3 rfl) ?_
                    refine wl_yg rfl rfl rfl (y_load NA3 rfl (by first | exact cell_blk [] rfl | exact cell_blk [_] rfl | exact cell_blk [_, _] rfl | exact cell_blk [_, _, _] rfl | exact cell_blk [_, _, _, _] rfl | exact cell_blk [_, _, _, _, _] rfl | exact cell_blk [_, _, _, _, _, _] rfl | exact cell_blk [_, _, _, _, _, _, _] rfl | exact cell_blk [_, _, _, _, _, _, _, _] rfl | exact cellR_blk (by assumption) rfl)) ?_
                    refine wl_yg rfl rfl rfl (y_eqlI rfl rfl) ?_
                    refine wl_y rfl (y_pick_t rfl rfl) ?_
                    exact wl_weaken hM190 ⟨rfl, rfl, rfl, rfl, rfl, rfl, rfl, rfl, rfl, rfl, trivial⟩
                  · intro hg185 hM190
                    refine wl_sk rfl rfl rfl rfl ?_
                    refine wl_sk rfl rfl rfl rfl ?_
                    refine wl_sk rfl rfl rfl rfl ?_
                    refine wl_sk rfl rfl rfl rfl ?_
                    refine wl_y rfl (y_pick_f rfl rfl) ?_
                    exact wl_weaken hM190 ⟨rfl, rfl, rfl, rfl, rfl, rfl, rfl, rfl, rfl, rfl, trivial⟩
                  ·
                    refine wl_y rfl (y_neqB Try.underlying4 rfl rfl) ?_
                    refine wl_y rfl (y_move rfl) ?_
                    apply wl_or 6 198 [(1, _), (5, _), (7, _), (8, _), (9, _), (10, _), (13, _)] (t := 192) rfl ⟨rfl, rfl, rfl, rfl, rfl, rfl, rfl, trivial⟩
                    · intro hg192 hM198
                      refine wl_sk rfl rfl rfl rfl ?_
                      refine wl_sk rfl rfl rfl rfl ?_
                      refine wl_sk rfl rfl rfl rfl ?_
                      refine wl_sk rfl rfl rfl rfl ?_
                      refine wl_sk rfl rfl rfl rfl ?_
                      refine wl_y rfl (y_pick_t rfl rfl) ?_
                      exact wl_weaken hM198 ⟨rfl, rfl, rfl, rfl, rfl, rfl, rfl, rfl, trivial⟩
                    · intro hg192 hM198
                      try (simp at hg192)
                      refine wl_yg rfl rfl rfl (y_move rfl) ?_
                      refine wl_yg rfl rfl rfl (y_eqlI rfl rfl) ?_
                      refine wl_yg rfl rfl rfl (y_move rfl) ?_
                      refine wl_yg rfl rfl rfl (y_eqlI rfl rfl) ?_
                      refine wl_yg rfl rfl rfl (y_neqB Try.underlying4 rfl rfl) ?_
                      refine wl_y rfl (y_pick_f rfl rfl) ?_
                      exact wl_weaken hM198 ⟨rfl, rfl, rfl, rfl, rfl, rfl, rfl, rfl, trivial⟩
                    ·
                      refine wl_nil ?_
                      refine wq_then ?_
                      refine wc_known 198 false rfl (once_finish hH _ _) ?_
                      refine wc_cond_false rfl ?_
                      refine wc_skip ?_
                      refine wq_then ?_
                      refine wc_seq ?_
                      refine wc_region ?_
                      refine wl_y rfl (y_move rfl) ?_
                      refine wl_y rfl (y_eqlI rfl rfl) ?_
                      refine wl_nil ?_
                      refine wq_then ?_
                      refine wc_cond rfl (fun hc200 => ?_) (fun hc200 => ?_)
                      ·
                        simp at hc200
                        refine wc_region ?_
                        refine wl_y rfl (y_move rfl) ?_
                        refine wl_y rfl (y_fieldAddr F44_1 rfl) ?_
                        refine wl_y rfl (y_fieldAddr F28_0 rfl) ?_
                        refine wl_y rfl (y_load NA9 rfl (by first | exact cell_blk [] rfl | exact cell_blk [_] rfl | exact cell_blk [_, _] rfl | exact cell_blk [_, _, _] rfl | exact cell_blk [_, _, _, _] rfl | exact cell_blk [_, _, _, _, _] rfl | exact cell_blk [_, _, _, _, _, _] rfl | exact cell_blk [_, _, _, _, _, _, _] rfl | exact cell_blk [_, _, _, _, _, _, _, _] rfl | exact cellR_blk (by assumption) rfl)) ?_
                        first | refine wl_u (yu_mapUpdate [] Try.underlying52 (keyE_str Try.underlying9) rfl rfl rfl) ?_ | refine wl_u (yu_mapUpdate [_] Try.underlying52 (keyE_str Try.underlying9) rfl rfl rfl) ?_ | refine wl_u (yu_mapUpdate [_, _] Try.underlying52 (keyE_str Try.underlying9) rfl rfl rfl) ?_ | refine wl_u (yu_mapUpdate [_, _, _] Try.underlying52 (keyE_str Try.underlying9) rfl rfl rfl) ?_ | refine wl_u (yu_mapUpdate [_, _, _, _] Try.underlying52 (keyE_str Try.underlying9) rfl rfl rfl) ?_ | refine wl_u (yu_mapUpdate [_, _, _, _, _] Try.underlying52 (keyE_str Try.underlying9) rfl rfl rfl) ?_ | refine wl_u (yu_mapUpdate [_, _, _, _, _, _] Try.underlying52 (keyE_str Try.underlying9) rfl rfl rfl) ?_ | refine wl_u (yu_mapUpdate [_, _, _, _, _, _, _] Try.underlying52 (keyE_str Try.underlying9) rfl rfl rfl) ?_ | refine wl_u (yu_mapUpdate [_, _, _, _, _, _, _, _] Try.underlying52 (keyE_str Try.underlying9) rfl rfl rfl) ?_
                        refine wl_nil ?_
                        refine wq_block_normal ?_
                        refine wq_same 7 (vI (t.finish x.job.key x.epoch).1.epoch) rfl (by rw [finish_epoch]) ?_
                        exact wq_cut ((t.finish x.job.key x.epoch).1, mput hd x.job.key 0) ⟨in_finish hI x.job.key x.epoch, held_finish hI.good hH hc200⟩ ⟨rfl, rfl, rfl, rfl, rfl, trivial⟩ (fun w hw => hw.sub (by (repeat (first | exact pt_nil | apply pt0 | apply pt1 | apply pt2 | apply pt3 | apply pt4 | apply pt5 | apply pt6 | apply pt7 | apply pt8 | apply pt9 | apply pt10 | apply pt11 | apply pt12 | apply pt13 | apply pt14 | apply pt15 | apply pt16 | apply pt17))))
                      ·
                        simp at hc200
                        refine wc_skip ?_
                        refine wq_block_normal ?_
                        refine wq_same 7 (vI (t.finish x.job.key x.epoch).1.epoch) rfl (by rw [finish_epoch]) ?_
                        exact wq_cut ((t.finish x.job.key x.epoch).1, hd) ⟨in_finish hI x.job.key x.epoch, by rw [finish_same hc200]; exact hH⟩ ⟨rfl, rfl, rfl, rfl, rfl, trivial⟩ (fun w hw => hw.sub (by (repeat (first | exact pt_nil | apply pt0 | apply pt1 | apply pt2 | apply pt3 | apply pt4 | apply pt5 | apply pt6 | apply pt7 | apply pt8 | apply pt9 | apply pt10 | apply pt11 | apply pt12 | apply pt13 | apply pt14 | apply pt15 | apply pt16 | apply pt17))))
                ·
                  simp at hc167
                  refine wc_seq ?_
                  refine wc_region ?_
                  refine wl_y rfl (y_assign rfl) ?_
                  refine wl_nil ?_
                  refine wq_then ?_
                  refine wc_seq (wc_cut (α := (Ls → Bool) × Option Addr × Nat) (fun y => True) [(1, _), (5, _), (7, _), (8, _), (9, _)] (fun y => [(15, .slice y.2.1 (t.take y.1).2.length y.2.2)]) (fun y => Hp w0 K [slc 28 3 y.2.1 (t.take y.1).2.length y.2.2 ((t.take y.1).2.flatMap encJ), tbA x24 (t.take y.1).1, mapA vS vI b38 hd]) ⟨rfl, rfl, rfl, rfl, rfl, trivial⟩ ?_ ?_)
                  ·
                    refine wc_seq ?_
                    refine wc_region ?_
                    refine wl_y rfl (y_fieldAddr F44_0 rfl) ?_
                    refine wl_y rfl (y_load NA3 rfl (by first | exact cell_blk [] rfl | exact cell_blk [_] rfl | exact cell_blk [_, _] rfl | exact cell_blk [_, _, _] rfl | exact cell_blk [_, _, _, _] rfl | exact cell_blk [_, _, _, _, _] rfl | exact cell_blk [_, _, _, _, _, _] rfl | exact cell_blk [_, _, _, _, _, _, _] rfl | exact cell_blk [_, _, _, _, _, _, _, _] rfl | exact cellR_blk (by assumption) rfl)) ?_
                    refine wl_y rfl (y_eqlI rfl rfl) ?_
                    refine wl_nil ?_
                    refine wq_then ?_
                    refine wc_cond rfl (fun hc57 => ?_) (fun hc57 => ?_)
                    ·
                      simp at hc57
                      refine wc_region ?_
                      refine wl_y rfl (y_move rfl) ?_
                      refine wl_y rfl (y_fieldAddr F44_4 rfl) ?_
                      refine wl_y rfl (y_load NA3 rfl (by first | exact cell_blk [] rfl | exact cell_blk [_] rfl | exact cell_blk [_, _] rfl | exact cell_blk [_, _, _] rfl | exact cell_blk [_, _, _, _] rfl | exact cell_blk [_, _, _, _, _] rfl | exact cell_blk [_, _, _, _, _, _] rfl | exact cell_blk [_, _, _, _, _, _, _] rfl | exact cell_blk [_, _, _, _, _, _, _, _] rfl | exact cellR_blk (by assumption) rfl)) ?_
                      refine wl_c (fun _ _ => want_none) rfl (yc_spec (fst := []) (cap := []) _ FN10 (expire_c x24 t (hI.fits (by omega)) x.now) rfl rfl rfl (by (repeat (first | exact pt_nil | apply pt0 | apply pt1 | apply pt2 | apply pt3 | apply pt4 | apply pt5 | apply pt6 | apply pt7 | apply pt8 | apply pt9 | apply pt10 | apply pt11 | apply pt12 | apply pt13 | apply pt14 | apply pt15 | apply pt16 | apply pt17))) (by (repeat (first | exact ro_nil | exact ro_rest (by assumption) | refine ro_cons (by first | exact .inl (by assumption) | exact ro_f0 (fun _ h => h) | exact ro_f0 (fun _ => slc_rsl) | exact ro_f1 (fun _ h => h) | exact ro_f1 (fun _ => slc_rsl) | exact ro_f2 (fun _ h => h) | exact ro_f2 (fun _ => slc_rsl) | exact ro_f3 (fun _ h => h) | exact ro_f3 (fun _ => slc_rsl) | exact ro_f4 (fun _ h => h) | exact ro_f4 (fun _ => slc_rsl) | exact ro_f5 (fun _ h => h) | exact ro_f5 (fun _ => slc_rsl) | exact ro_f6 (fun _ h => h) | exact ro_f6 (fun _ => slc_rsl)) ?_)))) (wl_ex fun x61 hx61 => ?_)
                      refine wl_y rfl (y_assign rfl) ?_
                      refine wl_nil ?_
                      exact wq_cut (isOver x.now, x61) trivial ⟨rfl, rfl, rfl, rfl, rfl, rfl, trivial⟩ (fun w hw => hw.sub (by (repeat (first | exact pt_nil | apply pt0 | apply pt1 | apply pt2 | apply pt3 | apply pt4 | apply pt5 | apply pt6 | apply pt7 | apply pt8 | apply pt9 | apply pt10 | apply pt11 | apply pt12 | apply pt13 | apply pt14 | apply pt15 | apply pt16 | apply pt17))))
                    ·
                      simp at hc57
                      refine wc_region ?_
                      refine wl_y rfl (y_move rfl) ?_
                      refine wl_y rfl (y_fieldAddr F44_2 rfl) ?_
                      refine wl_y rfl (y_load NA9 rfl (by first | exact cell_blk [] rfl | exact cell_blk [_] rfl | exact cell_blk [_, _] rfl | exact cell_blk [_, _, _] rfl | exact cell_blk [_, _, _, _] rfl | exact cell_blk [_, _, _, _, _] rfl | exact cell_blk [_, _, _, _, _, _] rfl | exact cell_blk [_, _, _, _, _, _, _] rfl | exact cell_blk [_, _, _, _, _, _, _, _] rfl | exact cellR_blk (by assumption) rfl)) ?_
                      refine wl_c (fun _ _ => want_none) rfl (yc_spec (fst := []) (cap := []) _ FN20 (drop_c x24 t (hI.fits (by omega)) x.worker) rfl rfl rfl (by (repeat (first | exact pt_nil | apply pt0 | apply pt1 | apply pt2 | apply pt3 | apply pt4 | apply pt5 | apply pt6 | apply pt7 | apply pt8 | apply pt9 | apply pt10 | apply pt11 | apply pt12 | apply pt13 | apply pt14 | apply pt15 | apply pt16 | apply pt17))) (by (repeat (first | exact ro_nil | exact ro_rest (by assumption) | refine ro_cons (by first | exact .inl (by assumption) | exact ro_f0 (fun _ h => h) | exact ro_f0 (fun _ => slc_rsl) | exact ro_f1 (fun _ h => h) | exact ro_f1 (fun _ => slc_rsl) | exact ro_f2 (fun _ h => h) | exact ro_f2 (fun _ => slc_rsl) | exact ro_f3 (fun _ h => h) | exact ro_f3 (fun _ => slc_rsl) | exact ro_f4 (fun _ h => h) | exact ro_f4 (fun _ => slc_rsl) | exact ro_f5 (fun _ h => h) | exact ro_f5 (fun _ => slc_rsl) | exact ro_f6 (fun _ h => h) | exact ro_f6 (fun _ => slc_rsl)) ?_)))) (wl_ex fun x65 hx65 => ?_)
                      refine wl_y rfl (y_assign rfl) ?_
                      refine wl_nil ?_
                      exact wq_cut (isOf x.worker, x65) trivial ⟨rfl, rfl, rfl, rfl, rfl, rfl, trivial⟩ (fun w hw => hw.sub (by (repeat (first | exact pt_nil | apply pt0 | apply pt1 | apply pt2 | apply pt3 | apply pt4 | apply pt5 | apply pt6 | apply pt7 | apply pt8 | apply pt9 | apply pt10 | apply pt11 | apply pt12 | apply pt13 | apply pt14 | apply pt15 | apply pt16 | apply pt17))))
                  · rintro ⟨p, o15, c15⟩ _
                    refine all_wc ?_
                    refine wc_seq ?_
                    refine wc_region ?_
                    refine wl_y rfl (y_assign rfl) ?_
                    refine wl_nil ?_
                    refine wq_then ?_
                    refine wc_block ?_
                    refine wc_loop (α := Nat × List (Str × Int)) (fun y => y.1 ≤ (t.take p).2.length ∧ HeldI t (t.take p).2 y.1 y.2) [(1, _), (5, _), (7, _), (8, _), (9, _), (15, _)] (fun y => [(16, vI y.1)]) (fun y => Hp w0 K [slc 28 3 o15 (t.take p).2.length c15 ((t.take p).2.flatMap encJ), tbA x24 (t.take p).1, mapA vS vI b38 y.2]) (fun y => (t.take p).2.length - y.1) (0, hd) ?_ ⟨rfl, rfl, rfl, rfl, rfl, rfl, rfl, trivial⟩ ?_ ?_
                    · exact ⟨Nat.zero_le _, heldI_start hH _⟩
                    · exact fun w hw => hw.sub (by (repeat (first | exact pt_nil | apply pt0 | apply pt1 | apply pt2 | apply pt3 | apply pt4 | apply pt5 | apply pt6 | apply pt7 | apply pt8 | apply pt9 | apply pt10 | apply pt11 | apply pt12 | apply pt13 | apply pt14 | apply pt15 | apply pt16 | apply pt17)))
                    · rintro ⟨k, hd⟩ ⟨hk, hHI⟩; simp only at hk hHI
                      refine wc_world (S' := Hp w0 K [slc 28 3 o15 (t.take p).2.length c15 ((t.take p).2.flatMap encJ), tbA x24 (t.take p).1, mapA vS vI b38 hd]) (fun w hw => hw) ?_
                      refine wc_same 16 (vI k) rfl rfl ?_
                      refine wc_seq ?_
                      refine wc_seq ?_
                      refine wc_region ?_
                      refine wl_y rfl (y_move rfl) ?_
                      refine wl_y rfl (y_move rfl) ?_
                      refine wl_y rfl (y_lenSl Try.underlying33 rfl) ?_
                      refine wl_y rfl (y_lss rfl rfl) ?_
                      refine wl_nil ?_
                      refine wq_then ?_
                      refine wc_cond rfl (fun hc69 => ?_) (fun hc69 => ?_)
                      ·
                        simp at hc69
                        refine wc_skip ?_
                        refine wq_then ?_
                        refine wc_seq ?_
                        refine wc_block ?_
                        refine wc_seq ?_
                        refine wc_seq ?_
                        refine wc_region ?_
                        obtain ⟨j, hj⟩ : ∃ j, (t.take p).2[k]? = some j := ⟨_, List.getElem?_eq_getElem (by omega)⟩
                        have hlk := heldI_look hI.good hH p hHI hj
                        have hjl := take_jl t p
                        have hml := hI.len
                        refine wl_y rfl (y_move rfl) ?_
                        refine wl_y rfl (y_move rfl) ?_
                        refine wl_y rfl (y_move rfl) ?_
                        refine wl_y rfl (y_indexAddr Try.underlying33 T28 rfl rfl rfl (by omega) (by first | assumption | exact fun _ _ => rfl | exact fun _ _ => hA.isSome (by omega) | exact fun w hw => hw.slc_isSome [] (by omega) | exact fun w hw => hw.slc_isSome [_] (by omega) | exact fun w hw => hw.slc_isSome [_, _] (by omega) | exact fun w hw => hw.slc_isSome [_, _, _] (by omega) | exact fun w hw => hw.slc_isSome [_, _, _, _] (by omega) | exact fun w hw => hw.slc_isSome [_, _, _, _, _] (by omega) | exact fun w hw => hw.slc_isSome [_, _, _, _, _, _] (by omega) | exact fun w hw => hw.slc_isSome [_, _, _, _, _, _, _] (by omega) | exact fun w hw => hw.slc_isSome [_, _, _, _, _, _, _, _] (by omega))) ?_
                        refine wl_y rfl (y_fieldAddr_adr F28_0 rfl) ?_
                        refine wl_y rfl (y_load NA9 rfl (by first | exact cell_own [] (rows_get encJ_len hj rfl) | exact cell_own [_] (rows_get encJ_len hj rfl) | exact cell_own [_, _] (rows_get encJ_len hj rfl) | exact cell_own [_, _, _] (rows_get encJ_len hj rfl) | exact cell_own [_, _, _, _] (rows_get encJ_len hj rfl) | exact cell_own [_, _, _, _, _] (rows_get encJ_len hj rfl))) ?_
                        refine wl_y rfl (y_lookup Try.underlying52 (keyE_str Try.underlying9) T3 rfl rfl (by first | exact fun w hw => hw.seen [] | exact fun w hw => hw.seen [_] | exact fun w hw => hw.seen [_, _] | exact fun w hw => hw.seen [_, _, _] | exact fun w hw => hw.seen [_, _, _, _] | exact fun w hw => hw.seen [_, _, _, _, _] | exact fun w hw => hw.seen [_, _, _, _, _, _] | exact fun w hw => hw.seen [_, _, _, _, _, _, _] | exact fun w hw => hw.seen [_, _, _, _, _, _, _, _] | exact fun w hw => Seen.rngMap (hw.seen []) | exact fun w hw => Seen.rngMap (hw.seen [_]) | exact fun w hw => Seen.rngMap (hw.seen [_, _]) | exact fun w hw => Seen.rngMap (hw.seen [_, _, _]) | exact fun w hw => Seen.rngMap (hw.seen [_, _, _, _]) | exact fun w hw => Seen.rngMap (hw.seen [_, _, _, _, _]) | exact fun w hw => Seen.rngMap (hw.seen [_, _, _, _, _, _]) | exact fun w hw => Seen.rngMap (hw.seen [_, _, _, _, _, _, _]) | exact fun w hw => Seen.rngMap (hw.seen [_, _, _, _, _, _, _, _]))) ?_
                        refine wl_same 78 (vI (look hd j.key)) rfl (look_int hd _) ?_
                        refine wl_y rfl (y_eqlI rfl rfl) ?_
                        refine wl_nil ?_
                        refine wq_then ?_
                        refine wc_known 79 false rfl (by simp [hlk]) ?_
                        refine wc_cond_false rfl ?_
                        refine wc_skip ?_
                        refine wq_then ?_
                        refine wc_region ?_
                        refine wl_y rfl (y_move rfl) ?_
                        refine wl_y rfl (y_move rfl) ?_
                        refine wl_y rfl (y_move rfl) ?_
                        refine wl_y rfl (y_indexAddr Try.underlying33 T28 rfl rfl rfl (by omega) (by first | assumption | exact fun _ _ => rfl | exact fun _ _ => hA.isSome (by omega) | exact fun w hw => hw.slc_isSome [] (by omega) | exact fun w hw => hw.slc_isSome [_] (by omega) | exact fun w hw => hw.slc_isSome [_, _] (by omega) | exact fun w hw => hw.slc_isSome [_, _, _] (by omega) | exact fun w hw => hw.slc_isSome [_, _, _, _] (by omega) | exact fun w hw => hw.slc_isSome [_, _, _, _, _] (by omega) | exact fun w hw => hw.slc_isSome [_, _, _, _, _, _] (by omega) | exact fun w hw => hw.slc_isSome [_, _, _, _, _, _, _] (by omega) | exact fun w hw => hw.slc_isSome [_, _, _, _, _, _, _, _] (by omega))) ?_
                        refine wl_y rfl (y_fieldAddr_adr F28_0 rfl) ?_
                        refine wl_y rfl (y_load NA9 rfl (by first | exact cell_own [] (rows_get encJ_len hj rfl) | exact cell_own [_] (rows_get encJ_len hj rfl) | exact cell_own [_, _] (rows_get encJ_len hj rfl) | exact cell_own [_, _, _] (rows_get encJ_len hj rfl) | exact cell_own [_, _, _, _] (rows_get encJ_len hj rfl) | exact cell_own [_, _, _, _, _] (rows_get encJ_len hj rfl))) ?_
                        first | refine wl_u (yu_mapUpdate [] Try.underlying52 (keyE_str Try.underlying9) rfl rfl rfl) ?_ | refine wl_u (yu_mapUpdate [_] Try.underlying52 (keyE_str Try.underlying9) rfl rfl rfl) ?_ | refine wl_u (yu_mapUpdate [_, _] Try.underlying52 (keyE_str Try.underlying9) rfl rfl rfl) ?_ | refine wl_u (yu_mapUpdate [_, _, _] Try.underlying52 (keyE_str Try.underlying9) rfl rfl rfl) ?_ | refine wl_u (yu_mapUpdate [_, _, _, _] Try.underlying52 (keyE_str Try.underlying9) rfl rfl rfl) ?_ | refine wl_u (yu_mapUpdate [_, _, _, _, _] Try.underlying52 (keyE_str Try.underlying9) rfl rfl rfl) ?_ | refine wl_u (yu_mapUpdate [_, _, _, _, _, _] Try.underlying52 (keyE_str Try.underlying9) rfl rfl rfl) ?_ | refine wl_u (yu_mapUpdate [_, _, _, _, _, _, _] Try.underlying52 (keyE_str Try.underlying9) rfl rfl rfl) ?_ | refine wl_u (yu_mapUpdate [_, _, _, _, _, _, _, _] Try.underlying52 (keyE_str Try.underlying9) rfl rfl rfl) ?_
                        refine wl_nil ?_
                        refine wq_block_normal ?_
                        refine wq_then ?_
                        refine wc_region ?_
                        refine wl_y rfl (y_move rfl) ?_
                        refine wl_y rfl (y_add rfl rfl (by omega)) ?_
                        refine wl_y rfl (y_assign rfl) ?_
                        refine wl_nil ?_
                        exact wq_round (k + 1, mput hd j.key 0) (by simp only; omega) ⟨by simp only; omega, heldI_step hHI hj⟩ ⟨rfl, rfl, rfl, rfl, rfl, rfl, rfl, trivial⟩ (fun w hw => hw)
                      ·
                        simp at hc69
                        refine wc_exit ?_
                        refine wq_then_exit (wq_then_exit (wq_block_exit ?_))
                        refine wq_block_normal ?_
                        exact wq_cut ((t.take p).1, hd) ⟨in_take hI p, heldI_end hI.good hH p (by omega) hHI⟩ ⟨rfl, rfl, rfl, rfl, rfl, trivial⟩ (fun w hw => hw.sub (by (repeat (first | exact pt_nil | apply pt0 | apply pt1 | apply pt2 | apply pt3 | apply pt4 | apply pt5 | apply pt6 | apply pt7 | apply pt8 | apply pt9 | apply pt10 | apply pt11 | apply pt12 | apply pt13 | apply pt14 | apply pt15 | apply pt16 | apply pt17))))
          · clear hH
            rintro ⟨u, hd⟩ ⟨hu, hH⟩; simp only at hu hH
            refine all_wc ?_
            refine wc_seq ?_
            refine wc_region ?_
            refine wl_y rfl (y_move rfl) ?_
            refine wl_c (fun _ _ => want_none) rfl (yc_spec (fst := []) (cap := []) _ FN12 (list_at (t := u) (hu.fits (by omega)) rfl) rfl rfl rfl (by (repeat (first | exact pt_nil | apply pt0 | apply pt1 | apply pt2 | apply pt3 | apply pt4 | apply pt5 | apply pt6 | apply pt7 | apply pt8 | apply pt9 | apply pt10 | apply pt11 | apply pt12 | apply pt13 | apply pt14 | apply pt15 | apply pt16 | apply pt17))) (by (repeat (first | exact ro_nil | exact ro_rest (by assumption) | refine ro_cons (by first | exact .inl (by assumption) | exact ro_f0 (fun _ h => h) | exact ro_f0 (fun _ => slc_rsl) | exact ro_f1 (fun _ h => h) | exact ro_f1 (fun _ => slc_rsl) | exact ro_f2 (fun _ h => h) | exact ro_f2 (fun _ => slc_rsl) | exact ro_f3 (fun _ h => h) | exact ro_f3 (fun _ => slc_rsl) | exact ro_f4 (fun _ h => h) | exact ro_f4 (fun _ => slc_rsl) | exact ro_f5 (fun _ h => h) | exact ro_f5 (fun _ => slc_rsl) | exact ro_f6 (fun _ h => h) | exact ro_f6 (fun _ => slc_rsl)) ?_)))) (wl_ex fun x206 hx206 => ?_)
            refine wl_y rfl (y_assign rfl) ?_
            refine wl_nil ?_
            refine wq_then ?_
            refine wc_seq ?_
            refine wc_region ?_
            refine wl_y rfl (y_assign rfl) ?_
            refine wl_nil ?_
            refine wq_then ?_
            refine wc_seq ?_
            refine wc_seq ?_
            refine wc_region ?_
            refine wl_have (p := Keyed1 hd) (fun w hw => Hp.keyed [_, _] hw) (fun hKh => ?_)
            refine wl_y rfl (y_move rfl) ?_
            first | refine wl_w (fun _ _ => want_none) rfl (yw_range [] Try.underlying52 rfl) (wl_ex fun b208 _ => ?_) | refine wl_w (fun _ _ => want_none) rfl (yw_range [_] Try.underlying52 rfl) (wl_ex fun b208 _ => ?_) | refine wl_w (fun _ _ => want_none) rfl (yw_range [_, _] Try.underlying52 rfl) (wl_ex fun b208 _ => ?_) | refine wl_w (fun _ _ => want_none) rfl (yw_range [_, _, _] Try.underlying52 rfl) (wl_ex fun b208 _ => ?_) | refine wl_w (fun _ _ => want_none) rfl (yw_range [_, _, _, _] Try.underlying52 rfl) (wl_ex fun b208 _ => ?_) | refine wl_w (fun _ _ => want_none) rfl (yw_range [_, _, _, _, _] Try.underlying52 rfl) (wl_ex fun b208 _ => ?_) | refine wl_w (fun _ _ => want_none) rfl (yw_range [_, _, _, _, _, _] Try.underlying52 rfl) (wl_ex fun b208 _ => ?_) | refine wl_w (fun _ _ => want_none) rfl (yw_range [_, _, _, _, _, _, _] Try.underlying52 rfl) (wl_ex fun b208 _ => ?_) | refine wl_w (fun _ _ => want_none) rfl (yw_range [_, _, _, _, _, _, _, _] Try.underlying52 rfl) (wl_ex fun b208 _ => ?_)
            refine wl_same 18 (vI (cntH hd [] : Nat)) rfl (by rw [cntH_nil]; rfl) ?_
            refine wl_nil ?_
            refine wq_then ?_
            refine wc_block ?_
            refine wc_loop (α := List Str) (fun dn => True) [(1, _), (5, _), (7, _), (8, _), (9, _), (17, _), (208, _)] (fun dn => [(18, vI (cntH hd dn : Nat))]) (fun dn => Hp w0 K [rngA vS vI b38 b208 hd dn, slc 30 6 x206.1 u.srt.length x206.2 (u.srt.flatMap encL), tbA x24 u]) (fun dn => leftM hd dn) [] ?_ ⟨rfl, rfl, rfl, rfl, rfl, rfl, rfl, rfl, trivial⟩ ?_ ?_
            · trivial
            · exact fun w hw => hw.sub (by (repeat (first | exact pt_nil | apply pt0 | apply pt1 | apply pt2 | apply pt3 | apply pt4 | apply pt5 | apply pt6 | apply pt7 | apply pt8 | apply pt9 | apply pt10 | apply pt11 | apply pt12 | apply pt13 | apply pt14 | apply pt15 | apply pt16 | apply pt17)))
            · intro dn _
              have hdn := cntH_bound hu.good hH hKh dn
              have hul := hu.len
              refine wc_seq ?_
              refine wc_region ?_
              first | refine wl_w (fun _ _ => want_none) rfl (yw_next [] rfl) (wl_ex fun x209 hx209 => ?_) | refine wl_w (fun _ _ => want_none) rfl (yw_next [_] rfl) (wl_ex fun x209 hx209 => ?_) | refine wl_w (fun _ _ => want_none) rfl (yw_next [_, _] rfl) (wl_ex fun x209 hx209 => ?_) | refine wl_w (fun _ _ => want_none) rfl (yw_next [_, _, _] rfl) (wl_ex fun x209 hx209 => ?_) | refine wl_w (fun _ _ => want_none) rfl (yw_next [_, _, _, _] rfl) (wl_ex fun x209 hx209 => ?_) | refine wl_w (fun _ _ => want_none) rfl (yw_next [_, _, _, _, _] rfl) (wl_ex fun x209 hx209 => ?_) | refine wl_w (fun _ _ => want_none) rfl (yw_next [_, _, _, _, _, _] rfl) (wl_ex fun x209 hx209 => ?_) | refine wl_w (fun _ _ => want_none) rfl (yw_next [_, _, _, _, _, _, _] rfl) (wl_ex fun x209 hx209 => ?_) | refine wl_w (fun _ _ => want_none) rfl (yw_next [_, _, _, _, _, _, _, _] rfl) (wl_ex fun x209 hx209 => ?_)
              rcases x209 with _ | q209
              ·
                refine wl_y rfl (y_extract rfl rfl) ?_
                refine wl_nil ?_
                refine wq_then ?_
                refine wc_seq ?_
                refine wc_known 210 false rfl (rfl) ?_
                refine wc_cond_false rfl ?_
                refine wc_exit ?_
                refine wq_then_exit (wq_then_exit (wq_block_exit ?_))
                refine wq_then ?_
                refine wc_seq ?_
                refine wc_seq ?_
                refine wc_region ?_
                refine wl_y rfl (y_move rfl) ?_
                refine wl_y rfl (y_lenSl Try.underlying36 rfl) ?_
                refine wl_y rfl (y_move rfl) ?_
                refine wl_y rfl (y_neqI rfl rfl) ?_
                refine wl_nil ?_
                refine wq_then ?_
                refine wc_known 220 false rfl (by rw [cntH_all hu.good hH hKh hx209, Tb.srt_len]; simp) ?_
                refine wc_cond_false rfl ?_
                refine wc_skip ?_
                refine wq_then ?_
                refine wc_seq ?_
                refine wc_region ?_
                refine wl_y rfl (y_assign rfl) ?_
                refine wl_nil ?_
                refine wq_then ?_
                refine wc_block ?_
                refine wc_loop (α := Nat) (fun y => y ≤ u.srt.length) [(1, _), (5, _), (7, _), (8, _), (9, _), (17, _)] (fun y => [(21, vI y)]) (fun y => Hp w0 K [slc 30 6 x206.1 u.srt.length x206.2 (u.srt.flatMap encL), tbA x24 u, mapA vS vI b38 hd]) (fun y => u.srt.length - y) 0 ?_ ⟨rfl, rfl, rfl, rfl, rfl, rfl, rfl, trivial⟩ ?_ ?_
                · exact Nat.zero_le _
                · exact fun w hw => (Hp.rngEnd hw).sub (by (repeat (first | exact pt_nil | apply pt0 | apply pt1 | apply pt2 | apply pt3 | apply pt4 | apply pt5 | apply pt6 | apply pt7 | apply pt8 | apply pt9 | apply pt10 | apply pt11 | apply pt12 | apply pt13 | apply pt14 | apply pt15 | apply pt16 | apply pt17)))
                · intro k hk
                  have hsl := u.srt_len
                  refine wc_seq ?_
                  refine wc_seq ?_
                  refine wc_region ?_
                  refine wl_y rfl (y_move rfl) ?_
                  refine wl_y rfl (y_move rfl) ?_
                  refine wl_y rfl (y_lenSl Try.underlying36 rfl) ?_
                  refine wl_y rfl (y_lss rfl rfl) ?_
                  refine wl_nil ?_
                  refine wq_then ?_
                  refine wc_cond rfl (fun hc224 => ?_) (fun hc224 => ?_)
                  ·
                    simp at hc224
                    refine wc_skip ?_
                    refine wq_then ?_
                    refine wc_seq ?_
                    refine wc_block ?_
                    refine wc_seq ?_
                    refine wc_quiet MO (by kernel_rfl) (Hp.drawless _ _ _) ?_
                    obtain ⟨y, hy⟩ : ∃ y, u.srt[k]? = some y := ⟨_, List.getElem?_eq_getElem (by omega)⟩
                    have hlk := look_srt hu.good hH (List.mem_of_getElem? hy)
                    have hz : 0 < k → u.srt[k - 1]? = some (u.srt.getD (k - 1) noL) := fun h => by rw [List.getD_eq_getElem?_getD, List.getElem?_eq_getElem (by omega)]; rfl
                    refine wt_y rfl (y_move rfl) ?_
                    refine wt_y rfl (y_move rfl) ?_
                    refine wt_y rfl (y_move rfl) ?_
                    refine wt_y rfl (y_indexAddr Try.underlying36 T30 rfl rfl rfl (by omega) (by first | assumption | exact fun _ _ => rfl | exact fun _ _ => hA.isSome (by omega) | exact fun w hw => hw.slc_isSome [] (by omega) | exact fun w hw => hw.slc_isSome [_] (by omega) | exact fun w hw => hw.slc_isSome [_, _] (by omega) | exact fun w hw => hw.slc_isSome [_, _, _] (by omega) | exact fun w hw => hw.slc_isSome [_, _, _, _] (by omega) | exact fun w hw => hw.slc_isSome [_, _, _, _, _] (by omega) | exact fun w hw => hw.slc_isSome [_, _, _, _, _, _] (by omega) | exact fun w hw => hw.slc_isSome [_, _, _, _, _, _, _] (by omega) | exact fun w hw => hw.slc_isSome [_, _, _, _, _, _, _, _] (by omega))) ?_
                    refine wt_y rfl (y_fieldAddr_adr F30_0 rfl) ?_
                    refine wt_y rfl (y_fieldAddr_adr F28_0 rfl) ?_
                    refine wt_y rfl (y_load NA9 rfl (by first | exact cell_own [] (rows_get encL_len hy rfl) | exact cell_own [_] (rows_get encL_len hy rfl) | exact cell_own [_, _] (rows_get encL_len hy rfl) | exact cell_own [_, _, _] (rows_get encL_len hy rfl) | exact cell_own [_, _, _, _] (rows_get encL_len hy rfl) | exact cell_own [_, _, _, _, _] (rows_get encL_len hy rfl))) ?_
                    refine wt_y rfl (y_lookup Try.underlying52 (keyE_str Try.underlying9) T3 rfl rfl (by first | exact fun w hw => hw.seen [] | exact fun w hw => hw.seen [_] | exact fun w hw => hw.seen [_, _] | exact fun w hw => hw.seen [_, _, _] | exact fun w hw => hw.seen [_, _, _, _] | exact fun w hw => hw.seen [_, _, _, _, _] | exact fun w hw => hw.seen [_, _, _, _, _, _] | exact fun w hw => hw.seen [_, _, _, _, _, _, _] | exact fun w hw => hw.seen [_, _, _, _, _, _, _, _] | exact fun w hw => Seen.rngMap (hw.seen []) | exact fun w hw => Seen.rngMap (hw.seen [_]) | exact fun w hw => Seen.rngMap (hw.seen [_, _]) | exact fun w hw => Seen.rngMap (hw.seen [_, _, _]) | exact fun w hw => Seen.rngMap (hw.seen [_, _, _, _]) | exact fun w hw => Seen.rngMap (hw.seen [_, _, _, _, _]) | exact fun w hw => Seen.rngMap (hw.seen [_, _, _, _, _, _]) | exact fun w hw => Seen.rngMap (hw.seen [_, _, _, _, _, _, _]) | exact fun w hw => Seen.rngMap (hw.seen [_, _, _, _, _, _, _, _]))) ?_
                    refine wt_same 234 (vI (look hd y.job.key)) rfl (look_int hd _) ?_
                    refine wt_y rfl (y_move rfl) ?_
                    refine wt_y rfl (y_move rfl) ?_
                    refine wt_y rfl (y_indexAddr Try.underlying36 T30 rfl rfl rfl (by omega) (by first | assumption | exact fun _ _ => rfl | exact fun _ _ => hA.isSome (by omega) | exact fun w hw => hw.slc_isSome [] (by omega) | exact fun w hw => hw.slc_isSome [_] (by omega) | exact fun w hw => hw.slc_isSome [_, _] (by omega) | exact fun w hw => hw.slc_isSome [_, _, _] (by omega) | exact fun w hw => hw.slc_isSome [_, _, _, _] (by omega) | exact fun w hw => hw.slc_isSome [_, _, _, _, _] (by omega) | exact fun w hw => hw.slc_isSome [_, _, _, _, _, _] (by omega) | exact fun w hw => hw.slc_isSome [_, _, _, _, _, _, _] (by omega) | exact fun w hw => hw.slc_isSome [_, _, _, _, _, _, _, _] (by omega))) ?_
                    refine wt_y rfl (y_fieldAddr_adr F30_2 rfl) ?_
                    refine wt_y rfl (y_load NA3 rfl (by first | exact cell_own [] (rows_get encL_len hy rfl) | exact cell_own [_] (rows_get encL_len hy rfl) | exact cell_own [_, _] (rows_get encL_len hy rfl) | exact cell_own [_, _, _] (rows_get encL_len hy rfl) | exact cell_own [_, _, _, _] (rows_get encL_len hy rfl) | exact cell_own [_, _, _, _, _] (rows_get encL_len hy rfl))) ?_
                    refine wt_y rfl (y_neqI rfl rfl) ?_
                    refine wt_y rfl (y_move rfl) ?_
                    apply wt_or 19 260 [(1, _), (5, _), (7, _), (8, _), (9, _), (17, _), (21, _)] (t := 241) rfl ⟨rfl, rfl, rfl, rfl, rfl, rfl, rfl, trivial⟩
                    · intro hg241 hM260
                      refine wt_sk rfl rfl rfl rfl ?_
                      refine wt_sk rfl rfl rfl rfl ?_
                      refine wt_sk rfl rfl rfl rfl ?_
                      refine wt_sku rfl rfl rfl ?_
                      refine wt_sku rfl rfl rfl ?_
                      refine wt_sku rfl rfl rfl ?_
                      refine wt_sku rfl rfl rfl ?_
                      refine wt_sku rfl rfl rfl ?_
                      refine wt_sku rfl rfl rfl ?_
                      refine wt_sku rfl rfl rfl ?_
                      refine wt_sku rfl rfl rfl ?_
                      refine wt_sku rfl rfl rfl ?_
                      refine wt_sku rfl rfl rfl ?_
                      refine wt_sku rfl rfl rfl ?_
                      refine wt_sku rfl rfl rfl ?_
                      refine wt_sku rfl rfl rfl ?_
                      refine wt_sku rfl rfl rfl ?_
                      refine wt_sk rfl rfl rfl rfl ?_
                      refine wt_y rfl (y_pick_t rfl rfl) ?_
                      exact wt_weaken hM260 ⟨rfl, rfl, rfl, rfl, rfl, rfl, rfl, rfl, trivial⟩
                    · intro hg241 hM260
                      try (simp at hg241)
                      refine wt_yg rfl rfl rfl (y_move rfl) ?_
                      refine wt_yg rfl rfl rfl (y_gtr rfl rfl) ?_
                      refine wt_yg rfl rfl rfl (y_move rfl) ?_
                      apply wt_and 15 259 [(1, _), (5, _), (7, _), (8, _), (9, _), (17, _), (21, _), (241, _)] (t := 244) rfl ⟨rfl, rfl, rfl, rfl, rfl, rfl, rfl, rfl, trivial⟩
                      · intro hg244 hM259
                        try (simp at hg244)
                        refine wt_yg rfl rfl rfl (y_move rfl) ?_
                        refine wt_yg rfl rfl rfl (y_move rfl) ?_
                        refine wt_yg rfl rfl rfl (y_sub rfl rfl (by omega)) ?_
                        refine wt_same 247 (vI (k - 1 : Nat)) rfl (by rw [show ((k : Nat) : Int) - 1 = ((k - 1 : Nat) : Int) by omega]) ?_
                        refine wt_yg rfl rfl rfl (y_indexAddr (i := k - 1) Try.underlying36 T30 rfl rfl rfl (by omega) (by first | assumption | exact fun _ _ => rfl | exact fun _ _ => hA.isSome (by omega) | exact fun w hw => hw.slc_isSome [] (by omega) | exact fun w hw => hw.slc_isSome [_] (by omega) | exact fun w hw => hw.slc_isSome [_, _] (by omega) | exact fun w hw => hw.slc_isSome [_, _, _] (by omega) | exact fun w hw => hw.slc_isSome [_, _, _, _] (by omega) | exact fun w hw => hw.slc_isSome [_, _, _, _, _] (by omega) | exact fun w hw => hw.slc_isSome [_, _, _, _, _, _] (by omega) | exact fun w hw => hw.slc_isSome [_, _, _, _, _, _, _] (by omega) | exact fun w hw => hw.slc_isSome [_, _, _, _, _, _, _, _] (by omega))) ?_
                        refine wt_yg rfl rfl rfl (y_fieldAddr_adr F30_0 rfl) ?_
                        refine wt_yg rfl rfl rfl (y_fieldAddr_adr F28_0 rfl) ?_
                        refine wt_yg rfl rfl rfl (y_load NA9 rfl (by first | exact cell_own [] (rows_get encL_len (hz (by omega)) rfl) | exact cell_own [_] (rows_get encL_len (hz (by omega)) rfl) | exact cell_own [_, _] (rows_get encL_len (hz (by omega)) rfl) | exact cell_own [_, _, _] (rows_get encL_len (hz (by omega)) rfl) | exact cell_own [_, _, _, _] (rows_get encL_len (hz (by omega)) rfl) | exact cell_own [_, _, _, _, _] (rows_get encL_len (hz (by omega)) rfl))) ?_
                        refine wt_yg rfl rfl rfl (y_move rfl) ?_
                        refine wt_yg rfl rfl rfl (y_move rfl) ?_
                        refine wt_yg rfl rfl rfl (y_indexAddr Try.underlying36 T30 rfl rfl rfl (by omega) (by first | assumption | exact fun _ _ => rfl | exact fun _ _ => hA.isSome (by omega) | exact fun w hw => hw.slc_isSome [] (by omega) | exact fun w hw => hw.slc_isSome [_] (by omega) | exact fun w hw => hw.slc_isSome [_, _] (by omega) | exact fun w hw => hw.slc_isSome [_, _, _] (by omega) | exact fun w hw => hw.slc_isSome [_, _, _, _] (by omega) | exact fun w hw => hw.slc_isSome [_, _, _, _, _] (by omega) | exact fun w hw => hw.slc_isSome [_, _, _, _, _, _] (by omega) | exact fun w hw => hw.slc_isSome [_, _, _, _, _, _, _] (by omega) | exact fun w hw => hw.slc_isSome [_, _, _, _, _, _, _, _] (by omega))) ?_
                        refine wt_yg rfl rfl rfl (y_fieldAddr_adr F30_0 rfl) ?_
                        refine wt_yg rfl rfl rfl (y_fieldAddr_adr F28_0 rfl) ?_
                        refine wt_yg rfl rfl rfl (y_load NA9 rfl (by first | exact cell_own [] (rows_get encL_len hy rfl) | exact cell_own [_] (rows_get encL_len hy rfl) | exact cell_own [_, _] (rows_get encL_len hy rfl) | exact cell_own [_, _, _] (rows_get encL_len hy rfl) | exact cell_own [_, _, _, _] (rows_get encL_len hy rfl) | exact cell_own [_, _, _, _, _] (rows_get encL_len hy rfl))) ?_
                        refine wt_yg rfl rfl rfl (y_geqS rfl rfl) ?_
                        refine wt_yg rfl rfl rfl (y_pick_t rfl rfl) ?_
                        exact wt_weaken hM259 ⟨rfl, rfl, rfl, rfl, rfl, rfl, rfl, rfl, rfl, trivial⟩
                      · intro hg244 hM259
                        refine wt_sk rfl rfl rfl rfl ?_
                        refine wt_sk rfl rfl rfl rfl ?_
                        refine wt_sk rfl rfl rfl rfl ?_
                        refine wt_sk rfl rfl rfl rfl ?_
                        refine wt_sk rfl rfl rfl rfl ?_
                        refine wt_sk rfl rfl rfl rfl ?_
                        refine wt_sk rfl rfl rfl rfl ?_
                        refine wt_sk rfl rfl rfl rfl ?_
                        refine wt_sk rfl rfl rfl rfl ?_
                        refine wt_sk rfl rfl rfl rfl ?_
                        refine wt_sk rfl rfl rfl rfl ?_
                        refine wt_sk rfl rfl rfl rfl ?_
                        refine wt_sk rfl rfl rfl rfl ?_
                        refine wt_sk rfl rfl rfl rfl ?_
                        refine wt_yg rfl rfl rfl (y_pick_f rfl rfl) ?_
                        exact wt_weaken hM259 ⟨rfl, rfl, rfl, rfl, rfl, rfl, rfl, rfl, rfl, trivial⟩
                      ·
                        refine wt_y rfl (y_pick_f rfl rfl) ?_
                        exact wt_weaken hM260 ⟨rfl, rfl, rfl, rfl, rfl, rfl, rfl, rfl, trivial⟩
                    ·
                      refine wt_nil ?_
                      refine wq_then ?_
                      refine wc_known 260 false rfl (once_sorted hlk (fun h0 => srt_less hu.good h0 (hz h0) hy)) ?_
                      refine wc_cond_false rfl ?_
                      refine wc_skip ?_
                      refine wq_block_normal ?_
                      refine wq_then ?_
                      refine wc_region ?_
                      refine wl_y rfl (y_move rfl) ?_
                      refine wl_y rfl (y_add rfl rfl (by omega)) ?_
                      refine wl_y rfl (y_assign rfl) ?_
                      refine wl_nil ?_
                      exact wq_round (k + 1) (by omega) (by omega) ⟨rfl, rfl, rfl, rfl, rfl, rfl, rfl, trivial⟩ (fun w hw => hw)
                  ·
                    simp at hc224
                    refine wc_exit ?_
                    refine wq_then_exit (wq_then_exit (wq_block_exit ?_))
                    refine wq_block_normal ?_
                    refine wq_then ?_
                    refine wc_region ?_
                    refine wl_y rfl (y_move rfl) ?_
                    refine wl_y rfl (y_add rfl rfl (by omega)) ?_
                    refine wl_y rfl (y_assign rfl) ?_
                    refine wl_nil ?_
                    exact wq_round (i + 1, u, hd) (by simp only; omega) ⟨by simp only; omega, by simp only; omega, hu, hH⟩ ⟨rfl, rfl, rfl, rfl, rfl, trivial⟩ (fun w hw => hw.sub (by (repeat (first | exact pt_nil | apply pt0 | apply pt1 | apply pt2 | apply pt3 | apply pt4 | apply pt5 | apply pt6 | apply pt7 | apply pt8 | apply pt9 | apply pt10 | apply pt11 | apply pt12 | apply pt13 | apply pt14 | apply pt15 | apply pt16 | apply pt17))))
              ·
                refine wl_y rfl (y_extract rfl rfl) ?_
                refine wl_nil ?_
                refine wq_then ?_
                refine wc_seq ?_
                refine wc_known 210 true rfl (rfl) ?_
                refine wc_cond_true rfl ?_
                refine wc_skip ?_
                refine wq_then ?_
                refine wc_block ?_
                refine wc_seq ?_
                refine wc_region ?_
                refine wl_y rfl (y_entry rfl (mget_of_mem (k := q209.1) (v := q209.2) hKh hx209.1) (by first | exact fun w hw => hw.seen [] | exact fun w hw => hw.seen [_] | exact fun w hw => hw.seen [_, _] | exact fun w hw => hw.seen [_, _, _] | exact fun w hw => hw.seen [_, _, _, _] | exact fun w hw => hw.seen [_, _, _, _, _] | exact fun w hw => hw.seen [_, _, _, _, _, _] | exact fun w hw => hw.seen [_, _, _, _, _, _, _] | exact fun w hw => hw.seen [_, _, _, _, _, _, _, _])) ?_
                refine wl_y rfl (y_extract rfl rfl) ?_
                refine wl_y rfl (y_assign rfl) ?_
                refine wl_nil ?_
                refine wq_then ?_
                refine wc_seq ?_
                refine wc_region ?_
                refine wl_y rfl (y_move rfl) ?_
                refine wl_y rfl (y_gtr rfl rfl) ?_
                refine wl_nil ?_
                refine wq_then ?_
                refine wc_cond rfl (fun hc214 => ?_) (fun hc214 => ?_)
                ·
                  simp at hc214
                  refine wc_region ?_
                  refine wl_y rfl (y_move rfl) ?_
                  refine wl_y rfl (y_add rfl rfl (by omega)) ?_
                  refine wl_y rfl (y_assign rfl) ?_
                  refine wl_nil ?_
                  refine wq_block_normal ?_
                  have hs := cntH_step hKh hx209.1 hx209.2
                  rw [if_pos hc214] at hs
                  refine wq_same 18 (vI (cntH hd (q209.1 :: dn) : Nat)) rfl (by rw [hs]; rfl) ?_
                  exact wq_round (q209.1 :: dn) (leftM_lt hx209) trivial ⟨rfl, rfl, rfl, rfl, rfl, rfl, rfl, rfl, trivial⟩ (fun w hw => hw)
                ·
                  simp at hc214
                  refine wc_skip ?_
                  refine wq_block_normal ?_
                  have hs := cntH_step hKh hx209.1 hx209.2
                  rw [if_neg (by omega)] at hs
                  refine wq_same 18 (vI (cntH hd (q209.1 :: dn) : Nat)) rfl (by rw [hs]; rfl) ?_
                  exact wq_round (q209.1 :: dn) (leftM_lt hx209) trivial ⟨rfl, rfl, rfl, rfl, rfl, rfl, rfl, rfl, trivial⟩ (fun w hw => hw)
        ·
          simp at hc46
          refine wc_exit ?_
          refine wq_then_exit (wq_then_exit (wq_block_exit ?_))
          refine wq_then ?_
          refine wc_seq ?_
          refine wc_region ?_
          refine wl_q (fun _ _ => want_none) rfl (yq_spec (fst := []) (cap := []) _ FN8 awake_c rfl rfl rfl (by (repeat (first | exact pt_nil | apply pt0 | apply pt1 | apply pt2 | apply pt3 | apply pt4 | apply pt5 | apply pt6 | apply pt7 | apply pt8 | apply pt9 | apply pt10 | apply pt11 | apply pt12 | apply pt13 | apply pt14 | apply pt15 | apply pt16 | apply pt17))) (by (repeat (first | exact ro_nil | exact ro_rest (by assumption) | refine ro_cons (by first | exact .inl (by assumption) | exact ro_f0 (fun _ h => h) | exact ro_f0 (fun _ => slc_rsl) | exact ro_f1 (fun _ h => h) | exact ro_f1 (fun _ => slc_rsl) | exact ro_f2 (fun _ h => h) | exact ro_f2 (fun _ => slc_rsl) | exact ro_f3 (fun _ h => h) | exact ro_f3 (fun _ => slc_rsl) | exact ro_f4 (fun _ h => h) | exact ro_f4 (fun _ => slc_rsl) | exact ro_f5 (fun _ h => h) | exact ro_f5 (fun _ => slc_rsl) | exact ro_f6 (fun _ h => h) | exact ro_f6 (fun _ => slc_rsl)) ?_))) (fun _ _ => rfl) (fun _ _ _ h => h.sub (by (repeat (first | exact pt_nil | apply pt0 | apply pt1 | apply pt2 | apply pt3 | apply pt4 | apply pt5 | apply pt6 | apply pt7 | apply pt8 | apply pt9 | apply pt10 | apply pt11 | apply pt12 | apply pt13 | apply pt14 | apply pt15 | apply pt16 | apply pt17))))) ?_
          refine wl_y rfl (y_assign rfl) ?_
          refine wl_nil ?_
          refine wq_then ?_
          refine wc_ret ?_
          refine wq_ret1 rfl rfl (fun w hw => ?_)
          exact ⟨(), trivial, rfl, hw.bare⟩

end Go.Proofs.Ytjcegolhokfkoaa
