/-
  Walks: whatever files are checked, and put.
-/
import Derived.Test.YtemopomapankmaaDoorLawB
import Derived.Test.YtemopomapankmaaDoorRightLaw
namespace Go.Proofs.YtemopomapankmaaDoor
open Go.Eng

set_option maxHeartbeats 1000000 in
theorem check_any (l : List Fl) (oo : Option Addr) (cc : Nat) (hl : l.length ≤ 9223372036854775807) :
    Ctr Tryd.prog 34 #[.slice oo l.length cc] [rsl oo l.length 2 (l.flatMap encF)] [] (fun _ : Unit => True) (fun _ => vI (checkF l)) (fun _ => []) := by
  refine spec_start (n := 53) [(0, .slice oo l.length cc)] Tryd.func34 rfl rfl ⟨rfl, trivial⟩ rfl ?_
  intro w0 K hR
  have hA := hR _ (List.mem_cons_self ..)
  refine wc_seq ?_
  refine wc_region ?_
  refine wl_y rfl (y_assign rfl) ?_
  refine wl_nil ?_
  refine wq_then ?_
  refine wc_seq (wc_cut (α := Unit) (fun x => checkA l = 0) [(0, _)] (fun x => []) (fun x => Hp w0 K []) ⟨rfl, trivial⟩ ?_ ?_)
  ·
    refine wc_seq ?_
    refine wc_region ?_
    refine wl_y rfl (y_move rfl) ?_
    refine wl_y rfl (y_lenSl Tryd.underlying22 rfl) ?_
    refine wl_y rfl (y_move rfl) ?_
    refine wl_nil ?_
    refine wq_then ?_
    refine wc_block ?_
    refine wc_loop (α := Nat) (fun y => y ≤ l.length ∧ ∀ j z, j < y → l[j]? = some z → badX z = 0) [(0, _), (7, _), (8, _)] (fun y => [(9, vI y)]) (fun y => Hp w0 K []) (fun y => l.length - y) 0 ?_ ⟨rfl, rfl, rfl, rfl, trivial⟩ ?_ ?_
    · exact ⟨Nat.zero_le _, fun j _ hj => absurd hj (Nat.not_lt_zero _)⟩
    · exact fun w hw => hw
    · rintro i ⟨hi, hall⟩
      refine wc_seq ?_
      refine wc_region ?_
      refine wl_y rfl (y_lss rfl rfl) ?_
      refine wl_nil ?_
      refine wq_then ?_
      refine wc_seq ?_
      refine wc_cond rfl (fun hc10 => ?_) (fun hc10 => ?_)
      ·
        simp at hc10
        refine wc_skip ?_
        refine wq_then ?_
        refine wc_seq ?_
        refine wc_block ?_
        refine wc_seq ?_
        refine wc_region ?_
        obtain ⟨x, hx⟩ : ∃ x, l[i]? = some x := ⟨_, List.getElem?_eq_getElem (by omega)⟩
        refine wl_y rfl (y_indexAddr Tryd.underlying22 T24 rfl rfl rfl (by omega) (by first | assumption | exact fun _ _ => rfl | exact fun _ _ => hA.isSome (by omega) | exact fun w hw => hw.slc_isSome [] (by omega) | exact fun w hw => hw.slc_isSome [_] (by omega) | exact fun w hw => hw.slc_isSome [_, _] (by omega) | exact fun w hw => hw.slc_isSome [_, _, _] (by omega))) ?_
        refine wl_y rfl (y_loadAgg (l := encF x) AG24 rfl rfl (by first | exact agg_ro hA (fun i u h => rows_get encF_len hx h) | exact agg_own [] (fun i u h => rows_get encF_len hx h) | exact agg_own [_] (fun i u h => rows_get encF_len hx h) | exact agg_own [_, _] (fun i u h => rows_get encF_len hx h) | exact agg_own [_, _, _] (fun i u h => rows_get encF_len hx h))) ?_
        refine wl_w (fun _ _ => want_none) rfl (yw_alloc T24 rfl) (wl_ex fun b4 _ => ?_)
        first | refine wl_u (yu_storeAgg [] (l' := [_, _]) T24 rfl rfl rfl (by simp [Value.oneCell', encF]) rfl rfl) ?_ | refine wl_u (yu_storeAgg [_] (l' := [_, _]) T24 rfl rfl rfl (by simp [Value.oneCell', encF]) rfl rfl) ?_ | refine wl_u (yu_storeAgg [_, _] (l' := [_, _]) T24 rfl rfl rfl (by simp [Value.oneCell', encF]) rfl rfl) ?_
        refine wl_nil ?_
        refine wq_then ?_
        refine wc_block ?_
        refine wc_seq ?_
        refine wc_region ?_
        refine wl_y rfl (y_fieldAddr F24_0 rfl) ?_
        refine wl_y rfl (y_load NA9 rfl (by first | exact cell_blk [] rfl | exact cell_blk [_] rfl | exact cell_blk [_, _] rfl | exact cellR_blk (by assumption) rfl)) ?_
        refine wl_q (fun _ _ => want_none) rfl (yq_spec (fst := []) (cap := []) _ FN22 (path_c x.1) rfl rfl rfl (by (repeat (first | exact pt_nil | apply pt0 | apply pt1 | apply pt2 | apply pt3 | apply pt4 | apply pt5 | apply pt6 | apply pt7 | apply pt8 | apply pt9 | apply pt10 | apply pt11 | apply pt12 | apply pt13 | apply pt14 | apply pt15 | apply pt16 | apply pt17))) (by (repeat (first | exact ro_nil | exact ro_rest (by assumption) | refine ro_cons (by first | exact .inl (by assumption) | exact ro_f0 (fun _ h => h) | exact ro_f0 (fun _ => slc_rsl) | exact ro_f1 (fun _ h => h) | exact ro_f1 (fun _ => slc_rsl) | exact ro_f2 (fun _ h => h) | exact ro_f2 (fun _ => slc_rsl) | exact ro_f3 (fun _ h => h) | exact ro_f3 (fun _ => slc_rsl) | exact ro_f4 (fun _ h => h) | exact ro_f4 (fun _ => slc_rsl) | exact ro_f5 (fun _ h => h) | exact ro_f5 (fun _ => slc_rsl) | exact ro_f6 (fun _ h => h) | exact ro_f6 (fun _ => slc_rsl)) ?_))) (fun _ _ => rfl) (fun _ _ _ h => h.sub (by (repeat (first | exact pt_nil | apply pt0 | apply pt1 | apply pt2 | apply pt3 | apply pt4 | apply pt5 | apply pt6 | apply pt7 | apply pt8 | apply pt9 | apply pt10 | apply pt11 | apply pt12 | apply pt13 | apply pt14 | apply pt15 | apply pt16 | apply pt17))))) ?_
        refine wl_y rfl (y_neqI rfl rfl) ?_
        refine wl_y rfl (y_assign rfl) ?_
        refine wl_nil ?_
        refine wq_then ?_
        refine wc_cond rfl (fun hc13 => ?_) (fun hc13 => ?_)
        ·
          simp at hc13
          obtain ⟨hp1, hp2⟩ := pathE_ne hc13
          refine wc_seq ?_
          refine wc_region ?_
          refine wl_y rfl (y_assign rfl) ?_
          refine wl_nil ?_
          refine wq_then ?_
          refine wc_ret ?_
          refine wq_block_ret (wq_block_ret (wq_then_ret (wq_then_ret (wq_block_ret (wq_then_ret ?_)))))
          refine wq_ret1 rfl rfl (fun w hw => ?_)
          have hb := badX_path hp1
          have hA := checkA_bad hx (by rw [hb]; decide) hall
          exact ⟨(), trivial, by rw [checkF_a (by rw [hA, hb]; decide), hA, hb], hw.bare⟩
        ·
          simp at hc13
          have hok := pathE_eq hc13
          refine wc_seq ?_
          refine wc_region ?_
          refine wl_y rfl (y_fieldAddr F24_1 rfl) ?_
          refine wl_y rfl (y_load NA9 rfl (by first | exact cell_blk [] rfl | exact cell_blk [_] rfl | exact cell_blk [_, _] rfl | exact cellR_blk (by assumption) rfl)) ?_
          refine wl_y rfl (y_lenS Tryd.underlying9 rfl) ?_
          refine wl_y rfl (y_gtr rfl rfl) ?_
          refine wl_y rfl (y_assign rfl) ?_
          refine wl_nil ?_
          refine wq_then ?_
          refine wc_cond rfl (fun hc18 => ?_) (fun hc18 => ?_)
          ·
            replace hc18 := of_decide_eq_true hc18
            refine wc_seq ?_
            refine wc_region ?_
            refine wl_y rfl (y_assign rfl) ?_
            refine wl_nil ?_
            refine wq_then ?_
            refine wc_ret ?_
            refine wq_block_ret (wq_block_ret (wq_then_ret (wq_then_ret (wq_block_ret (wq_then_ret ?_)))))
            refine wq_ret1 rfl rfl (fun w hw => ?_)
            have hb := badX_big hok hc18
            have hA := checkA_bad hx (by rw [hb]; decide) hall
            exact ⟨(), trivial, by rw [checkF_a (by rw [hA, hb]; decide), hA, hb], hw.bare⟩
          ·
            replace hc18 := of_decide_eq_false hc18
            refine wc_skip ?_
            refine wq_block_normal ?_
            refine wq_block_normal ?_
            refine wq_then ?_
            refine wc_region ?_
            refine wl_y rfl (y_add rfl rfl (by omega)) ?_
            refine wl_y rfl (y_move rfl) ?_
            refine wl_nil ?_
            exact wq_round (i + 1) (by omega) ⟨by omega, step_of hall hx (badX_no hok hc18)⟩ ⟨rfl, rfl, rfl, rfl, trivial⟩ (fun w hw => hw.bare)
      ·
        simp at hc10
        refine wc_exit ?_
        refine wq_then_exit (wq_then_exit (wq_block_exit ?_))
        exact wq_cut () (checkA_ok (all_of_step hall (by omega))) ⟨rfl, trivial⟩ (fun w hw => hw)
  · intro x hA0
    have hs : ∀ x ∈ l, x.1.length ≤ 9223372036854775806 := fun x hx => by have := isPath_len (badX_zero.1 (checkA_zero hA0 x hx)).1; omega
    refine all_wc ?_
    refine wc_seq ?_
    refine wc_seq ?_
    refine wc_region ?_
    refine wl_y rfl (y_move rfl) ?_
    refine wl_y rfl (y_lenSl Tryd.underlying22 rfl) ?_
    refine wl_y rfl (y_gtr rfl rfl) ?_
    refine wl_nil ?_
    refine wq_then ?_
    refine wc_cond rfl (fun hc26 => ?_) (fun hc26 => ?_)
    ·
      replace hc26 := of_decide_eq_true hc26
      refine wc_seq ?_
      refine wc_region ?_
      refine wl_y rfl (y_assign rfl) ?_
      refine wl_nil ?_
      refine wq_then ?_
      refine wc_ret ?_
      refine wq_then_ret ?_
      refine wq_ret1 rfl rfl (fun w hw => ?_)
      exact ⟨(), trivial, by rw [checkF_b hA0 hc26], hw⟩
    ·
      replace hc26 := of_decide_eq_false hc26
      have hl32 : l.length ≤ 32 := by omega
      refine wc_skip ?_
      refine wq_then ?_
      refine wc_seq ?_
      refine wc_seq ?_
      refine wc_region ?_
      refine wl_y rfl (y_move rfl) ?_
      refine wl_y rfl (y_lenSl Tryd.underlying22 rfl) ?_
      refine wl_y rfl (y_move rfl) ?_
      refine wl_nil ?_
      refine wq_then ?_
      refine wc_block ?_
      refine wc_loop (α := Nat) (fun y => y ≤ l.length ∧ ∀ j, j < y → twiceAt l j = false) [(0, _), (27, _), (28, _)] (fun y => [(29, vI y)]) (fun y => Hp w0 K []) (fun y => l.length - y) 0 ?_ ⟨rfl, rfl, rfl, rfl, trivial⟩ ?_ ?_
      · exact ⟨Nat.zero_le _, fun j hj => absurd hj (Nat.not_lt_zero _)⟩
      · exact fun w hw => hw
      · rintro i ⟨hi, hall⟩
        refine wc_seq ?_
        refine wc_region ?_
        refine wl_y rfl (y_lss rfl rfl) ?_
        refine wl_nil ?_
        refine wq_then ?_
        refine wc_seq ?_
        refine wc_cond rfl (fun hc30 => ?_) (fun hc30 => ?_)
        ·
          simp at hc30
          refine wc_skip ?_
          refine wq_then ?_
          refine wc_seq ?_
          refine wc_block ?_
          refine wc_seq ?_
          refine wc_region ?_
          obtain ⟨x, hx⟩ : ∃ x, l[i]? = some x := ⟨_, List.getElem?_eq_getElem (by omega)⟩
          refine wl_y rfl (y_move rfl) ?_
          refine wl_y rfl (y_indexAddr Tryd.underlying22 T24 rfl rfl rfl (by omega) (by first | assumption | exact fun _ _ => rfl | exact fun _ _ => hA.isSome (by omega) | exact fun w hw => hw.slc_isSome [] (by omega) | exact fun w hw => hw.slc_isSome [_] (by omega) | exact fun w hw => hw.slc_isSome [_, _] (by omega) | exact fun w hw => hw.slc_isSome [_, _, _] (by omega))) ?_
          refine wl_y rfl (y_loadAgg (l := encF x) AG24 rfl rfl (by first | exact agg_ro hA (fun i u h => rows_get encF_len hx h) | exact agg_own [] (fun i u h => rows_get encF_len hx h) | exact agg_own [_] (fun i u h => rows_get encF_len hx h) | exact agg_own [_, _] (fun i u h => rows_get encF_len hx h) | exact agg_own [_, _, _] (fun i u h => rows_get encF_len hx h))) ?_
          refine wl_w (fun _ _ => want_none) rfl (yw_alloc T24 rfl) (wl_ex fun b6 _ => ?_)
          refine wl_y rfl (y_assign rfl) ?_
          first | refine wl_u (yu_storeAgg [] (l' := [_, _]) T24 rfl rfl rfl (by simp [Value.oneCell', encF]) rfl rfl) ?_ | refine wl_u (yu_storeAgg [_] (l' := [_, _]) T24 rfl rfl rfl (by simp [Value.oneCell', encF]) rfl rfl) ?_ | refine wl_u (yu_storeAgg [_, _] (l' := [_, _]) T24 rfl rfl rfl (by simp [Value.oneCell', encF]) rfl rfl) ?_
          refine wl_nil ?_
          refine wq_then ?_
          refine wc_seq ?_
          refine wc_quiet MO (by kernel_rfl) (Hp.drawless _ _ _) ?_
          refine wt_y rfl (y_move rfl) ?_
          refine wt_y rfl (y_gtr rfl rfl) ?_
          refine wt_y rfl (y_move rfl) ?_
          apply wt_and 10 46 [(0, _), (6, _), (27, _), (28, _), (29, _)] (t := 36) rfl ⟨rfl, rfl, rfl, rfl, rfl, trivial⟩
          · intro hg36 hM46
            try (simp at hg36)
            refine wt_yg rfl rfl rfl (y_move rfl) ?_
            refine wt_yg rfl rfl rfl (y_move rfl) ?_
            refine wt_yg rfl rfl rfl (y_sub rfl rfl (by omega)) ?_
            refine wt_same 39 (vI (i - 1 : Nat)) rfl (by congr 1; omega) ?_
            refine wt_yg rfl rfl rfl (y_indexAddr Tryd.underlying22 T24 rfl rfl rfl (by omega) (by first | assumption | exact fun _ _ => rfl | exact fun _ _ => hA.isSome (by omega) | exact fun w hw => hw.slc_isSome [] (by omega) | exact fun w hw => hw.slc_isSome [_] (by omega) | exact fun w hw => hw.slc_isSome [_, _] (by omega) | exact fun w hw => hw.slc_isSome [_, _, _] (by omega))) ?_
            refine wt_yg rfl rfl rfl (y_fieldAddr_adr F24_0 rfl) ?_
            refine wt_yg rfl rfl rfl (y_load NA9 rfl (by first | exact cell_ro hA (rows_get encF_len (getDF (by omega)) rfl) | exact cell_own [] (rows_get encF_len (getDF (by omega)) rfl) | exact cell_own [_] (rows_get encF_len (getDF (by omega)) rfl) | exact cell_own [_, _] (rows_get encF_len (getDF (by omega)) rfl) | exact cell_own [_, _, _] (rows_get encF_len (getDF (by omega)) rfl))) ?_
            refine wt_yg rfl rfl rfl (y_fieldAddr F24_0 rfl) ?_
            refine wt_yg rfl rfl rfl (y_load NA9 rfl (by first | exact cell_blk [] rfl | exact cell_blk [_] rfl | exact cell_blk [_, _] rfl | exact cellR_blk (by assumption) rfl)) ?_
            refine wt_yg rfl rfl rfl (y_geqS rfl rfl) ?_
            refine wt_y rfl (y_pick_t rfl rfl) ?_
            exact wt_weaken hM46 ⟨rfl, rfl, rfl, rfl, rfl, rfl, trivial⟩
          · intro hg36 hM46
            refine wt_sk rfl rfl rfl rfl ?_
            refine wt_sk rfl rfl rfl rfl ?_
            refine wt_sk rfl rfl rfl rfl ?_
            refine wt_sk rfl rfl rfl rfl ?_
            refine wt_sk rfl rfl rfl rfl ?_
            refine wt_sk rfl rfl rfl rfl ?_
            refine wt_sk rfl rfl rfl rfl ?_
            refine wt_sk rfl rfl rfl rfl ?_
            refine wt_sk rfl rfl rfl rfl ?_
            refine wt_y rfl (y_pick_f rfl rfl) ?_
            exact wt_weaken hM46 ⟨rfl, rfl, rfl, rfl, rfl, rfl, trivial⟩
          ·
            refine wt_same 46 (vB (ordBad l i)) rfl (by rw [ordBad, getD_ofF hx]; rfl) ?_
            refine wt_y rfl (y_move rfl) ?_
            apply wt_or 4 51 [(0, _), (27, _), (28, _), (29, _)] (t := 47) rfl ⟨rfl, rfl, rfl, rfl, trivial⟩
            · intro hg47 hM51
              refine wt_sk rfl rfl rfl rfl ?_
              refine wt_sk rfl rfl rfl rfl ?_
              refine wt_sk rfl rfl rfl rfl ?_
              refine wt_y rfl (y_pick_t rfl rfl) ?_
              exact wt_weaken hM51 ⟨rfl, rfl, rfl, rfl, rfl, trivial⟩
            · intro hg47 hM51
              try (simp at hg47)
              refine wt_yg rfl rfl rfl (y_move rfl) ?_
              refine wt_yg rfl rfl rfl (y_makeFunc rfl rfl) ?_
              refine wt_c (want_some rfl rfl) rfl (yq_spec (fst := []) (cap := []) _ FN38 (containsFunc_c l oo cc 49 [ptr b6] (fun y => clash x.1 y.1) [blk b6 (.cells (encF x).toArray 24 (0, 0))] FN49 (fun y hy => checkClash_c x y b6 (hs x (List.mem_of_getElem? hx)) (hs y hy)) (by omega)) rfl rfl rfl (by (repeat (first | exact pt_nil | apply pt0 | apply pt1 | apply pt2 | apply pt3 | apply pt4 | apply pt5 | apply pt6 | apply pt7 | apply pt8 | apply pt9 | apply pt10 | apply pt11 | apply pt12 | apply pt13 | apply pt14 | apply pt15 | apply pt16 | apply pt17))) (by (repeat (first | exact ro_nil | exact ro_rest (by assumption) | refine ro_cons (by first | exact .inl (by assumption) | exact ro_f0 (fun _ h => h) | exact ro_f0 (fun _ => slc_rsl) | exact ro_f1 (fun _ h => h) | exact ro_f1 (fun _ => slc_rsl) | exact ro_f2 (fun _ h => h) | exact ro_f2 (fun _ => slc_rsl) | exact ro_f3 (fun _ h => h) | exact ro_f3 (fun _ => slc_rsl) | exact ro_f4 (fun _ h => h) | exact ro_f4 (fun _ => slc_rsl) | exact ro_f5 (fun _ h => h) | exact ro_f5 (fun _ => slc_rsl) | exact ro_f6 (fun _ h => h) | exact ro_f6 (fun _ => slc_rsl)) ?_))) (fun _ _ => rfl) (fun _ _ _ h => h.sub (by (repeat (first | exact pt_nil | apply pt0 | apply pt1 | apply pt2 | apply pt3 | apply pt4 | apply pt5 | apply pt6 | apply pt7 | apply pt8 | apply pt9 | apply pt10 | apply pt11 | apply pt12 | apply pt13 | apply pt14 | apply pt15 | apply pt16 | apply pt17))))) ?_
              refine wt_y rfl (y_pick_f rfl rfl) ?_
              exact wt_weaken hM51 ⟨rfl, rfl, rfl, rfl, rfl, trivial⟩
            ·
              refine wt_same 51 (vB (twiceAt l i)) rfl (by rw [twiceAt, getD_ofF hx]) ?_
              refine wt_nil ?_
              refine wq_then ?_
              refine wc_cond rfl (fun hc51 => ?_) (fun hc51 => ?_)
              ·
                refine wc_seq ?_
                refine wc_region ?_
                refine wl_y rfl (y_assign rfl) ?_
                refine wl_nil ?_
                refine wq_then ?_
                refine wc_ret ?_
                refine wq_block_ret (wq_then_ret (wq_then_ret (wq_block_ret (wq_then_ret ?_))))
                refine wq_ret1 rfl rfl (fun w hw => ?_)
                exact ⟨(), trivial, by rw [checkF_c hA0 hc26 (twice_at hc30 hc51)], hw.bare⟩
              ·
                refine wc_skip ?_
                refine wq_block_normal ?_
                refine wq_then ?_
                refine wc_region ?_
                refine wl_y rfl (y_add rfl rfl (by omega)) ?_
                refine wl_y rfl (y_move rfl) ?_
                refine wl_nil ?_
                exact wq_round (i + 1) (by omega) ⟨by omega, fun j hj => by rcases Nat.lt_or_ge j i with h | h; exact hall j h; rw [show j = i by omega]; exact hc51⟩ ⟨rfl, rfl, rfl, rfl, trivial⟩ (fun w hw => hw.bare)
        ·
          simp at hc30
          refine wc_exit ?_
          refine wq_then_exit (wq_then_exit (wq_block_exit ?_))
          refine wq_then ?_
          refine wc_seq ?_
          refine wc_region ?_
          refine wl_y rfl (y_assign rfl) ?_
          refine wl_nil ?_
          refine wq_then ?_
          refine wc_ret ?_
          refine wq_ret1 rfl rfl (fun w hw => ?_)
          exact ⟨(), trivial, by rw [checkF_d hA0 hc26 (twice_no (by omega) hall)], hw⟩

set_option maxHeartbeats 1000000 in
theorem with_bad (l : List Fl) (oo : Option Addr) (cc : Nat) (f : Fl) (hp : isPath f.1 = false) :
    Ctr Tryd.prog 19 #[.slice oo l.length cc, agF f] [rsl oo l.length 2 (l.flatMap encF)] [] (fun _ : Option Addr × Nat => True) (fun r => .tuple #[.slice r.1 (withF l f).2.length r.2, vI (withF l f).1]) (fun r => [slc 24 2 r.1 ((withF l f).2).length r.2 (((withF l f).2).flatMap encF)]) := by
  refine spec_start (n := 51) [(0, .slice oo l.length cc), (1, agF f)] Tryd.func19 rfl rfl ⟨rfl, rfl, trivial⟩ rfl ?_
  intro w0 K hR
  have hA := hR _ (List.mem_cons_self ..)
  refine wc_seq ?_
  refine wc_region ?_
  refine wl_w (fun _ _ => want_none) rfl (yw_box rfl rfl) (wl_ex fun b3 _ => ?_)
  refine wl_y rfl (y_assign rfl) ?_
  refine wl_y rfl (y_assign rfl) ?_
  refine wl_nil ?_
  refine wq_then ?_
  refine wc_seq ?_
  refine wc_block ?_
  refine wc_seq ?_
  refine wc_region ?_
  refine wl_y rfl (y_fieldAddr F24_0 rfl) ?_
  refine wl_y rfl (y_load NA9 rfl (by first | exact cell_blk [] rfl | exact cell_blk [_] rfl | exact cell_blk [_, _] rfl | exact cell_blk [_, _, _] rfl | exact cellR_blk (by assumption) rfl)) ?_
  refine wl_q (fun _ _ => want_none) rfl (yq_spec (fst := []) (cap := []) _ FN22 (path_c f.1) rfl rfl rfl (by (repeat (first | exact pt_nil | apply pt0 | apply pt1 | apply pt2 | apply pt3 | apply pt4 | apply pt5 | apply pt6 | apply pt7 | apply pt8 | apply pt9 | apply pt10 | apply pt11 | apply pt12 | apply pt13 | apply pt14 | apply pt15 | apply pt16 | apply pt17))) (by (repeat (first | exact ro_nil | exact ro_rest (by assumption) | refine ro_cons (by first | exact .inl (by assumption) | exact ro_f0 (fun _ h => h) | exact ro_f0 (fun _ => slc_rsl) | exact ro_f1 (fun _ h => h) | exact ro_f1 (fun _ => slc_rsl) | exact ro_f2 (fun _ h => h) | exact ro_f2 (fun _ => slc_rsl) | exact ro_f3 (fun _ h => h) | exact ro_f3 (fun _ => slc_rsl) | exact ro_f4 (fun _ h => h) | exact ro_f4 (fun _ => slc_rsl) | exact ro_f5 (fun _ h => h) | exact ro_f5 (fun _ => slc_rsl) | exact ro_f6 (fun _ h => h) | exact ro_f6 (fun _ => slc_rsl)) ?_))) (fun _ _ => rfl) (fun _ _ _ h => h.sub (by (repeat (first | exact pt_nil | apply pt0 | apply pt1 | apply pt2 | apply pt3 | apply pt4 | apply pt5 | apply pt6 | apply pt7 | apply pt8 | apply pt9 | apply pt10 | apply pt11 | apply pt12 | apply pt13 | apply pt14 | apply pt15 | apply pt16 | apply pt17))))) ?_
  refine wl_y rfl (y_neqI rfl rfl) ?_
  refine wl_y rfl (y_assign rfl) ?_
  refine wl_nil ?_
  refine wq_then ?_
  refine wc_known 9 true rfl (by simp [pathE, hp]) ?_
  refine wc_cond_true rfl ?_
  refine wc_seq ?_
  refine wc_region ?_
  refine wl_y rfl (y_assign rfl) ?_
  refine wl_y rfl (y_assign rfl) ?_
  refine wl_nil ?_
  refine wq_then ?_
  refine wc_ret ?_
  refine wq_block_ret (wq_then_ret ?_)
  refine wq_ret2 rfl rfl rfl (fun w hw => ?_)
  exact ⟨(none, 0), trivial, by simp only [withF_1 hp]; rfl, by simp only [withF_1 hp]; exact Hp.addNil [] [] (hw.bare)⟩

theorem with_any (l : List Fl) (oo : Option Addr) (cc : Nat) (f : Fl) (hR : Right l) {e : Int} {g : List Fl} (hW : withF l f = (e, g)) : Ctr Tryd.prog 19 #[.slice oo l.length cc, agF f] [rsl oo l.length 2 (l.flatMap encF)] [] (fun _ : Option Addr × Nat => True) (fun r => .tuple #[.slice r.1 g.length r.2, vI e]) (fun r => [slc 24 2 r.1 g.length r.2 (g.flatMap encF)]) := by
  have h : Ctr Tryd.prog 19 #[.slice oo l.length cc, agF f] [rsl oo l.length 2 (l.flatMap encF)] [] (fun _ : Option Addr × Nat => True) (fun r => .tuple #[.slice r.1 (withF l f).2.length r.2, vI (withF l f).1]) (fun r => [slc 24 2 r.1 (withF l f).2.length r.2 ((withF l f).2.flatMap encF)]) := by
    cases hp : isPath f.1 with
    | false => exact with_bad l oo cc f hp
    | true => exact with_c l oo cc f (by have := hR.len; omega) (fun x hx => by have := isPath_len (hR.path x hx); omega) (by have := isPath_len hp; omega)
  rw [hW] at h
  exact h
theorem into_any (l : List Fl) (oo : Option Addr) (cc : Nat) (q : Str) (hR : Right l) {e : Int} {g : List Fl} (hW : intoF l q = (e, g)) : Ctr Tryd.prog 32 #[.slice oo l.length cc, vS q] [rsl oo l.length 2 (l.flatMap encF)] [] (fun _ : Option Addr × Nat => True) (fun r => .tuple #[.slice r.1 g.length r.2, vI e]) (fun r => [slc 24 2 r.1 g.length r.2 (g.flatMap encF)]) := by
  have h := into_c l oo cc q (by have := hR.len; omega) (fun x hx => by have := isPath_len (hR.path x hx); omega)
  rw [hW] at h
  exact h
theorem check_ok (l : List Fl) (oo : Option Addr) (cc : Nat) (hR : Right l) : Ctr Tryd.prog 34 #[.slice oo l.length cc] [rsl oo l.length 2 (l.flatMap encF)] [] (fun _ : Unit => True) (fun _ => vI 0) (fun _ => []) := by
  have h := check_any l oo cc (by have := hR.len; omega)
  rw [right_iff.2 hR] at h
  exact h
theorem get_at (l : List Fl) (oo : Option Addr) (cc : Nat) (q s : Str) (hl : l.length ≤ 32) (h : getF l q = (s, true)) : Ctr Tryd.prog 26 #[.slice oo l.length cc, vS q] [rsl oo l.length 2 (l.flatMap encF)] [] (fun _ : Unit => True) (fun _ => .tuple #[vS s, vB true]) (fun _ => []) := by
  have h2 := get_c l oo cc q (by omega)
  rw [h] at h2
  exact h2
end Go.Proofs.YtemopomapankmaaDoor
