/-
  Walks: lists of files made.
-/
import Derived.Test.YtemopomapankmaaDoorWalkI
namespace Go.Proofs.YtemopomapankmaaDoor
open Go.Eng

set_option maxHeartbeats 1000000 in
theorem clone_c (l : List Fl) (oo : Option Addr) (cc : Nat) (hl : l.length ≤ 1000000000) :
    Ctr Tryd.prog 41 #[.slice oo l.length cc] [rsl oo l.length 2 (l.flatMap encF)] [] (fun _ : Option Addr × Nat => True) (fun r => .slice r.1 (l).length r.2) (fun r => [slc 24 2 r.1 (l).length r.2 ((l).flatMap encF)]) := by
  refine spec_start (n := 8) [(0, .slice oo l.length cc)] Tryd.func41 rfl rfl ⟨rfl, trivial⟩ rfl ?_
  intro w0 K hR
  have hA := hR _ (List.mem_cons_self ..)
  refine wc_seq ?_
  refine wc_region ?_
  refine wl_y rfl (y_assign rfl) ?_
  refine wl_nil ?_
  refine wq_then ?_
  refine wc_seq ?_
  refine wc_seq ?_
  refine wc_region ?_
  refine wl_y rfl (y_move rfl) ?_
  refine wl_y rfl (y_eqlSl Tryd.underlying22 rfl rfl) ?_
  refine wl_nil ?_
  refine wq_then ?_
  refine wc_cond rfl (fun hc4 => ?_) (fun hc4 => ?_)
  ·
    refine wc_seq ?_
    refine wc_region ?_
    refine wl_y rfl (y_assign rfl) ?_
    refine wl_nil ?_
    refine wq_then ?_
    refine wc_ret ?_
    refine wq_then_ret ?_
    refine wq_ret1 rfl rfl (fun w hw => ?_)
    have hn : l = [] := by
      cases oo with
      | none => obtain ⟨_, hs, _⟩ := hA
                rcases hs.2 with ⟨h, _⟩ | ⟨_, _, _, _, _, h, _⟩
                · exact List.eq_nil_of_length_eq_zero h
                · cases h
      | some a => cases hc4
    subst hn
    exact ⟨(none, 0), trivial, rfl, Hp.addNil [] [] hw⟩
  ·
    refine wc_skip ?_
    refine wq_then ?_
    refine wc_seq ?_
    refine wc_region ?_
    refine wl_w (fun _ _ => want_none) rfl (yw_buildSlice0 Tryd.underlying22 T24) (wl_ex fun b5 _ => ?_)
    refine wl_y rfl (y_move rfl) ?_
    refine wl_w (fun _ _ => want_none) rfl (yw_append [] Tryd.underlying22 Tryd.underlying22 (.inl ⟨_, rfl⟩) T24 rfl rfl rfl (fun w hw => Src.slice (hA.seen hw)) (by omega) (by unfold maxLen; omega) (one_rows encF_one) (rows_length encF_len l)) (wl_ex fun p hp => ?_)
    refine wl_y rfl (y_assign rfl) ?_
    refine wl_nil ?_
    refine wq_then ?_
    refine wc_ret ?_
    refine wq_ret1 rfl rfl (fun w hw => ?_)
    exact ⟨p, trivial, by rw [Nat.zero_add], by rw [Nat.zero_add, List.nil_append] at hw; exact hw⟩

set_option maxHeartbeats 1000000 in
theorem under_c (l : List Fl) (oo : Option Addr) (cc : Nat) (q : Str) (hl : l.length ≤ 1000000) (hq : q.length ≤ 9223372036854775806) :
    Ctr Tryd.prog 24 #[.slice oo l.length cc, vS q] [rsl oo l.length 2 (l.flatMap encF)] [] (fun _ : Option Addr × Nat => True) (fun r => .slice r.1 (underF l q).length r.2) (fun r => [slc 24 2 r.1 (underF l q).length r.2 ((underF l q).flatMap encF)]) := by
  refine spec_start (n := 33) [(0, .slice oo l.length cc), (1, vS q)] Tryd.func24 rfl rfl ⟨rfl, rfl, trivial⟩ rfl ?_
  intro w0 K hR
  have hA := hR _ (List.mem_cons_self ..)
  refine wc_seq ?_
  refine wc_region ?_
  refine wl_y rfl (y_assign rfl) ?_
  refine wl_nil ?_
  refine wq_then ?_
  refine wc_seq ?_
  refine wc_region ?_
  refine wl_y rfl (y_assign rfl) ?_
  refine wl_nil ?_
  refine wq_then ?_
  refine wc_seq ?_
  refine wc_seq ?_
  refine wc_region ?_
  refine wl_world (fun w hw => Hp.addNil (e := 24) (sz := 2) [] _ hw) ?_
  refine wl_y rfl (y_move rfl) ?_
  refine wl_y rfl (y_lenSl Tryd.underlying22 rfl) ?_
  refine wl_y rfl (y_move rfl) ?_
  refine wl_nil ?_
  refine wq_then ?_
  refine wc_block ?_
  refine wc_loop (α := Nat × Option Addr × Nat) (fun y => y.1 ≤ l.length) [(1, _), (10, _), (11, _)] (fun y => [(12, vI y.1), (5, .slice y.2.1 ((l.take y.1).flatMap (underG q)).length y.2.2)]) (fun y => Hp w0 K [slc 24 2 y.2.1 ((l.take y.1).flatMap (underG q)).length y.2.2 (((l.take y.1).flatMap (underG q)).flatMap encF)]) (fun y => l.length - y.1) (0, none, 0) ?_ ⟨rfl, rfl, rfl, rfl, rfl, trivial⟩ ?_ ?_
  · exact Nat.zero_le _
  · exact fun w hw => hw
  · rintro ⟨i, p⟩ hi; simp only at hi
    have hfl := fm_take (underG_le q) l i
    refine wc_world (S' := Hp w0 K [slc 24 2 p.1 ((l.take i).flatMap (underG q)).length p.2 (((l.take i).flatMap (underG q)).flatMap encF)]) (fun w hw => hw) ?_
    refine wc_same 12 (vI i) rfl rfl ?_
    refine wc_same 5 (.slice p.1 ((l.take i).flatMap (underG q)).length p.2) rfl rfl ?_
    refine wc_seq ?_
    refine wc_region ?_
    refine wl_y rfl (y_lss rfl rfl) ?_
    refine wl_nil ?_
    refine wq_then ?_
    refine wc_seq ?_
    refine wc_cond rfl (fun hc13 => ?_) (fun hc13 => ?_)
    ·
      simp at hc13
      refine wc_skip ?_
      refine wq_then ?_
      refine wc_seq ?_
      refine wc_block ?_
      refine wc_seq ?_
      refine wc_region ?_
      obtain ⟨x, hx⟩ : ∃ x, l[i]? = some x := ⟨_, List.getElem?_eq_getElem (by omega)⟩
      refine wl_y rfl (y_indexAddr Tryd.underlying22 T24 rfl rfl rfl (by omega) (by first | assumption | exact fun _ _ => rfl | exact fun _ _ => hA.isSome (by omega) | exact fun w hw => hw.slc_isSome [] (by omega) | exact fun w hw => hw.slc_isSome [_] (by omega) | exact fun w hw => hw.slc_isSome [_, _] (by omega) | exact fun w hw => hw.slc_isSome [_, _, _] (by omega))) ?_
      refine wl_y rfl (y_loadAgg (l := encF x) AG24 rfl rfl (by first | exact agg_ro hA (fun i u h => rows_get encF_len hx h) | exact agg_own [] (fun i u h => rows_get encF_len hx h) | exact agg_own [_] (fun i u h => rows_get encF_len hx h) | exact agg_own [_, _] (fun i u h => rows_get encF_len hx h) | exact agg_own [_, _, _] (fun i u h => rows_get encF_len hx h))) ?_
      refine wl_w (fun _ _ => want_none) rfl (yw_alloc T24 rfl) (wl_ex fun b7 _ => ?_)
      first | refine wl_u (yu_storeAgg [] (l' := [_, _]) T24 rfl rfl rfl (by simp [Value.oneCell', encF]) rfl rfl) ?_ | refine wl_u (yu_storeAgg [_] (l' := [_, _]) T24 rfl rfl rfl (by simp [Value.oneCell', encF]) rfl rfl) ?_ | refine wl_u (yu_storeAgg [_, _] (l' := [_, _]) T24 rfl rfl rfl (by simp [Value.oneCell', encF]) rfl rfl) ?_
      refine wl_nil ?_
      refine wq_then ?_
      refine wc_seq ?_
      refine wc_region ?_
      refine wl_y rfl (y_fieldAddr F24_0 rfl) ?_
      refine wl_y rfl (y_load NA9 rfl (by first | exact cell_blk [] rfl | exact cell_blk [_] rfl | exact cell_blk [_, _] rfl | exact cellR_blk (by assumption) rfl)) ?_
      refine wl_y rfl (y_move rfl) ?_
      refine wl_q (fun _ _ => want_none) rfl (yq_spec (fst := []) (cap := []) _ FN48 (below_c x.1 q hq) rfl rfl rfl (by (repeat (first | exact pt_nil | apply pt0 | apply pt1 | apply pt2 | apply pt3 | apply pt4 | apply pt5 | apply pt6 | apply pt7 | apply pt8 | apply pt9 | apply pt10 | apply pt11 | apply pt12 | apply pt13 | apply pt14 | apply pt15 | apply pt16 | apply pt17))) (by (repeat (first | exact ro_nil | exact ro_rest (by assumption) | refine ro_cons (by first | exact .inl (by assumption) | exact ro_f0 (fun _ h => h) | exact ro_f0 (fun _ => slc_rsl) | exact ro_f1 (fun _ h => h) | exact ro_f1 (fun _ => slc_rsl) | exact ro_f2 (fun _ h => h) | exact ro_f2 (fun _ => slc_rsl) | exact ro_f3 (fun _ h => h) | exact ro_f3 (fun _ => slc_rsl) | exact ro_f4 (fun _ h => h) | exact ro_f4 (fun _ => slc_rsl) | exact ro_f5 (fun _ h => h) | exact ro_f5 (fun _ => slc_rsl) | exact ro_f6 (fun _ h => h) | exact ro_f6 (fun _ => slc_rsl)) ?_))) (fun _ _ => rfl) (fun _ _ _ h => h.sub (by (repeat (first | exact pt_nil | apply pt0 | apply pt1 | apply pt2 | apply pt3 | apply pt4 | apply pt5 | apply pt6 | apply pt7 | apply pt8 | apply pt9 | apply pt10 | apply pt11 | apply pt12 | apply pt13 | apply pt14 | apply pt15 | apply pt16 | apply pt17))))) ?_
      refine wl_y rfl (y_move rfl) ?_
      refine wl_y rfl (y_extract rfl rfl) ?_
      refine wl_y rfl (y_extract rfl rfl) ?_
      refine wl_y rfl (y_assign rfl) ?_
      refine wl_y rfl (y_assign rfl) ?_
      refine wl_nil ?_
      refine wq_then ?_
      refine wc_seq ?_
      refine wc_region ?_
      refine wl_y rfl (y_move rfl) ?_
      refine wl_nil ?_
      refine wq_then ?_
      refine wc_cond rfl (fun hc23 => ?_) (fun hc23 => ?_)
      ·
        refine wc_region ?_
        refine wl_y rfl (y_move rfl) ?_
        refine wl_y rfl (y_move rfl) ?_
        refine wl_same 25 (vS (x.1.drop (q.length + 1))) rfl (by rw [if_pos (below_pre hc23)]; simp) ?_
        refine wl_y rfl (y_fieldAddr F24_1 rfl) ?_
        refine wl_y rfl (y_load NA9 rfl (by first | exact cell_blk [] rfl | exact cell_blk [_] rfl | exact cell_blk [_, _] rfl | exact cellR_blk (by assumption) rfl)) ?_
        refine wl_y rfl (y_build (cs := [_, _]) T24 PL24 rfl rfl rfl) ?_
        refine wl_w (fun _ _ => want_none) rfl (yw_buildSlice (cs := encF (x.1.drop (q.length + 1), x.2)) Tryd.underlying22 T24 rfl rfl rfl rfl rfl rfl rfl) (wl_ex fun b29 _ => ?_)
        refine wl_w (fun _ _ => want_none) rfl (yw_append [_, _] Tryd.underlying22 Tryd.underlying22 (.inl ⟨_, rfl⟩) T24 rfl rfl rfl (fun w hw => Src.slice ((hw.seen []).mono fun _ => slc_rsl)) (by omega) (by unfold maxLen; omega) (encF_one _) rfl) (wl_ex fun p30 hp30 => ?_)
        refine wl_y rfl (y_assign rfl) ?_
        have hst : (l.take (i + 1)).flatMap (underG q) = (l.take i).flatMap (underG q) ++ [(x.1.drop (q.length + 1), x.2)] := by rw [fm_step hx]; simp [underG, hc23]
        refine wl_same 5 (.slice p30.1 ((l.take (i + 1)).flatMap (underG q)).length p30.2) rfl (by rw [hst, List.length_append]; rfl) ?_
        refine wl_nil ?_
        refine wq_block_normal ?_
        refine wq_then ?_
        refine wc_region ?_
        refine wl_y rfl (y_add rfl rfl (by omega)) ?_
        refine wl_y rfl (y_move rfl) ?_
        refine wl_nil ?_
        exact wq_round (i + 1, p30) (by simp only; omega) (by simp only; omega) ⟨rfl, rfl, rfl, rfl, rfl, trivial⟩ (fun w hw => by simp only; rw [hst, List.length_append, List.flatMap_append, List.flatMap_singleton]; exact hw.sub (by (repeat (first | exact pt_nil | apply pt0 | apply pt1 | apply pt2 | apply pt3 | apply pt4 | apply pt5 | apply pt6 | apply pt7 | apply pt8 | apply pt9 | apply pt10 | apply pt11 | apply pt12 | apply pt13 | apply pt14 | apply pt15 | apply pt16 | apply pt17))))
      ·
        have hst : (l.take (i + 1)).flatMap (underG q) = (l.take i).flatMap (underG q) := by rw [fm_step hx]; simp [underG, hc23]
        refine wc_same 5 (.slice p.1 ((l.take (i + 1)).flatMap (underG q)).length p.2) rfl (by rw [hst]) ?_
        refine wc_skip ?_
        refine wq_block_normal ?_
        refine wq_then ?_
        refine wc_region ?_
        refine wl_y rfl (y_add rfl rfl (by omega)) ?_
        refine wl_y rfl (y_move rfl) ?_
        refine wl_nil ?_
        exact wq_round (i + 1, p) (by simp only; omega) (by simp only; omega) ⟨rfl, rfl, rfl, rfl, rfl, trivial⟩ (fun w hw => by simp only; rw [hst]; exact hw.sub (by (repeat (first | exact pt_nil | apply pt0 | apply pt1 | apply pt2 | apply pt3 | apply pt4 | apply pt5 | apply pt6 | apply pt7 | apply pt8 | apply pt9 | apply pt10 | apply pt11 | apply pt12 | apply pt13 | apply pt14 | apply pt15 | apply pt16 | apply pt17))))
    ·
      simp at hc13
      refine wc_exit ?_
      refine wq_then_exit (wq_then_exit (wq_block_exit ?_))
      refine wq_then ?_
      refine wc_seq ?_
      refine wc_region ?_
      refine wl_y rfl (y_move rfl) ?_
      refine wl_y rfl (y_assign rfl) ?_
      refine wl_nil ?_
      refine wq_then ?_
      refine wc_ret ?_
      refine wq_ret1 rfl rfl (fun w hw => ?_)
      exact ⟨p, trivial, by rw [show i = l.length by omega, List.take_length]; rfl, by rw [show i = l.length by omega, List.take_length] at hw; exact hw⟩

set_option maxHeartbeats 1000000 in
theorem runder_c (l : List Fl) (oo : Option Addr) (cc : Nat) (q : Str) (hl : l.length ≤ 1000000) (hq : q.length ≤ 9223372036854775806) :
    Ctr Tryd.prog 25 #[.slice oo l.length cc, vS q] [rsl oo l.length 2 (l.flatMap encF)] [] (fun _ : Option Addr × Nat => True) (fun r => .slice r.1 (underF l q).length r.2) (fun r => [slc 24 2 r.1 (underF l q).length r.2 ((underF l q).flatMap encF)]) := by
  refine spec_start (n := 39) [(0, .slice oo l.length cc), (1, vS q)] Tryd.func25 rfl rfl ⟨rfl, rfl, trivial⟩ rfl ?_
  intro w0 K hR
  have hA := hR _ (List.mem_cons_self ..)
  refine wc_seq ?_
  refine wc_region ?_
  refine wl_y rfl (y_assign rfl) ?_
  refine wl_nil ?_
  refine wq_then ?_
  refine wc_seq ?_
  refine wc_region ?_
  refine wl_y rfl (y_assign rfl) ?_
  refine wl_nil ?_
  refine wq_then ?_
  refine wc_seq ?_
  refine wc_seq ?_
  refine wc_region ?_
  refine wl_world (fun w hw => Hp.addNil (e := 24) (sz := 2) [] _ hw) ?_
  refine wl_y rfl (y_assign rfl) ?_
  refine wl_nil ?_
  refine wq_then ?_
  refine wc_block ?_
  refine wc_loop (α := Nat × Option Addr × Nat) (fun y => y.1 ≤ l.length) [(0, _), (1, _)] (fun y => [(6, vI y.1), (5, .slice y.2.1 ((l.take y.1).flatMap (underG q)).length y.2.2)]) (fun y => Hp w0 K [slc 24 2 y.2.1 ((l.take y.1).flatMap (underG q)).length y.2.2 (((l.take y.1).flatMap (underG q)).flatMap encF)]) (fun y => l.length - y.1) (0, none, 0) ?_ ⟨rfl, rfl, rfl, rfl, trivial⟩ ?_ ?_
  · exact Nat.zero_le _
  · exact fun w hw => hw
  · rintro ⟨i, p⟩ hi; simp only at hi
    have hfl := fm_take (underG_le q) l i
    refine wc_world (S' := Hp w0 K [slc 24 2 p.1 ((l.take i).flatMap (underG q)).length p.2 (((l.take i).flatMap (underG q)).flatMap encF)]) (fun w hw => hw) ?_
    refine wc_same 6 (vI i) rfl rfl ?_
    refine wc_same 5 (.slice p.1 ((l.take i).flatMap (underG q)).length p.2) rfl rfl ?_
    refine wc_seq ?_
    refine wc_seq ?_
    refine wc_region ?_
    refine wl_y rfl (y_move rfl) ?_
    refine wl_y rfl (y_move rfl) ?_
    refine wl_y rfl (y_lenSl Tryd.underlying22 rfl) ?_
    refine wl_y rfl (y_lss rfl rfl) ?_
    refine wl_nil ?_
    refine wq_then ?_
    refine wc_cond rfl (fun hc10 => ?_) (fun hc10 => ?_)
    ·
      simp at hc10
      refine wc_skip ?_
      refine wq_then ?_
      refine wc_seq ?_
      refine wc_block ?_
      refine wc_seq ?_
      refine wc_region ?_
      obtain ⟨x, hx⟩ : ∃ x, l[i]? = some x := ⟨_, List.getElem?_eq_getElem (by omega)⟩
      refine wl_y rfl (y_move rfl) ?_
      refine wl_y rfl (y_move rfl) ?_
      refine wl_y rfl (y_indexAddr Tryd.underlying22 T24 rfl rfl rfl (by omega) (by first | assumption | exact fun _ _ => rfl | exact fun _ _ => hA.isSome (by omega) | exact fun w hw => hw.slc_isSome [] (by omega) | exact fun w hw => hw.slc_isSome [_] (by omega) | exact fun w hw => hw.slc_isSome [_, _] (by omega) | exact fun w hw => hw.slc_isSome [_, _, _] (by omega))) ?_
      refine wl_y rfl (y_fieldAddr_adr F24_0 rfl) ?_
      refine wl_y rfl (y_load NA9 rfl (by first | exact cell_ro hA (rows_get encF_len hx rfl) | exact cell_own [] (rows_get encF_len hx rfl) | exact cell_own [_] (rows_get encF_len hx rfl) | exact cell_own [_, _] (rows_get encF_len hx rfl) | exact cell_own [_, _, _] (rows_get encF_len hx rfl))) ?_
      refine wl_y rfl (y_move rfl) ?_
      refine wl_q (fun _ _ => want_none) rfl (yq_spec (fst := []) (cap := []) _ FN46 (rbelow_c x.1 q hq) rfl rfl rfl (by (repeat (first | exact pt_nil | apply pt0 | apply pt1 | apply pt2 | apply pt3 | apply pt4 | apply pt5 | apply pt6 | apply pt7 | apply pt8 | apply pt9 | apply pt10 | apply pt11 | apply pt12 | apply pt13 | apply pt14 | apply pt15 | apply pt16 | apply pt17))) (by (repeat (first | exact ro_nil | exact ro_rest (by assumption) | refine ro_cons (by first | exact .inl (by assumption) | exact ro_f0 (fun _ h => h) | exact ro_f0 (fun _ => slc_rsl) | exact ro_f1 (fun _ h => h) | exact ro_f1 (fun _ => slc_rsl) | exact ro_f2 (fun _ h => h) | exact ro_f2 (fun _ => slc_rsl) | exact ro_f3 (fun _ h => h) | exact ro_f3 (fun _ => slc_rsl) | exact ro_f4 (fun _ h => h) | exact ro_f4 (fun _ => slc_rsl) | exact ro_f5 (fun _ h => h) | exact ro_f5 (fun _ => slc_rsl) | exact ro_f6 (fun _ h => h) | exact ro_f6 (fun _ => slc_rsl)) ?_))) (fun _ _ => rfl) (fun _ _ _ h => h.sub (by (repeat (first | exact pt_nil | apply pt0 | apply pt1 | apply pt2 | apply pt3 | apply pt4 | apply pt5 | apply pt6 | apply pt7 | apply pt8 | apply pt9 | apply pt10 | apply pt11 | apply pt12 | apply pt13 | apply pt14 | apply pt15 | apply pt16 | apply pt17))))) ?_
      refine wl_nil ?_
      refine wq_then ?_
      refine wc_cond rfl (fun hc19 => ?_) (fun hc19 => ?_)
      ·
        refine wc_mix (.q 0 0 (.q 1 0 (.q 2 0 (.q 3 0 (.q 4 0 (.q 5 1 (.q 6 0 (.q 7 0 (.q 8 0 (.q 9 0 (.q 10 0 (.q 11 0 (.q 12 0 (.q 13 0 (.q 14 1 (.q 15 0 (.w 16 2 (.w 17 2 (.q 18 0 .nil) .nil) .nil))))))))))))))))) (fun _ => True) MO (by kernel_rfl) (Hp.drawless _ _ _) (fun _ _ => trivial) ?_
        have hbl := below_len hc19
        refine wm_g rfl rfl (y_move rfl) ?_
        refine wm_g rfl rfl (y_move rfl) ?_
        refine wm_g rfl rfl (y_move rfl) ?_
        refine wm_g rfl rfl (y_indexAddr Tryd.underlying22 T24 rfl rfl rfl (by omega) (by first | assumption | exact fun _ _ => rfl | exact fun _ _ => hA.isSome (by omega) | exact fun w hw => hw.slc_isSome [] (by omega) | exact fun w hw => hw.slc_isSome [_] (by omega) | exact fun w hw => hw.slc_isSome [_, _] (by omega) | exact fun w hw => hw.slc_isSome [_, _, _] (by omega))) ?_
        refine wm_g rfl rfl (y_fieldAddr_adr F24_0 rfl) ?_
        refine wm_l rfl rfl (y_load NA9 rfl (by first | exact cell_ro hA (rows_get encF_len hx rfl) | exact cell_own [] (rows_get encF_len hx rfl) | exact cell_own [_] (rows_get encF_len hx rfl) | exact cell_own [_, _] (rows_get encF_len hx rfl) | exact cell_own [_, _, _] (rows_get encF_len hx rfl))) ?_
        refine wm_g rfl rfl (y_move rfl) ?_
        refine wm_g rfl rfl (y_lenS Tryd.underlying9 rfl) ?_
        refine wm_g rfl rfl (y_add rfl rfl (by omega)) ?_
        refine wm_g rfl rfl (y_sliceS (i := q.length + 1) Tryd.underlying9 rfl ⟨_, rfl, rfl⟩ rfl (by first | omega | (simp; omega)) (by first | omega | (simp; omega)) rfl) ?_
        refine wm_same 29 (vS (x.1.drop (q.length + 1))) rfl (by rw [List.take_length]) ?_
        refine wm_g rfl rfl (y_move rfl) ?_
        refine wm_g rfl rfl (y_move rfl) ?_
        refine wm_g rfl rfl (y_indexAddr Tryd.underlying22 T24 rfl rfl rfl (by omega) (by first | assumption | exact fun _ _ => rfl | exact fun _ _ => hA.isSome (by omega) | exact fun w hw => hw.slc_isSome [] (by omega) | exact fun w hw => hw.slc_isSome [_] (by omega) | exact fun w hw => hw.slc_isSome [_, _] (by omega) | exact fun w hw => hw.slc_isSome [_, _, _] (by omega))) ?_
        refine wm_g rfl rfl (y_fieldAddr_adr F24_1 rfl) ?_
        refine wm_l rfl rfl (y_load NA9 rfl (by first | exact cell_ro hA (rows_get encF_len hx rfl) | exact cell_own [] (rows_get encF_len hx rfl) | exact cell_own [_] (rows_get encF_len hx rfl) | exact cell_own [_, _] (rows_get encF_len hx rfl) | exact cell_own [_, _, _] (rows_get encF_len hx rfl))) ?_
        refine wm_g rfl rfl (y_build (cs := [_, _]) T24 PL24 rfl rfl rfl) ?_
        refine wm_w rfl rfl (fun _ _ _ => trivial) (yw_buildSlice (cs := encF (x.1.drop (q.length + 1), x.2)) Tryd.underlying22 T24 rfl rfl rfl rfl rfl rfl rfl) (wm_ex fun b36 _ => ?_)
        refine wm_w rfl rfl (fun _ _ _ => trivial) (yw_append [_] Tryd.underlying22 Tryd.underlying22 (.inl ⟨_, rfl⟩) T24 rfl rfl rfl (fun w hw => Src.slice ((hw.seen []).mono fun _ => slc_rsl)) (by omega) (by unfold maxLen; omega) (encF_one _) rfl) (wm_ex fun p37 hp37 => ?_)
        refine wm_g rfl rfl (y_assign rfl) ?_
        have hst : (l.take (i + 1)).flatMap (underG q) = (l.take i).flatMap (underG q) ++ [(x.1.drop (q.length + 1), x.2)] := by rw [fm_step hx]; simp [underG, hc19]
        refine wm_same 5 (.slice p37.1 ((l.take (i + 1)).flatMap (underG q)).length p37.2) rfl (by rw [hst, List.length_append]; rfl) ?_
        refine wm_nil ?_
        refine all_wq ?_
        refine wq_block_normal ?_
        refine wq_then ?_
        refine wc_region ?_
        refine wl_y rfl (y_move rfl) ?_
        refine wl_y rfl (y_add rfl rfl (by omega)) ?_
        refine wl_y rfl (y_assign rfl) ?_
        refine wl_nil ?_
        exact wq_round (i + 1, p37) (by simp only; omega) (by simp only; omega) ⟨rfl, rfl, rfl, rfl, trivial⟩ (fun w hw => by simp only; rw [hst, List.length_append, List.flatMap_append, List.flatMap_singleton]; exact hw.sub (by (repeat (first | exact pt_nil | apply pt0 | apply pt1 | apply pt2 | apply pt3 | apply pt4 | apply pt5 | apply pt6 | apply pt7 | apply pt8 | apply pt9 | apply pt10 | apply pt11 | apply pt12 | apply pt13 | apply pt14 | apply pt15 | apply pt16 | apply pt17))))
      ·
        have hst : (l.take (i + 1)).flatMap (underG q) = (l.take i).flatMap (underG q) := by rw [fm_step hx]; simp [underG, hc19]
        refine wc_same 5 (.slice p.1 ((l.take (i + 1)).flatMap (underG q)).length p.2) rfl (by rw [hst]) ?_
        refine wc_skip ?_
        refine wq_block_normal ?_
        refine wq_then ?_
        refine wc_region ?_
        refine wl_y rfl (y_move rfl) ?_
        refine wl_y rfl (y_add rfl rfl (by omega)) ?_
        refine wl_y rfl (y_assign rfl) ?_
        refine wl_nil ?_
        exact wq_round (i + 1, p) (by simp only; omega) (by simp only; omega) ⟨rfl, rfl, rfl, rfl, trivial⟩ (fun w hw => by simp only; rw [hst]; exact hw.sub (by (repeat (first | exact pt_nil | apply pt0 | apply pt1 | apply pt2 | apply pt3 | apply pt4 | apply pt5 | apply pt6 | apply pt7 | apply pt8 | apply pt9 | apply pt10 | apply pt11 | apply pt12 | apply pt13 | apply pt14 | apply pt15 | apply pt16 | apply pt17))))
    ·
      simp at hc10
      refine wc_exit ?_
      refine wq_then_exit (wq_then_exit (wq_block_exit ?_))
      refine wq_then ?_
      refine wc_seq ?_
      refine wc_region ?_
      refine wl_y rfl (y_move rfl) ?_
      refine wl_y rfl (y_assign rfl) ?_
      refine wl_nil ?_
      refine wq_then ?_
      refine wc_ret ?_
      refine wq_ret1 rfl rfl (fun w hw => ?_)
      exact ⟨p, trivial, by rw [show i = l.length by omega, List.take_length]; rfl, by rw [show i = l.length by omega, List.take_length] at hw; exact hw⟩

set_option maxHeartbeats 1000000 in
theorem rwithout_c (l : List Fl) (oo : Option Addr) (cc : Nat) (q : Str) (hl : l.length ≤ 1000000) (hq : q.length ≤ 9223372036854775806) :
    Ctr Tryd.prog 37 #[.slice oo l.length cc, vS q] [rsl oo l.length 2 (l.flatMap encF)] [] (fun _ : Option Addr × Nat => True) (fun r => .slice r.1 (withoutF l q).length r.2) (fun r => [slc 24 2 r.1 (withoutF l q).length r.2 ((withoutF l q).flatMap encF)]) := by
  refine spec_start (n := 38) [(0, .slice oo l.length cc), (1, vS q)] Tryd.func37 rfl rfl ⟨rfl, rfl, trivial⟩ rfl ?_
  intro w0 K hR
  have hA := hR _ (List.mem_cons_self ..)
  refine wc_seq ?_
  refine wc_region ?_
  refine wl_y rfl (y_assign rfl) ?_
  refine wl_nil ?_
  refine wq_then ?_
  refine wc_seq ?_
  refine wc_region ?_
  refine wl_y rfl (y_assign rfl) ?_
  refine wl_nil ?_
  refine wq_then ?_
  refine wc_seq ?_
  refine wc_seq ?_
  refine wc_region ?_
  refine wl_world (fun w hw => Hp.addNil (e := 24) (sz := 2) [] _ hw) ?_
  refine wl_y rfl (y_assign rfl) ?_
  refine wl_nil ?_
  refine wq_then ?_
  refine wc_block ?_
  refine wc_loop (α := Nat × Option Addr × Nat) (fun y => y.1 ≤ l.length) [(0, _), (1, _)] (fun y => [(6, vI y.1), (5, .slice y.2.1 ((l.take y.1).flatMap (withoutG q)).length y.2.2)]) (fun y => Hp w0 K [slc 24 2 y.2.1 ((l.take y.1).flatMap (withoutG q)).length y.2.2 (((l.take y.1).flatMap (withoutG q)).flatMap encF)]) (fun y => l.length - y.1) (0, none, 0) ?_ ⟨rfl, rfl, rfl, rfl, trivial⟩ ?_ ?_
  · exact Nat.zero_le _
  · exact fun w hw => hw
  · rintro ⟨i, p⟩ hi; simp only at hi
    have hfl := fm_take (withoutG_le q) l i
    refine wc_world (S' := Hp w0 K [slc 24 2 p.1 ((l.take i).flatMap (withoutG q)).length p.2 (((l.take i).flatMap (withoutG q)).flatMap encF)]) (fun w hw => hw) ?_
    refine wc_same 6 (vI i) rfl rfl ?_
    refine wc_same 5 (.slice p.1 ((l.take i).flatMap (withoutG q)).length p.2) rfl rfl ?_
    refine wc_seq ?_
    refine wc_seq ?_
    refine wc_region ?_
    refine wl_y rfl (y_move rfl) ?_
    refine wl_y rfl (y_move rfl) ?_
    refine wl_y rfl (y_lenSl Tryd.underlying22 rfl) ?_
    refine wl_y rfl (y_lss rfl rfl) ?_
    refine wl_nil ?_
    refine wq_then ?_
    refine wc_cond rfl (fun hc10 => ?_) (fun hc10 => ?_)
    ·
      simp at hc10
      refine wc_skip ?_
      refine wq_then ?_
      refine wc_seq ?_
      refine wc_block ?_
      refine wc_seq ?_
      refine wc_region ?_
      obtain ⟨x, hx⟩ : ∃ x, l[i]? = some x := ⟨_, List.getElem?_eq_getElem (by omega)⟩
      refine wl_y rfl (y_move rfl) ?_
      refine wl_y rfl (y_move rfl) ?_
      refine wl_y rfl (y_indexAddr Tryd.underlying22 T24 rfl rfl rfl (by omega) (by first | assumption | exact fun _ _ => rfl | exact fun _ _ => hA.isSome (by omega) | exact fun w hw => hw.slc_isSome [] (by omega) | exact fun w hw => hw.slc_isSome [_] (by omega) | exact fun w hw => hw.slc_isSome [_, _] (by omega) | exact fun w hw => hw.slc_isSome [_, _, _] (by omega))) ?_
      refine wl_y rfl (y_fieldAddr_adr F24_0 rfl) ?_
      refine wl_y rfl (y_load NA9 rfl (by first | exact cell_ro hA (rows_get encF_len hx rfl) | exact cell_own [] (rows_get encF_len hx rfl) | exact cell_own [_] (rows_get encF_len hx rfl) | exact cell_own [_, _] (rows_get encF_len hx rfl) | exact cell_own [_, _, _] (rows_get encF_len hx rfl))) ?_
      refine wl_y rfl (y_move rfl) ?_
      refine wl_y rfl (y_neqS rfl rfl) ?_
      refine wl_y rfl (y_move rfl) ?_
      apply wl_and 9 29 [(0, _), (1, _), (5, _), (6, _)] (t := 20) rfl ⟨rfl, rfl, rfl, rfl, trivial⟩
      · intro hg20 hM29
        try (simp at hg20)
        refine wl_yg rfl rfl rfl (y_move rfl) ?_
        refine wl_yg rfl rfl rfl (y_move rfl) ?_
        refine wl_yg rfl rfl rfl (y_indexAddr Tryd.underlying22 T24 rfl rfl rfl (by omega) (by first | assumption | exact fun _ _ => rfl | exact fun _ _ => hA.isSome (by omega) | exact fun w hw => hw.slc_isSome [] (by omega) | exact fun w hw => hw.slc_isSome [_] (by omega) | exact fun w hw => hw.slc_isSome [_, _] (by omega) | exact fun w hw => hw.slc_isSome [_, _, _] (by omega))) ?_
        refine wl_yg rfl rfl rfl (y_fieldAddr_adr F24_0 rfl) ?_
        refine wl_yg rfl rfl rfl (y_load NA9 rfl (by first | exact cell_ro hA (rows_get encF_len hx rfl) | exact cell_own [] (rows_get encF_len hx rfl) | exact cell_own [_] (rows_get encF_len hx rfl) | exact cell_own [_, _] (rows_get encF_len hx rfl) | exact cell_own [_, _, _] (rows_get encF_len hx rfl))) ?_
        refine wl_yg rfl rfl rfl (y_move rfl) ?_
        refine wl_q (want_some rfl rfl) rfl (yq_spec (fst := []) (cap := []) _ FN46 (rbelow_c x.1 q hq) rfl rfl rfl (by (repeat (first | exact pt_nil | apply pt0 | apply pt1 | apply pt2 | apply pt3 | apply pt4 | apply pt5 | apply pt6 | apply pt7 | apply pt8 | apply pt9 | apply pt10 | apply pt11 | apply pt12 | apply pt13 | apply pt14 | apply pt15 | apply pt16 | apply pt17))) (by (repeat (first | exact ro_nil | exact ro_rest (by assumption) | refine ro_cons (by first | exact .inl (by assumption) | exact ro_f0 (fun _ h => h) | exact ro_f0 (fun _ => slc_rsl) | exact ro_f1 (fun _ h => h) | exact ro_f1 (fun _ => slc_rsl) | exact ro_f2 (fun _ h => h) | exact ro_f2 (fun _ => slc_rsl) | exact ro_f3 (fun _ h => h) | exact ro_f3 (fun _ => slc_rsl) | exact ro_f4 (fun _ h => h) | exact ro_f4 (fun _ => slc_rsl) | exact ro_f5 (fun _ h => h) | exact ro_f5 (fun _ => slc_rsl) | exact ro_f6 (fun _ h => h) | exact ro_f6 (fun _ => slc_rsl)) ?_))) (fun _ _ => rfl) (fun _ _ _ h => h.sub (by (repeat (first | exact pt_nil | apply pt0 | apply pt1 | apply pt2 | apply pt3 | apply pt4 | apply pt5 | apply pt6 | apply pt7 | apply pt8 | apply pt9 | apply pt10 | apply pt11 | apply pt12 | apply pt13 | apply pt14 | apply pt15 | apply pt16 | apply pt17))))) ?_
        refine wl_yg rfl rfl rfl (y_not rfl) ?_
        refine wl_y rfl (y_pick_t rfl rfl) ?_
        exact wl_weaken hM29 ⟨rfl, rfl, rfl, rfl, rfl, trivial⟩
      · intro hg20 hM29
        refine wl_sk rfl rfl rfl rfl ?_
        refine wl_sk rfl rfl rfl rfl ?_
        refine wl_sk rfl rfl rfl rfl ?_
        refine wl_sk rfl rfl rfl rfl ?_
        refine wl_sk rfl rfl rfl rfl ?_
        refine wl_sk rfl rfl rfl rfl ?_
        refine wl_sk rfl rfl rfl rfl ?_
        refine wl_sk rfl rfl rfl rfl ?_
        refine wl_y rfl (y_pick_f rfl rfl) ?_
        exact wl_weaken hM29 ⟨rfl, rfl, rfl, rfl, rfl, trivial⟩
      ·
        refine wl_nil ?_
        refine wq_then ?_
        refine wc_cond rfl (fun hc29 => ?_) (fun hc29 => ?_)
        ·
          have hc29 : ¬ x.1 = q ∧ below x.1 q = false := by simpa using hc29
          refine wc_region ?_
          refine wl_y rfl (y_move rfl) ?_
          refine wl_y rfl (y_move rfl) ?_
          refine wl_y rfl (y_move rfl) ?_
          refine wl_y rfl (y_indexAddr Tryd.underlying22 T24 rfl rfl rfl (by omega) (by first | assumption | exact fun _ _ => rfl | exact fun _ _ => hA.isSome (by omega) | exact fun w hw => hw.slc_isSome [] (by omega) | exact fun w hw => hw.slc_isSome [_] (by omega) | exact fun w hw => hw.slc_isSome [_, _] (by omega) | exact fun w hw => hw.slc_isSome [_, _, _] (by omega))) ?_
          refine wl_y rfl (y_loadAgg (l := encF x) AG24 rfl rfl (by first | exact agg_ro hA (fun i u h => rows_get encF_len hx h) | exact agg_own [] (fun i u h => rows_get encF_len hx h) | exact agg_own [_] (fun i u h => rows_get encF_len hx h) | exact agg_own [_, _] (fun i u h => rows_get encF_len hx h) | exact agg_own [_, _, _] (fun i u h => rows_get encF_len hx h))) ?_
          refine wl_w (fun _ _ => want_none) rfl (yw_buildSlice (cs := encF x) Tryd.underlying22 T24 rfl rfl rfl rfl rfl rfl rfl) (wl_ex fun b35 _ => ?_)
          refine wl_w (fun _ _ => want_none) rfl (yw_append [_] Tryd.underlying22 Tryd.underlying22 (.inl ⟨_, rfl⟩) T24 rfl rfl rfl (fun w hw => Src.slice ((hw.seen []).mono fun _ => slc_rsl)) (by omega) (by unfold maxLen; omega) (encF_one _) rfl) (wl_ex fun p36 hp36 => ?_)
          refine wl_y rfl (y_assign rfl) ?_
          have hst : (l.take (i + 1)).flatMap (withoutG q) = (l.take i).flatMap (withoutG q) ++ [x] := by rw [fm_step hx]; simp [withoutG, hc29]
          refine wl_same 5 (.slice p36.1 ((l.take (i + 1)).flatMap (withoutG q)).length p36.2) rfl (by rw [hst, List.length_append]; rfl) ?_
          refine wl_nil ?_
          refine wq_block_normal ?_
          refine wq_then ?_
          refine wc_region ?_
          refine wl_y rfl (y_move rfl) ?_
          refine wl_y rfl (y_add rfl rfl (by omega)) ?_
          refine wl_y rfl (y_assign rfl) ?_
          refine wl_nil ?_
          exact wq_round (i + 1, p36) (by simp only; omega) (by simp only; omega) ⟨rfl, rfl, rfl, rfl, trivial⟩ (fun w hw => by simp only; rw [hst, List.length_append, List.flatMap_append, List.flatMap_singleton]; exact hw.sub (by (repeat (first | exact pt_nil | apply pt0 | apply pt1 | apply pt2 | apply pt3 | apply pt4 | apply pt5 | apply pt6 | apply pt7 | apply pt8 | apply pt9 | apply pt10 | apply pt11 | apply pt12 | apply pt13 | apply pt14 | apply pt15 | apply pt16 | apply pt17))))
        ·
          have hc29 : x.1 = q ∨ below x.1 q = true := by
            by_cases hxq : x.1 = q
            · exact .inl hxq
            · right; simpa [hxq] using hc29
          have hst : (l.take (i + 1)).flatMap (withoutG q) = (l.take i).flatMap (withoutG q) := by rw [fm_step hx]; rcases hc29 with h | h <;> simp [withoutG, h]
          refine wc_same 5 (.slice p.1 ((l.take (i + 1)).flatMap (withoutG q)).length p.2) rfl (by rw [hst]) ?_
          refine wc_skip ?_
          refine wq_block_normal ?_
          refine wq_then ?_
          refine wc_region ?_
          refine wl_y rfl (y_move rfl) ?_
          refine wl_y rfl (y_add rfl rfl (by omega)) ?_
          refine wl_y rfl (y_assign rfl) ?_
          refine wl_nil ?_
          exact wq_round (i + 1, p) (by simp only; omega) (by simp only; omega) ⟨rfl, rfl, rfl, rfl, trivial⟩ (fun w hw => by simp only; rw [hst]; exact hw.sub (by (repeat (first | exact pt_nil | apply pt0 | apply pt1 | apply pt2 | apply pt3 | apply pt4 | apply pt5 | apply pt6 | apply pt7 | apply pt8 | apply pt9 | apply pt10 | apply pt11 | apply pt12 | apply pt13 | apply pt14 | apply pt15 | apply pt16 | apply pt17))))
    ·
      simp at hc10
      refine wc_exit ?_
      refine wq_then_exit (wq_then_exit (wq_block_exit ?_))
      refine wq_then ?_
      refine wc_seq ?_
      refine wc_region ?_
      refine wl_y rfl (y_move rfl) ?_
      refine wl_y rfl (y_assign rfl) ?_
      refine wl_nil ?_
      refine wq_then ?_
      refine wc_ret ?_
      refine wq_ret1 rfl rfl (fun w hw => ?_)
      exact ⟨p, trivial, by rw [show i = l.length by omega, List.take_length]; rfl, by rw [show i = l.length by omega, List.take_length] at hw; exact hw⟩

end Go.Proofs.YtemopomapankmaaDoor
