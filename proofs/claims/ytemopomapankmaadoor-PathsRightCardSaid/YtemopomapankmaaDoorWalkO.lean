/-
  Walks: the reference's files with one more.
-/
import Derived.Test.YtemopomapankmaaDoorRWithLaw
namespace Go.Proofs.YtemopomapankmaaDoor
open Go.Eng

set_option maxHeartbeats 1000000 in
theorem rwith_c (l : List Fl) (oo : Option Addr) (cc : Nat) (f : Fl) (hl : l.length ≤ 1000000) (hcc : l.length ≤ cc) (hs : ∀ x ∈ l, x.1.length ≤ 9223372036854775806) (hf : f.1.length ≤ 9223372036854775806) :
    Ctr Tryd.prog 20 #[.slice oo l.length cc, agF f] [rsl oo l.length 2 (l.flatMap encF)] [] (fun _ : Option Addr × Nat => True) (fun r => .tuple #[.slice r.1 (withF l f).2.length r.2, vI (withF l f).1]) (fun r => [slc 24 2 r.1 ((withF l f).2).length r.2 (((withF l f).2).flatMap encF)]) := by
  refine spec_start (n := 98) [(0, .slice oo l.length cc), (1, agF f)] Tryd.func20 rfl rfl ⟨rfl, rfl, trivial⟩ rfl ?_
  intro w0 K hR
  have hA := hR _ (List.mem_cons_self ..)
  refine wc_seq ?_
  refine wc_region ?_
  refine wl_w (fun _ _ => want_none) rfl (yw_box rfl rfl) (wl_ex fun b3 _ => ?_)
  refine wl_y rfl (y_assign rfl) ?_
  refine wl_y rfl (y_assign rfl) ?_
  refine wl_nil ?_
  refine wq_then ?_
  refine wc_seq ?_
  refine wc_seq ?_
  refine wc_region ?_
  refine wl_y rfl (y_fieldAddr F24_0 rfl) ?_
  refine wl_y rfl (y_load NA9 rfl (by first | exact cell_blk [] rfl | exact cell_blk [_] rfl | exact cell_blk [_, _] rfl | exact cell_blk [_, _, _] rfl | exact cellR_blk (by assumption) rfl)) ?_
  refine wl_q (fun _ _ => want_none) rfl (yq_spec (fst := []) (cap := []) _ FN23 (rpath_c f.1) rfl rfl rfl (by (repeat (first | exact pt_nil | apply pt0 | apply pt1 | apply pt2 | apply pt3 | apply pt4 | apply pt5 | apply pt6 | apply pt7 | apply pt8 | apply pt9 | apply pt10 | apply pt11 | apply pt12 | apply pt13 | apply pt14 | apply pt15 | apply pt16 | apply pt17))) (by (repeat (first | exact ro_nil | exact ro_rest (by assumption) | refine ro_cons (by first | exact .inl (by assumption) | exact ro_f0 (fun _ h => h) | exact ro_f0 (fun _ => slc_rsl) | exact ro_f1 (fun _ h => h) | exact ro_f1 (fun _ => slc_rsl) | exact ro_f2 (fun _ h => h) | exact ro_f2 (fun _ => slc_rsl) | exact ro_f3 (fun _ h => h) | exact ro_f3 (fun _ => slc_rsl) | exact ro_f4 (fun _ h => h) | exact ro_f4 (fun _ => slc_rsl) | exact ro_f5 (fun _ h => h) | exact ro_f5 (fun _ => slc_rsl) | exact ro_f6 (fun _ h => h) | exact ro_f6 (fun _ => slc_rsl)) ?_))) (fun _ _ => rfl) (fun _ _ _ h => h.sub (by (repeat (first | exact pt_nil | apply pt0 | apply pt1 | apply pt2 | apply pt3 | apply pt4 | apply pt5 | apply pt6 | apply pt7 | apply pt8 | apply pt9 | apply pt10 | apply pt11 | apply pt12 | apply pt13 | apply pt14 | apply pt15 | apply pt16 | apply pt17))))) ?_
  refine wl_y rfl (y_neqI rfl rfl) ?_
  refine wl_nil ?_
  refine wq_then ?_
  refine wc_cond rfl (fun hc14 => ?_) (fun hc14 => ?_)
  ·
    simp at hc14
    obtain ⟨hp1, hp2⟩ := pathE_ne hc14
    refine wc_seq ?_
    refine wc_region ?_
    refine wl_y rfl (y_assign rfl) ?_
    refine wl_y rfl (y_assign rfl) ?_
    refine wl_nil ?_
    refine wq_then ?_
    refine wc_ret ?_
    refine wq_then_ret ?_
    refine wq_ret2 rfl rfl rfl (fun w hw => ?_)
    exact ⟨(none, 0), trivial, by simp only [withF_1 hp1]; rfl, by simp only [withF_1 hp1]; exact Hp.addNil [] [] (hw.bare)⟩
  ·
    simp at hc14
    have hok := pathE_eq hc14
    refine wc_skip ?_
    refine wq_then ?_
    refine wc_seq ?_
    refine wc_seq ?_
    refine wc_region ?_
    refine wl_y rfl (y_fieldAddr F24_1 rfl) ?_
    refine wl_y rfl (y_load NA9 rfl (by first | exact cell_blk [] rfl | exact cell_blk [_] rfl | exact cell_blk [_, _] rfl | exact cell_blk [_, _, _] rfl | exact cellR_blk (by assumption) rfl)) ?_
    refine wl_y rfl (y_lenS Tryd.underlying9 rfl) ?_
    refine wl_y rfl (y_gtr rfl rfl) ?_
    refine wl_nil ?_
    refine wq_then ?_
    refine wc_cond rfl (fun hc18 => ?_) (fun hc18 => ?_)
    ·
      replace hc18 := of_decide_eq_true hc18
      refine wc_seq ?_
      refine wc_region ?_
      refine wl_y rfl (y_assign rfl) ?_
      refine wl_y rfl (y_assign rfl) ?_
      refine wl_nil ?_
      refine wq_then ?_
      refine wc_ret ?_
      refine wq_then_ret ?_
      refine wq_ret2 rfl rfl rfl (fun w hw => ?_)
      exact ⟨(none, 0), trivial, by simp only [withF_2 hok hc18]; rfl, by simp only [withF_2 hok hc18]; exact Hp.addNil [] [] (hw.bare)⟩
    ·
      replace hc18 := of_decide_eq_false hc18
      refine wc_skip ?_
      refine wq_then ?_
      refine wc_seq ?_
      refine wc_region ?_
      refine wl_y rfl (y_move rfl) ?_
      refine wl_y rfl (y_lenSl Tryd.underlying22 rfl) ?_
      refine wl_y rfl (y_assign rfl) ?_
      refine wl_nil ?_
      refine wq_then ?_
      refine wc_seq ?_
      refine wc_region ?_
      refine wl_y rfl (y_assign rfl) ?_
      refine wl_nil ?_
      refine wq_then ?_
      refine wc_seq (wc_cut (α := Bool × Nat) (fun y => RW1 l f l.length y.1 y.2 ∧ ∀ x ∈ l, clash f.1 x.1 = false) [(0, _), (3, _)] (fun y => [(7, vB y.1), (6, vI y.2)]) (fun y => Hp w0 K [blk b3 (.cells (encF f).toArray 24 (0, 0))]) ⟨rfl, rfl, trivial⟩ ?_ ?_)
      ·
        refine wc_seq ?_
        refine wc_region ?_
        refine wl_y rfl (y_assign rfl) ?_
        refine wl_nil ?_
        refine wq_then ?_
        refine wc_block ?_
        refine wc_loop (α := Nat × Bool × Nat) (fun y => y.1 ≤ l.length ∧ RW1 l f y.1 y.2.1 y.2.2 ∧ ∀ j z, j < y.1 → l[j]? = some z → clash f.1 z.1 = false) [(0, _), (3, _)] (fun y => [(8, vI y.1), (7, vB y.2.1), (6, vI y.2.2)]) (fun y => Hp w0 K [blk b3 (.cells (encF f).toArray 24 (0, 0))]) (fun y => l.length - y.1) (0, false, l.length) ?_ ⟨rfl, rfl, rfl, rfl, rfl, trivial⟩ ?_ ?_
        · exact ⟨Nat.zero_le _, RW1.start l f, fun j _ hj => absurd hj (Nat.not_lt_zero _)⟩
        · exact fun w hw => hw
        · rintro ⟨i, same, a⟩ ⟨hi, hRW, hall⟩; simp only at hi hRW hall
          refine wc_same 8 (vI i) rfl rfl ?_
          refine wc_same 7 (vB same) rfl rfl ?_
          refine wc_same 6 (vI a) rfl rfl ?_
          refine wc_seq ?_
          refine wc_seq ?_
          refine wc_region ?_
          refine wl_y rfl (y_move rfl) ?_
          refine wl_y rfl (y_move rfl) ?_
          refine wl_y rfl (y_lenSl Tryd.underlying22 rfl) ?_
          refine wl_y rfl (y_lss rfl rfl) ?_
          refine wl_nil ?_
          refine wq_then ?_
          refine wc_cond rfl (fun hc24 => ?_) (fun hc24 => ?_)
          ·
            simp at hc24
            refine wc_skip ?_
            refine wq_then ?_
            refine wc_seq ?_
            refine wc_block ?_
            refine wc_seq ?_
            refine wc_seq ?_
            refine wc_quiet MO (by kernel_rfl) (Hp.drawless _ _ _) ?_
            obtain ⟨x, hx⟩ : ∃ x, l[i]? = some x := ⟨_, List.getElem?_eq_getElem (by omega)⟩
            refine wt_y rfl (y_fieldAddr F24_0 rfl) ?_
            refine wt_y rfl (y_load NA9 rfl (by first | exact cell_blk [] rfl | exact cell_blk [_] rfl | exact cell_blk [_, _] rfl | exact cell_blk [_, _, _] rfl | exact cellR_blk (by assumption) rfl)) ?_
            refine wt_y rfl (y_move rfl) ?_
            refine wt_y rfl (y_move rfl) ?_
            refine wt_y rfl (y_indexAddr Tryd.underlying22 T24 rfl rfl rfl (by omega) (by first | assumption | exact fun _ _ => rfl | exact fun _ _ => hA.isSome (by omega) | exact fun w hw => hw.slc_isSome [] (by omega) | exact fun w hw => hw.slc_isSome [_] (by omega) | exact fun w hw => hw.slc_isSome [_, _] (by omega) | exact fun w hw => hw.slc_isSome [_, _, _] (by omega))) ?_
            refine wt_y rfl (y_fieldAddr_adr F24_0 rfl) ?_
            refine wt_y rfl (y_load NA9 rfl (by first | exact cell_ro hA (rows_get encF_len hx rfl) | exact cell_own [] (rows_get encF_len hx rfl) | exact cell_own [_] (rows_get encF_len hx rfl) | exact cell_own [_, _] (rows_get encF_len hx rfl) | exact cell_own [_, _, _] (rows_get encF_len hx rfl))) ?_
            refine wt_c (fun _ _ => want_none) rfl (yq_spec (fst := []) (cap := []) _ FN46 (rbelow_c f.1 x.1 (hs x (List.mem_of_getElem? hx))) rfl rfl rfl (by (repeat (first | exact pt_nil | apply pt0 | apply pt1 | apply pt2 | apply pt3 | apply pt4 | apply pt5 | apply pt6 | apply pt7 | apply pt8 | apply pt9 | apply pt10 | apply pt11 | apply pt12 | apply pt13 | apply pt14 | apply pt15 | apply pt16 | apply pt17))) (by (repeat (first | exact ro_nil | exact ro_rest (by assumption) | refine ro_cons (by first | exact .inl (by assumption) | exact ro_f0 (fun _ h => h) | exact ro_f0 (fun _ => slc_rsl) | exact ro_f1 (fun _ h => h) | exact ro_f1 (fun _ => slc_rsl) | exact ro_f2 (fun _ h => h) | exact ro_f2 (fun _ => slc_rsl) | exact ro_f3 (fun _ h => h) | exact ro_f3 (fun _ => slc_rsl) | exact ro_f4 (fun _ h => h) | exact ro_f4 (fun _ => slc_rsl) | exact ro_f5 (fun _ h => h) | exact ro_f5 (fun _ => slc_rsl) | exact ro_f6 (fun _ h => h) | exact ro_f6 (fun _ => slc_rsl)) ?_))) (fun _ _ => rfl) (fun _ _ _ h => h.sub (by (repeat (first | exact pt_nil | apply pt0 | apply pt1 | apply pt2 | apply pt3 | apply pt4 | apply pt5 | apply pt6 | apply pt7 | apply pt8 | apply pt9 | apply pt10 | apply pt11 | apply pt12 | apply pt13 | apply pt14 | apply pt15 | apply pt16 | apply pt17))))) ?_
            refine wt_y rfl (y_move rfl) ?_
            apply wt_or 9 44 [(0, _), (3, _), (6, _), (7, _), (8, _)] (t := 35) rfl ⟨rfl, rfl, rfl, rfl, rfl, trivial⟩
            · intro hg35 hM44
              refine wt_sk rfl rfl rfl rfl ?_
              refine wt_sk rfl rfl rfl rfl ?_
              refine wt_sk rfl rfl rfl rfl ?_
              refine wt_sk rfl rfl rfl rfl ?_
              refine wt_sk rfl rfl rfl rfl ?_
              refine wt_sk rfl rfl rfl rfl ?_
              refine wt_sk rfl rfl rfl rfl ?_
              refine wt_sk rfl rfl rfl rfl ?_
              refine wt_y rfl (y_pick_t rfl rfl) ?_
              exact wt_weaken hM44 ⟨rfl, rfl, rfl, rfl, rfl, rfl, trivial⟩
            · intro hg35 hM44
              try (simp at hg35)
              refine wt_yg rfl rfl rfl (y_move rfl) ?_
              refine wt_yg rfl rfl rfl (y_move rfl) ?_
              refine wt_yg rfl rfl rfl (y_indexAddr Tryd.underlying22 T24 rfl rfl rfl (by omega) (by first | assumption | exact fun _ _ => rfl | exact fun _ _ => hA.isSome (by omega) | exact fun w hw => hw.slc_isSome [] (by omega) | exact fun w hw => hw.slc_isSome [_] (by omega) | exact fun w hw => hw.slc_isSome [_, _] (by omega) | exact fun w hw => hw.slc_isSome [_, _, _] (by omega))) ?_
              refine wt_yg rfl rfl rfl (y_fieldAddr_adr F24_0 rfl) ?_
              refine wt_yg rfl rfl rfl (y_load NA9 rfl (by first | exact cell_ro hA (rows_get encF_len hx rfl) | exact cell_own [] (rows_get encF_len hx rfl) | exact cell_own [_] (rows_get encF_len hx rfl) | exact cell_own [_, _] (rows_get encF_len hx rfl) | exact cell_own [_, _, _] (rows_get encF_len hx rfl))) ?_
              refine wt_yg rfl rfl rfl (y_fieldAddr F24_0 rfl) ?_
              refine wt_yg rfl rfl rfl (y_load NA9 rfl (by first | exact cell_blk [] rfl | exact cell_blk [_] rfl | exact cell_blk [_, _] rfl | exact cell_blk [_, _, _] rfl | exact cellR_blk (by assumption) rfl)) ?_
              refine wt_c (want_some rfl rfl) rfl (yq_spec (fst := []) (cap := []) _ FN46 (rbelow_c x.1 f.1 hf) rfl rfl rfl (by (repeat (first | exact pt_nil | apply pt0 | apply pt1 | apply pt2 | apply pt3 | apply pt4 | apply pt5 | apply pt6 | apply pt7 | apply pt8 | apply pt9 | apply pt10 | apply pt11 | apply pt12 | apply pt13 | apply pt14 | apply pt15 | apply pt16 | apply pt17))) (by (repeat (first | exact ro_nil | exact ro_rest (by assumption) | refine ro_cons (by first | exact .inl (by assumption) | exact ro_f0 (fun _ h => h) | exact ro_f0 (fun _ => slc_rsl) | exact ro_f1 (fun _ h => h) | exact ro_f1 (fun _ => slc_rsl) | exact ro_f2 (fun _ h => h) | exact ro_f2 (fun _ => slc_rsl) | exact ro_f3 (fun _ h => h) | exact ro_f3 (fun _ => slc_rsl) | exact ro_f4 (fun _ h => h) | exact ro_f4 (fun _ => slc_rsl) | exact ro_f5 (fun _ h => h) | exact ro_f5 (fun _ => slc_rsl) | exact ro_f6 (fun _ h => h) | exact ro_f6 (fun _ => slc_rsl)) ?_))) (fun _ _ => rfl) (fun _ _ _ h => h.sub (by (repeat (first | exact pt_nil | apply pt0 | apply pt1 | apply pt2 | apply pt3 | apply pt4 | apply pt5 | apply pt6 | apply pt7 | apply pt8 | apply pt9 | apply pt10 | apply pt11 | apply pt12 | apply pt13 | apply pt14 | apply pt15 | apply pt16 | apply pt17))))) ?_
              refine wt_y rfl (y_pick_f rfl rfl) ?_
              exact wt_weaken hM44 ⟨rfl, rfl, rfl, rfl, rfl, rfl, trivial⟩
            ·
              refine wt_same 44 (vB (clash f.1 x.1)) rfl rfl ?_
              refine wt_nil ?_
              refine wq_then ?_
              refine wc_cond rfl (fun hc44 => ?_) (fun hc44 => ?_)
              ·
                refine wc_seq ?_
                refine wc_region ?_
                refine wl_y rfl (y_assign rfl) ?_
                refine wl_y rfl (y_assign rfl) ?_
                refine wl_nil ?_
                refine wq_then ?_
                refine wc_ret ?_
                refine wq_then_ret (wq_block_ret (wq_then_ret (wq_then_ret (wq_block_ret (wq_then_ret ?_)))))
                refine wq_ret2 rfl rfl rfl (fun w hw => ?_)
                exact ⟨(none, 0), trivial, by simp only [withF_3 hok hc18 (List.any_eq_true.2 ⟨x, List.mem_of_getElem? hx, hc44⟩)]; rfl, by simp only [withF_3 hok hc18 (List.any_eq_true.2 ⟨x, List.mem_of_getElem? hx, hc44⟩)]; exact Hp.addNil [] [] (hw.bare)⟩
              ·
                refine wc_skip ?_
                refine wq_then ?_
                refine wc_seq ?_
                refine wc_quiet MO (by kernel_rfl) (Hp.drawless _ _ _) ?_
                refine wt_y rfl (y_move rfl) ?_
                refine wt_y rfl (y_not rfl) ?_
                refine wt_y rfl (y_move rfl) ?_
                apply wt_and 9 56 [(0, _), (3, _), (6, _), (7, _), (8, _)] (t := 47) rfl ⟨rfl, rfl, rfl, rfl, rfl, trivial⟩
                · intro hg47 hM56
                  try (simp at hg47)
                  refine wt_yg rfl rfl rfl (y_move rfl) ?_
                  refine wt_yg rfl rfl rfl (y_move rfl) ?_
                  refine wt_yg rfl rfl rfl (y_indexAddr Tryd.underlying22 T24 rfl rfl rfl (by omega) (by first | assumption | exact fun _ _ => rfl | exact fun _ _ => hA.isSome (by omega) | exact fun w hw => hw.slc_isSome [] (by omega) | exact fun w hw => hw.slc_isSome [_] (by omega) | exact fun w hw => hw.slc_isSome [_, _] (by omega) | exact fun w hw => hw.slc_isSome [_, _, _] (by omega))) ?_
                  refine wt_yg rfl rfl rfl (y_fieldAddr_adr F24_0 rfl) ?_
                  refine wt_yg rfl rfl rfl (y_load NA9 rfl (by first | exact cell_ro hA (rows_get encF_len hx rfl) | exact cell_own [] (rows_get encF_len hx rfl) | exact cell_own [_] (rows_get encF_len hx rfl) | exact cell_own [_, _] (rows_get encF_len hx rfl) | exact cell_own [_, _, _] (rows_get encF_len hx rfl))) ?_
                  refine wt_yg rfl rfl rfl (y_fieldAddr F24_0 rfl) ?_
                  refine wt_yg rfl rfl rfl (y_load NA9 rfl (by first | exact cell_blk [] rfl | exact cell_blk [_] rfl | exact cell_blk [_, _] rfl | exact cell_blk [_, _, _] rfl | exact cellR_blk (by assumption) rfl)) ?_
                  refine wt_yg rfl rfl rfl (y_eqlS rfl rfl) ?_
                  refine wt_y rfl (y_pick_t rfl rfl) ?_
                  exact wt_weaken hM56 ⟨rfl, rfl, rfl, rfl, rfl, rfl, trivial⟩
                · intro hg47 hM56
                  refine wt_sk rfl rfl rfl rfl ?_
                  refine wt_sk rfl rfl rfl rfl ?_
                  refine wt_sk rfl rfl rfl rfl ?_
                  refine wt_sk rfl rfl rfl rfl ?_
                  refine wt_sk rfl rfl rfl rfl ?_
                  refine wt_sk rfl rfl rfl rfl ?_
                  refine wt_sk rfl rfl rfl rfl ?_
                  refine wt_sk rfl rfl rfl rfl ?_
                  refine wt_y rfl (y_pick_f rfl rfl) ?_
                  exact wt_weaken hM56 ⟨rfl, rfl, rfl, rfl, rfl, rfl, trivial⟩
                ·
                  refine wt_nil ?_
                  refine wq_then ?_
                  refine wc_cond rfl (fun hc56 => ?_) (fun hc56 => ?_)
                  ·
                    refine wc_seq ?_
                    refine wc_region ?_
                    refine wl_y rfl (y_assign rfl) ?_
                    refine wl_nil ?_
                    refine wq_then ?_
                    refine wc_region ?_
                    refine wl_y rfl (y_move rfl) ?_
                    refine wl_y rfl (y_assign rfl) ?_
                    refine wl_nil ?_
                    refine wq_block_normal ?_
                    refine wq_then ?_
                    refine wc_region ?_
                    refine wl_y rfl (y_move rfl) ?_
                    refine wl_y rfl (y_add rfl rfl (by omega)) ?_
                    refine wl_y rfl (y_assign rfl) ?_
                    refine wl_nil ?_
                    obtain ⟨hsf, hxf⟩ : same = false ∧ x.1 = f.1 := by simpa using hc56
                    subst hsf
                    exact wq_round (i + 1, true, i) (by simp only; omega) ⟨by simp only; omega, hRW.hit hx hxf, step_of hall hx hc44⟩ ⟨rfl, rfl, rfl, rfl, rfl, trivial⟩ (fun w hw => hw)
                  ·
                    refine wc_skip ?_
                    refine wq_block_normal ?_
                    refine wq_then ?_
                    refine wc_region ?_
                    refine wl_y rfl (y_move rfl) ?_
                    refine wl_y rfl (y_add rfl rfl (by omega)) ?_
                    refine wl_y rfl (y_assign rfl) ?_
                    refine wl_nil ?_
                    exact wq_round (i + 1, same, a) (by simp only; omega) ⟨by simp only; omega, hRW.go hx (by cases same <;> simp at hc56 ⊢; exact hc56), step_of hall hx hc44⟩ ⟨rfl, rfl, rfl, rfl, rfl, trivial⟩ (fun w hw => hw)
          ·
            simp at hc24
            refine wc_exit ?_
            refine wq_then_exit (wq_then_exit (wq_block_exit ?_))
            have hil : i = l.length := by omega
            subst hil
            exact wq_cut (same, a) ⟨hRW, all_of_step hall (Nat.le_refl _)⟩ ⟨rfl, rfl, rfl, rfl, trivial⟩ (fun w hw => hw)
      · rintro ⟨same, a⟩ ⟨hRW, hcl⟩; simp only at hRW hcl
        refine wc_same 7 (vB same) rfl rfl ?_
        refine wc_same 6 (vI a) rfl rfl ?_
        have hcl2 := any_step hcl
        refine all_wc ?_
        refine wc_seq (wc_cut (α := Nat) (fun a => RW2 l f same a) [(0, _), (3, _), (7, _)] (fun a => [(6, vI a)]) (fun a => Hp w0 K [blk b3 (.cells (encF f).toArray 24 (0, 0))]) ⟨rfl, rfl, rfl, trivial⟩ ?_ ?_)
        ·
          refine wc_seq ?_
          refine wc_region ?_
          refine wl_y rfl (y_assign rfl) ?_
          refine wl_nil ?_
          refine wq_then ?_
          refine wc_block ?_
          refine wc_loop (α := Nat) (fun y => y ≤ l.length ∧ ∀ j z, j < y → l[j]? = some z → gtS z.1 f.1 = false) [(0, _), (3, _), (6, _), (7, _)] (fun y => [(9, vI y)]) (fun y => Hp w0 K [blk b3 (.cells (encF f).toArray 24 (0, 0))]) (fun y => l.length - y) 0 ?_ ⟨rfl, rfl, rfl, rfl, rfl, trivial⟩ ?_ ?_
          · exact ⟨Nat.zero_le _, fun j _ hj => absurd hj (Nat.not_lt_zero _)⟩
          · exact fun w hw => hw
          · rintro i ⟨hi, hall⟩
            refine wc_seq ?_
            refine wc_seq ?_
            refine wc_region ?_
            refine wl_y rfl (y_move rfl) ?_
            refine wl_y rfl (y_move rfl) ?_
            refine wl_y rfl (y_lenSl Tryd.underlying22 rfl) ?_
            refine wl_y rfl (y_lss rfl rfl) ?_
            refine wl_y rfl (y_move rfl) ?_
            apply wl_and 3 65 [(0, _), (3, _), (6, _), (7, _), (9, _)] (t := 62) rfl ⟨rfl, rfl, rfl, rfl, rfl, trivial⟩
            · intro hg62 hM65
              try (simp at hg62)
              refine wl_yg rfl rfl rfl (y_move rfl) ?_
              refine wl_yg rfl rfl rfl (y_not rfl) ?_
              refine wl_y rfl (y_pick_t rfl rfl) ?_
              exact wl_weaken hM65 ⟨rfl, rfl, rfl, rfl, rfl, rfl, trivial⟩
            · intro hg62 hM65
              refine wl_sk rfl rfl rfl rfl ?_
              refine wl_sk rfl rfl rfl rfl ?_
              refine wl_y rfl (y_pick_f rfl rfl) ?_
              exact wl_weaken hM65 ⟨rfl, rfl, rfl, rfl, rfl, rfl, trivial⟩
            ·
              refine wl_nil ?_
              refine wq_then ?_
              refine wc_cond rfl (fun hc65 => ?_) (fun hc65 => ?_)
              ·
                refine wc_skip ?_
                refine wq_then ?_
                refine wc_seq ?_
                refine wc_block ?_
                refine wc_seq ?_
                refine wc_quiet MO (by kernel_rfl) (Hp.drawless _ _ _) ?_
                obtain ⟨hc65a, hc65b⟩ : i < l.length ∧ same = false := by simpa using hc65
                obtain ⟨x, hx⟩ : ∃ x, l[i]? = some x := ⟨_, List.getElem?_eq_getElem (by omega)⟩
                refine wt_y rfl (y_move rfl) ?_
                refine wt_y rfl (y_move rfl) ?_
                refine wt_y rfl (y_indexAddr Tryd.underlying22 T24 rfl rfl rfl (by omega) (by first | assumption | exact fun _ _ => rfl | exact fun _ _ => hA.isSome (by omega) | exact fun w hw => hw.slc_isSome [] (by omega) | exact fun w hw => hw.slc_isSome [_] (by omega) | exact fun w hw => hw.slc_isSome [_, _] (by omega) | exact fun w hw => hw.slc_isSome [_, _, _] (by omega))) ?_
                refine wt_y rfl (y_fieldAddr_adr F24_0 rfl) ?_
                refine wt_y rfl (y_load NA9 rfl (by first | exact cell_ro hA (rows_get encF_len hx rfl) | exact cell_own [] (rows_get encF_len hx rfl) | exact cell_own [_] (rows_get encF_len hx rfl) | exact cell_own [_, _] (rows_get encF_len hx rfl) | exact cell_own [_, _, _] (rows_get encF_len hx rfl))) ?_
                refine wt_y rfl (y_fieldAddr F24_0 rfl) ?_
                refine wt_y rfl (y_load NA9 rfl (by first | exact cell_blk [] rfl | exact cell_blk [_] rfl | exact cell_blk [_, _] rfl | exact cell_blk [_, _, _] rfl | exact cellR_blk (by assumption) rfl)) ?_
                refine wt_y rfl (y_gtrS rfl rfl) ?_
                refine wt_nil ?_
                refine wq_then ?_
                refine wc_cond rfl (fun hc75 => ?_) (fun hc75 => ?_)
                ·
                  refine wc_seq ?_
                  refine wc_region ?_
                  refine wl_y rfl (y_move rfl) ?_
                  refine wl_y rfl (y_assign rfl) ?_
                  refine wl_nil ?_
                  refine wq_then ?_
                  refine wc_exit ?_
                  refine wq_block_other rfl (wq_then_exit (wq_then_exit (wq_block_exit ?_)))
                  exact wq_cut i (by obtain ⟨_, rfl⟩ : i < l.length ∧ same = false := ⟨hc65a, hc65b⟩; exact RW2.gt hRW (Nat.le_refl _) hx hc75 hall) ⟨rfl, rfl, rfl, rfl, trivial⟩ (fun w hw => hw)
                ·
                  refine wc_skip ?_
                  refine wq_block_normal ?_
                  refine wq_then ?_
                  refine wc_region ?_
                  refine wl_y rfl (y_move rfl) ?_
                  refine wl_y rfl (y_add rfl rfl (by omega)) ?_
                  refine wl_y rfl (y_assign rfl) ?_
                  refine wl_nil ?_
                  exact wq_round (i + 1) (by omega) ⟨by omega, step_of hall hx hc75⟩ ⟨rfl, rfl, rfl, rfl, rfl, trivial⟩ (fun w hw => hw)
              ·
                refine wc_exit ?_
                refine wq_then_exit (wq_then_exit (wq_block_exit ?_))
                exact wq_cut a (by
                  cases same
                  · exact RW2.fin hRW (Nat.le_refl _) (all_of_step hall (by simpa using hc65))
                  · exact RW2.same hRW) ⟨rfl, rfl, rfl, rfl, trivial⟩ (fun w hw => hw)
        · clear hRW
          clear a
          intro a hR2
          have hR2a := hR2.1
          have hsb : (if same then 1 else 0) = 0 ∨ (if same then 1 else 0) = 1 := by cases same <;> simp
          refine all_wc ?_
          refine wc_seq ?_
          refine wc_region ?_
          refine wl_y rfl (y_assign rfl) ?_
          refine wl_nil ?_
          refine wq_then ?_
          refine wc_seq ?_
          refine wc_region ?_
          refine wl_world (fun w hw => Hp.addNil (e := 24) (sz := 2) [] _ hw) ?_
          refine wl_y rfl (y_move rfl) ?_
          refine wl_y rfl (y_move rfl) ?_
          refine wl_y rfl (y_move rfl) ?_
          refine wl_y rfl (y_sliceSl (i := 0) (j := a) Tryd.underlying22 T24 rfl rfl ⟨_, rfl, rfl⟩ (by omega) (by omega)) ?_
          refine wl_w (fun _ _ => want_none) rfl (yw_append [] Tryd.underlying22 Tryd.underlying22 (.inl ⟨_, rfl⟩) T24 rfl rfl rfl (fun w hw => Src.slice ((hA.seen hw).mono fun _ h => rsl_cut (0) (a) h (by omega) (by omega) hcc)) (by omega) (by unfold maxLen; omega) (one_take (one_drop (one_rows encF_one))) (by rw [List.length_take, List.length_drop, rows_length encF_len]; omega)) (wl_ex fun p81 hp81 => ?_)
          refine wl_y rfl (y_assign rfl) ?_
          refine wl_nil ?_
          refine wq_then ?_
          refine wc_seq ?_
          refine wc_region ?_
          refine wl_y rfl (y_move rfl) ?_
          refine wl_y rfl (y_loadAgg (l := [_, _]) AG24 rfl rfl (by first | exact cells_blk [] rfl | exact cells_blk [_] rfl | exact cells_blk [_, _] rfl | exact cells_blk [_, _, _] rfl | exact cellsR_blk (by assumption) rfl)) ?_
          refine wl_w (fun _ _ => want_none) rfl (yw_buildSlice (cs := encF f) Tryd.underlying22 T24 rfl rfl rfl rfl rfl rfl rfl) (wl_ex fun b84 _ => ?_)
          refine wl_w (fun _ _ => want_none) rfl (yw_append [_] Tryd.underlying22 Tryd.underlying22 (.inl ⟨_, rfl⟩) T24 rfl rfl rfl (fun w hw => Src.slice ((hw.seen []).mono fun _ => slc_rsl)) (by omega) (by unfold maxLen; omega) (encF_one _) rfl) (wl_ex fun p85 hp85 => ?_)
          refine wl_y rfl (y_assign rfl) ?_
          refine wl_world (fun w hw => hw.drop) ?_
          refine wl_nil ?_
          refine wq_then ?_
          refine wc_seq (wc_cut (α := Unit) (fun x => True) [(0, _), (10, _)] (fun x => [(6, vI (a + (if same then 1 else 0) : Nat))]) (fun x => Hp w0 K [slc 24 2 p85.1 (0 + (a - 0) + 1) p85.2 ([] ++ ((l.flatMap encF).drop (0 * 2)).take ((a - 0) * 2) ++ encF f), blk b3 (.cells (encF f).toArray 24 (0, 0))]) ⟨rfl, rfl, trivial⟩ ?_ ?_)
          ·
            refine wc_seq ?_
            refine wc_region ?_
            refine wl_y rfl (y_move rfl) ?_
            refine wl_nil ?_
            refine wq_then ?_
            refine wc_cond rfl (fun hc86 => ?_) (fun hc86 => ?_)
            ·
              refine wc_region ?_
              refine wl_y rfl (y_move rfl) ?_
              refine wl_y rfl (y_add rfl rfl (by omega)) ?_
              refine wl_y rfl (y_assign rfl) ?_
              refine wl_same 6 (vI (a + (if same then 1 else 0) : Nat)) rfl (by rw [hc86]; simp) ?_
              refine wl_nil ?_
              exact wq_cut () trivial ⟨rfl, rfl, rfl, trivial⟩ (fun w hw => hw)
            ·
              refine wc_skip ?_
              refine wq_same 6 (vI (a + (if same then 1 else 0) : Nat)) rfl (by rw [hc86]; simp) ?_
              exact wq_cut () trivial ⟨rfl, rfl, rfl, trivial⟩ (fun w hw => hw)
          · intro x _
            refine all_wc ?_
            refine wc_seq ?_
            refine wc_region ?_
            refine wl_y rfl (y_move rfl) ?_
            refine wl_y rfl (y_move rfl) ?_
            refine wl_y rfl (y_move rfl) ?_
            refine wl_y rfl (y_sliceSl (i := a + (if same then 1 else 0)) (j := l.length) Tryd.underlying22 T24 rfl ⟨_, rfl, rfl⟩ rfl (by omega) (by omega)) ?_
            refine wl_w (fun _ _ => want_none) rfl (yw_append [] Tryd.underlying22 Tryd.underlying22 (.inl ⟨_, rfl⟩) T24 rfl rfl rfl (fun w hw => Src.slice ((hA.seen hw).mono fun _ h => rsl_cut (a + (if same then 1 else 0)) (l.length) h (by omega) (by omega) hcc)) (by omega) (by unfold maxLen; omega) (one_take (one_drop (one_rows encF_one))) (by rw [List.length_take, List.length_drop, rows_length encF_len]; omega)) (wl_ex fun p93 hp93 => ?_)
            refine wl_y rfl (y_assign rfl) ?_
            have hfin : [] ++ ((l.flatMap encF).drop (0 * 2)).take ((a - 0) * 2) ++ encF f ++ ((l.flatMap encF).drop ((a + (if same then 1 else 0)) * 2)).take ((l.length - (a + (if same then 1 else 0))) * 2) = (putF l f).flatMap encF := by
              have hl2 := rows_length encF_len l
              rw [hR2.2, List.flatMap_append, List.flatMap_cons, ← rows_take encF_len a (by omega), ← rows_drop encF_len (a + (if same then 1 else 0)) hR2.1, Nat.zero_mul, List.drop_zero, List.nil_append, Nat.sub_zero, List.append_assoc, List.take_of_length_le (l := (l.flatMap encF).drop _) (by rw [List.length_drop, hl2]; omega)]
            have hpl : 0 + (a - 0) + 1 + (l.length - (a + (if same then 1 else 0))) = (putF l f).length := by
              have := hR2.1
              rw [hR2.2, List.length_append, List.length_cons, List.length_take, List.length_drop]; omega
            refine wl_same 93 (.slice p93.1 (putF l f).length p93.2) rfl (by rw [hpl]) ?_
            refine wl_same 10 (.slice p93.1 (putF l f).length p93.2) rfl (by rw [hpl]) ?_
            refine wl_world (S' := Hp w0 K [slc 24 2 p93.1 (putF l f).length p93.2 ((putF l f).flatMap encF), blk b3 (.cells (encF f).toArray 24 (0, 0))]) (fun w hw => by rw [hfin, hpl] at hw; exact hw) ?_
            refine wl_nil ?_
            refine wq_then ?_
            refine wc_seq ?_
            refine wc_seq ?_
            refine wc_region ?_
            refine wl_y rfl (y_move rfl) ?_
            refine wl_y rfl (y_lenSl Tryd.underlying22 rfl) ?_
            refine wl_y rfl (y_gtr rfl rfl) ?_
            refine wl_nil ?_
            refine wq_then ?_
            refine wc_cond rfl (fun hc96 => ?_) (fun hc96 => ?_)
            ·
              replace hc96 := of_decide_eq_true hc96
              refine wc_seq ?_
              refine wc_region ?_
              refine wl_y rfl (y_assign rfl) ?_
              refine wl_y rfl (y_assign rfl) ?_
              refine wl_nil ?_
              refine wq_then ?_
              refine wc_ret ?_
              refine wq_then_ret ?_
              refine wq_ret2 rfl rfl rfl (fun w hw => ?_)
              exact ⟨(none, 0), trivial, by simp only [withF_4 hok hc18 hcl2 hc96]; rfl, by simp only [withF_4 hok hc18 hcl2 hc96]; exact Hp.addNil [] [] (hw.bare)⟩
            ·
              replace hc96 := of_decide_eq_false hc96
              refine wc_skip ?_
              refine wq_then ?_
              refine wc_seq ?_
              refine wc_region ?_
              refine wl_y rfl (y_move rfl) ?_
              refine wl_y rfl (y_assign rfl) ?_
              refine wl_y rfl (y_assign rfl) ?_
              refine wl_nil ?_
              refine wq_then ?_
              refine wc_ret ?_
              refine wq_ret2 rfl rfl rfl (fun w hw => ?_)
              exact ⟨p93, trivial, by simp only [withF_5 hok hc18 hcl2 hc96], by simp only [withF_5 hok hc18 hcl2 hc96]; exact hw.sub (by (repeat (first | exact pt_nil | apply pt0 | apply pt1 | apply pt2 | apply pt3 | apply pt4 | apply pt5 | apply pt6 | apply pt7 | apply pt8 | apply pt9 | apply pt10 | apply pt11 | apply pt12 | apply pt13 | apply pt14 | apply pt15 | apply pt16 | apply pt17)))⟩

end Go.Proofs.YtemopomapankmaaDoor
