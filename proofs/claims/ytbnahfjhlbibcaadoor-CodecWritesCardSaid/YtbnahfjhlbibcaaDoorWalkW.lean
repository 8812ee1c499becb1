/-
  Walks: what is not too great: operations, tasks, reports.
-/
import Derived.Test.YtbnahfjhlbibcaaDoorWalkV
namespace Go.Proofs.YtbnahfjhlbibcaaDoor
open Go.Eng

open Go.Lib
theorem few_o {x : OpV} (h1 : FewP (grE x.graph) x.snap.xs) (h2 : FewP (grE zSl) x.res.files.xs) (h3 : x.name.length ≤ 100) (h4 : x.goal.length ≤ 100) (h5 : x.res.loc.length ≤ 100) (h6 : x.res.text.length ≤ 100) : FewO x.er := ⟨h1, h2, h3, h4, h5, h6⟩
theorem few_o' {x : OpV} (h : FewO x.er) : FewP (grE x.graph) x.snap.xs ∧ FewP (grE zSl) x.res.files.xs ∧ x.name.length ≤ 100 ∧ x.goal.length ≤ 100 ∧ x.res.loc.length ≤ 100 ∧ x.res.text.length ≤ 100 := h
theorem opl_ro {w0 : World} {O : Nat → Prop} {l : List OpV} (h : Ro w0 O (opL l)) : ∀ x ∈ l, Ro w0 O (opA x) := fun x hx => ro_all h _ (List.mem_map.2 ⟨x, hx, rfl⟩)
theorem graph_ro2 {w0 : World} {O : Nat → Prop} {s : Sl TgV} (h : Ro w0 O (graphA s)) : Ro w0 O (rsl s.a s.xs.length 4 (s.xs.flatMap encTg)) ∧ Ro w0 O (tgsA s.xs) := ⟨ro_all h _ (by simp), ro_all h _ (by simp)⟩
theorem ro_t0 {w0 : World} {O : Nat → Prop} : Ro w0 O (tgsA []) := all_ro (As := []) (fun A hA => by cases hA)
theorem little_b (t : TaskV) : decide (Little t.er) = (decide ((t.key.length : Int) ≤ 100) && decide (FewP (grE ⟨none, 0, [⟨[], t.cmd, t.names, zSl⟩]⟩) t.files.xs)) := by
  rw [Bool.eq_iff_iff, Bool.and_eq_true, decide_eq_true_eq, decide_eq_true_eq, decide_eq_true_eq]
  constructor
  · rintro ⟨h1, h2⟩; exact ⟨by have h1 : t.key.length ≤ 100 := h1; omega, h2⟩
  · rintro ⟨h1, h2⟩; exact ⟨show t.key.length ≤ 100 by omega, h2⟩
theorem small_b (r : RepV) : decide (Small r.er) = (((decide ((r.key.length : Int) ≤ 100) && decide ((r.out.need.length : Int) ≤ 100)) && decide ((r.out.text.length : Int) ≤ 100)) && decide (FewP (grE zSl) r.out.files.xs)) := by
  rw [Bool.eq_iff_iff]
  simp only [Bool.and_eq_true, decide_eq_true_eq]
  constructor
  · rintro ⟨h1, h2, h3, h4⟩
    have h1 : r.key.length ≤ 100 := h1
    have h2 : r.out.need.length ≤ 100 := h2
    have h3 : r.out.text.length ≤ 100 := h3
    exact ⟨⟨⟨by omega, by omega⟩, by omega⟩, h4⟩
  · rintro ⟨⟨⟨h1, h2⟩, h3⟩, h4⟩
    exact ⟨show r.key.length ≤ 100 by omega, show r.out.need.length ≤ 100 by omega, show r.out.text.length ≤ 100 by omega, h4⟩
set_option maxHeartbeats 1000000 in
theorem few_c (s : Sl OpV) :
    Ctr Tryd.prog 24 #[vSl s] [rsl s.a s.xs.length 9 (s.xs.flatMap encOp), opL s.xs] [] (fun _ : Unit => True) (fun _ => vB (decide (FewL (opsE s)))) (fun _ => []) := by
  refine spec_start (n := 73) [(0, vSl s)] Tryd.func24 rfl rfl ⟨rfl, trivial⟩ rfl ?_
  intro w0 K hR
  have hA := hR (rsl s.a s.xs.length 9 (s.xs.flatMap encOp)) (by simp)
  have hT := opl_ro (hR (opL s.xs) (by simp))
  have hgl : (opsE s).length = s.xs.length := List.length_map _
  have hz1 : Ro w0 K (rsl (zSl : Sl TgV).a (zSl : Sl TgV).xs.length 4 ((zSl : Sl TgV).xs.flatMap encTg)) := ro_z
  have hz2 : Ro w0 K (tgsA (zSl : Sl TgV).xs) := ro_t0
  refine wc_seq ?_
  refine wc_region ?_
  refine wl_y rfl (y_assign rfl) ?_
  refine wl_nil ?_
  refine wq_then ?_
  refine wc_seq ?_
  refine wc_seq ?_
  refine wc_region ?_
  refine wl_y rfl (y_move rfl) ?_
  refine wl_y rfl (y_lenSl Tryd.underlying52 rfl) ?_
  refine wl_y rfl (y_gtr rfl rfl) ?_
  refine wl_nil ?_
  refine wq_then ?_
  refine wc_cond rfl (fun hc6 => ?_) (fun hc6 => ?_)
  ·
    simp at hc6
    refine wc_seq ?_
    refine wc_region ?_
    refine wl_y rfl (y_assign rfl) ?_
    refine wl_nil ?_
    refine wq_then ?_
    refine wc_ret ?_
    refine wq_then_ret ?_
    refine wq_ret1 rfl rfl (fun w hw => ?_)
    exact ⟨(), trivial, by rw [decide_eq_false (fun h => by have h1 := h.1; rw [hgl] at h1; omega)], hw⟩
  ·
    simp at hc6
    refine wc_skip ?_
    refine wq_then ?_
    refine wc_seq ?_
    refine wc_seq ?_
    refine wc_region ?_
    refine wl_y rfl (y_assign rfl) ?_
    refine wl_nil ?_
    refine wq_then ?_
    refine wc_block ?_
    refine wc_loop (α := Nat) (fun y => y ≤ s.xs.length ∧ ∀ j z, j < y → s.xs[j]? = some z → FewO z.er) [(0, _)] (fun y => [(3, vI y)]) (fun y => Hp w0 K []) (fun y => s.xs.length - y) 0 ?_ ⟨rfl, rfl, trivial⟩ ?_ ?_
    · exact ⟨Nat.zero_le _, fun j _ hj => absurd hj (Nat.not_lt_zero _)⟩
    · exact fun w hw => hw
    · rintro i ⟨hi, hall⟩
      refine wc_seq ?_
      refine wc_seq ?_
      refine wc_region ?_
      refine wl_y rfl (y_move rfl) ?_
      refine wl_y rfl (y_move rfl) ?_
      refine wl_y rfl (y_lenSl Tryd.underlying52 rfl) ?_
      refine wl_y rfl (y_lss rfl rfl) ?_
      refine wl_nil ?_
      refine wq_then ?_
      refine wc_cond rfl (fun hc10 => ?_) (fun hc10 => ?_)
      ·
        simp at hc10
        refine wc_skip ?_
        refine wq_then ?_
        refine wc_seq ?_
        refine wc_block ?_
        refine wc_seq ?_
        refine wc_quiet MO (by kernel_rfl) (Hp.drawless _ _ _) ?_
        obtain ⟨x, hx⟩ : ∃ x, s.xs[i]? = some x := ⟨_, List.getElem?_eq_getElem (by omega)⟩
        have hxm := List.mem_of_getElem? hx
        obtain ⟨hG, hF, hC⟩ := op_ro (hT x hxm)
        obtain ⟨hG1, hG2⟩ := graph_ro2 hG
        refine wt_y rfl (y_move rfl) ?_
        refine wt_y rfl (y_move rfl) ?_
        refine wt_y rfl (y_indexAddr Tryd.underlying52 T47 rfl rfl rfl (by omega) (by first | assumption | exact fun _ _ => rfl | exact fun _ _ => hA.isSome (by omega) | exact fun w hw => hw.slc_isSome [] (by omega) | exact fun w hw => hw.slc_isSome [_] (by omega) | exact fun w hw => hw.slc_isSome [_, _] (by omega) | exact fun w hw => hw.slc_isSome [_, _, _] (by omega))) ?_
        refine wt_y rfl (y_fieldAddr_adr F47_1 rfl) ?_
        refine wt_y rfl (y_load NA43 rfl (cell_ro hA (rows_get encOp_len hx rfl))) ?_
        refine wt_y rfl (y_move rfl) ?_
        refine wt_y rfl (y_move rfl) ?_
        refine wt_y rfl (y_indexAddr Tryd.underlying52 T47 rfl rfl rfl (by omega) (by first | assumption | exact fun _ _ => rfl | exact fun _ _ => hA.isSome (by omega) | exact fun w hw => hw.slc_isSome [] (by omega) | exact fun w hw => hw.slc_isSome [_] (by omega) | exact fun w hw => hw.slc_isSome [_, _] (by omega) | exact fun w hw => hw.slc_isSome [_, _, _] (by omega))) ?_
        refine wt_y rfl (y_fieldAddr_adr F47_2 rfl) ?_
        refine wt_y rfl (y_load NA22 rfl (cell_ro hA (rows_get encOp_len hx rfl))) ?_
        refine wt_c (fun _ _ => want_none) rfl (yq_spec (fst := []) (cap := []) _ FN29 (few1_c x.graph x.snap) rfl rfl rfl (by (repeat (first | exact pt_nil | apply pt0 | apply pt1 | apply pt2 | apply pt3 | apply pt4 | apply pt5 | apply pt6 | apply pt7 | apply pt8 | apply pt9 | apply pt10 | apply pt11 | apply pt12 | apply pt13 | apply pt14 | apply pt15 | apply pt16 | apply pt17))) (by (repeat (first | exact ro_nil | exact ro_rest (by assumption) | refine ro_cons (by first | exact .inl (by assumption) | exact ro_f0 (fun _ h => h) | exact ro_f0 (fun _ => slc_rsl) | exact ro_f1 (fun _ h => h) | exact ro_f1 (fun _ => slc_rsl) | exact ro_f2 (fun _ h => h) | exact ro_f2 (fun _ => slc_rsl) | exact ro_f3 (fun _ h => h) | exact ro_f3 (fun _ => slc_rsl) | exact ro_f4 (fun _ h => h) | exact ro_f4 (fun _ => slc_rsl) | exact ro_f5 (fun _ h => h) | exact ro_f5 (fun _ => slc_rsl) | exact ro_f6 (fun _ h => h) | exact ro_f6 (fun _ => slc_rsl)) ?_))) (fun _ _ => rfl) (fun _ _ _ h => h.sub (by (repeat (first | exact pt_nil | apply pt0 | apply pt1 | apply pt2 | apply pt3 | apply pt4 | apply pt5 | apply pt6 | apply pt7 | apply pt8 | apply pt9 | apply pt10 | apply pt11 | apply pt12 | apply pt13 | apply pt14 | apply pt15 | apply pt16 | apply pt17))))) ?_
        refine wt_y rfl (y_not rfl) ?_
        refine wt_y rfl (y_move rfl) ?_
        apply wt_or 9 34 [(0, _), (3, _)] (t := 25) rfl ⟨rfl, rfl, trivial⟩
        · intro hg25 hM34
          refine wt_sk rfl rfl rfl rfl ?_
          refine wt_sk rfl rfl rfl rfl ?_
          refine wt_sk rfl rfl rfl rfl ?_
          refine wt_sk rfl rfl rfl rfl ?_
          refine wt_sk rfl rfl rfl rfl ?_
          refine wt_sk rfl rfl rfl rfl ?_
          refine wt_sk rfl rfl rfl rfl ?_
          refine wt_sk rfl rfl rfl rfl ?_
          refine wt_y rfl (y_pick_t rfl rfl) ?_
          exact wt_weaken hM34 ⟨rfl, rfl, rfl, trivial⟩
        · intro hg25 hM34
          try (simp at hg25)
          refine wt_yg rfl rfl rfl (y_move rfl) ?_
          refine wt_yg rfl rfl rfl (y_move rfl) ?_
          refine wt_yg rfl rfl rfl (y_indexAddr Tryd.underlying52 T47 rfl rfl rfl (by omega) (by first | assumption | exact fun _ _ => rfl | exact fun _ _ => hA.isSome (by omega) | exact fun w hw => hw.slc_isSome [] (by omega) | exact fun w hw => hw.slc_isSome [_] (by omega) | exact fun w hw => hw.slc_isSome [_, _] (by omega) | exact fun w hw => hw.slc_isSome [_, _, _] (by omega))) ?_
          refine wt_yg rfl rfl rfl (y_fieldAddr_adr F47_5 rfl) ?_
          refine wt_yg rfl rfl rfl (y_fieldAddr_adr F45_3 rfl) ?_
          refine wt_yg rfl rfl rfl (y_load NA22 rfl (cell_ro hA (by rw [Nat.add_assoc]; exact rows_get encOp_len hx rfl))) ?_
          refine wt_c (want_some rfl rfl) rfl (yq_spec (fst := []) (cap := []) _ FN29 (few1_c zSl x.res.files) rfl rfl rfl (by (repeat (first | exact pt_nil | apply pt0 | apply pt1 | apply pt2 | apply pt3 | apply pt4 | apply pt5 | apply pt6 | apply pt7 | apply pt8 | apply pt9 | apply pt10 | apply pt11 | apply pt12 | apply pt13 | apply pt14 | apply pt15 | apply pt16 | apply pt17))) (by (repeat (first | exact ro_nil | exact ro_rest (by assumption) | refine ro_cons (by first | exact .inl (by assumption) | exact ro_f0 (fun _ h => h) | exact ro_f0 (fun _ => slc_rsl) | exact ro_f1 (fun _ h => h) | exact ro_f1 (fun _ => slc_rsl) | exact ro_f2 (fun _ h => h) | exact ro_f2 (fun _ => slc_rsl) | exact ro_f3 (fun _ h => h) | exact ro_f3 (fun _ => slc_rsl) | exact ro_f4 (fun _ h => h) | exact ro_f4 (fun _ => slc_rsl) | exact ro_f5 (fun _ h => h) | exact ro_f5 (fun _ => slc_rsl) | exact ro_f6 (fun _ h => h) | exact ro_f6 (fun _ => slc_rsl)) ?_))) (fun _ _ => rfl) (fun _ _ _ h => h.sub (by (repeat (first | exact pt_nil | apply pt0 | apply pt1 | apply pt2 | apply pt3 | apply pt4 | apply pt5 | apply pt6 | apply pt7 | apply pt8 | apply pt9 | apply pt10 | apply pt11 | apply pt12 | apply pt13 | apply pt14 | apply pt15 | apply pt16 | apply pt17))))) ?_
          refine wt_yg rfl rfl rfl (y_not rfl) ?_
          refine wt_y rfl (y_pick_f rfl rfl) ?_
          exact wt_weaken hM34 ⟨rfl, rfl, rfl, trivial⟩
        ·
          refine wt_y rfl (y_move rfl) ?_
          apply wt_or 8 43 [(0, _), (3, _)] (t := 35) rfl ⟨rfl, rfl, trivial⟩
          · intro hg35 hM43
            refine wt_sk rfl rfl rfl rfl ?_
            refine wt_sk rfl rfl rfl rfl ?_
            refine wt_sk rfl rfl rfl rfl ?_
            refine wt_sk rfl rfl rfl rfl ?_
            refine wt_sk rfl rfl rfl rfl ?_
            refine wt_sk rfl rfl rfl rfl ?_
            refine wt_sk rfl rfl rfl rfl ?_
            refine wt_y rfl (y_pick_t rfl rfl) ?_
            exact wt_weaken hM43 ⟨rfl, rfl, rfl, trivial⟩
          · intro hg35 hM43
            try (simp at hg35)
            refine wt_yg rfl rfl rfl (y_move rfl) ?_
            refine wt_yg rfl rfl rfl (y_move rfl) ?_
            refine wt_yg rfl rfl rfl (y_indexAddr Tryd.underlying52 T47 rfl rfl rfl (by omega) (by first | assumption | exact fun _ _ => rfl | exact fun _ _ => hA.isSome (by omega) | exact fun w hw => hw.slc_isSome [] (by omega) | exact fun w hw => hw.slc_isSome [_] (by omega) | exact fun w hw => hw.slc_isSome [_, _] (by omega) | exact fun w hw => hw.slc_isSome [_, _, _] (by omega))) ?_
            refine wt_yg rfl rfl rfl (y_fieldAddr_adr F47_0 rfl) ?_
            refine wt_yg rfl rfl rfl (y_load NA9 rfl (cell_ro hA (rows_get encOp_len hx rfl))) ?_
            refine wt_yg rfl rfl rfl (y_lenS Tryd.underlying9 rfl) ?_
            refine wt_yg rfl rfl rfl (y_gtr rfl rfl) ?_
            refine wt_y rfl (y_pick_f rfl rfl) ?_
            exact wt_weaken hM43 ⟨rfl, rfl, rfl, trivial⟩
          ·
            refine wt_y rfl (y_move rfl) ?_
            apply wt_or 8 52 [(0, _), (3, _)] (t := 44) rfl ⟨rfl, rfl, trivial⟩
            · intro hg44 hM52
              refine wt_sk rfl rfl rfl rfl ?_
              refine wt_sk rfl rfl rfl rfl ?_
              refine wt_sk rfl rfl rfl rfl ?_
              refine wt_sk rfl rfl rfl rfl ?_
              refine wt_sk rfl rfl rfl rfl ?_
              refine wt_sk rfl rfl rfl rfl ?_
              refine wt_sk rfl rfl rfl rfl ?_
              refine wt_y rfl (y_pick_t rfl rfl) ?_
              exact wt_weaken hM52 ⟨rfl, rfl, rfl, trivial⟩
            · intro hg44 hM52
              try (simp at hg44)
              refine wt_yg rfl rfl rfl (y_move rfl) ?_
              refine wt_yg rfl rfl rfl (y_move rfl) ?_
              refine wt_yg rfl rfl rfl (y_indexAddr Tryd.underlying52 T47 rfl rfl rfl (by omega) (by first | assumption | exact fun _ _ => rfl | exact fun _ _ => hA.isSome (by omega) | exact fun w hw => hw.slc_isSome [] (by omega) | exact fun w hw => hw.slc_isSome [_] (by omega) | exact fun w hw => hw.slc_isSome [_, _] (by omega) | exact fun w hw => hw.slc_isSome [_, _, _] (by omega))) ?_
              refine wt_yg rfl rfl rfl (y_fieldAddr_adr F47_3 rfl) ?_
              refine wt_yg rfl rfl rfl (y_load NA9 rfl (cell_ro hA (rows_get encOp_len hx rfl))) ?_
              refine wt_yg rfl rfl rfl (y_lenS Tryd.underlying9 rfl) ?_
              refine wt_yg rfl rfl rfl (y_gtr rfl rfl) ?_
              refine wt_y rfl (y_pick_f rfl rfl) ?_
              exact wt_weaken hM52 ⟨rfl, rfl, rfl, trivial⟩
            ·
              refine wt_y rfl (y_move rfl) ?_
              apply wt_or 9 62 [(0, _), (3, _)] (t := 53) rfl ⟨rfl, rfl, trivial⟩
              · intro hg53 hM62
                refine wt_sk rfl rfl rfl rfl ?_
                refine wt_sk rfl rfl rfl rfl ?_
                refine wt_sk rfl rfl rfl rfl ?_
                refine wt_sk rfl rfl rfl rfl ?_
                refine wt_sk rfl rfl rfl rfl ?_
                refine wt_sk rfl rfl rfl rfl ?_
                refine wt_sk rfl rfl rfl rfl ?_
                refine wt_sk rfl rfl rfl rfl ?_
                refine wt_y rfl (y_pick_t rfl rfl) ?_
                exact wt_weaken hM62 ⟨rfl, rfl, rfl, trivial⟩
              · intro hg53 hM62
                try (simp at hg53)
                refine wt_yg rfl rfl rfl (y_move rfl) ?_
                refine wt_yg rfl rfl rfl (y_move rfl) ?_
                refine wt_yg rfl rfl rfl (y_indexAddr Tryd.underlying52 T47 rfl rfl rfl (by omega) (by first | assumption | exact fun _ _ => rfl | exact fun _ _ => hA.isSome (by omega) | exact fun w hw => hw.slc_isSome [] (by omega) | exact fun w hw => hw.slc_isSome [_] (by omega) | exact fun w hw => hw.slc_isSome [_, _] (by omega) | exact fun w hw => hw.slc_isSome [_, _, _] (by omega))) ?_
                refine wt_yg rfl rfl rfl (y_fieldAddr_adr F47_5 rfl) ?_
                refine wt_yg rfl rfl rfl (y_fieldAddr_adr F45_1 rfl) ?_
                refine wt_yg rfl rfl rfl (y_load NA9 rfl (cell_ro hA (by rw [Nat.add_assoc]; exact rows_get encOp_len hx rfl))) ?_
                refine wt_yg rfl rfl rfl (y_lenS Tryd.underlying9 rfl) ?_
                refine wt_yg rfl rfl rfl (y_gtr rfl rfl) ?_
                refine wt_y rfl (y_pick_f rfl rfl) ?_
                exact wt_weaken hM62 ⟨rfl, rfl, rfl, trivial⟩
              ·
                refine wt_y rfl (y_move rfl) ?_
                apply wt_or 9 72 [(0, _), (3, _)] (t := 63) rfl ⟨rfl, rfl, trivial⟩
                · intro hg63 hM72
                  refine wt_sk rfl rfl rfl rfl ?_
                  refine wt_sk rfl rfl rfl rfl ?_
                  refine wt_sk rfl rfl rfl rfl ?_
                  refine wt_sk rfl rfl rfl rfl ?_
                  refine wt_sk rfl rfl rfl rfl ?_
                  refine wt_sk rfl rfl rfl rfl ?_
                  refine wt_sk rfl rfl rfl rfl ?_
                  refine wt_sk rfl rfl rfl rfl ?_
                  refine wt_y rfl (y_pick_t rfl rfl) ?_
                  exact wt_weaken hM72 ⟨rfl, rfl, rfl, trivial⟩
                · intro hg63 hM72
                  try (simp at hg63)
                  refine wt_yg rfl rfl rfl (y_move rfl) ?_
                  refine wt_yg rfl rfl rfl (y_move rfl) ?_
                  refine wt_yg rfl rfl rfl (y_indexAddr Tryd.underlying52 T47 rfl rfl rfl (by omega) (by first | assumption | exact fun _ _ => rfl | exact fun _ _ => hA.isSome (by omega) | exact fun w hw => hw.slc_isSome [] (by omega) | exact fun w hw => hw.slc_isSome [_] (by omega) | exact fun w hw => hw.slc_isSome [_, _] (by omega) | exact fun w hw => hw.slc_isSome [_, _, _] (by omega))) ?_
                  refine wt_yg rfl rfl rfl (y_fieldAddr_adr F47_5 rfl) ?_
                  refine wt_yg rfl rfl rfl (y_fieldAddr_adr F45_2 rfl) ?_
                  refine wt_yg rfl rfl rfl (y_load NA9 rfl (cell_ro hA (by rw [Nat.add_assoc]; exact rows_get encOp_len hx rfl))) ?_
                  refine wt_yg rfl rfl rfl (y_lenS Tryd.underlying9 rfl) ?_
                  refine wt_yg rfl rfl rfl (y_gtr rfl rfl) ?_
                  refine wt_y rfl (y_pick_f rfl rfl) ?_
                  exact wt_weaken hM72 ⟨rfl, rfl, rfl, trivial⟩
                ·
                  refine wt_nil ?_
                  refine wq_then ?_
                  refine wc_cond rfl (fun hc72 => ?_) (fun hc72 => ?_)
                  ·
                    simp at hc72
                    refine wc_seq ?_
                    refine wc_region ?_
                    refine wl_y rfl (y_assign rfl) ?_
                    refine wl_nil ?_
                    refine wq_then ?_
                    refine wc_ret ?_
                    refine wq_block_ret (wq_then_ret (wq_then_ret (wq_block_ret (wq_then_ret ?_))))
                    refine wq_ret1 rfl rfl (fun w hw => ?_)
                    exact ⟨(), trivial, by rw [decide_eq_false (fun h => by obtain ⟨h1, h2, h3, h4, h5, h6⟩ := few_o' (h.2 x.er (List.mem_map.2 ⟨x, hxm, rfl⟩)); simp only [h1, h2, not_true_eq_false, false_or] at hc72; omega)], hw⟩
                  ·
                    simp at hc72
                    refine wc_skip ?_
                    refine wq_block_normal ?_
                    refine wq_then ?_
                    refine wc_region ?_
                    refine wl_y rfl (y_move rfl) ?_
                    refine wl_y rfl (y_add rfl rfl (by omega)) ?_
                    refine wl_y rfl (y_assign rfl) ?_
                    refine wl_nil ?_
                    obtain ⟨⟨⟨⟨⟨h1, h2⟩, h3⟩, h4⟩, h5⟩, h6⟩ := hc72
                    exact wq_round (i + 1) (by omega) ⟨by omega, step_of (p := fun z : OpV => FewO z.er) hall hx (few_o h1 h2 (by omega) (by omega) (by omega) (by omega))⟩ ⟨rfl, rfl, trivial⟩ (fun w hw => hw)
      ·
        simp at hc10
        refine wc_exit ?_
        refine wq_then_exit (wq_then_exit (wq_block_exit ?_))
        refine wq_then ?_
        refine wc_seq ?_
        refine wc_region ?_
        refine wl_y rfl (y_assign rfl) ?_
        refine wl_nil ?_
        refine wq_then ?_
        refine wc_ret ?_
        refine wq_ret1 rfl rfl (fun w hw => ?_)
        exact ⟨(), trivial, by rw [decide_eq_true (show FewL (opsE s) from ⟨by rw [hgl]; omega, fun p hp => by obtain ⟨t, ht, rfl⟩ := List.mem_map.1 hp; exact all_of_step (p := fun z : OpV => FewO z.er) hall (by omega) t ht⟩)], hw⟩

set_option maxHeartbeats 1000000 in
theorem little_c (t : TaskV) :
    Ctr Tryd.prog 11 #[.agg (encK t).toArray] [taskA t] [] (fun _ : Unit => True) (fun _ => vB (decide (Little t.er))) (fun _ => []) := by
  refine spec_start (n := 18) [(0, .agg (encK t).toArray)] Tryd.func11 rfl rfl ⟨rfl, trivial⟩ rfl ?_
  intro w0 K hR
  obtain ⟨hF, hN⟩ := task_ro (hR (taskA t) (by simp))
  have hT1 : Ro w0 K (tgsA [(⟨[], t.cmd, t.names, zSl⟩ : TgV)]) := all_ro (As := [_, _]) (fun A hA => by
    simp only [List.mem_cons, List.not_mem_nil, or_false] at hA
    rcases hA with rfl | rfl
    · exact hN
    · exact ro_z)
  refine wc_seq ?_
  refine wc_region ?_
  refine wl_w (fun _ _ => want_none) rfl (yw_box rfl rfl) (wl_ex fun b1 _ => ?_)
  refine wl_y rfl (y_assign rfl) ?_
  refine wl_nil ?_
  refine wq_then ?_
  refine wc_seq ?_
  refine wc_region ?_
  refine wl_y rfl (y_fieldAddr F25_0 rfl) ?_
  refine wl_y rfl (y_load NA9 rfl (by first | exact cell_blk [] rfl | exact cell_blk [_] rfl | exact cell_blk [_, _] rfl | exact cell_blk [_, _, _] rfl | exact cellR_blk (by assumption) rfl)) ?_
  refine wl_y rfl (y_lenS Tryd.underlying9 rfl) ?_
  refine wl_y rfl (y_leq rfl rfl) ?_
  refine wl_y rfl (y_move rfl) ?_
  refine wl_case 7 rfl (fun hg7 => ?_) (fun hg7 => ?_)
  ·
    simp at hg7
    refine wl_yg rfl rfl rfl (y_fieldAddr F25_2 rfl) ?_
    refine wl_yg rfl rfl rfl (y_load NA9 rfl (by first | exact cell_blk [] rfl | exact cell_blk [_] rfl | exact cell_blk [_, _] rfl | exact cell_blk [_, _, _] rfl | exact cellR_blk (by assumption) rfl)) ?_
    refine wl_yg rfl rfl rfl (y_fieldAddr F25_4 rfl) ?_
    refine wl_yg rfl rfl rfl (y_load NA23 rfl (by first | exact cell_blk [] rfl | exact cell_blk [_] rfl | exact cell_blk [_, _] rfl | exact cell_blk [_, _, _] rfl | exact cellR_blk (by assumption) rfl)) ?_
    refine wl_yg rfl rfl rfl (y_build (cs := [_, _, _, _]) T64 PL64 rfl rfl rfl) ?_
    refine wl_w (want_some rfl rfl) rfl (yw_buildSlice (cs := [_, _, _, _]) Tryd.underlying43 T64 rfl rfl rfl rfl rfl rfl rfl) (wl_ex fun b13 _ => ?_)
    refine wl_yg rfl rfl rfl (y_fieldAddr F25_3 rfl) ?_
    refine wl_yg rfl rfl rfl (y_load NA22 rfl (by first | exact cell_blk [] rfl | exact cell_blk [_] rfl | exact cell_blk [_, _] rfl | exact cell_blk [_, _, _] rfl | exact cellR_blk (by assumption) rfl)) ?_
    refine wl_q (want_some rfl rfl) rfl (yq_spec (fst := []) (cap := []) _ FN29 (few1_c ⟨some ⟨b13, 0, none⟩, 1, [⟨[], t.cmd, t.names, zSl⟩]⟩ t.files) rfl rfl rfl (by (repeat (first | exact pt_nil | apply pt0 | apply pt1 | apply pt2 | apply pt3 | apply pt4 | apply pt5 | apply pt6 | apply pt7 | apply pt8 | apply pt9 | apply pt10 | apply pt11 | apply pt12 | apply pt13 | apply pt14 | apply pt15 | apply pt16 | apply pt17))) (by (repeat (first | exact ro_nil | exact ro_rest (by assumption) | refine ro_cons (by first | exact .inl (by assumption) | exact ro_f0 (fun _ h => h) | exact ro_f0 (fun _ => slc_rsl) | exact ro_f1 (fun _ h => h) | exact ro_f1 (fun _ => slc_rsl) | exact ro_f2 (fun _ h => h) | exact ro_f2 (fun _ => slc_rsl) | exact ro_f3 (fun _ h => h) | exact ro_f3 (fun _ => slc_rsl) | exact ro_f4 (fun _ h => h) | exact ro_f4 (fun _ => slc_rsl) | exact ro_f5 (fun _ h => h) | exact ro_f5 (fun _ => slc_rsl) | exact ro_f6 (fun _ h => h) | exact ro_f6 (fun _ => slc_rsl)) ?_))) (fun _ _ => rfl) (fun _ _ _ h => h.sub (by (repeat (first | exact pt_nil | apply pt0 | apply pt1 | apply pt2 | apply pt3 | apply pt4 | apply pt5 | apply pt6 | apply pt7 | apply pt8 | apply pt9 | apply pt10 | apply pt11 | apply pt12 | apply pt13 | apply pt14 | apply pt15 | apply pt16 | apply pt17))))) ?_
    refine wl_y rfl (y_pick_t rfl rfl) ?_
    refine wl_y rfl (y_assign rfl) ?_
    refine wl_nil ?_
    refine wq_then ?_
    refine wc_ret ?_
    refine wq_ret1 rfl rfl (fun w hw => ?_)
    exact ⟨(), trivial, by rw [little_b, decide_eq_true (by omega : (t.key.length : Int) ≤ 100), Bool.true_and]; rfl, hw.bare⟩
  ·
    simp at hg7
    refine wl_sk rfl rfl rfl rfl ?_
    refine wl_sk rfl rfl rfl rfl ?_
    refine wl_sk rfl rfl rfl rfl ?_
    refine wl_sk rfl rfl rfl rfl ?_
    refine wl_sk rfl rfl rfl rfl ?_
    refine wl_sk rfl rfl rfl rfl ?_
    refine wl_sk rfl rfl rfl rfl ?_
    refine wl_sk rfl rfl rfl rfl ?_
    refine wl_sk rfl rfl rfl rfl ?_
    refine wl_y rfl (y_pick_f rfl rfl) ?_
    refine wl_y rfl (y_assign rfl) ?_
    refine wl_nil ?_
    refine wq_then ?_
    refine wc_ret ?_
    refine wq_ret1 rfl rfl (fun w hw => ?_)
    exact ⟨(), trivial, by rw [little_b, decide_eq_false (by omega : ¬ (t.key.length : Int) ≤ 100)]; rfl, hw.bare⟩

set_option maxHeartbeats 1000000 in
theorem small_c (r : RepV) :
    Ctr Tryd.prog 12 #[.agg (encP r).toArray] [filesA r.out.files] [] (fun _ : Unit => True) (fun _ => vB (decide (Small r.er))) (fun _ => []) := by
  refine spec_start (n := 27) [(0, .agg (encP r).toArray)] Tryd.func12 rfl rfl ⟨rfl, trivial⟩ rfl ?_
  intro w0 K hR
  have hF := hR (filesA r.out.files) (by simp)
  have hz1 : Ro w0 K (rsl (zSl : Sl TgV).a (zSl : Sl TgV).xs.length 4 ((zSl : Sl TgV).xs.flatMap encTg)) := ro_z
  have hz2 : Ro w0 K (tgsA (zSl : Sl TgV).xs) := ro_t0
  refine wc_seq ?_
  refine wc_region ?_
  refine wl_w (fun _ _ => want_none) rfl (yw_box rfl rfl) (wl_ex fun b1 _ => ?_)
  refine wl_y rfl (y_assign rfl) ?_
  refine wl_nil ?_
  refine wq_then ?_
  refine wc_seq ?_
  refine wc_region ?_
  refine wl_y rfl (y_fieldAddr F30_0 rfl) ?_
  refine wl_y rfl (y_load NA9 rfl (by first | exact cell_blk [] rfl | exact cell_blk [_] rfl | exact cell_blk [_, _] rfl | exact cell_blk [_, _, _] rfl | exact cellR_blk (by assumption) rfl)) ?_
  refine wl_y rfl (y_lenS Tryd.underlying9 rfl) ?_
  refine wl_y rfl (y_leq rfl rfl) ?_
  refine wl_y rfl (y_move rfl) ?_
  apply wl_and 6 13 [(1, _)] (t := 7) rfl ⟨rfl, trivial⟩
  · intro hg7 hM13
    try (simp at hg7)
    refine wl_yg rfl rfl rfl (y_fieldAddr F30_2 rfl) ?_
    refine wl_yg rfl rfl rfl (y_fieldAddr F28_2 rfl) ?_
    refine wl_yg rfl rfl rfl (y_load NA9 rfl (by first | exact cell_blk [] rfl | exact cell_blk [_] rfl | exact cell_blk [_, _] rfl | exact cell_blk [_, _, _] rfl | exact cellR_blk (by assumption) rfl)) ?_
    refine wl_yg rfl rfl rfl (y_lenS Tryd.underlying9 rfl) ?_
    refine wl_yg rfl rfl rfl (y_leq rfl rfl) ?_
    refine wl_y rfl (y_pick_t rfl rfl) ?_
    exact wl_weaken hM13 ⟨rfl, rfl, trivial⟩
  · intro hg7 hM13
    refine wl_sk rfl rfl rfl rfl ?_
    refine wl_sk rfl rfl rfl rfl ?_
    refine wl_sk rfl rfl rfl rfl ?_
    refine wl_sk rfl rfl rfl rfl ?_
    refine wl_sk rfl rfl rfl rfl ?_
    refine wl_y rfl (y_pick_f rfl rfl) ?_
    exact wl_weaken hM13 ⟨rfl, rfl, trivial⟩
  ·
    refine wl_y rfl (y_move rfl) ?_
    apply wl_and 6 20 [(1, _)] (t := 14) rfl ⟨rfl, trivial⟩
    · intro hg14 hM20
      try (simp at hg14)
      refine wl_yg rfl rfl rfl (y_fieldAddr F30_2 rfl) ?_
      refine wl_yg rfl rfl rfl (y_fieldAddr F28_4 rfl) ?_
      refine wl_yg rfl rfl rfl (y_load NA9 rfl (by first | exact cell_blk [] rfl | exact cell_blk [_] rfl | exact cell_blk [_, _] rfl | exact cell_blk [_, _, _] rfl | exact cellR_blk (by assumption) rfl)) ?_
      refine wl_yg rfl rfl rfl (y_lenS Tryd.underlying9 rfl) ?_
      refine wl_yg rfl rfl rfl (y_leq rfl rfl) ?_
      refine wl_y rfl (y_pick_t rfl rfl) ?_
      exact wl_weaken hM20 ⟨rfl, rfl, trivial⟩
    · intro hg14 hM20
      refine wl_sk rfl rfl rfl rfl ?_
      refine wl_sk rfl rfl rfl rfl ?_
      refine wl_sk rfl rfl rfl rfl ?_
      refine wl_sk rfl rfl rfl rfl ?_
      refine wl_sk rfl rfl rfl rfl ?_
      refine wl_y rfl (y_pick_f rfl rfl) ?_
      exact wl_weaken hM20 ⟨rfl, rfl, trivial⟩
    ·
      refine wl_y rfl (y_move rfl) ?_
      apply wl_and 5 26 [] (t := 21) rfl trivial
      · intro hg21 hM26
        try (simp at hg21)
        refine wl_yg rfl rfl rfl (y_fieldAddr F30_2 rfl) ?_
        refine wl_yg rfl rfl rfl (y_fieldAddr F28_1 rfl) ?_
        refine wl_yg rfl rfl rfl (y_load NA22 rfl (by first | exact cell_blk [] rfl | exact cell_blk [_] rfl | exact cell_blk [_, _] rfl | exact cell_blk [_, _, _] rfl | exact cellR_blk (by assumption) rfl)) ?_
        refine wl_q (want_some rfl rfl) rfl (yq_spec (fst := []) (cap := []) _ FN29 (few1_c zSl r.out.files) rfl rfl rfl (by (repeat (first | exact pt_nil | apply pt0 | apply pt1 | apply pt2 | apply pt3 | apply pt4 | apply pt5 | apply pt6 | apply pt7 | apply pt8 | apply pt9 | apply pt10 | apply pt11 | apply pt12 | apply pt13 | apply pt14 | apply pt15 | apply pt16 | apply pt17))) (by (repeat (first | exact ro_nil | exact ro_rest (by assumption) | refine ro_cons (by first | exact .inl (by assumption) | exact ro_f0 (fun _ h => h) | exact ro_f0 (fun _ => slc_rsl) | exact ro_f1 (fun _ h => h) | exact ro_f1 (fun _ => slc_rsl) | exact ro_f2 (fun _ h => h) | exact ro_f2 (fun _ => slc_rsl) | exact ro_f3 (fun _ h => h) | exact ro_f3 (fun _ => slc_rsl) | exact ro_f4 (fun _ h => h) | exact ro_f4 (fun _ => slc_rsl) | exact ro_f5 (fun _ h => h) | exact ro_f5 (fun _ => slc_rsl) | exact ro_f6 (fun _ h => h) | exact ro_f6 (fun _ => slc_rsl)) ?_))) (fun _ _ => rfl) (fun _ _ _ h => h.sub (by (repeat (first | exact pt_nil | apply pt0 | apply pt1 | apply pt2 | apply pt3 | apply pt4 | apply pt5 | apply pt6 | apply pt7 | apply pt8 | apply pt9 | apply pt10 | apply pt11 | apply pt12 | apply pt13 | apply pt14 | apply pt15 | apply pt16 | apply pt17))))) ?_
        refine wl_y rfl (y_pick_t rfl rfl) ?_
        exact wl_weaken hM26 ⟨rfl, trivial⟩
      · intro hg21 hM26
        refine wl_sk rfl rfl rfl rfl ?_
        refine wl_sk rfl rfl rfl rfl ?_
        refine wl_sk rfl rfl rfl rfl ?_
        refine wl_sk rfl rfl rfl rfl ?_
        refine wl_y rfl (y_pick_f rfl rfl) ?_
        exact wl_weaken hM26 ⟨rfl, trivial⟩
      ·
        refine wl_y rfl (y_assign rfl) ?_
        refine wl_nil ?_
        refine wq_then ?_
        refine wc_ret ?_
        refine wq_ret1 rfl rfl (fun w hw => ?_)
        exact ⟨(), trivial, by rw [small_b], hw.bare⟩

end Go.Proofs.YtbnahfjhlbibcaaDoor
