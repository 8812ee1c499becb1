/-
  Walks: what is not too great: targets and files.
-/
import Derived.Test.YtbnahfjhlbibcaaDoorWalkT
import Derived.Test.YtbnahfjhlbibcaaDoorFew
namespace Go.Proofs.YtbnahfjhlbibcaaDoor
open Go.Eng

open Go.Lib
theorem step_of {α : Type} {p : α → Prop} {l : List α} {i : Nat} {x : α} (hall : ∀ j z, j < i → l[j]? = some z → p z) (hx : l[i]? = some x) (hp : p x) : ∀ j z, j < i + 1 → l[j]? = some z → p z := fun j z hj hz => by
  rcases Nat.lt_or_ge j i with h | h
  · exact hall j z h hz
  · obtain rfl : j = i := by omega
    rw [hx] at hz; cases hz; exact hp
theorem all_of_step {α : Type} {p : α → Prop} {l : List α} {i : Nat} (hall : ∀ j z, j < i → l[j]? = some z → p z) (hi : l.length ≤ i) : ∀ x ∈ l, p x := fun x hx => by
  obtain ⟨j, hj⟩ := List.mem_iff_getElem?.1 hx
  exact hall j x (by have := (List.getElem?_eq_some_iff.1 hj).1; omega) hj
instance {n : Nat} {l : List Str} : Decidable (FewS n l) := by unfold FewS; infer_instance
instance {f : PF} : Decidable (FewF f) := by unfold FewF; infer_instance
instance {t : PT} : Decidable (FewT t) := by unfold FewT; infer_instance
instance {g : List PT} {f : List PF} : Decidable (FewP g f) := by unfold FewP; infer_instance
instance {x : PO} : Decidable (FewO x) := by unfold FewO; infer_instance
instance {l : List PO} : Decidable (FewL l) := by unfold FewL; infer_instance
instance {t : PK} : Decidable (Little t) := by unfold Little; infer_instance
instance {t : PP} : Decidable (Small t) := by unfold Small; infer_instance
theorem tgs_ro {w0 : World} {O : Nat → Prop} {l : List TgV} (h : Ro w0 O (tgsA l)) : ∀ t ∈ l, Ro w0 O (strsA t.deps) ∧ Ro w0 O (strsA t.srcs) := fun t ht =>
  ⟨ro_all h _ (List.mem_flatMap.2 ⟨t, ht, by simp⟩), ro_all h _ (List.mem_flatMap.2 ⟨t, ht, by simp⟩)⟩
theorem ro_z {w0 : World} {O : Nat → Prop} {n : Nat} : Ro w0 O (rsl none 0 n []) := ⟨[], ⟨by simp, .inl ⟨rfl, rfl⟩⟩, by simp⟩
theorem few_t {t : TgV} (h1 : t.name.length ≤ 100) (h2 : t.cmd.length ≤ 2000) (h3 : t.deps.xs.length ≤ 20) (h4 : ∀ x ∈ t.deps.xs, x.length ≤ 100) (h5 : t.srcs.xs.length ≤ 40) (h6 : ∀ x ∈ t.srcs.xs, x.length ≤ 100) : FewT t.er := ⟨⟨h1, h2⟩, ⟨h3, h4⟩, ⟨h5, h6⟩⟩
theorem few_t' {t : TgV} (h : FewT t.er) : t.name.length ≤ 100 ∧ t.cmd.length ≤ 2000 ∧ t.deps.xs.length ≤ 20 ∧ (∀ x ∈ t.deps.xs, x.length ≤ 100) ∧ t.srcs.xs.length ≤ 40 ∧ (∀ x ∈ t.srcs.xs, x.length ≤ 100) := ⟨h.1.1, h.1.2, h.2.1.1, h.2.1.2, h.2.2.1, h.2.2.2⟩
set_option maxHeartbeats 1000000 in
theorem few1_c (s : Sl TgV) (f : Sl PF) :
    Ctr Tryd.prog 29 #[vSl s, vSl f] [rsl s.a s.xs.length 4 (s.xs.flatMap encTg), tgsA s.xs, filesA f] [] (fun _ : Unit => True) (fun _ => vB (decide (FewP (grE s) f.xs))) (fun _ => []) := by
  refine spec_start (n := 119) [(0, vSl s), (1, vSl f)] Tryd.func29 rfl rfl ⟨rfl, rfl, trivial⟩ rfl ?_
  intro w0 K hR
  have hG := hR (rsl s.a s.xs.length 4 (s.xs.flatMap encTg)) (by simp)
  have hTT := tgs_ro (hR (tgsA s.xs) (by simp))
  have hF := hR (filesA f) (by simp)
  unfold filesA at hF
  have hgl : (grE s).length = s.xs.length := List.length_map _
  refine wc_seq ?_
  refine wc_region ?_
  refine wl_y rfl (y_assign rfl) ?_
  refine wl_nil ?_
  refine wq_then ?_
  refine wc_seq ?_
  refine wc_seq ?_
  refine wc_region ?_
  refine wl_y rfl (y_move rfl) ?_
  refine wl_y rfl (y_lenSl Tryd.underlying43 rfl) ?_
  refine wl_y rfl (y_gtr rfl rfl) ?_
  refine wl_y rfl (y_move rfl) ?_
  apply wl_or 4 16 [(0, _), (1, _)] (t := 12) rfl ⟨rfl, rfl, trivial⟩
  · intro hg12 hM16
    refine wl_sk rfl rfl rfl rfl ?_
    refine wl_sk rfl rfl rfl rfl ?_
    refine wl_sk rfl rfl rfl rfl ?_
    refine wl_y rfl (y_pick_t rfl rfl) ?_
    exact wl_weaken hM16 ⟨rfl, rfl, rfl, trivial⟩
  · intro hg12 hM16
    try (simp at hg12)
    refine wl_yg rfl rfl rfl (y_move rfl) ?_
    refine wl_yg rfl rfl rfl (y_lenSl Tryd.underlying22 rfl) ?_
    refine wl_yg rfl rfl rfl (y_gtr rfl rfl) ?_
    refine wl_y rfl (y_pick_f rfl rfl) ?_
    exact wl_weaken hM16 ⟨rfl, rfl, rfl, trivial⟩
  ·
    refine wl_nil ?_
    refine wq_then ?_
    refine wc_cond rfl (fun hc16 => ?_) (fun hc16 => ?_)
    ·
      simp at hc16
      refine wc_seq ?_
      refine wc_region ?_
      refine wl_y rfl (y_assign rfl) ?_
      refine wl_nil ?_
      refine wq_then ?_
      refine wc_ret ?_
      refine wq_then_ret ?_
      refine wq_ret1 rfl rfl (fun w hw => ?_)
      exact ⟨(), trivial, by rw [decide_eq_false (fun h => by have h1 := h.1; rw [hgl] at h1; omega)], hw⟩
    ·
      simp at hc16
      refine wc_skip ?_
      refine wq_then ?_
      refine wc_seq ?_
      refine wc_seq ?_
      refine wc_region ?_
      refine wl_y rfl (y_assign rfl) ?_
      refine wl_nil ?_
      refine wq_then ?_
      refine wc_block ?_
      refine wc_loop (α := Nat) (fun y => y ≤ f.xs.length ∧ ∀ j z, j < y → f.xs[j]? = some z → FewF z) [(0, _), (1, _)] (fun y => [(5, vI y)]) (fun y => Hp w0 K []) (fun y => f.xs.length - y) 0 ?_ ⟨rfl, rfl, rfl, trivial⟩ ?_ ?_
      · exact ⟨Nat.zero_le _, fun j _ hj => absurd hj (Nat.not_lt_zero _)⟩
      · exact fun w hw => hw
      · rintro i ⟨hi, hall⟩
        refine wc_seq ?_
        refine wc_seq ?_
        refine wc_region ?_
        refine wl_y rfl (y_move rfl) ?_
        refine wl_y rfl (y_move rfl) ?_
        refine wl_y rfl (y_lenSl Tryd.underlying22 rfl) ?_
        refine wl_y rfl (y_lss rfl rfl) ?_
        refine wl_nil ?_
        refine wq_then ?_
        refine wc_cond rfl (fun hc20 => ?_) (fun hc20 => ?_)
        ·
          simp at hc20
          refine wc_skip ?_
          refine wq_then ?_
          refine wc_seq ?_
          refine wc_block ?_
          refine wc_seq ?_
          refine wc_region ?_
          obtain ⟨x, hx⟩ : ∃ x, f.xs[i]? = some x := ⟨_, List.getElem?_eq_getElem (by omega)⟩
          refine wl_y rfl (y_move rfl) ?_
          refine wl_y rfl (y_move rfl) ?_
          refine wl_y rfl (y_indexAddr Tryd.underlying22 T104 rfl rfl rfl (by omega) (by first | assumption | exact fun _ _ => rfl | exact fun _ _ => hF.isSome (by omega) | exact fun _ _ => hG.isSome (by omega) | exact fun _ _ => hD.isSome (by omega) | exact fun _ _ => hS.isSome (by omega) | exact fun w hw => hw.slc_isSome [] (by omega) | exact fun w hw => hw.slc_isSome [_] (by omega) | exact fun w hw => hw.slc_isSome [_, _] (by omega) | exact fun w hw => hw.slc_isSome [_, _, _] (by omega))) ?_
          refine wl_y rfl (y_fieldAddr_adr F104_0 rfl) ?_
          refine wl_y rfl (y_load NA9 rfl (cell_ro hF (rows_get encF_len hx rfl))) ?_
          refine wl_y rfl (y_lenS Tryd.underlying9 rfl) ?_
          refine wl_y rfl (y_gtr rfl rfl) ?_
          refine wl_y rfl (y_move rfl) ?_
          apply wl_or 8 38 [(0, _), (1, _), (5, _)] (t := 30) rfl ⟨rfl, rfl, rfl, trivial⟩
          · intro hg30 hM38
            refine wl_sk rfl rfl rfl rfl ?_
            refine wl_sk rfl rfl rfl rfl ?_
            refine wl_sk rfl rfl rfl rfl ?_
            refine wl_sk rfl rfl rfl rfl ?_
            refine wl_sk rfl rfl rfl rfl ?_
            refine wl_sk rfl rfl rfl rfl ?_
            refine wl_sk rfl rfl rfl rfl ?_
            refine wl_y rfl (y_pick_t rfl rfl) ?_
            exact wl_weaken hM38 ⟨rfl, rfl, rfl, rfl, trivial⟩
          · intro hg30 hM38
            try (simp at hg30)
            refine wl_yg rfl rfl rfl (y_move rfl) ?_
            refine wl_yg rfl rfl rfl (y_move rfl) ?_
            refine wl_yg rfl rfl rfl (y_indexAddr Tryd.underlying22 T104 rfl rfl rfl (by omega) (by first | assumption | exact fun _ _ => rfl | exact fun _ _ => hF.isSome (by omega) | exact fun _ _ => hG.isSome (by omega) | exact fun _ _ => hD.isSome (by omega) | exact fun _ _ => hS.isSome (by omega) | exact fun w hw => hw.slc_isSome [] (by omega) | exact fun w hw => hw.slc_isSome [_] (by omega) | exact fun w hw => hw.slc_isSome [_, _] (by omega) | exact fun w hw => hw.slc_isSome [_, _, _] (by omega))) ?_
            refine wl_yg rfl rfl rfl (y_fieldAddr_adr F104_1 rfl) ?_
            refine wl_yg rfl rfl rfl (y_load NA9 rfl (cell_ro hF (rows_get encF_len hx rfl))) ?_
            refine wl_yg rfl rfl rfl (y_lenS Tryd.underlying9 rfl) ?_
            refine wl_yg rfl rfl rfl (y_gtr rfl rfl) ?_
            refine wl_y rfl (y_pick_f rfl rfl) ?_
            exact wl_weaken hM38 ⟨rfl, rfl, rfl, rfl, trivial⟩
          ·
            refine wl_nil ?_
            refine wq_then ?_
            refine wc_cond rfl (fun hc38 => ?_) (fun hc38 => ?_)
            ·
              simp at hc38
              refine wc_seq ?_
              refine wc_region ?_
              refine wl_y rfl (y_assign rfl) ?_
              refine wl_nil ?_
              refine wq_then ?_
              refine wc_ret ?_
              refine wq_block_ret (wq_then_ret (wq_then_ret (wq_block_ret (wq_then_ret ?_))))
              refine wq_ret1 rfl rfl (fun w hw => ?_)
              exact ⟨(), trivial, by rw [decide_eq_false (fun h => by have h1 := h.2.1 x (List.mem_of_getElem? hx); unfold FewF at h1; omega)], hw⟩
            ·
              simp at hc38
              refine wc_skip ?_
              refine wq_block_normal ?_
              refine wq_then ?_
              refine wc_region ?_
              refine wl_y rfl (y_move rfl) ?_
              refine wl_y rfl (y_add rfl rfl (by omega)) ?_
              refine wl_y rfl (y_assign rfl) ?_
              refine wl_nil ?_
              exact wq_round (i + 1) (by omega) ⟨by omega, step_of hall hx (by unfold FewF; omega)⟩ ⟨rfl, rfl, rfl, trivial⟩ (fun w hw => hw)
        ·
          simp at hc20
          refine wc_exit ?_
          refine wq_then_exit (wq_then_exit (wq_block_exit ?_))
          refine wq_then ?_
          refine wc_seq ?_
          refine wc_seq ?_
          refine wc_region ?_
          refine wl_y rfl (y_assign rfl) ?_
          refine wl_nil ?_
          refine wq_then ?_
          refine wc_block ?_
          refine wc_loop (α := Nat) (fun y => y ≤ s.xs.length ∧ ∀ j z, j < y → s.xs[j]? = some z → FewT z.er) [(0, _)] (fun y => [(6, vI y)]) (fun y => Hp w0 K []) (fun y => s.xs.length - y) 0 ?_ ⟨rfl, rfl, trivial⟩ ?_ ?_
          · exact ⟨Nat.zero_le _, fun j _ hj => absurd hj (Nat.not_lt_zero _)⟩
          · exact fun w hw => hw
          · rintro i2 ⟨hi2, hall2⟩
            refine wc_seq ?_
            refine wc_seq ?_
            refine wc_region ?_
            refine wl_y rfl (y_move rfl) ?_
            refine wl_y rfl (y_move rfl) ?_
            refine wl_y rfl (y_lenSl Tryd.underlying43 rfl) ?_
            refine wl_y rfl (y_lss rfl rfl) ?_
            refine wl_nil ?_
            refine wq_then ?_
            refine wc_cond rfl (fun hc42 => ?_) (fun hc42 => ?_)
            ·
              simp at hc42
              refine wc_skip ?_
              refine wq_then ?_
              refine wc_seq ?_
              refine wc_block ?_
              refine wc_seq ?_
              refine wc_seq ?_
              refine wc_region ?_
              obtain ⟨t, ht⟩ : ∃ x, s.xs[i2]? = some x := ⟨_, List.getElem?_eq_getElem (by omega)⟩
              have htm := List.mem_of_getElem? ht
              obtain ⟨hD, hS⟩ := hTT t htm
              unfold strsA at hD hS
              refine wl_y rfl (y_move rfl) ?_
              refine wl_y rfl (y_move rfl) ?_
              refine wl_y rfl (y_indexAddr Tryd.underlying43 T64 rfl rfl rfl (by omega) (by first | assumption | exact fun _ _ => rfl | exact fun _ _ => hF.isSome (by omega) | exact fun _ _ => hG.isSome (by omega) | exact fun _ _ => hD.isSome (by omega) | exact fun _ _ => hS.isSome (by omega) | exact fun w hw => hw.slc_isSome [] (by omega) | exact fun w hw => hw.slc_isSome [_] (by omega) | exact fun w hw => hw.slc_isSome [_, _] (by omega) | exact fun w hw => hw.slc_isSome [_, _, _] (by omega))) ?_
              refine wl_y rfl (y_fieldAddr_adr F64_0 rfl) ?_
              refine wl_y rfl (y_load NA9 rfl (cell_ro hG (rows_get encTg_len ht rfl))) ?_
              refine wl_y rfl (y_lenS Tryd.underlying9 rfl) ?_
              refine wl_y rfl (y_gtr rfl rfl) ?_
              refine wl_y rfl (y_move rfl) ?_
              apply wl_or 8 60 [(0, _), (6, _)] (t := 52) rfl ⟨rfl, rfl, trivial⟩
              · intro hg52 hM60
                refine wl_sk rfl rfl rfl rfl ?_
                refine wl_sk rfl rfl rfl rfl ?_
                refine wl_sk rfl rfl rfl rfl ?_
                refine wl_sk rfl rfl rfl rfl ?_
                refine wl_sk rfl rfl rfl rfl ?_
                refine wl_sk rfl rfl rfl rfl ?_
                refine wl_sk rfl rfl rfl rfl ?_
                refine wl_y rfl (y_pick_t rfl rfl) ?_
                exact wl_weaken hM60 ⟨rfl, rfl, rfl, trivial⟩
              · intro hg52 hM60
                try (simp at hg52)
                refine wl_yg rfl rfl rfl (y_move rfl) ?_
                refine wl_yg rfl rfl rfl (y_move rfl) ?_
                refine wl_yg rfl rfl rfl (y_indexAddr Tryd.underlying43 T64 rfl rfl rfl (by omega) (by first | assumption | exact fun _ _ => rfl | exact fun _ _ => hF.isSome (by omega) | exact fun _ _ => hG.isSome (by omega) | exact fun _ _ => hD.isSome (by omega) | exact fun _ _ => hS.isSome (by omega) | exact fun w hw => hw.slc_isSome [] (by omega) | exact fun w hw => hw.slc_isSome [_] (by omega) | exact fun w hw => hw.slc_isSome [_, _] (by omega) | exact fun w hw => hw.slc_isSome [_, _, _] (by omega))) ?_
                refine wl_yg rfl rfl rfl (y_fieldAddr_adr F64_1 rfl) ?_
                refine wl_yg rfl rfl rfl (y_load NA9 rfl (cell_ro hG (rows_get encTg_len ht rfl))) ?_
                refine wl_yg rfl rfl rfl (y_lenS Tryd.underlying9 rfl) ?_
                refine wl_yg rfl rfl rfl (y_gtr rfl rfl) ?_
                refine wl_y rfl (y_pick_f rfl rfl) ?_
                exact wl_weaken hM60 ⟨rfl, rfl, rfl, trivial⟩
              ·
                refine wl_y rfl (y_move rfl) ?_
                apply wl_or 8 69 [(0, _), (6, _)] (t := 61) rfl ⟨rfl, rfl, trivial⟩
                · intro hg61 hM69
                  refine wl_sk rfl rfl rfl rfl ?_
                  refine wl_sk rfl rfl rfl rfl ?_
                  refine wl_sk rfl rfl rfl rfl ?_
                  refine wl_sk rfl rfl rfl rfl ?_
                  refine wl_sk rfl rfl rfl rfl ?_
                  refine wl_sk rfl rfl rfl rfl ?_
                  refine wl_sk rfl rfl rfl rfl ?_
                  refine wl_y rfl (y_pick_t rfl rfl) ?_
                  exact wl_weaken hM69 ⟨rfl, rfl, rfl, trivial⟩
                · intro hg61 hM69
                  try (simp at hg61)
                  refine wl_yg rfl rfl rfl (y_move rfl) ?_
                  refine wl_yg rfl rfl rfl (y_move rfl) ?_
                  refine wl_yg rfl rfl rfl (y_indexAddr Tryd.underlying43 T64 rfl rfl rfl (by omega) (by first | assumption | exact fun _ _ => rfl | exact fun _ _ => hF.isSome (by omega) | exact fun _ _ => hG.isSome (by omega) | exact fun _ _ => hD.isSome (by omega) | exact fun _ _ => hS.isSome (by omega) | exact fun w hw => hw.slc_isSome [] (by omega) | exact fun w hw => hw.slc_isSome [_] (by omega) | exact fun w hw => hw.slc_isSome [_, _] (by omega) | exact fun w hw => hw.slc_isSome [_, _, _] (by omega))) ?_
                  refine wl_yg rfl rfl rfl (y_fieldAddr_adr F64_2 rfl) ?_
                  refine wl_yg rfl rfl rfl (y_load NA23 rfl (cell_ro hG (rows_get encTg_len ht rfl))) ?_
                  refine wl_yg rfl rfl rfl (y_lenSl Tryd.underlying23 rfl) ?_
                  refine wl_yg rfl rfl rfl (y_gtr rfl rfl) ?_
                  refine wl_y rfl (y_pick_f rfl rfl) ?_
                  exact wl_weaken hM69 ⟨rfl, rfl, rfl, trivial⟩
                ·
                  refine wl_y rfl (y_move rfl) ?_
                  apply wl_or 8 78 [(0, _), (6, _)] (t := 70) rfl ⟨rfl, rfl, trivial⟩
                  · intro hg70 hM78
                    refine wl_sk rfl rfl rfl rfl ?_
                    refine wl_sk rfl rfl rfl rfl ?_
                    refine wl_sk rfl rfl rfl rfl ?_
                    refine wl_sk rfl rfl rfl rfl ?_
                    refine wl_sk rfl rfl rfl rfl ?_
                    refine wl_sk rfl rfl rfl rfl ?_
                    refine wl_sk rfl rfl rfl rfl ?_
                    refine wl_y rfl (y_pick_t rfl rfl) ?_
                    exact wl_weaken hM78 ⟨rfl, rfl, rfl, trivial⟩
                  · intro hg70 hM78
                    try (simp at hg70)
                    refine wl_yg rfl rfl rfl (y_move rfl) ?_
                    refine wl_yg rfl rfl rfl (y_move rfl) ?_
                    refine wl_yg rfl rfl rfl (y_indexAddr Tryd.underlying43 T64 rfl rfl rfl (by omega) (by first | assumption | exact fun _ _ => rfl | exact fun _ _ => hF.isSome (by omega) | exact fun _ _ => hG.isSome (by omega) | exact fun _ _ => hD.isSome (by omega) | exact fun _ _ => hS.isSome (by omega) | exact fun w hw => hw.slc_isSome [] (by omega) | exact fun w hw => hw.slc_isSome [_] (by omega) | exact fun w hw => hw.slc_isSome [_, _] (by omega) | exact fun w hw => hw.slc_isSome [_, _, _] (by omega))) ?_
                    refine wl_yg rfl rfl rfl (y_fieldAddr_adr F64_3 rfl) ?_
                    refine wl_yg rfl rfl rfl (y_load NA23 rfl (cell_ro hG (rows_get encTg_len ht rfl))) ?_
                    refine wl_yg rfl rfl rfl (y_lenSl Tryd.underlying23 rfl) ?_
                    refine wl_yg rfl rfl rfl (y_gtr rfl rfl) ?_
                    refine wl_y rfl (y_pick_f rfl rfl) ?_
                    exact wl_weaken hM78 ⟨rfl, rfl, rfl, trivial⟩
                  ·
                    refine wl_nil ?_
                    refine wq_then ?_
                    refine wc_cond rfl (fun hc78 => ?_) (fun hc78 => ?_)
                    ·
                      simp at hc78
                      refine wc_seq ?_
                      refine wc_region ?_
                      refine wl_y rfl (y_assign rfl) ?_
                      refine wl_nil ?_
                      refine wq_then ?_
                      refine wc_ret ?_
                      refine wq_then_ret (wq_block_ret (wq_then_ret (wq_then_ret (wq_block_ret (wq_then_ret ?_)))))
                      refine wq_ret1 rfl rfl (fun w hw => ?_)
                      exact ⟨(), trivial, by rw [decide_eq_false (fun h => by obtain ⟨h1, h2, h3, h4, h5, h6⟩ := few_t' (h.2.2 t.er (List.mem_map.2 ⟨t, htm, rfl⟩)); omega)], hw⟩
                    ·
                      simp at hc78
                      refine wc_skip ?_
                      refine wq_then ?_
                      refine wc_seq ?_
                      refine wc_seq ?_
                      refine wc_region ?_
                      refine wl_y rfl (y_assign rfl) ?_
                      refine wl_nil ?_
                      refine wq_then ?_
                      refine wc_block ?_
                      refine wc_loop (α := Nat) (fun y => y ≤ t.deps.xs.length ∧ ∀ j z, j < y → t.deps.xs[j]? = some z → z.length ≤ 100) [(0, _), (6, _)] (fun y => [(7, vI y)]) (fun y => Hp w0 K []) (fun y => t.deps.xs.length - y) 0 ?_ ⟨rfl, rfl, rfl, trivial⟩ ?_ ?_
                      · exact ⟨Nat.zero_le _, fun j _ hj => absurd hj (Nat.not_lt_zero _)⟩
                      · exact fun w hw => hw
                      · rintro k ⟨hk, hallk⟩
                        refine wc_seq ?_
                        refine wc_seq ?_
                        refine wc_region ?_
                        refine wl_y rfl (y_move rfl) ?_
                        refine wl_y rfl (y_move rfl) ?_
                        refine wl_y rfl (y_move rfl) ?_
                        refine wl_y rfl (y_indexAddr Tryd.underlying43 T64 rfl rfl rfl (by omega) (by first | assumption | exact fun _ _ => rfl | exact fun _ _ => hF.isSome (by omega) | exact fun _ _ => hG.isSome (by omega) | exact fun _ _ => hD.isSome (by omega) | exact fun _ _ => hS.isSome (by omega) | exact fun w hw => hw.slc_isSome [] (by omega) | exact fun w hw => hw.slc_isSome [_] (by omega) | exact fun w hw => hw.slc_isSome [_, _] (by omega) | exact fun w hw => hw.slc_isSome [_, _, _] (by omega))) ?_
                        refine wl_y rfl (y_fieldAddr_adr F64_2 rfl) ?_
                        refine wl_y rfl (y_load NA23 rfl (cell_ro hG (rows_get encTg_len ht rfl))) ?_
                        refine wl_y rfl (y_lenSl Tryd.underlying23 rfl) ?_
                        refine wl_y rfl (y_lss rfl rfl) ?_
                        refine wl_nil ?_
                        refine wq_then ?_
                        refine wc_cond rfl (fun hc86 => ?_) (fun hc86 => ?_)
                        ·
                          simp at hc86
                          refine wc_skip ?_
                          refine wq_then ?_
                          refine wc_seq ?_
                          refine wc_block ?_
                          refine wc_seq ?_
                          refine wc_region ?_
                          obtain ⟨z, hz⟩ : ∃ x, t.deps.xs[k]? = some x := ⟨_, List.getElem?_eq_getElem (by omega)⟩
                          refine wl_y rfl (y_move rfl) ?_
                          refine wl_y rfl (y_move rfl) ?_
                          refine wl_y rfl (y_indexAddr Tryd.underlying43 T64 rfl rfl rfl (by omega) (by first | assumption | exact fun _ _ => rfl | exact fun _ _ => hF.isSome (by omega) | exact fun _ _ => hG.isSome (by omega) | exact fun _ _ => hD.isSome (by omega) | exact fun _ _ => hS.isSome (by omega) | exact fun w hw => hw.slc_isSome [] (by omega) | exact fun w hw => hw.slc_isSome [_] (by omega) | exact fun w hw => hw.slc_isSome [_, _] (by omega) | exact fun w hw => hw.slc_isSome [_, _, _] (by omega))) ?_
                          refine wl_y rfl (y_fieldAddr_adr F64_2 rfl) ?_
                          refine wl_y rfl (y_load NA23 rfl (cell_ro hG (rows_get encTg_len ht rfl))) ?_
                          refine wl_y rfl (y_move rfl) ?_
                          refine wl_y rfl (y_indexAddr Tryd.underlying23 T9 rfl rfl rfl (by omega) (by first | assumption | exact fun _ _ => rfl | exact fun _ _ => hF.isSome (by omega) | exact fun _ _ => hG.isSome (by omega) | exact fun _ _ => hD.isSome (by omega) | exact fun _ _ => hS.isSome (by omega) | exact fun w hw => hw.slc_isSome [] (by omega) | exact fun w hw => hw.slc_isSome [_] (by omega) | exact fun w hw => hw.slc_isSome [_, _] (by omega) | exact fun w hw => hw.slc_isSome [_, _, _] (by omega))) ?_
                          refine wl_y rfl (y_load NA9 rfl (cell_ro hD (row_at hz))) ?_
                          refine wl_y rfl (y_lenS Tryd.underlying9 rfl) ?_
                          refine wl_y rfl (y_gtr rfl rfl) ?_
                          refine wl_nil ?_
                          refine wq_then ?_
                          refine wc_cond rfl (fun hc98 => ?_) (fun hc98 => ?_)
                          ·
                            simp at hc98
                            refine wc_seq ?_
                            refine wc_region ?_
                            refine wl_y rfl (y_assign rfl) ?_
                            refine wl_nil ?_
                            refine wq_then ?_
                            refine wc_ret ?_
                            refine wq_block_ret (wq_then_ret (wq_then_ret (wq_block_ret (wq_then_ret (wq_block_ret (wq_then_ret (wq_then_ret (wq_block_ret (wq_then_ret ?_)))))))))
                            refine wq_ret1 rfl rfl (fun w hw => ?_)
                            exact ⟨(), trivial, by rw [decide_eq_false (fun h => by obtain ⟨h1, h2, h3, h4, h5, h6⟩ := few_t' (h.2.2 t.er (List.mem_map.2 ⟨t, htm, rfl⟩)); have h7 := h4 z (List.mem_of_getElem? hz); omega)], hw⟩
                          ·
                            simp at hc98
                            refine wc_skip ?_
                            refine wq_block_normal ?_
                            refine wq_then ?_
                            refine wc_region ?_
                            refine wl_y rfl (y_move rfl) ?_
                            refine wl_y rfl (y_add rfl rfl (by omega)) ?_
                            refine wl_y rfl (y_assign rfl) ?_
                            refine wl_nil ?_
                            exact wq_round (k + 1) (by omega) ⟨by omega, step_of (p := fun z : Str => z.length ≤ 100) hallk hz (by omega)⟩ ⟨rfl, rfl, rfl, trivial⟩ (fun w hw => hw)
                        ·
                          simp at hc86
                          refine wc_exit ?_
                          refine wq_then_exit (wq_then_exit (wq_block_exit ?_))
                          refine wq_then ?_
                          refine wc_seq ?_
                          refine wc_region ?_
                          refine wl_y rfl (y_assign rfl) ?_
                          refine wl_nil ?_
                          refine wq_then ?_
                          refine wc_block ?_
                          refine wc_loop (α := Nat) (fun y => y ≤ t.srcs.xs.length ∧ ∀ j z, j < y → t.srcs.xs[j]? = some z → z.length ≤ 100) [(0, _), (6, _)] (fun y => [(8, vI y)]) (fun y => Hp w0 K []) (fun y => t.srcs.xs.length - y) 0 ?_ ⟨rfl, rfl, rfl, trivial⟩ ?_ ?_
                          · exact ⟨Nat.zero_le _, fun j _ hj => absurd hj (Nat.not_lt_zero _)⟩
                          · exact fun w hw => hw
                          · rintro q ⟨hq, hallq⟩
                            refine wc_seq ?_
                            refine wc_seq ?_
                            refine wc_region ?_
                            refine wl_y rfl (y_move rfl) ?_
                            refine wl_y rfl (y_move rfl) ?_
                            refine wl_y rfl (y_move rfl) ?_
                            refine wl_y rfl (y_indexAddr Tryd.underlying43 T64 rfl rfl rfl (by omega) (by first | assumption | exact fun _ _ => rfl | exact fun _ _ => hF.isSome (by omega) | exact fun _ _ => hG.isSome (by omega) | exact fun _ _ => hD.isSome (by omega) | exact fun _ _ => hS.isSome (by omega) | exact fun w hw => hw.slc_isSome [] (by omega) | exact fun w hw => hw.slc_isSome [_] (by omega) | exact fun w hw => hw.slc_isSome [_, _] (by omega) | exact fun w hw => hw.slc_isSome [_, _, _] (by omega))) ?_
                            refine wl_y rfl (y_fieldAddr_adr F64_3 rfl) ?_
                            refine wl_y rfl (y_load NA23 rfl (cell_ro hG (rows_get encTg_len ht rfl))) ?_
                            refine wl_y rfl (y_lenSl Tryd.underlying23 rfl) ?_
                            refine wl_y rfl (y_lss rfl rfl) ?_
                            refine wl_nil ?_
                            refine wq_then ?_
                            refine wc_cond rfl (fun hc106 => ?_) (fun hc106 => ?_)
                            ·
                              simp at hc106
                              refine wc_skip ?_
                              refine wq_then ?_
                              refine wc_seq ?_
                              refine wc_block ?_
                              refine wc_seq ?_
                              refine wc_region ?_
                              obtain ⟨z, hz⟩ : ∃ x, t.srcs.xs[q]? = some x := ⟨_, List.getElem?_eq_getElem (by omega)⟩
                              refine wl_y rfl (y_move rfl) ?_
                              refine wl_y rfl (y_move rfl) ?_
                              refine wl_y rfl (y_indexAddr Tryd.underlying43 T64 rfl rfl rfl (by omega) (by first | assumption | exact fun _ _ => rfl | exact fun _ _ => hF.isSome (by omega) | exact fun _ _ => hG.isSome (by omega) | exact fun _ _ => hD.isSome (by omega) | exact fun _ _ => hS.isSome (by omega) | exact fun w hw => hw.slc_isSome [] (by omega) | exact fun w hw => hw.slc_isSome [_] (by omega) | exact fun w hw => hw.slc_isSome [_, _] (by omega) | exact fun w hw => hw.slc_isSome [_, _, _] (by omega))) ?_
                              refine wl_y rfl (y_fieldAddr_adr F64_3 rfl) ?_
                              refine wl_y rfl (y_load NA23 rfl (cell_ro hG (rows_get encTg_len ht rfl))) ?_
                              refine wl_y rfl (y_move rfl) ?_
                              refine wl_y rfl (y_indexAddr Tryd.underlying23 T9 rfl rfl rfl (by omega) (by first | assumption | exact fun _ _ => rfl | exact fun _ _ => hF.isSome (by omega) | exact fun _ _ => hG.isSome (by omega) | exact fun _ _ => hD.isSome (by omega) | exact fun _ _ => hS.isSome (by omega) | exact fun w hw => hw.slc_isSome [] (by omega) | exact fun w hw => hw.slc_isSome [_] (by omega) | exact fun w hw => hw.slc_isSome [_, _] (by omega) | exact fun w hw => hw.slc_isSome [_, _, _] (by omega))) ?_
                              refine wl_y rfl (y_load NA9 rfl (cell_ro hS (row_at hz))) ?_
                              refine wl_y rfl (y_lenS Tryd.underlying9 rfl) ?_
                              refine wl_y rfl (y_gtr rfl rfl) ?_
                              refine wl_nil ?_
                              refine wq_then ?_
                              refine wc_cond rfl (fun hc118 => ?_) (fun hc118 => ?_)
                              ·
                                simp at hc118
                                refine wc_seq ?_
                                refine wc_region ?_
                                refine wl_y rfl (y_assign rfl) ?_
                                refine wl_nil ?_
                                refine wq_then ?_
                                refine wc_ret ?_
                                refine wq_block_ret (wq_then_ret (wq_then_ret (wq_block_ret (wq_block_ret (wq_then_ret (wq_then_ret (wq_block_ret (wq_then_ret ?_))))))))
                                refine wq_ret1 rfl rfl (fun w hw => ?_)
                                exact ⟨(), trivial, by rw [decide_eq_false (fun h => by obtain ⟨h1, h2, h3, h4, h5, h6⟩ := few_t' (h.2.2 t.er (List.mem_map.2 ⟨t, htm, rfl⟩)); have h7 := h6 z (List.mem_of_getElem? hz); omega)], hw⟩
                              ·
                                simp at hc118
                                refine wc_skip ?_
                                refine wq_block_normal ?_
                                refine wq_then ?_
                                refine wc_region ?_
                                refine wl_y rfl (y_move rfl) ?_
                                refine wl_y rfl (y_add rfl rfl (by omega)) ?_
                                refine wl_y rfl (y_assign rfl) ?_
                                refine wl_nil ?_
                                exact wq_round (q + 1) (by omega) ⟨by omega, step_of (p := fun z : Str => z.length ≤ 100) hallq hz (by omega)⟩ ⟨rfl, rfl, rfl, trivial⟩ (fun w hw => hw)
                            ·
                              simp at hc106
                              refine wc_exit ?_
                              refine wq_then_exit (wq_then_exit (wq_block_exit ?_))
                              refine wq_block_normal ?_
                              refine wq_then ?_
                              refine wc_region ?_
                              refine wl_y rfl (y_move rfl) ?_
                              refine wl_y rfl (y_add rfl rfl (by omega)) ?_
                              refine wl_y rfl (y_assign rfl) ?_
                              refine wl_nil ?_
                              exact wq_round (i2 + 1) (by omega) ⟨by omega, step_of (p := fun z : TgV => FewT z.er) hall2 ht (few_t (by omega) (by omega) (by omega) (all_of_step hallk (by omega)) (by omega) (all_of_step hallq (by omega)))⟩ ⟨rfl, rfl, trivial⟩ (fun w hw => hw)
            ·
              simp at hc42
              refine wc_exit ?_
              refine wq_then_exit (wq_then_exit (wq_block_exit ?_))
              refine wq_then ?_
              refine wc_seq ?_
              refine wc_region ?_
              refine wl_y rfl (y_assign rfl) ?_
              refine wl_nil ?_
              refine wq_then ?_
              refine wc_ret ?_
              refine wq_ret1 rfl rfl (fun w hw => ?_)
              exact ⟨(), trivial, by rw [decide_eq_true (show FewP (grE s) f.xs from ⟨⟨by rw [hgl]; omega, by omega⟩, all_of_step hall (by omega), fun p hp => by obtain ⟨t, ht, rfl⟩ := List.mem_map.1 hp; exact all_of_step (p := fun z : TgV => FewT z.er) hall2 (by omega) t ht⟩)], hw⟩

end Go.Proofs.YtbnahfjhlbibcaaDoor
