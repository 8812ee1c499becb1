/-
  Law: when a disk dies.
-/
import Derived.Test.YtdeellflcphkaaaDiesLaw
import Derived.Test.YtdeellflcphkaaaWalkH
namespace Go.Proofs.Ytdeellflcphkaaa
open Go.Eng

theorem ro_empty {w : World} {K : Nat → Prop} : Ro w K (rsl none ([] : List Int).length 1 (([] : List Int).map vI)) := ⟨[], ⟨rfl, .inl ⟨rfl, rfl⟩⟩, by simp⟩
theorem dies_ok (a : Int) (j : Nat) : ((!(decide ((if 1 ≤ max a 0 ∧ max a 0 ≤ (j : Int) + 1 then (40 : Int) else 0) = 0) == (decide (a < 1) || decide ((j : Int) + 1 < a)))) || ((!decide ((if 1 ≤ max a 0 ∧ max a 0 ≤ (j : Int) + 1 then (40 : Int) else 0) = 0)) && (!decide ((if 1 ≤ max a 0 ∧ max a 0 ≤ (j : Int) + 1 then (40 : Int) else 0) = 40)))) = false := by
  by_cases h : 1 ≤ max a 0 ∧ max a 0 ≤ (j : Int) + 1
  · rw [if_pos h, decide_eq_false (show ¬ a < 1 by omega), decide_eq_false (show ¬ (j : Int) + 1 < a by omega)]; rfl
  · rw [if_neg h]
    rcases Int.lt_or_le a 1 with h1 | h1
    · rw [decide_eq_true h1]; rfl
    · rw [decide_eq_false (show ¬ a < 1 by omega), decide_eq_true (show (j : Int) + 1 < a by omega)]; rfl
theorem dies_dead (a m : Int) (j : Nat) (h : (j : Int) = min (max m 0) 200) : (dS (max a 0) j).dead = (decide (1 ≤ a) && decide (a ≤ min (max m 0) 200)) := by
  show decide (1 ≤ max a 0 ∧ max a 0 ≤ (j : Int)) = _
  rw [← Bool.decide_and]
  exact decide_eq_decide.2 (by omega)
theorem dies_in {a m : Int} {j : Nat} (h : (j : Int) = min (max m 0) 200) (hg : (decide (1 ≤ a) && decide (a ≤ min (max m 0) 200)) = true) : 1 ≤ max a 0 ∧ max a 0 ≤ (j : Int) := by
  simp only [Bool.and_eq_true, decide_eq_true_eq] at hg
  omega
set_option maxHeartbeats 1000000 in
theorem lawDies (at_ many : Int) (h1 : at_ ≤ 9223372036854775807) :
    Ctr Try.prog 3 #[vI at_, vI many] [] [] (fun _ : Unit => True) (fun _ => vB true) (fun _ => []) := by
  refine spec_start (n := 84) [(0, vI at_), (1, vI many)] Try.func3 rfl rfl ⟨rfl, rfl, trivial⟩ rfl ?_
  intro w0 K hR
  have hA0 : 0 ≤ max at_ 0 := by omega
  have hA1 : max at_ 0 ≤ 9223372036854775807 := by omega
  refine wc_seq ?_
  refine wc_region ?_
  refine wl_y rfl (y_assign rfl) ?_
  refine wl_nil ?_
  refine wq_then ?_
  refine wc_seq ?_
  refine wc_region ?_
  refine wl_c (fun _ _ => want_none) rfl (yc_spec (fst := []) (cap := []) _ FN7 (new_ok 1000 (by omega) (by omega)) rfl rfl rfl (by (repeat (first | exact pt_nil | apply pt0 | apply pt1 | apply pt2 | apply pt3 | apply pt4 | apply pt5 | apply pt6 | apply pt7 | apply pt8 | apply pt9 | apply pt10 | apply pt11 | apply pt12 | apply pt13 | apply pt14 | apply pt15 | apply pt16 | apply pt17))) (by (repeat (first | exact ro_nil | exact ro_rest (by assumption) | refine ro_cons (by first | exact .inl (by assumption) | exact ro_f0 (fun _ h => h) | exact ro_f0 (fun _ => slc_rsl) | exact ro_f1 (fun _ h => h) | exact ro_f1 (fun _ => slc_rsl) | exact ro_f2 (fun _ h => h) | exact ro_f2 (fun _ => slc_rsl) | exact ro_f3 (fun _ h => h) | exact ro_f3 (fun _ => slc_rsl) | exact ro_f4 (fun _ h => h) | exact ro_f4 (fun _ => slc_rsl) | exact ro_f5 (fun _ h => h) | exact ro_f5 (fun _ => slc_rsl) | exact ro_f6 (fun _ h => h) | exact ro_f6 (fun _ => slc_rsl)) ?_)))) (wl_ex fun x12 hx12 => ?_)
  refine wl_y rfl (y_move rfl) ?_
  refine wl_y rfl (y_extract rfl rfl) ?_
  refine wl_y rfl (y_extract rfl rfl) ?_
  refine wl_y rfl (y_assign rfl) ?_
  refine wl_y rfl (y_assign rfl) ?_
  refine wl_nil ?_
  refine wq_then ?_
  refine wc_seq ?_
  refine wc_seq ?_
  refine wc_region ?_
  refine wl_y rfl (y_move rfl) ?_
  refine wl_y rfl (y_neqI rfl rfl) ?_
  refine wl_y rfl (y_move rfl) ?_
  apply wl_or 3 20 [(0, _), (1, _), (5, _)] (t := 17) rfl ⟨rfl, rfl, rfl, trivial⟩
  · intro hg17 hM20
    refine wl_sk rfl rfl rfl rfl ?_
    refine wl_sk rfl rfl rfl rfl ?_
    refine wl_y rfl (y_pick_t rfl rfl) ?_
    exact wl_weaken hM20 ⟨rfl, rfl, rfl, rfl, trivial⟩
  · intro hg17 hM20
    try (simp at hg17)
    refine wl_yg rfl rfl rfl (y_move rfl) ?_
    refine wl_yg rfl rfl rfl (y_eqlP Try.underlying22 rfl rfl) ?_
    refine wl_y rfl (y_pick_f rfl rfl) ?_
    exact wl_weaken hM20 ⟨rfl, rfl, rfl, rfl, trivial⟩
  ·
    refine wl_nil ?_
    refine wq_then ?_
    refine wc_known 20 false rfl (rfl) ?_
    refine wc_cond_false rfl ?_
    refine wc_skip ?_
    refine wq_then ?_
    refine wc_seq ?_
    refine wc_region ?_
    refine wl_y rfl (y_move rfl) ?_
    refine wl_y rfl (y_move rfl) ?_
    refine wl_c (fun _ _ => want_none) rfl (yc_spec (fst := []) (cap := []) _ FN8 (arm_c x12 ⟨1000, [], 0, 0, false⟩ at_) rfl rfl rfl (by (repeat (first | exact pt_nil | apply pt0 | apply pt1 | apply pt2 | apply pt3 | apply pt4 | apply pt5 | apply pt6 | apply pt7 | apply pt8 | apply pt9 | apply pt10 | apply pt11 | apply pt12 | apply pt13 | apply pt14 | apply pt15 | apply pt16 | apply pt17))) (by (repeat (first | exact ro_nil | exact ro_rest (by assumption) | refine ro_cons (by first | exact .inl (by assumption) | exact ro_f0 (fun _ h => h) | exact ro_f0 (fun _ => slc_rsl) | exact ro_f1 (fun _ h => h) | exact ro_f1 (fun _ => slc_rsl) | exact ro_f2 (fun _ h => h) | exact ro_f2 (fun _ => slc_rsl) | exact ro_f3 (fun _ h => h) | exact ro_f3 (fun _ => slc_rsl) | exact ro_f4 (fun _ h => h) | exact ro_f4 (fun _ => slc_rsl) | exact ro_f5 (fun _ h => h) | exact ro_f5 (fun _ => slc_rsl) | exact ro_f6 (fun _ h => h) | exact ro_f6 (fun _ => slc_rsl)) ?_)))) (wl_ex fun x23 hx23 => ?_)
    refine wl_nil ?_
    refine wq_then ?_
    refine wc_seq ?_
    refine wc_region ?_
    refine wl_y rfl (y_move rfl) ?_
    refine wl_y rfl (y_max rfl rfl) ?_
    refine wl_y rfl (y_min rfl rfl) ?_
    refine wl_y rfl (y_assign rfl) ?_
    refine wl_nil ?_
    refine wq_then ?_
    refine wc_seq ?_
    refine wc_seq ?_
    refine wc_region ?_
    refine wl_y rfl (y_assign rfl) ?_
    refine wl_same 8 (vI (((0 : Nat) : Int) + 1)) rfl rfl ?_
    refine wl_nil ?_
    refine wq_then ?_
    refine wc_block ?_
    refine wc_loop (α := Nat) (fun y => (y : Int) ≤ (min (max many 0) 200)) [(0, _), (5, _), (7, _)] (fun y => [(8, vI ((y : Int) + 1))]) (fun y => Hp w0 K [dkA x12 (dS (max at_ 0) y)]) (fun y => ((min (max many 0) 200) - y).toNat) 0 ?_ ⟨rfl, rfl, rfl, rfl, trivial⟩ ?_ ?_
    · show ((0 : Nat) : Int) ≤ _; omega
    · exact fun w hw => by rw [show (dS (max at_ 0) 0) = ({ (⟨1000, [], 0, 0, false⟩ : Dk) with armed := max at_ 0 } : Dk) from dk_eq rfl rfl rfl (by simp) (decide_eq_false (by omega))]; exact hw
    · intro j hj
      refine wc_seq ?_
      refine wc_seq ?_
      refine wc_region ?_
      refine wl_y rfl (y_move rfl) ?_
      refine wl_y rfl (y_move rfl) ?_
      refine wl_y rfl (y_leq rfl rfl) ?_
      refine wl_nil ?_
      refine wq_then ?_
      refine wc_cond rfl (fun hc29 => ?_) (fun hc29 => ?_)
      ·
        have hc29 := of_decide_eq_true hc29
        refine wc_skip ?_
        refine wq_then ?_
        refine wc_seq ?_
        refine wc_block ?_
        refine wc_seq ?_
        refine wc_region ?_
        refine wl_y rfl (y_move rfl) ?_
        refine wl_c (fun _ _ => want_none) rfl (yc_spec (fst := []) (cap := []) _ FN9 (append_at (dS_good hA0 hA1 j) (dS_append hA0 j)) rfl rfl rfl (by (repeat (first | exact pt_nil | apply pt0 | apply pt1 | apply pt2 | apply pt3 | apply pt4 | apply pt5 | apply pt6 | apply pt7 | apply pt8 | apply pt9 | apply pt10 | apply pt11 | apply pt12 | apply pt13 | apply pt14 | apply pt15 | apply pt16 | apply pt17))) (by (repeat (first | exact ro_nil | exact ro_rest (by assumption) | refine ro_cons (by first | exact .inl (by assumption) | exact ro_f0 (fun _ h => h) | exact ro_f0 (fun _ => slc_rsl) | exact ro_f1 (fun _ h => h) | exact ro_f1 (fun _ => slc_rsl) | exact ro_f2 (fun _ h => h) | exact ro_f2 (fun _ => slc_rsl) | exact ro_f3 (fun _ h => h) | exact ro_f3 (fun _ => slc_rsl) | exact ro_f4 (fun _ h => h) | exact ro_f4 (fun _ => slc_rsl) | exact ro_f5 (fun _ h => h) | exact ro_f5 (fun _ => slc_rsl) | exact ro_f6 (fun _ h => h) | exact ro_f6 (fun _ => slc_rsl)) ?_)))) (wl_ex fun x33 hx33 => ?_)
        refine wl_y rfl (y_assign rfl) ?_
        refine wl_nil ?_
        refine wq_then ?_
        refine wc_seq ?_
        refine wc_region ?_
        refine wl_y rfl (y_move rfl) ?_
        refine wl_y rfl (y_eqlI rfl rfl) ?_
        refine wl_y rfl (y_move rfl) ?_
        refine wl_y rfl (y_lss rfl rfl) ?_
        refine wl_y rfl (y_move rfl) ?_
        apply wl_or 4 42 [(0, _), (5, _), (7, _), (8, _), (9, _), (35, _)] (t := 38) rfl ⟨rfl, rfl, rfl, rfl, rfl, rfl, trivial⟩
        · intro hg38 hM42
          refine wl_sk rfl rfl rfl rfl ?_
          refine wl_sk rfl rfl rfl rfl ?_
          refine wl_sk rfl rfl rfl rfl ?_
          refine wl_y rfl (y_pick_t rfl rfl) ?_
          exact wl_weaken hM42 ⟨rfl, rfl, rfl, rfl, rfl, rfl, rfl, trivial⟩
        · intro hg38 hM42
          try (simp at hg38)
          refine wl_yg rfl rfl rfl (y_move rfl) ?_
          refine wl_yg rfl rfl rfl (y_move rfl) ?_
          refine wl_yg rfl rfl rfl (y_lss rfl rfl) ?_
          refine wl_y rfl (y_pick_f rfl rfl) ?_
          exact wl_weaken hM42 ⟨rfl, rfl, rfl, rfl, rfl, rfl, rfl, trivial⟩
        ·
          refine wl_y rfl (y_neqB Try.underlying4 rfl rfl) ?_
          refine wl_y rfl (y_move rfl) ?_
          apply wl_or 7 51 [(0, _), (5, _), (7, _), (8, _)] (t := 44) rfl ⟨rfl, rfl, rfl, rfl, trivial⟩
          · intro hg44 hM51
            refine wl_sk rfl rfl rfl rfl ?_
            refine wl_sk rfl rfl rfl rfl ?_
            refine wl_sk rfl rfl rfl rfl ?_
            refine wl_sku rfl rfl rfl ?_
            refine wl_sku rfl rfl rfl ?_
            refine wl_sk rfl rfl rfl rfl ?_
            refine wl_y rfl (y_pick_t rfl rfl) ?_
            exact wl_weaken hM51 ⟨rfl, rfl, rfl, rfl, rfl, trivial⟩
          · intro hg44 hM51
            try (simp at hg44)
            refine wl_yg rfl rfl rfl (y_move rfl) ?_
            refine wl_yg rfl rfl rfl (y_neqI rfl rfl) ?_
            refine wl_yg rfl rfl rfl (y_move rfl) ?_
            apply wl_and 3 50 [(0, _), (5, _), (7, _), (8, _), (44, _)] (t := 47) rfl ⟨rfl, rfl, rfl, rfl, rfl, trivial⟩
            · intro hg47 hM50
              try (simp at hg47)
              refine wl_yg rfl rfl rfl (y_move rfl) ?_
              refine wl_yg rfl rfl rfl (y_neqI rfl rfl) ?_
              refine wl_yg rfl rfl rfl (y_pick_t rfl rfl) ?_
              exact wl_weaken hM50 ⟨rfl, rfl, rfl, rfl, rfl, rfl, trivial⟩
            · intro hg47 hM50
              refine wl_sk rfl rfl rfl rfl ?_
              refine wl_sk rfl rfl rfl rfl ?_
              refine wl_yg rfl rfl rfl (y_pick_f rfl rfl) ?_
              exact wl_weaken hM50 ⟨rfl, rfl, rfl, rfl, rfl, rfl, trivial⟩
            ·
              refine wl_y rfl (y_pick_f rfl rfl) ?_
              exact wl_weaken hM51 ⟨rfl, rfl, rfl, rfl, rfl, trivial⟩
          ·
            refine wl_nil ?_
            refine wq_then ?_
            refine wc_known 51 false rfl (dies_ok at_ j) ?_
            refine wc_cond_false rfl ?_
            refine wc_skip ?_
            refine wq_block_normal ?_
            refine wq_then ?_
            refine wc_region ?_
            refine wl_y rfl (y_move rfl) ?_
            refine wl_y rfl (y_add rfl rfl (by omega)) ?_
            refine wl_y rfl (y_assign rfl) ?_
            refine wl_nil ?_
            refine wq_same 8 (vI (((j + 1 : Nat) : Int) + 1)) rfl (by rw [show (((j + 1 : Nat) : Int)) = (j : Int) + 1 by omega]) ?_
            exact wq_round (j + 1) (by omega) (by omega) ⟨rfl, rfl, rfl, rfl, trivial⟩ (fun w hw => hw)
      ·
        have hc29 := of_decide_eq_false hc29
        refine wc_exit ?_
        refine wq_then_exit (wq_then_exit (wq_block_exit ?_))
        refine wq_then ?_
        refine wc_seq ?_
        refine wc_region ?_
        refine wl_y rfl (y_move rfl) ?_
        refine wl_y rfl (y_geq rfl rfl) ?_
        refine wl_y rfl (y_move rfl) ?_
        apply wl_and 4 58 [(5, _)] (t := 54) rfl ⟨rfl, trivial⟩
        · intro hg54 hM58
          try (simp at hg54)
          refine wl_yg rfl rfl rfl (y_move rfl) ?_
          refine wl_yg rfl rfl rfl (y_move rfl) ?_
          refine wl_yg rfl rfl rfl (y_geq rfl rfl) ?_
          refine wl_y rfl (y_pick_t rfl rfl) ?_
          exact wl_weaken hM58 ⟨rfl, rfl, trivial⟩
        · intro hg54 hM58
          refine wl_sk rfl rfl rfl rfl ?_
          refine wl_sk rfl rfl rfl rfl ?_
          refine wl_sk rfl rfl rfl rfl ?_
          refine wl_y rfl (y_pick_f rfl rfl) ?_
          exact wl_weaken hM58 ⟨rfl, rfl, trivial⟩
        ·
          refine wl_y rfl (y_assign rfl) ?_
          refine wl_nil ?_
          refine wq_then ?_
          refine wc_seq ?_
          refine wc_seq ?_
          refine wc_region ?_
          refine wl_y rfl (y_move rfl) ?_
          refine wl_c (fun _ _ => want_none) rfl (yc_spec (fst := []) (cap := []) _ FN10 (dead_c x12 (dS (max at_ 0) j)) rfl rfl rfl (by (repeat (first | exact pt_nil | apply pt0 | apply pt1 | apply pt2 | apply pt3 | apply pt4 | apply pt5 | apply pt6 | apply pt7 | apply pt8 | apply pt9 | apply pt10 | apply pt11 | apply pt12 | apply pt13 | apply pt14 | apply pt15 | apply pt16 | apply pt17))) (by (repeat (first | exact ro_nil | exact ro_rest (by assumption) | refine ro_cons (by first | exact .inl (by assumption) | exact ro_f0 (fun _ h => h) | exact ro_f0 (fun _ => slc_rsl) | exact ro_f1 (fun _ h => h) | exact ro_f1 (fun _ => slc_rsl) | exact ro_f2 (fun _ h => h) | exact ro_f2 (fun _ => slc_rsl) | exact ro_f3 (fun _ h => h) | exact ro_f3 (fun _ => slc_rsl) | exact ro_f4 (fun _ h => h) | exact ro_f4 (fun _ => slc_rsl) | exact ro_f5 (fun _ h => h) | exact ro_f5 (fun _ => slc_rsl) | exact ro_f6 (fun _ h => h) | exact ro_f6 (fun _ => slc_rsl)) ?_)))) (wl_ex fun x60 hx60 => ?_)
          refine wl_same 60 (vB (decide (1 ≤ at_) && decide (at_ ≤ (min (max many 0) 200)))) rfl (by rw [dies_dead at_ many j (by omega)]) ?_
          refine wl_y rfl (y_move rfl) ?_
          refine wl_y rfl (y_neqB Try.underlying4 rfl rfl) ?_
          refine wl_y rfl (y_move rfl) ?_
          refine wl_known 63 false rfl (by simp) ?_
          refine wl_yg rfl rfl rfl (y_move rfl) ?_
          refine wl_yg rfl rfl rfl (y_move rfl) ?_
          refine wl_case 65 rfl (fun hg65 => ?_) (fun hg65 => ?_)
          ·
            refine wl_yg rfl rfl rfl (y_move rfl) ?_
            refine wl_c (want_some rfl rfl) rfl (yc_spec (fst := []) (cap := []) _ FN11 (sync_at (dS_good hA0 hA1 j) (dS_sync (dies_in (by omega) hg65))) rfl rfl rfl (by (repeat (first | exact pt_nil | apply pt0 | apply pt1 | apply pt2 | apply pt3 | apply pt4 | apply pt5 | apply pt6 | apply pt7 | apply pt8 | apply pt9 | apply pt10 | apply pt11 | apply pt12 | apply pt13 | apply pt14 | apply pt15 | apply pt16 | apply pt17))) (by (repeat (first | exact ro_nil | exact ro_rest (by assumption) | refine ro_cons (by first | exact .inl (by assumption) | exact ro_f0 (fun _ h => h) | exact ro_f0 (fun _ => slc_rsl) | exact ro_f1 (fun _ h => h) | exact ro_f1 (fun _ => slc_rsl) | exact ro_f2 (fun _ h => h) | exact ro_f2 (fun _ => slc_rsl) | exact ro_f3 (fun _ h => h) | exact ro_f3 (fun _ => slc_rsl) | exact ro_f4 (fun _ h => h) | exact ro_f4 (fun _ => slc_rsl) | exact ro_f5 (fun _ h => h) | exact ro_f5 (fun _ => slc_rsl) | exact ro_f6 (fun _ h => h) | exact ro_f6 (fun _ => slc_rsl)) ?_)))) (wl_ex fun x67 hx67 => ?_)
            refine wl_yg rfl rfl rfl (y_neqI rfl rfl) ?_
            refine wl_yg rfl rfl rfl (y_pick_t rfl rfl) ?_
            refine wl_y rfl (y_pick_f rfl rfl) ?_
            refine wl_nil ?_
            refine wq_then ?_
            refine wc_known 70 false rfl (by decide) ?_
            refine wc_cond_false rfl ?_
            refine wc_skip ?_
            refine wq_then ?_
            refine wc_seq ?_
            refine wc_region ?_
            refine wl_y rfl (y_move rfl) ?_
            refine wl_c (fun _ _ => want_none) rfl (yc_spec (fst := []) (cap := []) _ FN12 (crash_at (ks := []) (ko := none) (kc := 0) (dS_good hA0 hA1 j) (by unfold dS; split <;> simp) (Nat.le_refl _) (dS_crash (max at_ 0) j)) rfl rfl rfl (by (repeat (first | exact pt_nil | apply pt0 | apply pt1 | apply pt2 | apply pt3 | apply pt4 | apply pt5 | apply pt6 | apply pt7 | apply pt8 | apply pt9 | apply pt10 | apply pt11 | apply pt12 | apply pt13 | apply pt14 | apply pt15 | apply pt16 | apply pt17))) (fun A hA => .inl (by rw [List.mem_singleton.1 hA]; exact ro_empty))) (wl_ex fun x72 hx72 => ?_)
            refine wl_nil ?_
            refine wq_then ?_
            refine wc_seq ?_
            refine wc_region ?_
            refine wl_y rfl (y_move rfl) ?_
            refine wl_c (fun _ _ => want_none) rfl (yc_spec (fst := []) (cap := []) _ FN10 (dead_c x12 ({ dS (max at_ 0) j with dead := false, armed := 0 } : Dk)) rfl rfl rfl (by (repeat (first | exact pt_nil | apply pt0 | apply pt1 | apply pt2 | apply pt3 | apply pt4 | apply pt5 | apply pt6 | apply pt7 | apply pt8 | apply pt9 | apply pt10 | apply pt11 | apply pt12 | apply pt13 | apply pt14 | apply pt15 | apply pt16 | apply pt17))) (by (repeat (first | exact ro_nil | exact ro_rest (by assumption) | refine ro_cons (by first | exact .inl (by assumption) | exact ro_f0 (fun _ h => h) | exact ro_f0 (fun _ => slc_rsl) | exact ro_f1 (fun _ h => h) | exact ro_f1 (fun _ => slc_rsl) | exact ro_f2 (fun _ h => h) | exact ro_f2 (fun _ => slc_rsl) | exact ro_f3 (fun _ h => h) | exact ro_f3 (fun _ => slc_rsl) | exact ro_f4 (fun _ h => h) | exact ro_f4 (fun _ => slc_rsl) | exact ro_f5 (fun _ h => h) | exact ro_f5 (fun _ => slc_rsl) | exact ro_f6 (fun _ h => h) | exact ro_f6 (fun _ => slc_rsl)) ?_)))) (wl_ex fun x74 hx74 => ?_)
            refine wl_y rfl (y_not rfl) ?_
            refine wl_y rfl (y_move rfl) ?_
            refine wl_known 76 true rfl (rfl) ?_
            refine wl_yg rfl rfl rfl (y_move rfl) ?_
            refine wl_c (want_some rfl rfl) rfl (yc_spec (fst := []) (cap := []) _ FN9 (append_at (good_turn (dS_good hA0 hA1 j) 0 false (by omega) (by omega)) (show ({ dS (max at_ 0) j with dead := false, armed := 0 } : Dk).append [97] [120] = ((({ dS (max at_ 0) j with dead := false, armed := 0 } : Dk).append [97] [120]).1, 0) from Prod.ext rfl (dS_last _ _))) rfl rfl rfl (by (repeat (first | exact pt_nil | apply pt0 | apply pt1 | apply pt2 | apply pt3 | apply pt4 | apply pt5 | apply pt6 | apply pt7 | apply pt8 | apply pt9 | apply pt10 | apply pt11 | apply pt12 | apply pt13 | apply pt14 | apply pt15 | apply pt16 | apply pt17))) (by (repeat (first | exact ro_nil | exact ro_rest (by assumption) | refine ro_cons (by first | exact .inl (by assumption) | exact ro_f0 (fun _ h => h) | exact ro_f0 (fun _ => slc_rsl) | exact ro_f1 (fun _ h => h) | exact ro_f1 (fun _ => slc_rsl) | exact ro_f2 (fun _ h => h) | exact ro_f2 (fun _ => slc_rsl) | exact ro_f3 (fun _ h => h) | exact ro_f3 (fun _ => slc_rsl) | exact ro_f4 (fun _ h => h) | exact ro_f4 (fun _ => slc_rsl) | exact ro_f5 (fun _ h => h) | exact ro_f5 (fun _ => slc_rsl) | exact ro_f6 (fun _ h => h) | exact ro_f6 (fun _ => slc_rsl)) ?_)))) (wl_ex fun x78 hx78 => ?_)
            refine wl_yg rfl rfl rfl (y_eqlI rfl rfl) ?_
            refine wl_y rfl (y_pick_t rfl rfl) ?_
            refine wl_y rfl (y_move rfl) ?_
            refine wl_known 81 true rfl (by decide) ?_
            refine wl_q (want_some rfl rfl) rfl (yq_spec (fst := []) (cap := []) _ FN13 awake_c rfl rfl rfl (by (repeat (first | exact pt_nil | apply pt0 | apply pt1 | apply pt2 | apply pt3 | apply pt4 | apply pt5 | apply pt6 | apply pt7 | apply pt8 | apply pt9 | apply pt10 | apply pt11 | apply pt12 | apply pt13 | apply pt14 | apply pt15 | apply pt16 | apply pt17))) (by (repeat (first | exact ro_nil | exact ro_rest (by assumption) | refine ro_cons (by first | exact .inl (by assumption) | exact ro_f0 (fun _ h => h) | exact ro_f0 (fun _ => slc_rsl) | exact ro_f1 (fun _ h => h) | exact ro_f1 (fun _ => slc_rsl) | exact ro_f2 (fun _ h => h) | exact ro_f2 (fun _ => slc_rsl) | exact ro_f3 (fun _ h => h) | exact ro_f3 (fun _ => slc_rsl) | exact ro_f4 (fun _ h => h) | exact ro_f4 (fun _ => slc_rsl) | exact ro_f5 (fun _ h => h) | exact ro_f5 (fun _ => slc_rsl) | exact ro_f6 (fun _ h => h) | exact ro_f6 (fun _ => slc_rsl)) ?_))) (fun _ _ => rfl) (fun _ _ _ h => h.sub (by (repeat (first | exact pt_nil | apply pt0 | apply pt1 | apply pt2 | apply pt3 | apply pt4 | apply pt5 | apply pt6 | apply pt7 | apply pt8 | apply pt9 | apply pt10 | apply pt11 | apply pt12 | apply pt13 | apply pt14 | apply pt15 | apply pt16 | apply pt17))))) ?_
            refine wl_y rfl (y_pick_t rfl rfl) ?_
            refine wl_y rfl (y_assign rfl) ?_
            refine wl_nil ?_
            refine wq_then ?_
            refine wc_ret ?_
            refine wq_ret1 rfl rfl (fun w hw => ?_)
            exact ⟨(), trivial, rfl, hw.bare⟩
          ·
            refine wl_sk rfl rfl rfl rfl ?_
            refine wl_sk rfl rfl rfl rfl ?_
            refine wl_sk rfl rfl rfl rfl ?_
            refine wl_yg rfl rfl rfl (y_pick_f rfl rfl) ?_
            refine wl_y rfl (y_pick_f rfl rfl) ?_
            refine wl_nil ?_
            refine wq_then ?_
            refine wc_known 70 false rfl (by decide) ?_
            refine wc_cond_false rfl ?_
            refine wc_skip ?_
            refine wq_then ?_
            refine wc_seq ?_
            refine wc_region ?_
            refine wl_y rfl (y_move rfl) ?_
            refine wl_c (fun _ _ => want_none) rfl (yc_spec (fst := []) (cap := []) _ FN12 (crash_at (ks := []) (ko := none) (kc := 0) (dS_good hA0 hA1 j) (by unfold dS; split <;> simp) (Nat.le_refl _) (dS_crash (max at_ 0) j)) rfl rfl rfl (by (repeat (first | exact pt_nil | apply pt0 | apply pt1 | apply pt2 | apply pt3 | apply pt4 | apply pt5 | apply pt6 | apply pt7 | apply pt8 | apply pt9 | apply pt10 | apply pt11 | apply pt12 | apply pt13 | apply pt14 | apply pt15 | apply pt16 | apply pt17))) (fun A hA => .inl (by rw [List.mem_singleton.1 hA]; exact ro_empty))) (wl_ex fun x72 hx72 => ?_)
            refine wl_nil ?_
            refine wq_then ?_
            refine wc_seq ?_
            refine wc_region ?_
            refine wl_y rfl (y_move rfl) ?_
            refine wl_c (fun _ _ => want_none) rfl (yc_spec (fst := []) (cap := []) _ FN10 (dead_c x12 ({ dS (max at_ 0) j with dead := false, armed := 0 } : Dk)) rfl rfl rfl (by (repeat (first | exact pt_nil | apply pt0 | apply pt1 | apply pt2 | apply pt3 | apply pt4 | apply pt5 | apply pt6 | apply pt7 | apply pt8 | apply pt9 | apply pt10 | apply pt11 | apply pt12 | apply pt13 | apply pt14 | apply pt15 | apply pt16 | apply pt17))) (by (repeat (first | exact ro_nil | exact ro_rest (by assumption) | refine ro_cons (by first | exact .inl (by assumption) | exact ro_f0 (fun _ h => h) | exact ro_f0 (fun _ => slc_rsl) | exact ro_f1 (fun _ h => h) | exact ro_f1 (fun _ => slc_rsl) | exact ro_f2 (fun _ h => h) | exact ro_f2 (fun _ => slc_rsl) | exact ro_f3 (fun _ h => h) | exact ro_f3 (fun _ => slc_rsl) | exact ro_f4 (fun _ h => h) | exact ro_f4 (fun _ => slc_rsl) | exact ro_f5 (fun _ h => h) | exact ro_f5 (fun _ => slc_rsl) | exact ro_f6 (fun _ h => h) | exact ro_f6 (fun _ => slc_rsl)) ?_)))) (wl_ex fun x74 hx74 => ?_)
            refine wl_y rfl (y_not rfl) ?_
            refine wl_y rfl (y_move rfl) ?_
            refine wl_known 76 true rfl (rfl) ?_
            refine wl_yg rfl rfl rfl (y_move rfl) ?_
            refine wl_c (want_some rfl rfl) rfl (yc_spec (fst := []) (cap := []) _ FN9 (append_at (good_turn (dS_good hA0 hA1 j) 0 false (by omega) (by omega)) (show ({ dS (max at_ 0) j with dead := false, armed := 0 } : Dk).append [97] [120] = ((({ dS (max at_ 0) j with dead := false, armed := 0 } : Dk).append [97] [120]).1, 0) from Prod.ext rfl (dS_last _ _))) rfl rfl rfl (by (repeat (first | exact pt_nil | apply pt0 | apply pt1 | apply pt2 | apply pt3 | apply pt4 | apply pt5 | apply pt6 | apply pt7 | apply pt8 | apply pt9 | apply pt10 | apply pt11 | apply pt12 | apply pt13 | apply pt14 | apply pt15 | apply pt16 | apply pt17))) (by (repeat (first | exact ro_nil | exact ro_rest (by assumption) | refine ro_cons (by first | exact .inl (by assumption) | exact ro_f0 (fun _ h => h) | exact ro_f0 (fun _ => slc_rsl) | exact ro_f1 (fun _ h => h) | exact ro_f1 (fun _ => slc_rsl) | exact ro_f2 (fun _ h => h) | exact ro_f2 (fun _ => slc_rsl) | exact ro_f3 (fun _ h => h) | exact ro_f3 (fun _ => slc_rsl) | exact ro_f4 (fun _ h => h) | exact ro_f4 (fun _ => slc_rsl) | exact ro_f5 (fun _ h => h) | exact ro_f5 (fun _ => slc_rsl) | exact ro_f6 (fun _ h => h) | exact ro_f6 (fun _ => slc_rsl)) ?_)))) (wl_ex fun x78 hx78 => ?_)
            refine wl_yg rfl rfl rfl (y_eqlI rfl rfl) ?_
            refine wl_y rfl (y_pick_t rfl rfl) ?_
            refine wl_y rfl (y_move rfl) ?_
            refine wl_known 81 true rfl (by decide) ?_
            refine wl_q (want_some rfl rfl) rfl (yq_spec (fst := []) (cap := []) _ FN13 awake_c rfl rfl rfl (by (repeat (first | exact pt_nil | apply pt0 | apply pt1 | apply pt2 | apply pt3 | apply pt4 | apply pt5 | apply pt6 | apply pt7 | apply pt8 | apply pt9 | apply pt10 | apply pt11 | apply pt12 | apply pt13 | apply pt14 | apply pt15 | apply pt16 | apply pt17))) (by (repeat (first | exact ro_nil | exact ro_rest (by assumption) | refine ro_cons (by first | exact .inl (by assumption) | exact ro_f0 (fun _ h => h) | exact ro_f0 (fun _ => slc_rsl) | exact ro_f1 (fun _ h => h) | exact ro_f1 (fun _ => slc_rsl) | exact ro_f2 (fun _ h => h) | exact ro_f2 (fun _ => slc_rsl) | exact ro_f3 (fun _ h => h) | exact ro_f3 (fun _ => slc_rsl) | exact ro_f4 (fun _ h => h) | exact ro_f4 (fun _ => slc_rsl) | exact ro_f5 (fun _ h => h) | exact ro_f5 (fun _ => slc_rsl) | exact ro_f6 (fun _ h => h) | exact ro_f6 (fun _ => slc_rsl)) ?_))) (fun _ _ => rfl) (fun _ _ _ h => h.sub (by (repeat (first | exact pt_nil | apply pt0 | apply pt1 | apply pt2 | apply pt3 | apply pt4 | apply pt5 | apply pt6 | apply pt7 | apply pt8 | apply pt9 | apply pt10 | apply pt11 | apply pt12 | apply pt13 | apply pt14 | apply pt15 | apply pt16 | apply pt17))))) ?_
            refine wl_y rfl (y_pick_t rfl rfl) ?_
            refine wl_y rfl (y_assign rfl) ?_
            refine wl_nil ?_
            refine wq_then ?_
            refine wc_ret ?_
            refine wq_ret1 rfl rfl (fun w hw => ?_)
            exact ⟨(), trivial, rfl, hw.bare⟩

end Go.Proofs.Ytdeellflcphkaaa
