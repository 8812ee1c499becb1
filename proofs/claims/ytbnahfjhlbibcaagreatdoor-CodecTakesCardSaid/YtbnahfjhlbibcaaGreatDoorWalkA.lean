/-
  Walks: the reference's digits.
-/
import Derived.Test.YtbnahfjhlbibcaaGreatDoorNumX
namespace Go.Proofs.YtbnahfjhlbibcaaGreatDoor
open Go.Eng

open Go.Lib
set_option maxHeartbeats 1000000 in
theorem digits_s (n : Int) (h : inR n) (IH : ∀ m : Int, 0 ≤ m → m < n → Ctr Tryz.prog 69 #[vI m] [] [] (fun _ : Unit => True) (fun _ => vS (itoa m)) (fun _ => [])) :
    Ctr Tryz.prog 69 #[vI n] [] [] (fun _ : Unit => True) (fun _ => vS (itoa n)) (fun _ => []) := by
  refine spec_start (n := 41) [(0, vI n)] Tryz.func69 rfl rfl ⟨rfl, trivial⟩ rfl ?_
  intro w0 K hR
  obtain ⟨hn0, hn1⟩ := id h
  have hlen := (itoa_len (n := n / 10) ⟨by omega, by omega⟩).2
  refine wc_seq ?_
  refine wc_region ?_
  refine wl_y rfl (y_assign rfl) ?_
  refine wl_nil ?_
  refine wq_then ?_
  refine wc_seq ?_
  refine wc_seq ?_
  refine wc_region ?_
  refine wl_y rfl (y_move rfl) ?_
  refine wl_y rfl (y_geq rfl rfl) ?_
  refine wl_y rfl (y_move rfl) ?_
  apply wl_and 3 9 [(0, _)] (t := 6) rfl ⟨rfl, trivial⟩
  · intro hg6 hM9
    try (simp at hg6)
    refine wl_yg rfl rfl rfl (y_move rfl) ?_
    refine wl_yg rfl rfl rfl (y_lss rfl rfl) ?_
    refine wl_y rfl (y_pick_t rfl rfl) ?_
    exact wl_weaken hM9 ⟨rfl, rfl, trivial⟩
  · intro hg6 hM9
    refine wl_sk rfl rfl rfl rfl ?_
    refine wl_sk rfl rfl rfl rfl ?_
    refine wl_y rfl (y_pick_f rfl rfl) ?_
    exact wl_weaken hM9 ⟨rfl, rfl, trivial⟩
  ·
    refine wl_nil ?_
    refine wq_then ?_
    refine wc_cond rfl (fun hc9 => ?_) (fun hc9 => ?_)
    ·
      simp at hc9
      refine wc_seq ?_
      refine wc_region ?_
      refine wl_y rfl (y_move rfl) ?_
      refine wl_y rfl (y_add rfl rfl (by omega)) ?_
      refine wl_y rfl (y_convInt (q := ((digB n.toNat).toNat : Nat)) Tryz.underlying3 Tryz.underlying5 rfl (wrap_dig (by omega) (by omega))) ?_
      refine wl_w (fun _ _ => want_none) rfl (yw_buildSlice (cs := byC [digB n.toNat]) Tryz.underlying84 T5 rfl rfl rfl rfl rfl rfl rfl) (wl_ex fun b13 _ => ?_)
      refine wl_w (fun _ _ => want_none) rfl (yw_of (y_convBytes (l := [digB n.toNat]) Tryz.underlying84 Tryz.underlying5 Tryz.underlying9 rfl (by first | exact fun w hw => (hw.seen []).mono fun _ => slc_rsl | exact fun w hw => (hw.seen [_]).mono fun _ => slc_rsl | exact fun w hw => (hw.seen [_, _]).mono fun _ => slc_rsl | exact fun w hw => (hw.seen [_, _, _]).mono fun _ => slc_rsl))) (wl_ex fun _ _ => ?_)
      refine wl_y rfl (y_assign rfl) ?_
      refine wl_nil ?_
      refine wq_then ?_
      refine wc_ret ?_
      refine wq_then_ret ?_
      refine wq_ret1 rfl rfl (fun w hw => ?_)
      exact ⟨(), trivial, by rw [itoa_small (by omega) (by omega)], hw.bare⟩
    ·
      simp at hc9
      refine wc_skip ?_
      refine wq_then ?_
      refine wc_seq ?_
      refine wc_seq ?_
      refine wc_region ?_
      refine wl_y rfl (y_move rfl) ?_
      refine wl_y rfl (y_lss rfl rfl) ?_
      refine wl_nil ?_
      refine wq_then ?_
      refine wc_cond rfl (fun hc16 => ?_) (fun hc16 => ?_)
      ·
        simp at hc16
        refine wc_seq ?_
        refine wc_region ?_
        refine wl_same 0 (vI (-(n.natAbs : Int))) rfl (congrArg vI (by omega)) ?_
        refine wl_y rfl (y_assign rfl) ?_
        refine wl_nil ?_
        refine wq_then ?_
        refine wc_seq ?_
        refine wc_block ?_
        refine wc_loop (α := Nat × Str) (fun y => y.1 ≤ 9223372036854775808 ∧ digI n.natAbs y.1 y.2) [] (fun y => [(0, vI (-(y.1 : Int))), (3, vS y.2)]) (fun y => Hp w0 K []) (fun y => y.1) (n.natAbs, []) ?_ ⟨rfl, rfl, trivial⟩ ?_ ?_
        · exact ⟨by simp only; omega, digI_start (by omega)⟩
        · exact fun w hw => hw
        · rintro ⟨m, s⟩ ⟨hm, hI⟩; simp only at hm hI
          have hsl := digI_len (by omega) hI
          refine wc_same 0 (vI (-(m : Int))) rfl rfl ?_
          refine wc_same 3 (vS s) rfl rfl ?_
          refine wc_seq ?_
          refine wc_seq ?_
          refine wc_region ?_
          refine wl_y rfl (y_move rfl) ?_
          refine wl_y rfl (y_neqI rfl rfl) ?_
          refine wl_nil ?_
          refine wq_then ?_
          refine wc_cond rfl (fun hc18 => ?_) (fun hc18 => ?_)
          ·
            simp at hc18
            refine wc_skip ?_
            refine wq_then ?_
            refine wc_block ?_
            refine wc_seq ?_
            refine wc_region ?_
            refine wl_y rfl (y_move rfl) ?_
            refine wl_y rfl (y_remE (r := -((m % 10 : Nat) : Int)) rfl rfl (by omega) (tmod_neg m)) ?_
            refine wl_y rfl (y_sub rfl rfl (by omega)) ?_
            refine wl_y rfl (y_convInt (q := ((digB (m % 10)).toNat : Nat)) Tryz.underlying3 Tryz.underlying5 rfl (wrap_dig (by omega) (by omega))) ?_
            refine wl_w (fun _ _ => want_none) rfl (yw_buildSlice (cs := byC [digB (m % 10)]) Tryz.underlying84 T5 rfl rfl rfl rfl rfl rfl rfl) (wl_ex fun b23 _ => ?_)
            refine wl_w (fun _ _ => want_none) rfl (yw_of (y_convBytes (l := [digB (m % 10)]) Tryz.underlying84 Tryz.underlying5 Tryz.underlying9 rfl (by first | exact fun w hw => (hw.seen []).mono fun _ => slc_rsl | exact fun w hw => (hw.seen [_]).mono fun _ => slc_rsl | exact fun w hw => (hw.seen [_, _]).mono fun _ => slc_rsl | exact fun w hw => (hw.seen [_, _, _]).mono fun _ => slc_rsl))) (wl_ex fun _ _ => ?_)
            refine wl_y rfl (y_move rfl) ?_
            refine wl_y rfl (y_addS rfl rfl (by first | omega | (simp; omega) | (simp only [List.length_append]; omega))) ?_
            refine wl_y rfl (y_assign rfl) ?_
            refine wl_nil ?_
            refine wq_then ?_
            refine wc_region ?_
            refine wl_y rfl (y_move rfl) ?_
            refine wl_y rfl (y_quoE (r := -((m / 10 : Nat) : Int)) rfl rfl (by omega) (tdiv_neg m (by omega))) ?_
            refine wl_y rfl (y_assign rfl) ?_
            refine wl_nil ?_
            refine wq_block_normal ?_
            exact wq_round (m / 10, [digB (m % 10)] ++ s) (by simp only; omega) ⟨by simp only; omega, digI_step (by omega) hI⟩ ⟨rfl, rfl, trivial⟩ (fun w hw => hw.bare)
          ·
            simp at hc18
            refine wc_exit ?_
            refine wq_then_exit (wq_then_exit (wq_block_exit ?_))
            refine wq_then ?_
            refine wc_seq ?_
            refine wc_region ?_
            refine wl_y rfl (y_move rfl) ?_
            refine wl_y rfl (y_addS rfl rfl (by first | omega | (simp; omega) | (simp only [List.length_append]; omega))) ?_
            refine wl_y rfl (y_assign rfl) ?_
            refine wl_nil ?_
            refine wq_then ?_
            refine wc_ret ?_
            refine wq_then_ret ?_
            refine wq_ret1 rfl rfl (fun w hw => ?_)
            obtain rfl : m = 0 := by omega
            exact ⟨(), trivial, by rw [itoa_negN (by omega), digI_end hI], hw.bare⟩
      ·
        simp at hc16
        refine wc_skip ?_
        refine wq_then ?_
        refine wc_seq ?_
        refine wc_mix (.q 0 0 (.q 1 0 (.q 3 0 (.q 4 0 (.q 5 0 (.q 6 0 (.w 2 2 (.w 7 2 (.w 8 2 (.q 9 0 (.q 10 0 .nil)) .nil) .nil) (.w 7 2 (.w 2 2 (.w 8 2 (.q 9 0 (.q 10 0 .nil)) .nil) (.w 8 2 (.w 2 2 (.q 9 0 (.q 10 0 .nil)) .nil) .nil)) .nil)))))))) (fun _ => True) MO (by kernel_rfl) (Hp.drawless _ _ _) (fun _ _ => trivial) ?_
        refine wm_g rfl rfl (y_move rfl) ?_
        refine wm_g rfl rfl (y_quoN rfl rfl (by omega)) ?_
        refine wm_g rfl rfl (y_move rfl) ?_
        refine wm_g rfl rfl (y_remE (r := ((n.toNat % 10 : Nat) : Int)) rfl rfl (by omega) (by rw [Int.tmod_eq_emod_of_nonneg (by omega)]; omega)) ?_
        refine wm_g rfl rfl (y_add rfl rfl (by omega)) ?_
        refine wm_g rfl rfl (y_convInt (q := ((digB (n.toNat % 10)).toNat : Nat)) Tryz.underlying3 Tryz.underlying5 rfl (wrap_dig (by omega) (by omega))) ?_
        refine wm_alt ?_ ?_
        ·
          refine wm_c rfl rfl (fun _ _ _ => trivial) (yc_spec (fst := []) (cap := []) _ FN69 (IH (n / 10) (by omega) (by omega)) rfl rfl rfl (by (repeat (first | exact pt_nil | apply pt0 | apply pt1 | apply pt2 | apply pt3 | apply pt4 | apply pt5 | apply pt6 | apply pt7 | apply pt8 | apply pt9 | apply pt10 | apply pt11 | apply pt12 | apply pt13 | apply pt14 | apply pt15 | apply pt16 | apply pt17))) (by (repeat (first | exact ro_nil | exact ro_rest (by assumption) | refine ro_cons (by first | exact .inl (by assumption) | exact ro_f0 (fun _ h => h) | exact ro_f0 (fun _ => slc_rsl) | exact ro_f1 (fun _ h => h) | exact ro_f1 (fun _ => slc_rsl) | exact ro_f2 (fun _ h => h) | exact ro_f2 (fun _ => slc_rsl) | exact ro_f3 (fun _ h => h) | exact ro_f3 (fun _ => slc_rsl) | exact ro_f4 (fun _ h => h) | exact ro_f4 (fun _ => slc_rsl) | exact ro_f5 (fun _ h => h) | exact ro_f5 (fun _ => slc_rsl) | exact ro_f6 (fun _ h => h) | exact ro_f6 (fun _ => slc_rsl)) ?_)))) (wm_ex fun x33 hx33 => ?_)
          refine wm_w rfl rfl (fun _ _ _ => trivial) (yw_buildSlice (cs := byC [digB (n.toNat % 10)]) Tryz.underlying84 T5 rfl rfl rfl rfl rfl rfl rfl) (wm_ex fun b38 _ => ?_)
          refine wm_w rfl rfl (fun _ _ _ => trivial) (yw_of (y_convBytes (l := [digB (n.toNat % 10)]) Tryz.underlying84 Tryz.underlying5 Tryz.underlying9 rfl (by first | exact fun w hw => (hw.seen []).mono fun _ => slc_rsl | exact fun w hw => (hw.seen [_]).mono fun _ => slc_rsl | exact fun w hw => (hw.seen [_, _]).mono fun _ => slc_rsl | exact fun w hw => (hw.seen [_, _, _]).mono fun _ => slc_rsl))) (wm_ex fun _ _ => ?_)
          refine wm_g rfl rfl (y_addS rfl rfl (by first | omega | (simp; omega) | (simp only [List.length_append]; omega))) ?_
          refine wm_g rfl rfl (y_assign rfl) ?_
          refine wm_nil ?_
          refine all_wq ?_
          refine wq_then ?_
          refine wc_ret ?_
          refine wq_ret1 rfl rfl (fun w hw => ?_)
          exact ⟨(), trivial, by rw [itoa_big (n := n) (by omega)], hw.bare⟩
        ·
          refine wm_w rfl rfl (fun _ _ _ => trivial) (yw_buildSlice (cs := byC [digB (n.toNat % 10)]) Tryz.underlying84 T5 rfl rfl rfl rfl rfl rfl rfl) (wm_ex fun b38 _ => ?_)
          refine wm_alt ?_ ?_
          ·
            refine wm_c rfl rfl (fun _ _ _ => trivial) (yc_spec (fst := []) (cap := []) _ FN69 (IH (n / 10) (by omega) (by omega)) rfl rfl rfl (by (repeat (first | exact pt_nil | apply pt0 | apply pt1 | apply pt2 | apply pt3 | apply pt4 | apply pt5 | apply pt6 | apply pt7 | apply pt8 | apply pt9 | apply pt10 | apply pt11 | apply pt12 | apply pt13 | apply pt14 | apply pt15 | apply pt16 | apply pt17))) (by (repeat (first | exact ro_nil | exact ro_rest (by assumption) | refine ro_cons (by first | exact .inl (by assumption) | exact ro_f0 (fun _ h => h) | exact ro_f0 (fun _ => slc_rsl) | exact ro_f1 (fun _ h => h) | exact ro_f1 (fun _ => slc_rsl) | exact ro_f2 (fun _ h => h) | exact ro_f2 (fun _ => slc_rsl) | exact ro_f3 (fun _ h => h) | exact ro_f3 (fun _ => slc_rsl) | exact ro_f4 (fun _ h => h) | exact ro_f4 (fun _ => slc_rsl) | exact ro_f5 (fun _ h => h) | exact ro_f5 (fun _ => slc_rsl) | exact ro_f6 (fun _ h => h) | exact ro_f6 (fun _ => slc_rsl)) ?_)))) (wm_ex fun x33 hx33 => ?_)
            refine wm_w rfl rfl (fun _ _ _ => trivial) (yw_of (y_convBytes (l := [digB (n.toNat % 10)]) Tryz.underlying84 Tryz.underlying5 Tryz.underlying9 rfl (by first | exact fun w hw => (hw.seen []).mono fun _ => slc_rsl | exact fun w hw => (hw.seen [_]).mono fun _ => slc_rsl | exact fun w hw => (hw.seen [_, _]).mono fun _ => slc_rsl | exact fun w hw => (hw.seen [_, _, _]).mono fun _ => slc_rsl))) (wm_ex fun _ _ => ?_)
            refine wm_g rfl rfl (y_addS rfl rfl (by first | omega | (simp; omega) | (simp only [List.length_append]; omega))) ?_
            refine wm_g rfl rfl (y_assign rfl) ?_
            refine wm_nil ?_
            refine all_wq ?_
            refine wq_then ?_
            refine wc_ret ?_
            refine wq_ret1 rfl rfl (fun w hw => ?_)
            exact ⟨(), trivial, by rw [itoa_big (n := n) (by omega)], hw.bare⟩
          ·
            refine wm_w rfl rfl (fun _ _ _ => trivial) (yw_of (y_convBytes (l := [digB (n.toNat % 10)]) Tryz.underlying84 Tryz.underlying5 Tryz.underlying9 rfl (by first | exact fun w hw => (hw.seen []).mono fun _ => slc_rsl | exact fun w hw => (hw.seen [_]).mono fun _ => slc_rsl | exact fun w hw => (hw.seen [_, _]).mono fun _ => slc_rsl | exact fun w hw => (hw.seen [_, _, _]).mono fun _ => slc_rsl))) (wm_ex fun _ _ => ?_)
            refine wm_c rfl rfl (fun _ _ _ => trivial) (yc_spec (fst := []) (cap := []) _ FN69 (IH (n / 10) (by omega) (by omega)) rfl rfl rfl (by (repeat (first | exact pt_nil | apply pt0 | apply pt1 | apply pt2 | apply pt3 | apply pt4 | apply pt5 | apply pt6 | apply pt7 | apply pt8 | apply pt9 | apply pt10 | apply pt11 | apply pt12 | apply pt13 | apply pt14 | apply pt15 | apply pt16 | apply pt17))) (by (repeat (first | exact ro_nil | exact ro_rest (by assumption) | refine ro_cons (by first | exact .inl (by assumption) | exact ro_f0 (fun _ h => h) | exact ro_f0 (fun _ => slc_rsl) | exact ro_f1 (fun _ h => h) | exact ro_f1 (fun _ => slc_rsl) | exact ro_f2 (fun _ h => h) | exact ro_f2 (fun _ => slc_rsl) | exact ro_f3 (fun _ h => h) | exact ro_f3 (fun _ => slc_rsl) | exact ro_f4 (fun _ h => h) | exact ro_f4 (fun _ => slc_rsl) | exact ro_f5 (fun _ h => h) | exact ro_f5 (fun _ => slc_rsl) | exact ro_f6 (fun _ h => h) | exact ro_f6 (fun _ => slc_rsl)) ?_)))) (wm_ex fun x33 hx33 => ?_)
            refine wm_g rfl rfl (y_addS rfl rfl (by first | omega | (simp; omega) | (simp only [List.length_append]; omega))) ?_
            refine wm_g rfl rfl (y_assign rfl) ?_
            refine wm_nil ?_
            refine all_wq ?_
            refine wq_then ?_
            refine wc_ret ?_
            refine wq_ret1 rfl rfl (fun w hw => ?_)
            exact ⟨(), trivial, by rw [itoa_big (n := n) (by omega)], hw.bare⟩

theorem digits_c (n : Int) (h : inR n) : Ctr Tryz.prog 69 #[vI n] [] [] (fun _ : Unit => True) (fun _ => vS (itoa n)) (fun _ => []) := by
  obtain ⟨h0, h1⟩ := id h
  have key : ∀ k : Nat, k ≤ 9223372036854775807 → Ctr Tryz.prog 69 #[vI (k : Nat)] [] [] (fun _ : Unit => True) (fun _ => vS (itoa (k : Nat))) (fun _ => []) := by
    intro k
    induction k using Nat.strongRecOn with
    | _ k ih =>
      intro hk
      refine digits_s (k : Nat) ⟨by omega, by omega⟩ fun m hm hlt => ?_
      have := ih m.toNat (by omega) (by omega)
      rwa [Int.toNat_of_nonneg hm] at this
  by_cases hn : n < 0
  · exact digits_s n h fun m hm hlt => by omega
  · have := key n.toNat (by omega)
    rwa [Int.toNat_of_nonneg (by omega)] at this
end Go.Proofs.YtbnahfjhlbibcaaGreatDoor
