/-
  Law: what each call answers.
-/
import Derived.Test.YtfnpjmlpiedgdaaRH
namespace Go.Proofs.Ytfnpjmlpiedgdaa
open Go.Eng

set_option maxHeartbeats 1000000 in
theorem lawPlays (a n : Int) (ops : List SOp) (oo : Option Addr) (cc : Nat) (hks : ∀ x ∈ ops, x.job.key.length ≤ maxLen) :
    Ctr Try.prog 4 #[vI a, vI n, .slice oo ops.length cc] [rsl oo ops.length 7 (ops.flatMap encO)] [] (fun _ : Unit => True) (fun _ => vB true) (fun _ => []) := by
  refine spec_start (n := 236) [(0, vI a), (1, vI n), (2, .slice oo ops.length cc)] Try.func4 rfl rfl ⟨rfl, rfl, rfl, trivial⟩ rfl ?_
  intro w0 K hR
  have hA := hR _ (List.mem_cons_self ..)
  refine wc_seq ?_
  refine wc_region ?_
  refine wl_y rfl (y_assign rfl) ?_
  refine wl_nil ?_
  refine wq_then ?_
  refine wc_seq ?_
  refine wc_region ?_
  rcases (show (a < 1 ∨ 1000000 < a) ∨ (1 ≤ a ∧ a ≤ 1000000 ∧ (n < 1 ∨ 1000000 < n)) ∨ (1 ≤ a ∧ a ≤ 1000000 ∧ 1 ≤ n ∧ n ≤ 1000000) by omega) with h | ⟨a1, a2, h⟩ | ⟨a1, a2, h1, h2⟩
  ·
    refine wl_y rfl (y_move rfl) ?_
    refine wl_y rfl (y_move rfl) ?_
    refine wl_c (fun _ _ => want_none) rfl (yc_spec (fst := []) (cap := []) _ FN7 (snew_a a n h) rfl rfl rfl (by (repeat (first | exact pt_nil | apply pt0 | apply pt1 | apply pt2 | apply pt3 | apply pt4 | apply pt5 | apply pt6 | apply pt7 | apply pt8 | apply pt9 | apply pt10 | apply pt11 | apply pt12 | apply pt13 | apply pt14 | apply pt15 | apply pt16 | apply pt17))) (by (repeat (first | exact ro_nil | exact ro_rest (by assumption) | refine ro_cons (by first | exact .inl (by assumption) | exact ro_f0 (fun _ h => h) | exact ro_f0 (fun _ => slc_rsl) | exact ro_f1 (fun _ h => h) | exact ro_f1 (fun _ => slc_rsl) | exact ro_f2 (fun _ h => h) | exact ro_f2 (fun _ => slc_rsl) | exact ro_f3 (fun _ h => h) | exact ro_f3 (fun _ => slc_rsl) | exact ro_f4 (fun _ h => h) | exact ro_f4 (fun _ => slc_rsl) | exact ro_f5 (fun _ h => h) | exact ro_f5 (fun _ => slc_rsl) | exact ro_f6 (fun _ h => h) | exact ro_f6 (fun _ => slc_rsl)) ?_)))) (wl_ex fun x25 hx25 => ?_)
    refine wl_y rfl (y_move rfl) ?_
    refine wl_y rfl (y_extract rfl rfl) ?_
    refine wl_y rfl (y_extract rfl rfl) ?_
    refine wl_y rfl (y_assign rfl) ?_
    refine wl_y rfl (y_assign rfl) ?_
    refine wl_nil ?_
    refine wq_then ?_
    refine wc_seq ?_
    refine wc_region ?_
    refine wl_y rfl (y_move rfl) ?_
    refine wl_y rfl (y_move rfl) ?_
    refine wl_c (fun _ _ => want_none) rfl (yc_spec (fst := []) (cap := []) _ FN16 (fnew_a a n h) rfl rfl rfl (by (repeat (first | exact pt_nil | apply pt0 | apply pt1 | apply pt2 | apply pt3 | apply pt4 | apply pt5 | apply pt6 | apply pt7 | apply pt8 | apply pt9 | apply pt10 | apply pt11 | apply pt12 | apply pt13 | apply pt14 | apply pt15 | apply pt16 | apply pt17))) (by (repeat (first | exact ro_nil | exact ro_rest (by assumption) | refine ro_cons (by first | exact .inl (by assumption) | exact ro_f0 (fun _ h => h) | exact ro_f0 (fun _ => slc_rsl) | exact ro_f1 (fun _ h => h) | exact ro_f1 (fun _ => slc_rsl) | exact ro_f2 (fun _ h => h) | exact ro_f2 (fun _ => slc_rsl) | exact ro_f3 (fun _ h => h) | exact ro_f3 (fun _ => slc_rsl) | exact ro_f4 (fun _ h => h) | exact ro_f4 (fun _ => slc_rsl) | exact ro_f5 (fun _ h => h) | exact ro_f5 (fun _ => slc_rsl) | exact ro_f6 (fun _ h => h) | exact ro_f6 (fun _ => slc_rsl)) ?_)))) (wl_ex fun x31 hx31 => ?_)
    refine wl_y rfl (y_move rfl) ?_
    refine wl_y rfl (y_extract rfl rfl) ?_
    refine wl_y rfl (y_extract rfl rfl) ?_
    refine wl_y rfl (y_assign rfl) ?_
    refine wl_y rfl (y_assign rfl) ?_
    refine wl_nil ?_
    refine wq_then ?_
    refine wc_seq ?_
    refine wc_seq ?_
    refine wc_region ?_
    refine wl_y rfl (y_move rfl) ?_
    refine wl_y rfl (y_move rfl) ?_
    refine wl_y rfl (y_neqI rfl rfl) ?_
    refine wl_y rfl (y_move rfl) ?_
    refine wl_known 37 false rfl (by decide) ?_
    refine wl_yg rfl rfl rfl (y_move rfl) ?_
    refine wl_yg rfl rfl rfl (y_eqlP Try.underlying23 rfl rfl) ?_
    refine wl_yg rfl rfl rfl (y_move rfl) ?_
    refine wl_yg rfl rfl rfl (y_eqlP Try.underlying44 rfl rfl) ?_
    refine wl_yg rfl rfl rfl (y_neqB Try.underlying4 rfl rfl) ?_
    refine wl_y rfl (y_pick_f rfl rfl) ?_
    refine wl_nil ?_
    refine wq_then ?_
    refine wc_known 43 false rfl (by decide) ?_
    refine wc_cond_false rfl ?_
    refine wc_skip ?_
    refine wq_then ?_
    refine wc_seq ?_
    refine wc_seq ?_
    refine wc_region ?_
    refine wl_y rfl (y_move rfl) ?_
    refine wl_y rfl (y_eqlP Try.underlying44 rfl rfl) ?_
    refine wl_nil ?_
    refine wq_then ?_
    refine wc_known 45 true rfl (by decide) ?_
    refine wc_cond_true rfl ?_
    refine wc_seq ?_
    refine wc_region ?_
    refine wl_q (fun _ _ => want_none) rfl (yq_spec (fst := []) (cap := []) _ FN8 awake_c rfl rfl rfl (by (repeat (first | exact pt_nil | apply pt0 | apply pt1 | apply pt2 | apply pt3 | apply pt4 | apply pt5 | apply pt6 | apply pt7 | apply pt8 | apply pt9 | apply pt10 | apply pt11 | apply pt12 | apply pt13 | apply pt14 | apply pt15 | apply pt16 | apply pt17))) (by (repeat (first | exact ro_nil | exact ro_rest (by assumption) | refine ro_cons (by first | exact .inl (by assumption) | exact ro_f0 (fun _ h => h) | exact ro_f0 (fun _ => slc_rsl) | exact ro_f1 (fun _ h => h) | exact ro_f1 (fun _ => slc_rsl) | exact ro_f2 (fun _ h => h) | exact ro_f2 (fun _ => slc_rsl) | exact ro_f3 (fun _ h => h) | exact ro_f3 (fun _ => slc_rsl) | exact ro_f4 (fun _ h => h) | exact ro_f4 (fun _ => slc_rsl) | exact ro_f5 (fun _ h => h) | exact ro_f5 (fun _ => slc_rsl) | exact ro_f6 (fun _ h => h) | exact ro_f6 (fun _ => slc_rsl)) ?_))) (fun _ _ => rfl) (fun _ _ _ h => h.sub (by (repeat (first | exact pt_nil | apply pt0 | apply pt1 | apply pt2 | apply pt3 | apply pt4 | apply pt5 | apply pt6 | apply pt7 | apply pt8 | apply pt9 | apply pt10 | apply pt11 | apply pt12 | apply pt13 | apply pt14 | apply pt15 | apply pt16 | apply pt17))))) ?_
    refine wl_y rfl (y_assign rfl) ?_
    refine wl_nil ?_
    refine wq_then ?_
    refine wc_ret ?_
    refine wq_then_ret ?_
    refine wq_ret1 rfl rfl (fun w hw => ?_)
    exact ⟨(), trivial, rfl, hw.bare⟩
  ·
    refine wl_y rfl (y_move rfl) ?_
    refine wl_y rfl (y_move rfl) ?_
    refine wl_c (fun _ _ => want_none) rfl (yc_spec (fst := []) (cap := []) _ FN7 (snew_b a n a1 a2 h) rfl rfl rfl (by (repeat (first | exact pt_nil | apply pt0 | apply pt1 | apply pt2 | apply pt3 | apply pt4 | apply pt5 | apply pt6 | apply pt7 | apply pt8 | apply pt9 | apply pt10 | apply pt11 | apply pt12 | apply pt13 | apply pt14 | apply pt15 | apply pt16 | apply pt17))) (by (repeat (first | exact ro_nil | exact ro_rest (by assumption) | refine ro_cons (by first | exact .inl (by assumption) | exact ro_f0 (fun _ h => h) | exact ro_f0 (fun _ => slc_rsl) | exact ro_f1 (fun _ h => h) | exact ro_f1 (fun _ => slc_rsl) | exact ro_f2 (fun _ h => h) | exact ro_f2 (fun _ => slc_rsl) | exact ro_f3 (fun _ h => h) | exact ro_f3 (fun _ => slc_rsl) | exact ro_f4 (fun _ h => h) | exact ro_f4 (fun _ => slc_rsl) | exact ro_f5 (fun _ h => h) | exact ro_f5 (fun _ => slc_rsl) | exact ro_f6 (fun _ h => h) | exact ro_f6 (fun _ => slc_rsl)) ?_)))) (wl_ex fun x25 hx25 => ?_)
    refine wl_y rfl (y_move rfl) ?_
    refine wl_y rfl (y_extract rfl rfl) ?_
    refine wl_y rfl (y_extract rfl rfl) ?_
    refine wl_y rfl (y_assign rfl) ?_
    refine wl_y rfl (y_assign rfl) ?_
    refine wl_nil ?_
    refine wq_then ?_
    refine wc_seq ?_
    refine wc_region ?_
    refine wl_y rfl (y_move rfl) ?_
    refine wl_y rfl (y_move rfl) ?_
    refine wl_c (fun _ _ => want_none) rfl (yc_spec (fst := []) (cap := []) _ FN16 (fnew_b a n a1 a2 h) rfl rfl rfl (by (repeat (first | exact pt_nil | apply pt0 | apply pt1 | apply pt2 | apply pt3 | apply pt4 | apply pt5 | apply pt6 | apply pt7 | apply pt8 | apply pt9 | apply pt10 | apply pt11 | apply pt12 | apply pt13 | apply pt14 | apply pt15 | apply pt16 | apply pt17))) (by (repeat (first | exact ro_nil | exact ro_rest (by assumption) | refine ro_cons (by first | exact .inl (by assumption) | exact ro_f0 (fun _ h => h) | exact ro_f0 (fun _ => slc_rsl) | exact ro_f1 (fun _ h => h) | exact ro_f1 (fun _ => slc_rsl) | exact ro_f2 (fun _ h => h) | exact ro_f2 (fun _ => slc_rsl) | exact ro_f3 (fun _ h => h) | exact ro_f3 (fun _ => slc_rsl) | exact ro_f4 (fun _ h => h) | exact ro_f4 (fun _ => slc_rsl) | exact ro_f5 (fun _ h => h) | exact ro_f5 (fun _ => slc_rsl) | exact ro_f6 (fun _ h => h) | exact ro_f6 (fun _ => slc_rsl)) ?_)))) (wl_ex fun x31 hx31 => ?_)
    refine wl_y rfl (y_move rfl) ?_
    refine wl_y rfl (y_extract rfl rfl) ?_
    refine wl_y rfl (y_extract rfl rfl) ?_
    refine wl_y rfl (y_assign rfl) ?_
    refine wl_y rfl (y_assign rfl) ?_
    refine wl_nil ?_
    refine wq_then ?_
    refine wc_seq ?_
    refine wc_seq ?_
    refine wc_region ?_
    refine wl_y rfl (y_move rfl) ?_
    refine wl_y rfl (y_move rfl) ?_
    refine wl_y rfl (y_neqI rfl rfl) ?_
    refine wl_y rfl (y_move rfl) ?_
    refine wl_known 37 false rfl (by decide) ?_
    refine wl_yg rfl rfl rfl (y_move rfl) ?_
    refine wl_yg rfl rfl rfl (y_eqlP Try.underlying23 rfl rfl) ?_
    refine wl_yg rfl rfl rfl (y_move rfl) ?_
    refine wl_yg rfl rfl rfl (y_eqlP Try.underlying44 rfl rfl) ?_
    refine wl_yg rfl rfl rfl (y_neqB Try.underlying4 rfl rfl) ?_
    refine wl_y rfl (y_pick_f rfl rfl) ?_
    refine wl_nil ?_
    refine wq_then ?_
    refine wc_known 43 false rfl (by decide) ?_
    refine wc_cond_false rfl ?_
    refine wc_skip ?_
    refine wq_then ?_
    refine wc_seq ?_
    refine wc_seq ?_
    refine wc_region ?_
    refine wl_y rfl (y_move rfl) ?_
    refine wl_y rfl (y_eqlP Try.underlying44 rfl rfl) ?_
    refine wl_nil ?_
    refine wq_then ?_
    refine wc_known 45 true rfl (by decide) ?_
    refine wc_cond_true rfl ?_
    refine wc_seq ?_
    refine wc_region ?_
    refine wl_q (fun _ _ => want_none) rfl (yq_spec (fst := []) (cap := []) _ FN8 awake_c rfl rfl rfl (by (repeat (first | exact pt_nil | apply pt0 | apply pt1 | apply pt2 | apply pt3 | apply pt4 | apply pt5 | apply pt6 | apply pt7 | apply pt8 | apply pt9 | apply pt10 | apply pt11 | apply pt12 | apply pt13 | apply pt14 | apply pt15 | apply pt16 | apply pt17))) (by (repeat (first | exact ro_nil | exact ro_rest (by assumption) | refine ro_cons (by first | exact .inl (by assumption) | exact ro_f0 (fun _ h => h) | exact ro_f0 (fun _ => slc_rsl) | exact ro_f1 (fun _ h => h) | exact ro_f1 (fun _ => slc_rsl) | exact ro_f2 (fun _ h => h) | exact ro_f2 (fun _ => slc_rsl) | exact ro_f3 (fun _ h => h) | exact ro_f3 (fun _ => slc_rsl) | exact ro_f4 (fun _ h => h) | exact ro_f4 (fun _ => slc_rsl) | exact ro_f5 (fun _ h => h) | exact ro_f5 (fun _ => slc_rsl) | exact ro_f6 (fun _ h => h) | exact ro_f6 (fun _ => slc_rsl)) ?_))) (fun _ _ => rfl) (fun _ _ _ h => h.sub (by (repeat (first | exact pt_nil | apply pt0 | apply pt1 | apply pt2 | apply pt3 | apply pt4 | apply pt5 | apply pt6 | apply pt7 | apply pt8 | apply pt9 | apply pt10 | apply pt11 | apply pt12 | apply pt13 | apply pt14 | apply pt15 | apply pt16 | apply pt17))))) ?_
    refine wl_y rfl (y_assign rfl) ?_
    refine wl_nil ?_
    refine wq_then ?_
    refine wc_ret ?_
    refine wq_then_ret ?_
    refine wq_ret1 rfl rfl (fun w hw => ?_)
    exact ⟨(), trivial, rfl, hw.bare⟩
  ·
    refine wl_y rfl (y_move rfl) ?_
    refine wl_y rfl (y_move rfl) ?_
    refine wl_c (fun _ _ => want_none) rfl (yc_spec (fst := []) (cap := []) _ FN7 (snew_ok a n a1 a2 h1 h2) rfl rfl rfl (by (repeat (first | exact pt_nil | apply pt0 | apply pt1 | apply pt2 | apply pt3 | apply pt4 | apply pt5 | apply pt6 | apply pt7 | apply pt8 | apply pt9 | apply pt10 | apply pt11 | apply pt12 | apply pt13 | apply pt14 | apply pt15 | apply pt16 | apply pt17))) (by (repeat (first | exact ro_nil | exact ro_rest (by assumption) | refine ro_cons (by first | exact .inl (by assumption) | exact ro_f0 (fun _ h => h) | exact ro_f0 (fun _ => slc_rsl) | exact ro_f1 (fun _ h => h) | exact ro_f1 (fun _ => slc_rsl) | exact ro_f2 (fun _ h => h) | exact ro_f2 (fun _ => slc_rsl) | exact ro_f3 (fun _ h => h) | exact ro_f3 (fun _ => slc_rsl) | exact ro_f4 (fun _ h => h) | exact ro_f4 (fun _ => slc_rsl) | exact ro_f5 (fun _ h => h) | exact ro_f5 (fun _ => slc_rsl) | exact ro_f6 (fun _ h => h) | exact ro_f6 (fun _ => slc_rsl)) ?_)))) (wl_ex fun x25 hx25 => ?_)
    refine wl_y rfl (y_move rfl) ?_
    refine wl_y rfl (y_extract rfl rfl) ?_
    refine wl_y rfl (y_extract rfl rfl) ?_
    refine wl_y rfl (y_assign rfl) ?_
    refine wl_y rfl (y_assign rfl) ?_
    refine wl_nil ?_
    refine wq_then ?_
    refine wc_seq ?_
    refine wc_region ?_
    refine wl_y rfl (y_move rfl) ?_
    refine wl_y rfl (y_move rfl) ?_
    refine wl_c (fun _ _ => want_none) rfl (yc_spec (fst := []) (cap := []) _ FN16 (fnew_ok a n a1 a2 h1 h2) rfl rfl rfl (by (repeat (first | exact pt_nil | apply pt0 | apply pt1 | apply pt2 | apply pt3 | apply pt4 | apply pt5 | apply pt6 | apply pt7 | apply pt8 | apply pt9 | apply pt10 | apply pt11 | apply pt12 | apply pt13 | apply pt14 | apply pt15 | apply pt16 | apply pt17))) (by (repeat (first | exact ro_nil | exact ro_rest (by assumption) | refine ro_cons (by first | exact .inl (by assumption) | exact ro_f0 (fun _ h => h) | exact ro_f0 (fun _ => slc_rsl) | exact ro_f1 (fun _ h => h) | exact ro_f1 (fun _ => slc_rsl) | exact ro_f2 (fun _ h => h) | exact ro_f2 (fun _ => slc_rsl) | exact ro_f3 (fun _ h => h) | exact ro_f3 (fun _ => slc_rsl) | exact ro_f4 (fun _ h => h) | exact ro_f4 (fun _ => slc_rsl) | exact ro_f5 (fun _ h => h) | exact ro_f5 (fun _ => slc_rsl) | exact ro_f6 (fun _ h => h) | exact ro_f6 (fun _ => slc_rsl)) ?_)))) (wl_ex fun x31 hx31 => ?_)
    refine wl_y rfl (y_move rfl) ?_
    refine wl_y rfl (y_extract rfl rfl) ?_
    refine wl_y rfl (y_extract rfl rfl) ?_
    refine wl_y rfl (y_assign rfl) ?_
    refine wl_y rfl (y_assign rfl) ?_
    refine wl_nil ?_
    refine wq_then ?_
    refine wc_seq ?_
    refine wc_seq ?_
    refine wc_region ?_
    refine wl_y rfl (y_move rfl) ?_
    refine wl_y rfl (y_move rfl) ?_
    refine wl_y rfl (y_neqI rfl rfl) ?_
    refine wl_y rfl (y_move rfl) ?_
    refine wl_known 37 false rfl (by decide) ?_
    refine wl_yg rfl rfl rfl (y_move rfl) ?_
    refine wl_yg rfl rfl rfl (y_eqlP Try.underlying23 rfl rfl) ?_
    refine wl_yg rfl rfl rfl (y_move rfl) ?_
    refine wl_yg rfl rfl rfl (y_eqlP Try.underlying44 rfl rfl) ?_
    refine wl_yg rfl rfl rfl (y_neqB Try.underlying4 rfl rfl) ?_
    refine wl_y rfl (y_pick_f rfl rfl) ?_
    refine wl_nil ?_
    refine wq_then ?_
    refine wc_known 43 false rfl (rfl) ?_
    refine wc_cond_false rfl ?_
    refine wc_skip ?_
    refine wq_then ?_
    refine wc_seq ?_
    refine wc_seq ?_
    refine wc_region ?_
    refine wl_y rfl (y_move rfl) ?_
    refine wl_y rfl (y_eqlP Try.underlying44 rfl rfl) ?_
    refine wl_nil ?_
    refine wq_then ?_
    refine wc_known 45 false rfl (rfl) ?_
    refine wc_cond_false rfl ?_
    refine wc_skip ?_
    refine wq_then ?_
    refine wc_seq ?_
    refine wc_seq ?_
    refine wc_region ?_
    refine wl_y rfl (y_assign rfl) ?_
    refine wl_nil ?_
    refine wq_then ?_
    refine wc_block ?_
    refine wc_loop (α := Nat × Sc) (fun y => y.1 ≤ ops.length ∧ y.1 ≤ 150 ∧ y.2.In n y.1 ∧ y.2.rows.length ≤ y.1) [(2, _), (7, _), (9, _)] (fun y => [(11, vI y.1)]) (fun y => Hp w0 K [scA x25 y.2, rfA x31 y.2]) (fun y => ops.length - y.1) (0, ⟨a, 0, [], ⟨n, 0, []⟩, [], []⟩) ?_ ⟨rfl, rfl, rfl, rfl, trivial⟩ ?_ ?_
    · exact ⟨Nat.zero_le _, Nat.zero_le _, in_new a1 a2, Nat.le_refl _⟩
    · exact fun w hw => hw.sub (by (repeat (first | exact pt_nil | apply pt0 | apply pt1 | apply pt2 | apply pt3 | apply pt4 | apply pt5 | apply pt6 | apply pt7 | apply pt8 | apply pt9 | apply pt10 | apply pt11 | apply pt12 | apply pt13 | apply pt14 | apply pt15 | apply pt16 | apply pt17)))
    · rintro ⟨i, s⟩ ⟨hi, hi2, hI, hrl⟩; simp only at hi hi2 hI hrl
      refine wc_world (S' := Hp w0 K [scA x25 s, rfA x31 s]) (fun w hw => hw) ?_
      refine wc_same 11 (vI i) rfl rfl ?_
      refine wc_seq ?_
      refine wc_seq ?_
      refine wc_region ?_
      refine wl_y rfl (y_move rfl) ?_
      refine wl_y rfl (y_move rfl) ?_
      refine wl_y rfl (y_lenSl Try.underlying22 rfl) ?_
      refine wl_y rfl (y_lss rfl rfl) ?_
      refine wl_y rfl (y_move rfl) ?_
      refine wl_case 51 rfl (fun hg51 => ?_) (fun hg51 => ?_)
      ·
        simp at hg51
        refine wl_yg rfl rfl rfl (y_move rfl) ?_
        refine wl_yg rfl rfl rfl (y_lss rfl rfl) ?_
        refine wl_y rfl (y_pick_t rfl rfl) ?_
        refine wl_nil ?_
        refine wq_then ?_
        refine wc_cond rfl (fun hc54 => ?_) (fun hc54 => ?_)
        ·
          simp at hc54
          refine wc_skip ?_
          refine wq_then ?_
          refine wc_seq ?_
          refine wc_block ?_
          refine wc_seq ?_
          refine wc_region ?_
          obtain ⟨x, hx⟩ : ∃ x, ops[i]? = some x := ⟨_, List.getElem?_eq_getElem (by omega)⟩
          have hkl := hks x (List.mem_of_getElem? hx)
          have hi490 : i ≤ 490 := by omega
          refine wl_y rfl (y_move rfl) ?_
          refine wl_y rfl (y_move rfl) ?_
          refine wl_y rfl (y_indexAddr Try.underlying22 T32 rfl rfl rfl (by omega) (by first | assumption | exact fun _ _ => rfl | exact fun _ _ => hA.isSome (by omega) | exact fun w hw => hw.slc_isSome [] (by omega) | exact fun w hw => hw.slc_isSome [_] (by omega) | exact fun w hw => hw.slc_isSome [_, _] (by omega) | exact fun w hw => hw.slc_isSome [_, _, _] (by omega) | exact fun w hw => hw.slc_isSome [_, _, _, _] (by omega) | exact fun w hw => hw.slc_isSome [_, _, _, _, _] (by omega) | exact fun w hw => hw.slc_isSome [_, _, _, _, _, _] (by omega) | exact fun w hw => hw.slc_isSome [_, _, _, _, _, _, _] (by omega) | exact fun w hw => hw.slc_isSome [_, _, _, _, _, _, _, _] (by omega) | exact fun w hw => hw.slc_isSome [_, _, _, _, _, _, _, _, _] (by omega) | exact fun w hw => hw.slc_isSome [_, _, _, _, _, _, _, _, _, _] (by omega) | exact fun w hw => hw.slc_isSome [_, _, _, _, _, _, _, _, _, _, _] (by omega))) ?_
          refine wl_y rfl (y_loadAgg (l := encO x) AG32 rfl rfl (by first | exact agg_ro hA (fun i u h => rows_get encO_len hx h) | exact agg_own [] (fun i u h => rows_get encO_len hx h) | exact agg_own [_] (fun i u h => rows_get encO_len hx h) | exact agg_own [_, _] (fun i u h => rows_get encO_len hx h) | exact agg_own [_, _, _] (fun i u h => rows_get encO_len hx h) | exact agg_own [_, _, _, _] (fun i u h => rows_get encO_len hx h) | exact agg_own [_, _, _, _, _] (fun i u h => rows_get encO_len hx h) | exact agg_own [_, _, _, _, _, _] (fun i u h => rows_get encO_len hx h) | exact agg_own [_, _, _, _, _, _, _] (fun i u h => rows_get encO_len hx h) | exact agg_own [_, _, _, _, _, _, _, _] (fun i u h => rows_get encO_len hx h) | exact agg_own [_, _, _, _, _, _, _, _, _] (fun i u h => rows_get encO_len hx h) | exact agg_own [_, _, _, _, _, _, _, _, _, _] (fun i u h => rows_get encO_len hx h) | exact agg_own [_, _, _, _, _, _, _, _, _, _, _] (fun i u h => rows_get encO_len hx h))) ?_
          refine wl_w (fun _ _ => want_none) rfl (yw_alloc T32 rfl) (wl_ex fun b12 _ => ?_)
          first | refine wl_u (yu_storeAgg [] (l' := [_, _, _, _, _, _, _]) T32 rfl rfl rfl (by simp [Value.oneCell', encL, encJ, encO]) rfl rfl) ?_ | refine wl_u (yu_storeAgg [_] (l' := [_, _, _, _, _, _, _]) T32 rfl rfl rfl (by simp [Value.oneCell', encL, encJ, encO]) rfl rfl) ?_ | refine wl_u (yu_storeAgg [_, _] (l' := [_, _, _, _, _, _, _]) T32 rfl rfl rfl (by simp [Value.oneCell', encL, encJ, encO]) rfl rfl) ?_ | refine wl_u (yu_storeAgg [_, _, _] (l' := [_, _, _, _, _, _, _]) T32 rfl rfl rfl (by simp [Value.oneCell', encL, encJ, encO]) rfl rfl) ?_ | refine wl_u (yu_storeAgg [_, _, _, _] (l' := [_, _, _, _, _, _, _]) T32 rfl rfl rfl (by simp [Value.oneCell', encL, encJ, encO]) rfl rfl) ?_ | refine wl_u (yu_storeAgg [_, _, _, _, _] (l' := [_, _, _, _, _, _, _]) T32 rfl rfl rfl (by simp [Value.oneCell', encL, encJ, encO]) rfl rfl) ?_ | refine wl_u (yu_storeAgg [_, _, _, _, _, _] (l' := [_, _, _, _, _, _, _]) T32 rfl rfl rfl (by simp [Value.oneCell', encL, encJ, encO]) rfl rfl) ?_ | refine wl_u (yu_storeAgg [_, _, _, _, _, _, _] (l' := [_, _, _, _, _, _, _]) T32 rfl rfl rfl (by simp [Value.oneCell', encL, encJ, encO]) rfl rfl) ?_ | refine wl_u (yu_storeAgg [_, _, _, _, _, _, _, _] (l' := [_, _, _, _, _, _, _]) T32 rfl rfl rfl (by simp [Value.oneCell', encL, encJ, encO]) rfl rfl) ?_ | refine wl_u (yu_storeAgg [_, _, _, _, _, _, _, _, _] (l' := [_, _, _, _, _, _, _]) T32 rfl rfl rfl (by simp [Value.oneCell', encL, encJ, encO]) rfl rfl) ?_ | refine wl_u (yu_storeAgg [_, _, _, _, _, _, _, _, _, _] (l' := [_, _, _, _, _, _, _]) T32 rfl rfl rfl (by simp [Value.oneCell', encL, encJ, encO]) rfl rfl) ?_ | refine wl_u (yu_storeAgg [_, _, _, _, _, _, _, _, _, _, _] (l' := [_, _, _, _, _, _, _]) T32 rfl rfl rfl (by simp [Value.oneCell', encL, encJ, encO]) rfl rfl) ?_
          refine wl_nil ?_
          refine wq_then ?_
          refine wc_seq ?_
          refine wc_seq ?_
          refine wc_region ?_
          refine wl_y rfl (y_fieldAddr F32_1 rfl) ?_
          refine wl_y rfl (y_fieldAddr F30_0 rfl) ?_
          refine wl_y rfl (y_load NA9 rfl (by first | exact cell_blk [] rfl | exact cell_blk [_] rfl | exact cell_blk [_, _] rfl | exact cell_blk [_, _, _] rfl | exact cell_blk [_, _, _, _] rfl | exact cell_blk [_, _, _, _, _] rfl | exact cell_blk [_, _, _, _, _, _] rfl | exact cell_blk [_, _, _, _, _, _, _] rfl | exact cell_blk [_, _, _, _, _, _, _, _] rfl | exact cell_blk [_, _, _, _, _, _, _, _, _] rfl | exact cell_blk [_, _, _, _, _, _, _, _, _, _] rfl | exact cell_blk [_, _, _, _, _, _, _, _, _, _, _] rfl | exact cellR_blk (by assumption) rfl)) ?_
          refine wl_y rfl (y_lenS Try.underlying9 rfl) ?_
          refine wl_y rfl (y_gtr rfl rfl) ?_
          refine wl_y rfl (y_move rfl) ?_
          refine wl_case 66 rfl (fun hg66 => ?_) (fun hg66 => ?_)
          ·
            simp at hg66
            refine wl_sk rfl rfl rfl rfl ?_
            refine wl_sk rfl rfl rfl rfl ?_
            refine wl_sk rfl rfl rfl rfl ?_
            refine wl_sk rfl rfl rfl rfl ?_
            refine wl_y rfl (y_pick_t rfl rfl) ?_
            refine wl_nil ?_
            refine wq_then ?_
            refine wc_cond_true rfl ?_
            refine wc_seq ?_
            refine wc_region ?_
            refine wl_q (fun _ _ => want_none) rfl (yq_spec (fst := []) (cap := []) _ FN8 awake_c rfl rfl rfl (by (repeat (first | exact pt_nil | apply pt0 | apply pt1 | apply pt2 | apply pt3 | apply pt4 | apply pt5 | apply pt6 | apply pt7 | apply pt8 | apply pt9 | apply pt10 | apply pt11 | apply pt12 | apply pt13 | apply pt14 | apply pt15 | apply pt16 | apply pt17))) (by (repeat (first | exact ro_nil | exact ro_rest (by assumption) | refine ro_cons (by first | exact .inl (by assumption) | exact ro_f0 (fun _ h => h) | exact ro_f0 (fun _ => slc_rsl) | exact ro_f1 (fun _ h => h) | exact ro_f1 (fun _ => slc_rsl) | exact ro_f2 (fun _ h => h) | exact ro_f2 (fun _ => slc_rsl) | exact ro_f3 (fun _ h => h) | exact ro_f3 (fun _ => slc_rsl) | exact ro_f4 (fun _ h => h) | exact ro_f4 (fun _ => slc_rsl) | exact ro_f5 (fun _ h => h) | exact ro_f5 (fun _ => slc_rsl) | exact ro_f6 (fun _ h => h) | exact ro_f6 (fun _ => slc_rsl)) ?_))) (fun _ _ => rfl) (fun _ _ _ h => h.sub (by (repeat (first | exact pt_nil | apply pt0 | apply pt1 | apply pt2 | apply pt3 | apply pt4 | apply pt5 | apply pt6 | apply pt7 | apply pt8 | apply pt9 | apply pt10 | apply pt11 | apply pt12 | apply pt13 | apply pt14 | apply pt15 | apply pt16 | apply pt17))))) ?_
            refine wl_y rfl (y_assign rfl) ?_
            refine wl_nil ?_
            refine wq_then ?_
            refine wc_ret ?_
            refine wq_then_ret (wq_block_ret (wq_then_ret (wq_then_ret (wq_block_ret (wq_then_ret ?_)))))
            refine wq_ret1 rfl rfl (fun w hw => ?_)
            exact ⟨(), trivial, rfl, hw.bare⟩
          ·
            simp at hg66
            refine wl_yg rfl rfl rfl (y_fieldAddr F32_2 rfl) ?_
            refine wl_yg rfl rfl rfl (y_load NA9 rfl (by first | exact cell_blk [] rfl | exact cell_blk [_] rfl | exact cell_blk [_, _] rfl | exact cell_blk [_, _, _] rfl | exact cell_blk [_, _, _, _] rfl | exact cell_blk [_, _, _, _, _] rfl | exact cell_blk [_, _, _, _, _, _] rfl | exact cell_blk [_, _, _, _, _, _, _] rfl | exact cell_blk [_, _, _, _, _, _, _, _] rfl | exact cell_blk [_, _, _, _, _, _, _, _, _] rfl | exact cell_blk [_, _, _, _, _, _, _, _, _, _] rfl | exact cell_blk [_, _, _, _, _, _, _, _, _, _, _] rfl | exact cellR_blk (by assumption) rfl)) ?_
            refine wl_yg rfl rfl rfl (y_lenS Try.underlying9 rfl) ?_
            refine wl_yg rfl rfl rfl (y_gtr rfl rfl) ?_
            refine wl_y rfl (y_pick_f rfl rfl) ?_
            refine wl_nil ?_
            refine wq_then ?_
            refine wc_cond rfl (fun hc71 => ?_) (fun hc71 => ?_)
            ·
              simp at hc71
              refine wc_seq ?_
              refine wc_region ?_
              refine wl_q (fun _ _ => want_none) rfl (yq_spec (fst := []) (cap := []) _ FN8 awake_c rfl rfl rfl (by (repeat (first | exact pt_nil | apply pt0 | apply pt1 | apply pt2 | apply pt3 | apply pt4 | apply pt5 | apply pt6 | apply pt7 | apply pt8 | apply pt9 | apply pt10 | apply pt11 | apply pt12 | apply pt13 | apply pt14 | apply pt15 | apply pt16 | apply pt17))) (by (repeat (first | exact ro_nil | exact ro_rest (by assumption) | refine ro_cons (by first | exact .inl (by assumption) | exact ro_f0 (fun _ h => h) | exact ro_f0 (fun _ => slc_rsl) | exact ro_f1 (fun _ h => h) | exact ro_f1 (fun _ => slc_rsl) | exact ro_f2 (fun _ h => h) | exact ro_f2 (fun _ => slc_rsl) | exact ro_f3 (fun _ h => h) | exact ro_f3 (fun _ => slc_rsl) | exact ro_f4 (fun _ h => h) | exact ro_f4 (fun _ => slc_rsl) | exact ro_f5 (fun _ h => h) | exact ro_f5 (fun _ => slc_rsl) | exact ro_f6 (fun _ h => h) | exact ro_f6 (fun _ => slc_rsl)) ?_))) (fun _ _ => rfl) (fun _ _ _ h => h.sub (by (repeat (first | exact pt_nil | apply pt0 | apply pt1 | apply pt2 | apply pt3 | apply pt4 | apply pt5 | apply pt6 | apply pt7 | apply pt8 | apply pt9 | apply pt10 | apply pt11 | apply pt12 | apply pt13 | apply pt14 | apply pt15 | apply pt16 | apply pt17))))) ?_
              refine wl_y rfl (y_assign rfl) ?_
              refine wl_nil ?_
              refine wq_then ?_
              refine wc_ret ?_
              refine wq_then_ret (wq_block_ret (wq_then_ret (wq_then_ret (wq_block_ret (wq_then_ret ?_)))))
              refine wq_ret1 rfl rfl (fun w hw => ?_)
              exact ⟨(), trivial, rfl, hw.bare⟩
            ·
              simp at hc71
              refine wc_skip ?_
              refine wq_then ?_
              refine wc_seq ?_
              refine wc_region ?_
              refine wl_y rfl (y_assign rfl) ?_
              refine wl_nil ?_
              refine wq_then ?_
              refine wc_seq ?_
              refine wc_region ?_
              refine wl_y rfl (y_assign rfl) ?_
              refine wl_nil ?_
              refine wq_then ?_
              refine wc_seq (wc_cut (α := Sc × Int) (fun y => y.1.In n (i + 1) ∧ y.1.rows.length ≤ i + 1) [(2, _), (7, _), (9, _), (11, _)] (fun y => [(13, vI y.2), (14, vI y.2)]) (fun y => Hp w0 K [scA x25 y.1, rfA x31 y.1]) ⟨rfl, rfl, rfl, rfl, trivial⟩ ?_ ?_)
              ·
                refine wc_seq ?_
                refine wc_region ?_
                refine wl_y rfl (y_fieldAddr F32_0 rfl) ?_
                refine wl_y rfl (y_load NA3 rfl (by first | exact cell_blk [] rfl | exact cell_blk [_] rfl | exact cell_blk [_, _] rfl | exact cell_blk [_, _, _] rfl | exact cell_blk [_, _, _, _] rfl | exact cell_blk [_, _, _, _, _] rfl | exact cell_blk [_, _, _, _, _, _] rfl | exact cell_blk [_, _, _, _, _, _, _] rfl | exact cell_blk [_, _, _, _, _, _, _, _] rfl | exact cell_blk [_, _, _, _, _, _, _, _, _] rfl | exact cell_blk [_, _, _, _, _, _, _, _, _, _] rfl | exact cell_blk [_, _, _, _, _, _, _, _, _, _, _] rfl | exact cellR_blk (by assumption) rfl)) ?_
                refine wl_nil ?_
                refine wq_then ?_
                refine wc_block ?_
                refine wc_seq ?_
                refine wc_region ?_
                refine wl_y rfl (y_eqlI rfl rfl) ?_
                refine wl_y rfl (y_assign rfl) ?_
                refine wl_nil ?_
                refine wq_then ?_
                refine wc_cond rfl (fun hc84 => ?_) (fun hc84 => ?_)
                ·
                  simp at hc84
                  refine wc_seq ?_
                  refine wc_region ?_
                  refine wl_y rfl (y_move rfl) ?_
                  refine wl_y rfl (y_fieldAddr F32_1 rfl) ?_
                  refine wl_y rfl (y_loadAgg (l := [_, _, _]) AG30 rfl rfl (by first | exact cells_blk [] rfl | exact cells_blk [_] rfl | exact cells_blk [_, _] rfl | exact cells_blk [_, _, _] rfl | exact cells_blk [_, _, _, _] rfl | exact cells_blk [_, _, _, _, _] rfl | exact cells_blk [_, _, _, _, _, _] rfl | exact cells_blk [_, _, _, _, _, _, _] rfl | exact cells_blk [_, _, _, _, _, _, _, _] rfl | exact cells_blk [_, _, _, _, _, _, _, _, _] rfl | exact cells_blk [_, _, _, _, _, _, _, _, _, _] rfl | exact cells_blk [_, _, _, _, _, _, _, _, _, _, _] rfl | exact cellsR_blk (by assumption) rfl)) ?_
                  refine wl_c (fun _ _ => want_none) rfl (yc_spec (fst := []) (cap := []) _ FN9 (sadd_c x25 s x.job ((hI.qk hi490).mono (by omega))) rfl rfl rfl (by (repeat (first | exact pt_nil | apply pt0 | apply pt1 | apply pt2 | apply pt3 | apply pt4 | apply pt5 | apply pt6 | apply pt7 | apply pt8 | apply pt9 | apply pt10 | apply pt11 | apply pt12 | apply pt13 | apply pt14 | apply pt15 | apply pt16 | apply pt17))) (by (repeat (first | exact ro_nil | exact ro_rest (by assumption) | refine ro_cons (by first | exact .inl (by assumption) | exact ro_f0 (fun _ h => h) | exact ro_f0 (fun _ => slc_rsl) | exact ro_f1 (fun _ h => h) | exact ro_f1 (fun _ => slc_rsl) | exact ro_f2 (fun _ h => h) | exact ro_f2 (fun _ => slc_rsl) | exact ro_f3 (fun _ h => h) | exact ro_f3 (fun _ => slc_rsl) | exact ro_f4 (fun _ h => h) | exact ro_f4 (fun _ => slc_rsl) | exact ro_f5 (fun _ h => h) | exact ro_f5 (fun _ => slc_rsl) | exact ro_f6 (fun _ h => h) | exact ro_f6 (fun _ => slc_rsl)) ?_)))) (wl_ex fun x89 hx89 => ?_)
                  refine wl_y rfl (y_assign rfl) ?_
                  refine wl_nil ?_
                  refine wq_then ?_
                  refine wc_region ?_
                  refine wl_y rfl (y_move rfl) ?_
                  refine wl_y rfl (y_fieldAddr F32_1 rfl) ?_
                  refine wl_y rfl (y_loadAgg (l := [_, _, _]) AG30 rfl rfl (by first | exact cells_blk [] rfl | exact cells_blk [_] rfl | exact cells_blk [_, _] rfl | exact cells_blk [_, _, _] rfl | exact cells_blk [_, _, _, _] rfl | exact cells_blk [_, _, _, _, _] rfl | exact cells_blk [_, _, _, _, _, _] rfl | exact cells_blk [_, _, _, _, _, _, _] rfl | exact cells_blk [_, _, _, _, _, _, _, _] rfl | exact cells_blk [_, _, _, _, _, _, _, _, _] rfl | exact cells_blk [_, _, _, _, _, _, _, _, _, _] rfl | exact cells_blk [_, _, _, _, _, _, _, _, _, _, _] rfl | exact cellsR_blk (by assumption) rfl)) ?_
                  refine wl_c (fun _ _ => want_none) rfl (yc_spec (fst := []) (cap := []) _ FN17 (fadd_c x31 s x.job n i hI h1 h2 hi490 (by omega)) rfl rfl rfl (by (repeat (first | exact pt_nil | apply pt0 | apply pt1 | apply pt2 | apply pt3 | apply pt4 | apply pt5 | apply pt6 | apply pt7 | apply pt8 | apply pt9 | apply pt10 | apply pt11 | apply pt12 | apply pt13 | apply pt14 | apply pt15 | apply pt16 | apply pt17))) (by (repeat (first | exact ro_nil | exact ro_rest (by assumption) | refine ro_cons (by first | exact .inl (by assumption) | exact ro_f0 (fun _ h => h) | exact ro_f0 (fun _ => slc_rsl) | exact ro_f1 (fun _ h => h) | exact ro_f1 (fun _ => slc_rsl) | exact ro_f2 (fun _ h => h) | exact ro_f2 (fun _ => slc_rsl) | exact ro_f3 (fun _ h => h) | exact ro_f3 (fun _ => slc_rsl) | exact ro_f4 (fun _ h => h) | exact ro_f4 (fun _ => slc_rsl) | exact ro_f5 (fun _ h => h) | exact ro_f5 (fun _ => slc_rsl) | exact ro_f6 (fun _ h => h) | exact ro_f6 (fun _ => slc_rsl)) ?_)))) (wl_ex fun x93 hx93 => ?_)
                  refine wl_y rfl (y_assign rfl) ?_
                  refine wl_nil ?_
                  refine wq_block_normal ?_
                  exact wq_cut ((s.add x.job).1, (s.add x.job).2) ⟨in_add hI hi490 _ hkl, by simp only; rw [rows_add_len]; omega⟩ ⟨rfl, rfl, rfl, rfl, rfl, rfl, trivial⟩ (fun w hw => hw.sub (by (repeat (first | exact pt_nil | apply pt0 | apply pt1 | apply pt2 | apply pt3 | apply pt4 | apply pt5 | apply pt6 | apply pt7 | apply pt8 | apply pt9 | apply pt10 | apply pt11 | apply pt12 | apply pt13 | apply pt14 | apply pt15 | apply pt16 | apply pt17))))
                ·
                  simp at hc84
                  refine wc_seq ?_
                  refine wc_region ?_
                  refine wl_y rfl (y_eqlI rfl rfl) ?_
                  refine wl_y rfl (y_assign rfl) ?_
                  refine wl_nil ?_
                  refine wq_then ?_
                  refine wc_cond rfl (fun hc94 => ?_) (fun hc94 => ?_)
                  ·
                    simp at hc94
                    refine wc_seq ?_
                    refine wc_region ?_
                    refine wl_y rfl (y_move rfl) ?_
                    refine wl_y rfl (y_fieldAddr F32_2 rfl) ?_
                    refine wl_y rfl (y_load NA9 rfl (by first | exact cell_blk [] rfl | exact cell_blk [_] rfl | exact cell_blk [_, _] rfl | exact cell_blk [_, _, _] rfl | exact cell_blk [_, _, _, _] rfl | exact cell_blk [_, _, _, _, _] rfl | exact cell_blk [_, _, _, _, _, _] rfl | exact cell_blk [_, _, _, _, _, _, _] rfl | exact cell_blk [_, _, _, _, _, _, _, _] rfl | exact cell_blk [_, _, _, _, _, _, _, _, _] rfl | exact cell_blk [_, _, _, _, _, _, _, _, _, _] rfl | exact cell_blk [_, _, _, _, _, _, _, _, _, _, _] rfl | exact cellR_blk (by assumption) rfl)) ?_
                    refine wl_c (fun _ _ => want_none) rfl (yc_spec (fst := []) (cap := []) _ FN10 (sjoin_c x25 s x.worker) rfl rfl rfl (by (repeat (first | exact pt_nil | apply pt0 | apply pt1 | apply pt2 | apply pt3 | apply pt4 | apply pt5 | apply pt6 | apply pt7 | apply pt8 | apply pt9 | apply pt10 | apply pt11 | apply pt12 | apply pt13 | apply pt14 | apply pt15 | apply pt16 | apply pt17))) (by (repeat (first | exact ro_nil | exact ro_rest (by assumption) | refine ro_cons (by first | exact .inl (by assumption) | exact ro_f0 (fun _ h => h) | exact ro_f0 (fun _ => slc_rsl) | exact ro_f1 (fun _ h => h) | exact ro_f1 (fun _ => slc_rsl) | exact ro_f2 (fun _ h => h) | exact ro_f2 (fun _ => slc_rsl) | exact ro_f3 (fun _ h => h) | exact ro_f3 (fun _ => slc_rsl) | exact ro_f4 (fun _ h => h) | exact ro_f4 (fun _ => slc_rsl) | exact ro_f5 (fun _ h => h) | exact ro_f5 (fun _ => slc_rsl) | exact ro_f6 (fun _ h => h) | exact ro_f6 (fun _ => slc_rsl)) ?_)))) (wl_ex fun x99 hx99 => ?_)
                    refine wl_y rfl (y_assign rfl) ?_
                    refine wl_nil ?_
                    refine wq_then ?_
                    refine wc_region ?_
                    refine wl_y rfl (y_move rfl) ?_
                    refine wl_y rfl (y_fieldAddr F32_2 rfl) ?_
                    refine wl_y rfl (y_load NA9 rfl (by first | exact cell_blk [] rfl | exact cell_blk [_] rfl | exact cell_blk [_, _] rfl | exact cell_blk [_, _, _] rfl | exact cell_blk [_, _, _, _] rfl | exact cell_blk [_, _, _, _, _] rfl | exact cell_blk [_, _, _, _, _, _] rfl | exact cell_blk [_, _, _, _, _, _, _] rfl | exact cell_blk [_, _, _, _, _, _, _, _] rfl | exact cell_blk [_, _, _, _, _, _, _, _, _] rfl | exact cell_blk [_, _, _, _, _, _, _, _, _, _] rfl | exact cell_blk [_, _, _, _, _, _, _, _, _, _, _] rfl | exact cellR_blk (by assumption) rfl)) ?_
                    refine wl_c (fun _ _ => want_none) rfl (yc_spec (fst := []) (cap := []) _ FN18 (fjoin_c x31 s x.worker (by omega)) rfl rfl rfl (by (repeat (first | exact pt_nil | apply pt0 | apply pt1 | apply pt2 | apply pt3 | apply pt4 | apply pt5 | apply pt6 | apply pt7 | apply pt8 | apply pt9 | apply pt10 | apply pt11 | apply pt12 | apply pt13 | apply pt14 | apply pt15 | apply pt16 | apply pt17))) (by (repeat (first | exact ro_nil | exact ro_rest (by assumption) | refine ro_cons (by first | exact .inl (by assumption) | exact ro_f0 (fun _ h => h) | exact ro_f0 (fun _ => slc_rsl) | exact ro_f1 (fun _ h => h) | exact ro_f1 (fun _ => slc_rsl) | exact ro_f2 (fun _ h => h) | exact ro_f2 (fun _ => slc_rsl) | exact ro_f3 (fun _ h => h) | exact ro_f3 (fun _ => slc_rsl) | exact ro_f4 (fun _ h => h) | exact ro_f4 (fun _ => slc_rsl) | exact ro_f5 (fun _ h => h) | exact ro_f5 (fun _ => slc_rsl) | exact ro_f6 (fun _ h => h) | exact ro_f6 (fun _ => slc_rsl)) ?_)))) (wl_ex fun x103 hx103 => ?_)
                    refine wl_y rfl (y_assign rfl) ?_
                    refine wl_nil ?_
                    refine wq_block_normal ?_
                    exact wq_cut ((s.join x.worker).1, (s.join x.worker).2) ⟨in_join hI _, by simp only; have := rows_join_len s x.worker; omega⟩ ⟨rfl, rfl, rfl, rfl, rfl, rfl, trivial⟩ (fun w hw => hw.sub (by (repeat (first | exact pt_nil | apply pt0 | apply pt1 | apply pt2 | apply pt3 | apply pt4 | apply pt5 | apply pt6 | apply pt7 | apply pt8 | apply pt9 | apply pt10 | apply pt11 | apply pt12 | apply pt13 | apply pt14 | apply pt15 | apply pt16 | apply pt17))))
                  ·
                    simp at hc94
                    refine wc_seq ?_
                    refine wc_region ?_
                    refine wl_y rfl (y_eqlI rfl rfl) ?_
                    refine wl_y rfl (y_assign rfl) ?_
                    refine wl_nil ?_
                    refine wq_then ?_
                    refine wc_cond rfl (fun hc104 => ?_) (fun hc104 => ?_)
                    ·
                      simp at hc104
                      refine wc_seq ?_
                      refine wc_region ?_
                      refine wl_y rfl (y_move rfl) ?_
                      refine wl_y rfl (y_fieldAddr F32_2 rfl) ?_
                      refine wl_y rfl (y_load NA9 rfl (by first | exact cell_blk [] rfl | exact cell_blk [_] rfl | exact cell_blk [_, _] rfl | exact cell_blk [_, _, _] rfl | exact cell_blk [_, _, _, _] rfl | exact cell_blk [_, _, _, _, _] rfl | exact cell_blk [_, _, _, _, _, _] rfl | exact cell_blk [_, _, _, _, _, _, _] rfl | exact cell_blk [_, _, _, _, _, _, _, _] rfl | exact cell_blk [_, _, _, _, _, _, _, _, _] rfl | exact cell_blk [_, _, _, _, _, _, _, _, _, _] rfl | exact cell_blk [_, _, _, _, _, _, _, _, _, _, _] rfl | exact cellR_blk (by assumption) rfl)) ?_
                      refine wl_c (fun _ _ => want_none) rfl (yc_spec (fst := []) (cap := []) _ FN12 (sleave_c x25 s x.worker n i hI h1 h2 hi490) rfl rfl rfl (by (repeat (first | exact pt_nil | apply pt0 | apply pt1 | apply pt2 | apply pt3 | apply pt4 | apply pt5 | apply pt6 | apply pt7 | apply pt8 | apply pt9 | apply pt10 | apply pt11 | apply pt12 | apply pt13 | apply pt14 | apply pt15 | apply pt16 | apply pt17))) (by (repeat (first | exact ro_nil | exact ro_rest (by assumption) | refine ro_cons (by first | exact .inl (by assumption) | exact ro_f0 (fun _ h => h) | exact ro_f0 (fun _ => slc_rsl) | exact ro_f1 (fun _ h => h) | exact ro_f1 (fun _ => slc_rsl) | exact ro_f2 (fun _ h => h) | exact ro_f2 (fun _ => slc_rsl) | exact ro_f3 (fun _ h => h) | exact ro_f3 (fun _ => slc_rsl) | exact ro_f4 (fun _ h => h) | exact ro_f4 (fun _ => slc_rsl) | exact ro_f5 (fun _ h => h) | exact ro_f5 (fun _ => slc_rsl) | exact ro_f6 (fun _ h => h) | exact ro_f6 (fun _ => slc_rsl)) ?_)))) (wl_ex fun x109 hx109 => ?_)
                      refine wl_y rfl (y_assign rfl) ?_
                      refine wl_nil ?_
                      refine wq_then ?_
                      refine wc_region ?_
                      refine wl_y rfl (y_move rfl) ?_
                      refine wl_y rfl (y_fieldAddr F32_2 rfl) ?_
                      refine wl_y rfl (y_load NA9 rfl (by first | exact cell_blk [] rfl | exact cell_blk [_] rfl | exact cell_blk [_, _] rfl | exact cell_blk [_, _, _] rfl | exact cell_blk [_, _, _, _] rfl | exact cell_blk [_, _, _, _, _] rfl | exact cell_blk [_, _, _, _, _, _] rfl | exact cell_blk [_, _, _, _, _, _, _] rfl | exact cell_blk [_, _, _, _, _, _, _, _] rfl | exact cell_blk [_, _, _, _, _, _, _, _, _] rfl | exact cell_blk [_, _, _, _, _, _, _, _, _, _] rfl | exact cell_blk [_, _, _, _, _, _, _, _, _, _, _] rfl | exact cellR_blk (by assumption) rfl)) ?_
                      refine wl_c (fun _ _ => want_none) rfl (yc_spec (fst := []) (cap := []) _ FN19 (fleave_c x31 s x.worker n i hI h1 h2 hi490 (by omega)) rfl rfl rfl (by (repeat (first | exact pt_nil | apply pt0 | apply pt1 | apply pt2 | apply pt3 | apply pt4 | apply pt5 | apply pt6 | apply pt7 | apply pt8 | apply pt9 | apply pt10 | apply pt11 | apply pt12 | apply pt13 | apply pt14 | apply pt15 | apply pt16 | apply pt17))) (by (repeat (first | exact ro_nil | exact ro_rest (by assumption) | refine ro_cons (by first | exact .inl (by assumption) | exact ro_f0 (fun _ h => h) | exact ro_f0 (fun _ => slc_rsl) | exact ro_f1 (fun _ h => h) | exact ro_f1 (fun _ => slc_rsl) | exact ro_f2 (fun _ h => h) | exact ro_f2 (fun _ => slc_rsl) | exact ro_f3 (fun _ h => h) | exact ro_f3 (fun _ => slc_rsl) | exact ro_f4 (fun _ h => h) | exact ro_f4 (fun _ => slc_rsl) | exact ro_f5 (fun _ h => h) | exact ro_f5 (fun _ => slc_rsl) | exact ro_f6 (fun _ h => h) | exact ro_f6 (fun _ => slc_rsl)) ?_)))) (wl_ex fun x113 hx113 => ?_)
                      refine wl_y rfl (y_assign rfl) ?_
                      refine wl_nil ?_
                      refine wq_block_normal ?_
                      exact wq_cut ((s.leave x.worker).1, (s.leave x.worker).2) ⟨in_leave hI hi490 _, by simp only; have := rows_leave_len s x.worker; omega⟩ ⟨rfl, rfl, rfl, rfl, rfl, rfl, trivial⟩ (fun w hw => hw.sub (by (repeat (first | exact pt_nil | apply pt0 | apply pt1 | apply pt2 | apply pt3 | apply pt4 | apply pt5 | apply pt6 | apply pt7 | apply pt8 | apply pt9 | apply pt10 | apply pt11 | apply pt12 | apply pt13 | apply pt14 | apply pt15 | apply pt16 | apply pt17))))
                    ·
                      simp at hc104
                      refine wc_seq ?_
                      refine wc_region ?_
                      refine wl_y rfl (y_eqlI rfl rfl) ?_
                      refine wl_y rfl (y_assign rfl) ?_
                      refine wl_nil ?_
                      refine wq_then ?_
                      refine wc_cond rfl (fun hc114 => ?_) (fun hc114 => ?_)
                      ·
                        simp at hc114
                        refine wc_seq ?_
                        refine wc_region ?_
                        refine wl_y rfl (y_move rfl) ?_
                        refine wl_y rfl (y_fieldAddr F32_2 rfl) ?_
                        refine wl_y rfl (y_load NA9 rfl (by first | exact cell_blk [] rfl | exact cell_blk [_] rfl | exact cell_blk [_, _] rfl | exact cell_blk [_, _, _] rfl | exact cell_blk [_, _, _, _] rfl | exact cell_blk [_, _, _, _, _] rfl | exact cell_blk [_, _, _, _, _, _] rfl | exact cell_blk [_, _, _, _, _, _, _] rfl | exact cell_blk [_, _, _, _, _, _, _, _] rfl | exact cell_blk [_, _, _, _, _, _, _, _, _] rfl | exact cell_blk [_, _, _, _, _, _, _, _, _, _] rfl | exact cell_blk [_, _, _, _, _, _, _, _, _, _, _] rfl | exact cellR_blk (by assumption) rfl)) ?_
                        refine wl_y rfl (y_fieldAddr F32_4 rfl) ?_
                        refine wl_y rfl (y_load NA3 rfl (by first | exact cell_blk [] rfl | exact cell_blk [_] rfl | exact cell_blk [_, _] rfl | exact cell_blk [_, _, _] rfl | exact cell_blk [_, _, _, _] rfl | exact cell_blk [_, _, _, _, _] rfl | exact cell_blk [_, _, _, _, _, _] rfl | exact cell_blk [_, _, _, _, _, _, _] rfl | exact cell_blk [_, _, _, _, _, _, _, _] rfl | exact cell_blk [_, _, _, _, _, _, _, _, _] rfl | exact cell_blk [_, _, _, _, _, _, _, _, _, _] rfl | exact cell_blk [_, _, _, _, _, _, _, _, _, _, _] rfl | exact cellR_blk (by assumption) rfl)) ?_
                        refine wl_c (fun _ _ => want_none) rfl (yc_spec (fst := []) (cap := []) _ FN11 (snext_c x25 s x.worker x.now n i hI h1 h2 hi490) rfl rfl rfl (by (repeat (first | exact pt_nil | apply pt0 | apply pt1 | apply pt2 | apply pt3 | apply pt4 | apply pt5 | apply pt6 | apply pt7 | apply pt8 | apply pt9 | apply pt10 | apply pt11 | apply pt12 | apply pt13 | apply pt14 | apply pt15 | apply pt16 | apply pt17))) (by (repeat (first | exact ro_nil | exact ro_rest (by assumption) | refine ro_cons (by first | exact .inl (by assumption) | exact ro_f0 (fun _ h => h) | exact ro_f0 (fun _ => slc_rsl) | exact ro_f1 (fun _ h => h) | exact ro_f1 (fun _ => slc_rsl) | exact ro_f2 (fun _ h => h) | exact ro_f2 (fun _ => slc_rsl) | exact ro_f3 (fun _ h => h) | exact ro_f3 (fun _ => slc_rsl) | exact ro_f4 (fun _ h => h) | exact ro_f4 (fun _ => slc_rsl) | exact ro_f5 (fun _ h => h) | exact ro_f5 (fun _ => slc_rsl) | exact ro_f6 (fun _ h => h) | exact ro_f6 (fun _ => slc_rsl)) ?_)))) (wl_ex fun x122 hx122 => ?_)
                        refine wl_y rfl (y_move rfl) ?_
                        refine wl_y rfl (y_extract rfl rfl) ?_
                        refine wl_y rfl (y_extract rfl rfl) ?_
                        refine wl_w (fun _ _ => want_none) rfl (yw_alloc T36 rfl) (wl_ex fun b15 _ => ?_)
                        first | refine wl_u (yu_storeAgg [] (l' := [_, _, _, _, _, _]) T36 rfl rfl rfl (by simp [Value.oneCell', encL, encJ, encO]) rfl rfl) ?_ | refine wl_u (yu_storeAgg [_] (l' := [_, _, _, _, _, _]) T36 rfl rfl rfl (by simp [Value.oneCell', encL, encJ, encO]) rfl rfl) ?_ | refine wl_u (yu_storeAgg [_, _] (l' := [_, _, _, _, _, _]) T36 rfl rfl rfl (by simp [Value.oneCell', encL, encJ, encO]) rfl rfl) ?_ | refine wl_u (yu_storeAgg [_, _, _] (l' := [_, _, _, _, _, _]) T36 rfl rfl rfl (by simp [Value.oneCell', encL, encJ, encO]) rfl rfl) ?_ | refine wl_u (yu_storeAgg [_, _, _, _] (l' := [_, _, _, _, _, _]) T36 rfl rfl rfl (by simp [Value.oneCell', encL, encJ, encO]) rfl rfl) ?_ | refine wl_u (yu_storeAgg [_, _, _, _, _] (l' := [_, _, _, _, _, _]) T36 rfl rfl rfl (by simp [Value.oneCell', encL, encJ, encO]) rfl rfl) ?_ | refine wl_u (yu_storeAgg [_, _, _, _, _, _] (l' := [_, _, _, _, _, _]) T36 rfl rfl rfl (by simp [Value.oneCell', encL, encJ, encO]) rfl rfl) ?_ | refine wl_u (yu_storeAgg [_, _, _, _, _, _, _] (l' := [_, _, _, _, _, _]) T36 rfl rfl rfl (by simp [Value.oneCell', encL, encJ, encO]) rfl rfl) ?_ | refine wl_u (yu_storeAgg [_, _, _, _, _, _, _, _] (l' := [_, _, _, _, _, _]) T36 rfl rfl rfl (by simp [Value.oneCell', encL, encJ, encO]) rfl rfl) ?_ | refine wl_u (yu_storeAgg [_, _, _, _, _, _, _, _, _] (l' := [_, _, _, _, _, _]) T36 rfl rfl rfl (by simp [Value.oneCell', encL, encJ, encO]) rfl rfl) ?_ | refine wl_u (yu_storeAgg [_, _, _, _, _, _, _, _, _, _] (l' := [_, _, _, _, _, _]) T36 rfl rfl rfl (by simp [Value.oneCell', encL, encJ, encO]) rfl rfl) ?_ | refine wl_u (yu_storeAgg [_, _, _, _, _, _, _, _, _, _, _] (l' := [_, _, _, _, _, _]) T36 rfl rfl rfl (by simp [Value.oneCell', encL, encJ, encO]) rfl rfl) ?_
                        refine wl_y rfl (y_assign rfl) ?_
                        refine wl_nil ?_
                        refine wq_then ?_
                        refine wc_seq ?_
                        refine wc_region ?_
                        refine wl_y rfl (y_move rfl) ?_
                        refine wl_y rfl (y_fieldAddr F32_2 rfl) ?_
                        refine wl_y rfl (y_load NA9 rfl (by first | exact cell_blk [] rfl | exact cell_blk [_] rfl | exact cell_blk [_, _] rfl | exact cell_blk [_, _, _] rfl | exact cell_blk [_, _, _, _] rfl | exact cell_blk [_, _, _, _, _] rfl | exact cell_blk [_, _, _, _, _, _] rfl | exact cell_blk [_, _, _, _, _, _, _] rfl | exact cell_blk [_, _, _, _, _, _, _, _] rfl | exact cell_blk [_, _, _, _, _, _, _, _, _] rfl | exact cell_blk [_, _, _, _, _, _, _, _, _, _] rfl | exact cell_blk [_, _, _, _, _, _, _, _, _, _, _] rfl | exact cellR_blk (by assumption) rfl)) ?_
                        refine wl_y rfl (y_fieldAddr F32_4 rfl) ?_
                        refine wl_y rfl (y_load NA3 rfl (by first | exact cell_blk [] rfl | exact cell_blk [_] rfl | exact cell_blk [_, _] rfl | exact cell_blk [_, _, _] rfl | exact cell_blk [_, _, _, _] rfl | exact cell_blk [_, _, _, _, _] rfl | exact cell_blk [_, _, _, _, _, _] rfl | exact cell_blk [_, _, _, _, _, _, _] rfl | exact cell_blk [_, _, _, _, _, _, _, _] rfl | exact cell_blk [_, _, _, _, _, _, _, _, _] rfl | exact cell_blk [_, _, _, _, _, _, _, _, _, _] rfl | exact cell_blk [_, _, _, _, _, _, _, _, _, _, _] rfl | exact cellR_blk (by assumption) rfl)) ?_
                        refine wl_c (fun _ _ => want_none) rfl (yc_spec (fst := []) (cap := []) _ FN20 (fnext_c x31 s x.worker x.now n i hI h1 h2 hi490 (by omega)) rfl rfl rfl (by (repeat (first | exact pt_nil | apply pt0 | apply pt1 | apply pt2 | apply pt3 | apply pt4 | apply pt5 | apply pt6 | apply pt7 | apply pt8 | apply pt9 | apply pt10 | apply pt11 | apply pt12 | apply pt13 | apply pt14 | apply pt15 | apply pt16 | apply pt17))) (by (repeat (first | exact ro_nil | exact ro_rest (by assumption) | refine ro_cons (by first | exact .inl (by assumption) | exact ro_f0 (fun _ h => h) | exact ro_f0 (fun _ => slc_rsl) | exact ro_f1 (fun _ h => h) | exact ro_f1 (fun _ => slc_rsl) | exact ro_f2 (fun _ h => h) | exact ro_f2 (fun _ => slc_rsl) | exact ro_f3 (fun _ h => h) | exact ro_f3 (fun _ => slc_rsl) | exact ro_f4 (fun _ h => h) | exact ro_f4 (fun _ => slc_rsl) | exact ro_f5 (fun _ h => h) | exact ro_f5 (fun _ => slc_rsl) | exact ro_f6 (fun _ h => h) | exact ro_f6 (fun _ => slc_rsl)) ?_)))) (wl_ex fun x131 hx131 => ?_)
                        refine wl_y rfl (y_move rfl) ?_
                        refine wl_y rfl (y_extract rfl rfl) ?_
                        refine wl_y rfl (y_extract rfl rfl) ?_
                        refine wl_w (fun _ _ => want_none) rfl (yw_alloc T36 rfl) (wl_ex fun b17 _ => ?_)
                        first | refine wl_u (yu_storeAgg [] (l' := [_, _, _, _, _, _]) T36 rfl rfl rfl (by simp [Value.oneCell', encL, encJ, encO]) rfl rfl) ?_ | refine wl_u (yu_storeAgg [_] (l' := [_, _, _, _, _, _]) T36 rfl rfl rfl (by simp [Value.oneCell', encL, encJ, encO]) rfl rfl) ?_ | refine wl_u (yu_storeAgg [_, _] (l' := [_, _, _, _, _, _]) T36 rfl rfl rfl (by simp [Value.oneCell', encL, encJ, encO]) rfl rfl) ?_ | refine wl_u (yu_storeAgg [_, _, _] (l' := [_, _, _, _, _, _]) T36 rfl rfl rfl (by simp [Value.oneCell', encL, encJ, encO]) rfl rfl) ?_ | refine wl_u (yu_storeAgg [_, _, _, _] (l' := [_, _, _, _, _, _]) T36 rfl rfl rfl (by simp [Value.oneCell', encL, encJ, encO]) rfl rfl) ?_ | refine wl_u (yu_storeAgg [_, _, _, _, _] (l' := [_, _, _, _, _, _]) T36 rfl rfl rfl (by simp [Value.oneCell', encL, encJ, encO]) rfl rfl) ?_ | refine wl_u (yu_storeAgg [_, _, _, _, _, _] (l' := [_, _, _, _, _, _]) T36 rfl rfl rfl (by simp [Value.oneCell', encL, encJ, encO]) rfl rfl) ?_ | refine wl_u (yu_storeAgg [_, _, _, _, _, _, _] (l' := [_, _, _, _, _, _]) T36 rfl rfl rfl (by simp [Value.oneCell', encL, encJ, encO]) rfl rfl) ?_ | refine wl_u (yu_storeAgg [_, _, _, _, _, _, _, _] (l' := [_, _, _, _, _, _]) T36 rfl rfl rfl (by simp [Value.oneCell', encL, encJ, encO]) rfl rfl) ?_ | refine wl_u (yu_storeAgg [_, _, _, _, _, _, _, _, _] (l' := [_, _, _, _, _, _]) T36 rfl rfl rfl (by simp [Value.oneCell', encL, encJ, encO]) rfl rfl) ?_ | refine wl_u (yu_storeAgg [_, _, _, _, _, _, _, _, _, _] (l' := [_, _, _, _, _, _]) T36 rfl rfl rfl (by simp [Value.oneCell', encL, encJ, encO]) rfl rfl) ?_ | refine wl_u (yu_storeAgg [_, _, _, _, _, _, _, _, _, _, _] (l' := [_, _, _, _, _, _]) T36 rfl rfl rfl (by simp [Value.oneCell', encL, encJ, encO]) rfl rfl) ?_
                        refine wl_y rfl (y_assign rfl) ?_
                        refine wl_nil ?_
                        refine wq_then ?_
                        refine wc_seq ?_
                        refine wc_region ?_
                        refine wl_y rfl (y_loadAgg (l := [_, _, _, _, _, _]) AG36 rfl rfl (by first | exact cells_blk [] rfl | exact cells_blk [_] rfl | exact cells_blk [_, _] rfl | exact cells_blk [_, _, _] rfl | exact cells_blk [_, _, _, _] rfl | exact cells_blk [_, _, _, _, _] rfl | exact cells_blk [_, _, _, _, _, _] rfl | exact cells_blk [_, _, _, _, _, _, _] rfl | exact cells_blk [_, _, _, _, _, _, _, _] rfl | exact cells_blk [_, _, _, _, _, _, _, _, _] rfl | exact cells_blk [_, _, _, _, _, _, _, _, _, _] rfl | exact cells_blk [_, _, _, _, _, _, _, _, _, _, _] rfl | exact cellsR_blk (by assumption) rfl)) ?_
                        refine wl_y rfl (y_loadAgg (l := [_, _, _, _, _, _]) AG36 rfl rfl (by first | exact cells_blk [] rfl | exact cells_blk [_] rfl | exact cells_blk [_, _] rfl | exact cells_blk [_, _, _] rfl | exact cells_blk [_, _, _, _] rfl | exact cells_blk [_, _, _, _, _] rfl | exact cells_blk [_, _, _, _, _, _] rfl | exact cells_blk [_, _, _, _, _, _, _] rfl | exact cells_blk [_, _, _, _, _, _, _, _] rfl | exact cells_blk [_, _, _, _, _, _, _, _, _] rfl | exact cells_blk [_, _, _, _, _, _, _, _, _, _] rfl | exact cells_blk [_, _, _, _, _, _, _, _, _, _, _] rfl | exact cellsR_blk (by assumption) rfl)) ?_
                        refine wl_y rfl (y_neqAgg (E36 _ _) rfl rfl) ?_
                        refine wl_y rfl (y_move rfl) ?_
                        refine wl_known 137 false rfl (by simp) ?_
                        refine wl_yg rfl rfl rfl (y_move rfl) ?_
                        refine wl_yg rfl rfl rfl (y_move rfl) ?_
                        refine wl_yg rfl rfl rfl (y_neqI rfl rfl) ?_
                        refine wl_y rfl (y_pick_f rfl rfl) ?_
                        refine wl_nil ?_
                        refine wq_then ?_
                        refine wc_known 141 false rfl (by simp) ?_
                        refine wc_cond_false rfl ?_
                        refine wc_skip ?_
                        refine wq_block_normal ?_
                        exact wq_cut ((s.next x.worker x.now).1, 0) ⟨(next_cases hI hi490 _ _).1, by simp only; rw [rows_next_len hI hi490]; omega⟩ ⟨rfl, rfl, rfl, rfl, rfl, rfl, trivial⟩ (fun w hw => hw.sub (by (repeat (first | exact pt_nil | apply pt0 | apply pt1 | apply pt2 | apply pt3 | apply pt4 | apply pt5 | apply pt6 | apply pt7 | apply pt8 | apply pt9 | apply pt10 | apply pt11 | apply pt12 | apply pt13 | apply pt14 | apply pt15 | apply pt16 | apply pt17))))
                      ·
                        simp at hc114
                        refine wc_seq ?_
                        refine wc_region ?_
                        refine wl_y rfl (y_eqlI rfl rfl) ?_
                        refine wl_y rfl (y_assign rfl) ?_
                        refine wl_nil ?_
                        refine wq_then ?_
                        refine wc_cond rfl (fun hc142 => ?_) (fun hc142 => ?_)
                        ·
                          simp at hc142
                          refine wc_seq ?_
                          refine wc_region ?_
                          refine wl_y rfl (y_fieldAddr F32_1 rfl) ?_
                          refine wl_y rfl (y_fieldAddr F30_0 rfl) ?_
                          refine wl_y rfl (y_load NA9 rfl (by first | exact cell_blk [] rfl | exact cell_blk [_] rfl | exact cell_blk [_, _] rfl | exact cell_blk [_, _, _] rfl | exact cell_blk [_, _, _, _] rfl | exact cell_blk [_, _, _, _, _] rfl | exact cell_blk [_, _, _, _, _, _] rfl | exact cell_blk [_, _, _, _, _, _, _] rfl | exact cell_blk [_, _, _, _, _, _, _, _] rfl | exact cell_blk [_, _, _, _, _, _, _, _, _] rfl | exact cell_blk [_, _, _, _, _, _, _, _, _, _] rfl | exact cell_blk [_, _, _, _, _, _, _, _, _, _, _] rfl | exact cellR_blk (by assumption) rfl)) ?_
                          refine wl_y rfl (y_assign rfl) ?_
                          refine wl_nil ?_
                          refine wq_then ?_
                          refine wc_seq ?_
                          refine wc_region ?_
                          refine wl_y rfl (y_fieldAddr F32_3 rfl) ?_
                          refine wl_y rfl (y_load NA3 rfl (by first | exact cell_blk [] rfl | exact cell_blk [_] rfl | exact cell_blk [_, _] rfl | exact cell_blk [_, _, _] rfl | exact cell_blk [_, _, _, _] rfl | exact cell_blk [_, _, _, _, _] rfl | exact cell_blk [_, _, _, _, _, _] rfl | exact cell_blk [_, _, _, _, _, _, _] rfl | exact cell_blk [_, _, _, _, _, _, _, _] rfl | exact cell_blk [_, _, _, _, _, _, _, _, _] rfl | exact cell_blk [_, _, _, _, _, _, _, _, _, _] rfl | exact cell_blk [_, _, _, _, _, _, _, _, _, _, _] rfl | exact cellR_blk (by assumption) rfl)) ?_
                          refine wl_y rfl (y_assign rfl) ?_
                          refine wl_nil ?_
                          refine wq_then ?_
                          refine wc_seq (wc_cut (α := Str × Int) (fun y => True) [(2, _), (7, _), (9, _), (11, _)] (fun y => [(19, vS y.1), (20, vI y.2)]) (fun y => Hp w0 K [scA x25 s, rfA x31 s]) ⟨rfl, rfl, rfl, rfl, trivial⟩ ?_ ?_)
                          ·
                            refine wc_seq ?_
                            refine wc_region ?_
                            refine wl_world (S' := Hp w0 K [rfA x31 s, scA x25 s, blk b12 (.cells (encO x).toArray 32 (0, 0))]) (fun w hw => hw.sub (by (repeat (first | exact pt_nil | apply pt0 | apply pt1 | apply pt2 | apply pt3 | apply pt4 | apply pt5 | apply pt6 | apply pt7 | apply pt8 | apply pt9 | apply pt10 | apply pt11 | apply pt12 | apply pt13 | apply pt14 | apply pt15 | apply pt16 | apply pt17)))) ?_
                            refine wl_exS rf_open3 (fun y => ?_)
                            obtain ⟨⟨r, hr⟩, oc, ot⟩ := y
                            refine wl_world (S' := Hp w0 K [blk x31 (.cells (rfC r) 54 (0, 0)), slc 30 3 r.ja r.jobs.length r.jc (r.jobs.flatMap encJ), blk r.qb (.cells [vI s.age, .slice oc.1 r.RI.length oc.2].toArray 89 (0, 0)), slc 112 3 oc.1 r.RI.length oc.2 (r.RI.flatMap encR), slc 83 2 r.wa r.ws.length r.wc (r.ws.flatMap encW), rowsA r.ws, blk r.tb (.cells (rtCells s.t.ref ot).toArray 48 (0, 0)), slc 36 6 ot.1 s.t.ref.l.length ot.2 (s.t.ref.l.flatMap encL), scA x25 s, blk b12 (.cells (encO x).toArray 32 (0, 0))]) (fun _ hw => hw) ?_
                            refine wl_y rfl (y_move rfl) ?_
                            refine wl_y rfl (y_nilCheck rfl) ?_
                            refine wl_y rfl (y_fieldAddr F54_3 rfl) ?_
                            refine wl_y rfl (y_load NA52 rfl (by first | exact cell_blk [] rfl | exact cell_blk [_] rfl | exact cell_blk [_, _] rfl | exact cell_blk [_, _, _] rfl | exact cell_blk [_, _, _, _] rfl | exact cell_blk [_, _, _, _, _] rfl | exact cell_blk [_, _, _, _, _, _] rfl | exact cell_blk [_, _, _, _, _, _, _] rfl | exact cell_blk [_, _, _, _, _, _, _, _] rfl | exact cell_blk [_, _, _, _, _, _, _, _, _] rfl | exact cell_blk [_, _, _, _, _, _, _, _, _, _] rfl | exact cell_blk [_, _, _, _, _, _, _, _, _, _, _] rfl | exact cellR_blk (by assumption) rfl)) ?_
                            refine wl_y rfl (y_nilCheck rfl) ?_
                            refine wl_y rfl (y_fieldAddr F48_0 rfl) ?_
                            refine wl_y rfl (y_load NA39 rfl (by first | exact cell_blk [] rfl | exact cell_blk [_] rfl | exact cell_blk [_, _] rfl | exact cell_blk [_, _, _] rfl | exact cell_blk [_, _, _, _] rfl | exact cell_blk [_, _, _, _, _] rfl | exact cell_blk [_, _, _, _, _, _] rfl | exact cell_blk [_, _, _, _, _, _, _] rfl | exact cell_blk [_, _, _, _, _, _, _, _] rfl | exact cell_blk [_, _, _, _, _, _, _, _, _] rfl | exact cell_blk [_, _, _, _, _, _, _, _, _, _] rfl | exact cell_blk [_, _, _, _, _, _, _, _, _, _, _] rfl | exact cellR_blk (by assumption) rfl)) ?_
                            refine wl_y rfl (y_lenSl Try.underlying39 rfl) ?_
                            refine wl_y rfl (y_gtr rfl rfl) ?_
                            refine wl_nil ?_
                            refine wq_then ?_
                            refine wc_cond rfl (fun hc157 => ?_) (fun hc157 => ?_)
                            ·
                              first | replace hc157 := of_decide_eq_true hc157 | replace hc157 := of_decide_eq_false hc157
                              refine wc_seq ?_
                              refine wc_mix (.q 0 0 (.q 1 0 (.q 2 0 (.q 3 0 (.q 4 0 (.q 5 0 (.q 6 0 (.q 7 0 (.q 8 0 (.q 9 0 (.q 10 0 (.q 11 0 (.q 12 0 (.q 13 0 (.q 14 0 (.q 15 0 (.q 16 0 (.q 17 0 (.q 18 0 (.q 19 0 (.q 20 0 (.q 21 0 (.q 22 0 (.q 23 0 (.q 24 0 (.q 25 0 (.q 26 0 (.q 27 0 (.q 28 0 (.q 29 0 (.q 30 0 (.q 31 0 (.q 32 0 (.q 33 0 (.q 34 0 (.q 35 0 (.q 36 0 (.q 37 0 (.w 38 2 (.w 39 2 .nil .nil) .nil))))))))))))))))))))))))))))))))))))))) (Sees [blk x31 (.cells (rfC r) 54 (0, 0)), blk r.tb (.cells (rtCells s.t.ref ot).toArray 48 (0, 0)), blk b12 (.cells (encO x).toArray 32 (0, 0)), slc 36 6 ot.1 s.t.ref.l.length ot.2 (s.t.ref.l.flatMap encL)]) MO (by kernel_rfl) (Hp.drawless _ _ _) (fun w hw => by refine ⟨?_, ?_, ?_, ?_, trivial⟩ <;> first | exact hw.seen [] | exact hw.seen [_] | exact hw.seen [_, _] | exact hw.seen [_, _, _] | exact hw.seen [_, _, _, _] | exact hw.seen [_, _, _, _, _] | exact hw.seen [_, _, _, _, _, _] | exact hw.seen [_, _, _, _, _, _, _] | exact hw.seen [_, _, _, _, _, _, _, _] | exact hw.seen [_, _, _, _, _, _, _, _, _] | exact hw.seen [_, _, _, _, _, _, _, _, _, _] | exact hw.seen [_, _, _, _, _, _, _, _, _, _, _]) ?_
                              have hsl : s.t.ref.l.length ≤ i := by have := hI.lens.2.2; show s.t.srt.length ≤ i; rw [Tb.srt_len]; omega
                              obtain ⟨k, hk, hke, hk1, hk2⟩ := rem_idx x.num (k := s.t.ref.l.length) (by omega)
                              obtain ⟨l, hl⟩ : ∃ l, s.t.ref.l[k]? = some l := ⟨_, List.getElem?_eq_getElem hk⟩
                              refine wm_have (p := ot.1.isSome = true) (by first | exact fun w hw => hw.slc_isSome [] (by omega) | exact fun w hw => hw.slc_isSome [_] (by omega) | exact fun w hw => hw.slc_isSome [_, _] (by omega) | exact fun w hw => hw.slc_isSome [_, _, _] (by omega) | exact fun w hw => hw.slc_isSome [_, _, _, _] (by omega) | exact fun w hw => hw.slc_isSome [_, _, _, _, _] (by omega) | exact fun w hw => hw.slc_isSome [_, _, _, _, _, _] (by omega) | exact fun w hw => hw.slc_isSome [_, _, _, _, _, _, _] (by omega) | exact fun w hw => hw.slc_isSome [_, _, _, _, _, _, _, _] (by omega)) (fun hls => ?_)
                              refine wm_g rfl rfl (y_move rfl) ?_
                              refine wm_g rfl rfl (y_nilCheck rfl) ?_
                              refine wm_g rfl rfl (y_fieldAddr F54_3 rfl) ?_
                              refine wm_g rfl rfl (y_load NA52 rfl (fun w hw => by first | exact cell_of_heap hw.1.blk rfl | exact cell_of_heap hw.2.1.blk rfl | exact cell_of_heap hw.2.2.1.blk rfl | exact cell_of_heap hw.2.2.2.1.blk rfl)) ?_
                              refine wm_g rfl rfl (y_nilCheck rfl) ?_
                              refine wm_g rfl rfl (y_fieldAddr F48_0 rfl) ?_
                              refine wm_g rfl rfl (y_load NA39 rfl (fun w hw => by first | exact cell_of_heap hw.1.blk rfl | exact cell_of_heap hw.2.1.blk rfl | exact cell_of_heap hw.2.2.1.blk rfl | exact cell_of_heap hw.2.2.2.1.blk rfl)) ?_
                              refine wm_g rfl rfl (y_fieldAddr F32_3 rfl) ?_
                              refine wm_g rfl rfl (y_load NA3 rfl (fun w hw => by first | exact cell_of_heap hw.1.blk rfl | exact cell_of_heap hw.2.1.blk rfl | exact cell_of_heap hw.2.2.1.blk rfl | exact cell_of_heap hw.2.2.2.1.blk rfl)) ?_
                              refine wm_g rfl rfl (y_move rfl) ?_
                              refine wm_g rfl rfl (y_nilCheck rfl) ?_
                              refine wm_g rfl rfl (y_fieldAddr F54_3 rfl) ?_
                              refine wm_g rfl rfl (y_load NA52 rfl (fun w hw => by first | exact cell_of_heap hw.1.blk rfl | exact cell_of_heap hw.2.1.blk rfl | exact cell_of_heap hw.2.2.1.blk rfl | exact cell_of_heap hw.2.2.2.1.blk rfl)) ?_
                              refine wm_g rfl rfl (y_nilCheck rfl) ?_
                              refine wm_g rfl rfl (y_fieldAddr F48_0 rfl) ?_
                              refine wm_g rfl rfl (y_load NA39 rfl (fun w hw => by first | exact cell_of_heap hw.1.blk rfl | exact cell_of_heap hw.2.1.blk rfl | exact cell_of_heap hw.2.2.1.blk rfl | exact cell_of_heap hw.2.2.2.1.blk rfl)) ?_
                              refine wm_g rfl rfl (y_lenSl Try.underlying39 rfl) ?_
                              refine wm_g rfl rfl (y_remE (r := x.num.tmod (s.t.ref.l.length : Nat)) rfl rfl (by omega) rfl) ?_
                              refine wm_g rfl rfl (y_move rfl) ?_
                              refine wm_g rfl rfl (y_nilCheck rfl) ?_
                              refine wm_g rfl rfl (y_fieldAddr F54_3 rfl) ?_
                              refine wm_g rfl rfl (y_load NA52 rfl (fun w hw => by first | exact cell_of_heap hw.1.blk rfl | exact cell_of_heap hw.2.1.blk rfl | exact cell_of_heap hw.2.2.1.blk rfl | exact cell_of_heap hw.2.2.2.1.blk rfl)) ?_
                              refine wm_g rfl rfl (y_nilCheck rfl) ?_
                              refine wm_g rfl rfl (y_fieldAddr F48_0 rfl) ?_
                              refine wm_g rfl rfl (y_load NA39 rfl (fun w hw => by first | exact cell_of_heap hw.1.blk rfl | exact cell_of_heap hw.2.1.blk rfl | exact cell_of_heap hw.2.2.1.blk rfl | exact cell_of_heap hw.2.2.2.1.blk rfl)) ?_
                              refine wm_g rfl rfl (y_lenSl Try.underlying39 rfl) ?_
                              refine wm_g rfl rfl (y_add rfl rfl (by omega)) ?_
                              refine wm_g rfl rfl (y_move rfl) ?_
                              refine wm_g rfl rfl (y_nilCheck rfl) ?_
                              refine wm_g rfl rfl (y_fieldAddr F54_3 rfl) ?_
                              refine wm_g rfl rfl (y_load NA52 rfl (fun w hw => by first | exact cell_of_heap hw.1.blk rfl | exact cell_of_heap hw.2.1.blk rfl | exact cell_of_heap hw.2.2.1.blk rfl | exact cell_of_heap hw.2.2.2.1.blk rfl)) ?_
                              refine wm_g rfl rfl (y_nilCheck rfl) ?_
                              refine wm_g rfl rfl (y_fieldAddr F48_0 rfl) ?_
                              refine wm_g rfl rfl (y_load NA39 rfl (fun w hw => by first | exact cell_of_heap hw.1.blk rfl | exact cell_of_heap hw.2.1.blk rfl | exact cell_of_heap hw.2.2.1.blk rfl | exact cell_of_heap hw.2.2.2.1.blk rfl)) ?_
                              refine wm_g rfl rfl (y_lenSl Try.underlying39 rfl) ?_
                              refine wm_g rfl rfl (y_remE (r := ((k : Nat) : Int)) rfl rfl (by omega) hke) ?_
                              refine wm_g rfl rfl (y_indexAddr (i := k) Try.underlying39 T36 rfl rfl rfl (by omega) (by first | exact fun _ _ => hls | first | exact fun w hw => hw.slc_isSome [] (by omega) | exact fun w hw => hw.slc_isSome [_] (by omega) | exact fun w hw => hw.slc_isSome [_, _] (by omega) | exact fun w hw => hw.slc_isSome [_, _, _] (by omega) | exact fun w hw => hw.slc_isSome [_, _, _, _] (by omega) | exact fun w hw => hw.slc_isSome [_, _, _, _, _] (by omega) | exact fun w hw => hw.slc_isSome [_, _, _, _, _, _] (by omega) | exact fun w hw => hw.slc_isSome [_, _, _, _, _, _, _] (by omega) | exact fun w hw => hw.slc_isSome [_, _, _, _, _, _, _, _] (by omega))) ?_
                              refine wm_g rfl rfl (y_loadAgg (l := encL l) AG36 rfl rfl (fun w hw => hw.2.2.2.1.slcAgg (fun i u h => rows_get encL_len hl h))) ?_
                              refine wm_w rfl rfl ?hC (yw_alloc T36 rfl) (wm_ex fun b21 _ => ?_)
                              case hC => exact (fun _ _ h => by obtain ⟨_, _, _, hw⟩ := h; exact (by refine ⟨?_, ?_, ?_, ?_, trivial⟩ <;> first | exact hw.seen [] | exact hw.seen [_] | exact hw.seen [_, _] | exact hw.seen [_, _, _] | exact hw.seen [_, _, _, _] | exact hw.seen [_, _, _, _, _] | exact hw.seen [_, _, _, _, _, _] | exact hw.seen [_, _, _, _, _, _, _] | exact hw.seen [_, _, _, _, _, _, _, _] | exact hw.seen [_, _, _, _, _, _, _, _, _] | exact hw.seen [_, _, _, _, _, _, _, _, _, _] | exact hw.seen [_, _, _, _, _, _, _, _, _, _, _]))
                              first | refine wm_u rfl (fun _ hw => by refine ⟨?_, ?_, ?_, ?_, trivial⟩ <;> first | exact hw.seen [] | exact hw.seen [_] | exact hw.seen [_, _] | exact hw.seen [_, _, _] | exact hw.seen [_, _, _, _] | exact hw.seen [_, _, _, _, _] | exact hw.seen [_, _, _, _, _, _] | exact hw.seen [_, _, _, _, _, _, _] | exact hw.seen [_, _, _, _, _, _, _, _] | exact hw.seen [_, _, _, _, _, _, _, _, _] | exact hw.seen [_, _, _, _, _, _, _, _, _, _] | exact hw.seen [_, _, _, _, _, _, _, _, _, _, _]) (yu_storeAgg [] (l' := [_, _, _, _, _, _]) T36 rfl rfl rfl (by simp [Value.oneCell', encL, encJ, encO]) rfl rfl) ?_ | refine wm_u rfl (fun _ hw => by refine ⟨?_, ?_, ?_, ?_, trivial⟩ <;> first | exact hw.seen [] | exact hw.seen [_] | exact hw.seen [_, _] | exact hw.seen [_, _, _] | exact hw.seen [_, _, _, _] | exact hw.seen [_, _, _, _, _] | exact hw.seen [_, _, _, _, _, _] | exact hw.seen [_, _, _, _, _, _, _] | exact hw.seen [_, _, _, _, _, _, _, _] | exact hw.seen [_, _, _, _, _, _, _, _, _] | exact hw.seen [_, _, _, _, _, _, _, _, _, _] | exact hw.seen [_, _, _, _, _, _, _, _, _, _, _]) (yu_storeAgg [_] (l' := [_, _, _, _, _, _]) T36 rfl rfl rfl (by simp [Value.oneCell', encL, encJ, encO]) rfl rfl) ?_ | refine wm_u rfl (fun _ hw => by refine ⟨?_, ?_, ?_, ?_, trivial⟩ <;> first | exact hw.seen [] | exact hw.seen [_] | exact hw.seen [_, _] | exact hw.seen [_, _, _] | exact hw.seen [_, _, _, _] | exact hw.seen [_, _, _, _, _] | exact hw.seen [_, _, _, _, _, _] | exact hw.seen [_, _, _, _, _, _, _] | exact hw.seen [_, _, _, _, _, _, _, _] | exact hw.seen [_, _, _, _, _, _, _, _, _] | exact hw.seen [_, _, _, _, _, _, _, _, _, _] | exact hw.seen [_, _, _, _, _, _, _, _, _, _, _]) (yu_storeAgg [_, _] (l' := [_, _, _, _, _, _]) T36 rfl rfl rfl (by simp [Value.oneCell', encL, encJ, encO]) rfl rfl) ?_ | refine wm_u rfl (fun _ hw => by refine ⟨?_, ?_, ?_, ?_, trivial⟩ <;> first | exact hw.seen [] | exact hw.seen [_] | exact hw.seen [_, _] | exact hw.seen [_, _, _] | exact hw.seen [_, _, _, _] | exact hw.seen [_, _, _, _, _] | exact hw.seen [_, _, _, _, _, _] | exact hw.seen [_, _, _, _, _, _, _] | exact hw.seen [_, _, _, _, _, _, _, _] | exact hw.seen [_, _, _, _, _, _, _, _, _] | exact hw.seen [_, _, _, _, _, _, _, _, _, _] | exact hw.seen [_, _, _, _, _, _, _, _, _, _, _]) (yu_storeAgg [_, _, _] (l' := [_, _, _, _, _, _]) T36 rfl rfl rfl (by simp [Value.oneCell', encL, encJ, encO]) rfl rfl) ?_ | refine wm_u rfl (fun _ hw => by refine ⟨?_, ?_, ?_, ?_, trivial⟩ <;> first | exact hw.seen [] | exact hw.seen [_] | exact hw.seen [_, _] | exact hw.seen [_, _, _] | exact hw.seen [_, _, _, _] | exact hw.seen [_, _, _, _, _] | exact hw.seen [_, _, _, _, _, _] | exact hw.seen [_, _, _, _, _, _, _] | exact hw.seen [_, _, _, _, _, _, _, _] | exact hw.seen [_, _, _, _, _, _, _, _, _] | exact hw.seen [_, _, _, _, _, _, _, _, _, _] | exact hw.seen [_, _, _, _, _, _, _, _, _, _, _]) (yu_storeAgg [_, _, _, _] (l' := [_, _, _, _, _, _]) T36 rfl rfl rfl (by simp [Value.oneCell', encL, encJ, encO]) rfl rfl) ?_ | refine wm_u rfl (fun _ hw => by refine ⟨?_, ?_, ?_, ?_, trivial⟩ <;> first | exact hw.seen [] | exact hw.seen [_] | exact hw.seen [_, _] | exact hw.seen [_, _, _] | exact hw.seen [_, _, _, _] | exact hw.seen [_, _, _, _, _] | exact hw.seen [_, _, _, _, _, _] | exact hw.seen [_, _, _, _, _, _, _] | exact hw.seen [_, _, _, _, _, _, _, _] | exact hw.seen [_, _, _, _, _, _, _, _, _] | exact hw.seen [_, _, _, _, _, _, _, _, _, _] | exact hw.seen [_, _, _, _, _, _, _, _, _, _, _]) (yu_storeAgg [_, _, _, _, _] (l' := [_, _, _, _, _, _]) T36 rfl rfl rfl (by simp [Value.oneCell', encL, encJ, encO]) rfl rfl) ?_ | refine wm_u rfl (fun _ hw => by refine ⟨?_, ?_, ?_, ?_, trivial⟩ <;> first | exact hw.seen [] | exact hw.seen [_] | exact hw.seen [_, _] | exact hw.seen [_, _, _] | exact hw.seen [_, _, _, _] | exact hw.seen [_, _, _, _, _] | exact hw.seen [_, _, _, _, _, _] | exact hw.seen [_, _, _, _, _, _, _] | exact hw.seen [_, _, _, _, _, _, _, _] | exact hw.seen [_, _, _, _, _, _, _, _, _] | exact hw.seen [_, _, _, _, _, _, _, _, _, _] | exact hw.seen [_, _, _, _, _, _, _, _, _, _, _]) (yu_storeAgg [_, _, _, _, _, _] (l' := [_, _, _, _, _, _]) T36 rfl rfl rfl (by simp [Value.oneCell', encL, encJ, encO]) rfl rfl) ?_ | refine wm_u rfl (fun _ hw => by refine ⟨?_, ?_, ?_, ?_, trivial⟩ <;> first | exact hw.seen [] | exact hw.seen [_] | exact hw.seen [_, _] | exact hw.seen [_, _, _] | exact hw.seen [_, _, _, _] | exact hw.seen [_, _, _, _, _] | exact hw.seen [_, _, _, _, _, _] | exact hw.seen [_, _, _, _, _, _, _] | exact hw.seen [_, _, _, _, _, _, _, _] | exact hw.seen [_, _, _, _, _, _, _, _, _] | exact hw.seen [_, _, _, _, _, _, _, _, _, _] | exact hw.seen [_, _, _, _, _, _, _, _, _, _, _]) (yu_storeAgg [_, _, _, _, _, _, _] (l' := [_, _, _, _, _, _]) T36 rfl rfl rfl (by simp [Value.oneCell', encL, encJ, encO]) rfl rfl) ?_ | refine wm_u rfl (fun _ hw => by refine ⟨?_, ?_, ?_, ?_, trivial⟩ <;> first | exact hw.seen [] | exact hw.seen [_] | exact hw.seen [_, _] | exact hw.seen [_, _, _] | exact hw.seen [_, _, _, _] | exact hw.seen [_, _, _, _, _] | exact hw.seen [_, _, _, _, _, _] | exact hw.seen [_, _, _, _, _, _, _] | exact hw.seen [_, _, _, _, _, _, _, _] | exact hw.seen [_, _, _, _, _, _, _, _, _] | exact hw.seen [_, _, _, _, _, _, _, _, _, _] | exact hw.seen [_, _, _, _, _, _, _, _, _, _, _]) (yu_storeAgg [_, _, _, _, _, _, _, _] (l' := [_, _, _, _, _, _]) T36 rfl rfl rfl (by simp [Value.oneCell', encL, encJ, encO]) rfl rfl) ?_ | refine wm_u rfl (fun _ hw => by refine ⟨?_, ?_, ?_, ?_, trivial⟩ <;> first | exact hw.seen [] | exact hw.seen [_] | exact hw.seen [_, _] | exact hw.seen [_, _, _] | exact hw.seen [_, _, _, _] | exact hw.seen [_, _, _, _, _] | exact hw.seen [_, _, _, _, _, _] | exact hw.seen [_, _, _, _, _, _, _] | exact hw.seen [_, _, _, _, _, _, _, _] | exact hw.seen [_, _, _, _, _, _, _, _, _] | exact hw.seen [_, _, _, _, _, _, _, _, _, _] | exact hw.seen [_, _, _, _, _, _, _, _, _, _, _]) (yu_storeAgg [_, _, _, _, _, _, _, _, _] (l' := [_, _, _, _, _, _]) T36 rfl rfl rfl (by simp [Value.oneCell', encL, encJ, encO]) rfl rfl) ?_ | refine wm_u rfl (fun _ hw => by refine ⟨?_, ?_, ?_, ?_, trivial⟩ <;> first | exact hw.seen [] | exact hw.seen [_] | exact hw.seen [_, _] | exact hw.seen [_, _, _] | exact hw.seen [_, _, _, _] | exact hw.seen [_, _, _, _, _] | exact hw.seen [_, _, _, _, _, _] | exact hw.seen [_, _, _, _, _, _, _] | exact hw.seen [_, _, _, _, _, _, _, _] | exact hw.seen [_, _, _, _, _, _, _, _, _] | exact hw.seen [_, _, _, _, _, _, _, _, _, _] | exact hw.seen [_, _, _, _, _, _, _, _, _, _, _]) (yu_storeAgg [_, _, _, _, _, _, _, _, _, _] (l' := [_, _, _, _, _, _]) T36 rfl rfl rfl (by simp [Value.oneCell', encL, encJ, encO]) rfl rfl) ?_ | refine wm_u rfl (fun _ hw => by refine ⟨?_, ?_, ?_, ?_, trivial⟩ <;> first | exact hw.seen [] | exact hw.seen [_] | exact hw.seen [_, _] | exact hw.seen [_, _, _] | exact hw.seen [_, _, _, _] | exact hw.seen [_, _, _, _, _] | exact hw.seen [_, _, _, _, _, _] | exact hw.seen [_, _, _, _, _, _, _] | exact hw.seen [_, _, _, _, _, _, _, _] | exact hw.seen [_, _, _, _, _, _, _, _, _] | exact hw.seen [_, _, _, _, _, _, _, _, _, _] | exact hw.seen [_, _, _, _, _, _, _, _, _, _, _]) (yu_storeAgg [_, _, _, _, _, _, _, _, _, _, _] (l' := [_, _, _, _, _, _]) T36 rfl rfl rfl (by simp [Value.oneCell', encL, encJ, encO]) rfl rfl) ?_
                              refine wm_nil ?_
                              refine all_wq ?_
                              refine wq_then ?_
                              refine wc_seq ?_
                              refine wc_region ?_
                              refine wl_y rfl (y_fieldAddr F36_0 rfl) ?_
                              refine wl_y rfl (y_fieldAddr F30_0 rfl) ?_
                              refine wl_y rfl (y_load NA9 rfl (by first | exact cell_blk [] rfl | exact cell_blk [_] rfl | exact cell_blk [_, _] rfl | exact cell_blk [_, _, _] rfl | exact cell_blk [_, _, _, _] rfl | exact cell_blk [_, _, _, _, _] rfl | exact cell_blk [_, _, _, _, _, _] rfl | exact cell_blk [_, _, _, _, _, _, _] rfl | exact cell_blk [_, _, _, _, _, _, _, _] rfl | exact cell_blk [_, _, _, _, _, _, _, _, _] rfl | exact cell_blk [_, _, _, _, _, _, _, _, _, _] rfl | exact cell_blk [_, _, _, _, _, _, _, _, _, _, _] rfl | exact cellR_blk (by assumption) rfl)) ?_
                              refine wl_y rfl (y_assign rfl) ?_
                              refine wl_nil ?_
                              refine wq_then ?_
                              refine wc_region ?_
                              refine wl_y rfl (y_fieldAddr F36_2 rfl) ?_
                              refine wl_y rfl (y_load NA3 rfl (by first | exact cell_blk [] rfl | exact cell_blk [_] rfl | exact cell_blk [_, _] rfl | exact cell_blk [_, _, _] rfl | exact cell_blk [_, _, _, _] rfl | exact cell_blk [_, _, _, _, _] rfl | exact cell_blk [_, _, _, _, _, _] rfl | exact cell_blk [_, _, _, _, _, _, _] rfl | exact cell_blk [_, _, _, _, _, _, _, _] rfl | exact cell_blk [_, _, _, _, _, _, _, _, _] rfl | exact cell_blk [_, _, _, _, _, _, _, _, _, _] rfl | exact cell_blk [_, _, _, _, _, _, _, _, _, _, _] rfl | exact cellR_blk (by assumption) rfl)) ?_
                              refine wl_y rfl (y_assign rfl) ?_
                              refine wl_nil ?_
                              exact wq_cut (l.job.key, l.epoch) trivial ⟨rfl, rfl, rfl, rfl, rfl, rfl, trivial⟩ (fun w hw => (rf_shut3 (As := [scA x25 s]) r hr (oc := oc) (ot := ot) (show Hp w0 K [blk x31 (.cells (rfC r) 54 (0, 0)), slc 30 3 r.ja r.jobs.length r.jc (r.jobs.flatMap encJ), blk r.qb (.cells [vI s.age, .slice oc.1 r.RI.length oc.2].toArray 89 (0, 0)), slc 112 3 oc.1 r.RI.length oc.2 (r.RI.flatMap encR), slc 83 2 r.wa r.ws.length r.wc (r.ws.flatMap encW), rowsA r.ws, blk r.tb (.cells (rtCells s.t.ref ot).toArray 48 (0, 0)), slc 36 6 ot.1 s.t.ref.l.length ot.2 (s.t.ref.l.flatMap encL), scA x25 s] w from hw.sub (by (repeat (first | exact pt_nil | apply pt0 | apply pt1 | apply pt2 | apply pt3 | apply pt4 | apply pt5 | apply pt6 | apply pt7 | apply pt8 | apply pt9 | apply pt10 | apply pt11 | apply pt12 | apply pt13 | apply pt14 | apply pt15 | apply pt16 | apply pt17))))).sub (by (repeat (first | exact pt_nil | apply pt0 | apply pt1 | apply pt2 | apply pt3 | apply pt4 | apply pt5 | apply pt6 | apply pt7 | apply pt8 | apply pt9 | apply pt10 | apply pt11 | apply pt12 | apply pt13 | apply pt14 | apply pt15 | apply pt16 | apply pt17))))
                            ·
                              first | replace hc157 := of_decide_eq_true hc157 | replace hc157 := of_decide_eq_false hc157
                              refine wc_skip ?_
                              exact wq_cut (x.job.key, x.num) trivial ⟨rfl, rfl, rfl, rfl, rfl, rfl, trivial⟩ (fun w hw => (rf_shut3 (As := [scA x25 s]) r hr (oc := oc) (ot := ot) (show Hp w0 K [blk x31 (.cells (rfC r) 54 (0, 0)), slc 30 3 r.ja r.jobs.length r.jc (r.jobs.flatMap encJ), blk r.qb (.cells [vI s.age, .slice oc.1 r.RI.length oc.2].toArray 89 (0, 0)), slc 112 3 oc.1 r.RI.length oc.2 (r.RI.flatMap encR), slc 83 2 r.wa r.ws.length r.wc (r.ws.flatMap encW), rowsA r.ws, blk r.tb (.cells (rtCells s.t.ref ot).toArray 48 (0, 0)), slc 36 6 ot.1 s.t.ref.l.length ot.2 (s.t.ref.l.flatMap encL), scA x25 s] w from hw.sub (by (repeat (first | exact pt_nil | apply pt0 | apply pt1 | apply pt2 | apply pt3 | apply pt4 | apply pt5 | apply pt6 | apply pt7 | apply pt8 | apply pt9 | apply pt10 | apply pt11 | apply pt12 | apply pt13 | apply pt14 | apply pt15 | apply pt16 | apply pt17))))).sub (by (repeat (first | exact pt_nil | apply pt0 | apply pt1 | apply pt2 | apply pt3 | apply pt4 | apply pt5 | apply pt6 | apply pt7 | apply pt8 | apply pt9 | apply pt10 | apply pt11 | apply pt12 | apply pt13 | apply pt14 | apply pt15 | apply pt16 | apply pt17))))
                          · rintro ⟨kk, ee⟩ _
                            refine wc_same 19 (vS kk) rfl rfl ?_
                            refine wc_same 20 (vI ee) rfl rfl ?_
                            refine all_wc ?_
                            refine wc_seq ?_
                            refine wc_region ?_
                            refine wl_y rfl (y_move rfl) ?_
                            refine wl_y rfl (y_move rfl) ?_
                            refine wl_y rfl (y_move rfl) ?_
                            refine wl_c (fun _ _ => want_none) rfl (yc_spec (fst := []) (cap := []) _ FN15 (sfinish_c x25 s kk ee) rfl rfl rfl (by (repeat (first | exact pt_nil | apply pt0 | apply pt1 | apply pt2 | apply pt3 | apply pt4 | apply pt5 | apply pt6 | apply pt7 | apply pt8 | apply pt9 | apply pt10 | apply pt11 | apply pt12 | apply pt13 | apply pt14 | apply pt15 | apply pt16 | apply pt17))) (by (repeat (first | exact ro_nil | exact ro_rest (by assumption) | refine ro_cons (by first | exact .inl (by assumption) | exact ro_f0 (fun _ h => h) | exact ro_f0 (fun _ => slc_rsl) | exact ro_f1 (fun _ h => h) | exact ro_f1 (fun _ => slc_rsl) | exact ro_f2 (fun _ h => h) | exact ro_f2 (fun _ => slc_rsl) | exact ro_f3 (fun _ h => h) | exact ro_f3 (fun _ => slc_rsl) | exact ro_f4 (fun _ h => h) | exact ro_f4 (fun _ => slc_rsl) | exact ro_f5 (fun _ h => h) | exact ro_f5 (fun _ => slc_rsl) | exact ro_f6 (fun _ h => h) | exact ro_f6 (fun _ => slc_rsl)) ?_)))) (wl_ex fun x204 hx204 => ?_)
                            refine wl_y rfl (y_assign rfl) ?_
                            refine wl_nil ?_
                            refine wq_then ?_
                            refine wc_region ?_
                            refine wl_world (S' := Hp w0 K [rfA x31 s, scA x25 (s.finish kk ee).1]) (fun w hw => hw.sub (by (repeat (first | exact pt_nil | apply pt0 | apply pt1 | apply pt2 | apply pt3 | apply pt4 | apply pt5 | apply pt6 | apply pt7 | apply pt8 | apply pt9 | apply pt10 | apply pt11 | apply pt12 | apply pt13 | apply pt14 | apply pt15 | apply pt16 | apply pt17)))) ?_
                            refine wl_exS rf_open (fun y => ?_)
                            obtain ⟨r, hr⟩ := y
                            refine wl_world (S' := Hp w0 K [blk x31 (.cells (rfC r) 54 (0, 0)), slc 30 3 r.ja r.jobs.length r.jc (r.jobs.flatMap encJ), refA r.qb s.age r.RI, slc 83 2 r.wa r.ws.length r.wc (r.ws.flatMap encW), rowsA r.ws, rtA r.tb s.t.ref, scA x25 (s.finish kk ee).1]) (fun _ hw => hw) ?_
                            refine wl_y rfl (y_move rfl) ?_
                            refine wl_y rfl (y_nilCheck rfl) ?_
                            refine wl_y rfl (y_fieldAddr F54_3 rfl) ?_
                            refine wl_y rfl (y_load NA52 rfl (by first | exact cell_blk [] rfl | exact cell_blk [_] rfl | exact cell_blk [_, _] rfl | exact cell_blk [_, _, _] rfl | exact cell_blk [_, _, _, _] rfl | exact cell_blk [_, _, _, _, _] rfl | exact cell_blk [_, _, _, _, _, _] rfl | exact cell_blk [_, _, _, _, _, _, _] rfl | exact cell_blk [_, _, _, _, _, _, _, _] rfl | exact cell_blk [_, _, _, _, _, _, _, _, _] rfl | exact cell_blk [_, _, _, _, _, _, _, _, _, _] rfl | exact cell_blk [_, _, _, _, _, _, _, _, _, _, _] rfl | exact cellR_blk (by assumption) rfl)) ?_
                            refine wl_y rfl (y_move rfl) ?_
                            refine wl_y rfl (y_move rfl) ?_
                            refine wl_c (fun _ _ => want_none) rfl (yc_spec (fst := []) (cap := []) _ FN21 (rfin_s r.tb s.t kk ee (hI.rok h1 h2 hi490) hI.good) rfl rfl rfl (by (repeat (first | exact pt_nil | apply pt0 | apply pt1 | apply pt2 | apply pt3 | apply pt4 | apply pt5 | apply pt6 | apply pt7 | apply pt8 | apply pt9 | apply pt10 | apply pt11 | apply pt12 | apply pt13 | apply pt14 | apply pt15 | apply pt16 | apply pt17))) (by (repeat (first | exact ro_nil | exact ro_rest (by assumption) | refine ro_cons (by first | exact .inl (by assumption) | exact ro_f0 (fun _ h => h) | exact ro_f0 (fun _ => slc_rsl) | exact ro_f1 (fun _ h => h) | exact ro_f1 (fun _ => slc_rsl) | exact ro_f2 (fun _ h => h) | exact ro_f2 (fun _ => slc_rsl) | exact ro_f3 (fun _ h => h) | exact ro_f3 (fun _ => slc_rsl) | exact ro_f4 (fun _ h => h) | exact ro_f4 (fun _ => slc_rsl) | exact ro_f5 (fun _ h => h) | exact ro_f5 (fun _ => slc_rsl) | exact ro_f6 (fun _ h => h) | exact ro_f6 (fun _ => slc_rsl)) ?_)))) (wl_ex fun x211 hx211 => ?_)
                            refine wl_same 211 (vI (s.finish kk ee).2) rfl (by rw [(finish_tab s kk ee).2.1]) ?_
                            refine wl_y rfl (y_assign rfl) ?_
                            refine wl_nil ?_
                            refine wq_block_normal ?_
                            exact wq_cut ((s.finish kk ee).1, (s.finish kk ee).2) ⟨(in_finish hI kk ee).1, by simp only; rw [(finish_tab s kk ee).2.2.2.2.1]; omega⟩ ⟨rfl, rfl, rfl, rfl, rfl, rfl, trivial⟩ (fun w hw => (rf_fin (As := [scA x25 (s.finish kk ee).1]) kk ee r hr (show Hp w0 K [blk x31 (.cells (rfC r) 54 (0, 0)), slc 30 3 r.ja r.jobs.length r.jc (r.jobs.flatMap encJ), refA r.qb s.age r.RI, slc 83 2 r.wa r.ws.length r.wc (r.ws.flatMap encW), rowsA r.ws, rtA r.tb (s.t.finish kk ee).1.ref, scA x25 (s.finish kk ee).1] w from hw.sub (by (repeat (first | exact pt_nil | apply pt0 | apply pt1 | apply pt2 | apply pt3 | apply pt4 | apply pt5 | apply pt6 | apply pt7 | apply pt8 | apply pt9 | apply pt10 | apply pt11 | apply pt12 | apply pt13 | apply pt14 | apply pt15 | apply pt16 | apply pt17))))).sub (by (repeat (first | exact pt_nil | apply pt0 | apply pt1 | apply pt2 | apply pt3 | apply pt4 | apply pt5 | apply pt6 | apply pt7 | apply pt8 | apply pt9 | apply pt10 | apply pt11 | apply pt12 | apply pt13 | apply pt14 | apply pt15 | apply pt16 | apply pt17))))
                        ·
                          simp at hc142
                          refine wc_seq ?_
                          refine wc_mix (.q 0 0 (.q 1 0 (.q 2 0 (.q 4 0 (.q 5 0 (.q 6 0 (.w 3 2 (.w 7 2 (.q 8 0 .nil) .nil) .nil))))))) (Sees [blk b12 (.cells (encO x).toArray 32 (0, 0))]) MO (by kernel_rfl) (Hp.drawless _ _ _) (fun w hw => by refine ⟨?_, trivial⟩ <;> first | exact hw.seen [] | exact hw.seen [_] | exact hw.seen [_, _] | exact hw.seen [_, _, _] | exact hw.seen [_, _, _, _] | exact hw.seen [_, _, _, _, _] | exact hw.seen [_, _, _, _, _, _] | exact hw.seen [_, _, _, _, _, _, _] | exact hw.seen [_, _, _, _, _, _, _, _] | exact hw.seen [_, _, _, _, _, _, _, _, _] | exact hw.seen [_, _, _, _, _, _, _, _, _, _] | exact hw.seen [_, _, _, _, _, _, _, _, _, _, _]) ?_
                          refine wm_g rfl rfl (y_move rfl) ?_
                          refine wm_g rfl rfl (y_fieldAddr F32_4 rfl) ?_
                          refine wm_g rfl rfl (y_load NA3 rfl (fun w hw => by first | exact cell_of_heap hw.1.blk rfl)) ?_
                          refine wm_g rfl rfl (y_move rfl) ?_
                          refine wm_g rfl rfl (y_fieldAddr F32_4 rfl) ?_
                          refine wm_g rfl rfl (y_load NA3 rfl (fun w hw => by first | exact cell_of_heap hw.1.blk rfl)) ?_
                          refine wm_c rfl rfl ?hC (yc_spec (fst := []) (cap := []) _ FN22 (stick_c x25 s x.now n i hI h1 h2 hi490) rfl rfl rfl (by (repeat (first | exact pt_nil | apply pt0 | apply pt1 | apply pt2 | apply pt3 | apply pt4 | apply pt5 | apply pt6 | apply pt7 | apply pt8 | apply pt9 | apply pt10 | apply pt11 | apply pt12 | apply pt13 | apply pt14 | apply pt15 | apply pt16 | apply pt17))) (by (repeat (first | exact ro_nil | exact ro_rest (by assumption) | refine ro_cons (by first | exact .inl (by assumption) | exact ro_f0 (fun _ h => h) | exact ro_f0 (fun _ => slc_rsl) | exact ro_f1 (fun _ h => h) | exact ro_f1 (fun _ => slc_rsl) | exact ro_f2 (fun _ h => h) | exact ro_f2 (fun _ => slc_rsl) | exact ro_f3 (fun _ h => h) | exact ro_f3 (fun _ => slc_rsl) | exact ro_f4 (fun _ h => h) | exact ro_f4 (fun _ => slc_rsl) | exact ro_f5 (fun _ h => h) | exact ro_f5 (fun _ => slc_rsl) | exact ro_f6 (fun _ h => h) | exact ro_f6 (fun _ => slc_rsl)) ?_)))) (wm_ex fun x78 hx78 => ?_)
                          case hC => exact (fun _ _ h => by obtain ⟨_, _, _, hw⟩ := h; exact (by refine ⟨?_, trivial⟩ <;> first | exact hw.seen [] | exact hw.seen [_] | exact hw.seen [_, _] | exact hw.seen [_, _, _] | exact hw.seen [_, _, _, _] | exact hw.seen [_, _, _, _, _] | exact hw.seen [_, _, _, _, _, _] | exact hw.seen [_, _, _, _, _, _, _] | exact hw.seen [_, _, _, _, _, _, _, _] | exact hw.seen [_, _, _, _, _, _, _, _, _] | exact hw.seen [_, _, _, _, _, _, _, _, _, _] | exact hw.seen [_, _, _, _, _, _, _, _, _, _, _]))
                          refine wm_c rfl rfl ?hC (yc_spec (fst := []) (cap := []) _ FN23 (ftick_c x31 s x.now n i hI h1 h2 hi490 (by omega)) rfl rfl rfl (by (repeat (first | exact pt_nil | apply pt0 | apply pt1 | apply pt2 | apply pt3 | apply pt4 | apply pt5 | apply pt6 | apply pt7 | apply pt8 | apply pt9 | apply pt10 | apply pt11 | apply pt12 | apply pt13 | apply pt14 | apply pt15 | apply pt16 | apply pt17))) (by (repeat (first | exact ro_nil | exact ro_rest (by assumption) | refine ro_cons (by first | exact .inl (by assumption) | exact ro_f0 (fun _ h => h) | exact ro_f0 (fun _ => slc_rsl) | exact ro_f1 (fun _ h => h) | exact ro_f1 (fun _ => slc_rsl) | exact ro_f2 (fun _ h => h) | exact ro_f2 (fun _ => slc_rsl) | exact ro_f3 (fun _ h => h) | exact ro_f3 (fun _ => slc_rsl) | exact ro_f4 (fun _ h => h) | exact ro_f4 (fun _ => slc_rsl) | exact ro_f5 (fun _ h => h) | exact ro_f5 (fun _ => slc_rsl) | exact ro_f6 (fun _ h => h) | exact ro_f6 (fun _ => slc_rsl)) ?_)))) (wm_ex fun x82 hx82 => ?_)
                          case hC => exact (fun _ _ h => by obtain ⟨_, _, _, hw⟩ := h; exact (by refine ⟨?_, trivial⟩ <;> first | exact hw.seen [] | exact hw.seen [_] | exact hw.seen [_, _] | exact hw.seen [_, _, _] | exact hw.seen [_, _, _, _] | exact hw.seen [_, _, _, _, _] | exact hw.seen [_, _, _, _, _, _] | exact hw.seen [_, _, _, _, _, _, _] | exact hw.seen [_, _, _, _, _, _, _, _] | exact hw.seen [_, _, _, _, _, _, _, _, _] | exact hw.seen [_, _, _, _, _, _, _, _, _, _] | exact hw.seen [_, _, _, _, _, _, _, _, _, _, _]))
                          refine wm_g rfl rfl (y_neqI rfl rfl) ?_
                          refine wm_nil ?_
                          refine all_wq ?_
                          refine wq_then ?_
                          refine wc_known 83 false rfl (by simp) ?_
                          refine wc_cond_false rfl ?_
                          refine wc_skip ?_
                          refine wq_block_normal ?_
                          exact wq_cut ((s.tick x.now).1, 0) ⟨in_tick hI hi490 _, by simp only; rw [show (s.tick x.now).1.rows = s.rows from rows_back _ _]; omega⟩ ⟨rfl, rfl, rfl, rfl, rfl, rfl, trivial⟩ (fun w hw => hw.sub (by (repeat (first | exact pt_nil | apply pt0 | apply pt1 | apply pt2 | apply pt3 | apply pt4 | apply pt5 | apply pt6 | apply pt7 | apply pt8 | apply pt9 | apply pt10 | apply pt11 | apply pt12 | apply pt13 | apply pt14 | apply pt15 | apply pt16 | apply pt17))))
              · rintro ⟨u, e⟩ ⟨hu, hul⟩; simp only at hu hul
                refine wc_world (S' := Hp w0 K [rfA x31 u, scA x25 u]) (fun w hw => hw.sub (by (repeat (first | exact pt_nil | apply pt0 | apply pt1 | apply pt2 | apply pt3 | apply pt4 | apply pt5 | apply pt6 | apply pt7 | apply pt8 | apply pt9 | apply pt10 | apply pt11 | apply pt12 | apply pt13 | apply pt14 | apply pt15 | apply pt16 | apply pt17)))) ?_
                refine wc_ex rf_open3 (fun y => ?_)
                obtain ⟨⟨r, hr⟩, oc, ot⟩ := y
                refine wc_world (S' := Hp w0 K [slc 36 6 ot.1 u.t.ref.l.length ot.2 (u.t.ref.l.flatMap encL), blk r.tb (.cells (rtCells u.t.ref ot).toArray 48 (0, 0)), blk x31 (.cells (rfC r) 54 (0, 0)), scA x25 u, slc 30 3 r.ja r.jobs.length r.jc (r.jobs.flatMap encJ), blk r.qb (.cells [vI u.age, .slice oc.1 r.RI.length oc.2].toArray 89 (0, 0)), slc 112 3 oc.1 r.RI.length oc.2 (r.RI.flatMap encR), slc 83 2 r.wa r.ws.length r.wc (r.ws.flatMap encW), rowsA r.ws]) (fun w hw => (show Hp w0 K [blk x31 (.cells (rfC r) 54 (0, 0)), slc 30 3 r.ja r.jobs.length r.jc (r.jobs.flatMap encJ), blk r.qb (.cells [vI u.age, .slice oc.1 r.RI.length oc.2].toArray 89 (0, 0)), slc 112 3 oc.1 r.RI.length oc.2 (r.RI.flatMap encR), slc 83 2 r.wa r.ws.length r.wc (r.ws.flatMap encW), rowsA r.ws, blk r.tb (.cells (rtCells u.t.ref ot).toArray 48 (0, 0)), slc 36 6 ot.1 u.t.ref.l.length ot.2 (u.t.ref.l.flatMap encL), scA x25 u] w from hw).sub (by (repeat (first | exact pt_nil | apply pt0 | apply pt1 | apply pt2 | apply pt3 | apply pt4 | apply pt5 | apply pt6 | apply pt7 | apply pt8 | apply pt9 | apply pt10 | apply pt11 | apply pt12 | apply pt13 | apply pt14 | apply pt15 | apply pt16 | apply pt17)))) ?_
                refine wc_same 13 (vI e) rfl rfl ?_
                refine wc_same 14 (vI e) rfl rfl ?_
                refine all_wc ?_
                refine wc_seq ?_
                refine wc_mix (.q 0 0 (.q 1 0 (.q 2 0 (.q 3 0 (.q 4 0 (.q 6 0 (.w 5 2 (.w 7 2 (.q 8 0 (.q 9 0 (.q 10 0 (.q 11 0 (.q 13 0 (.q 14 0 (.q 15 0 (.q 16 0 (.q 17 0 (.q 18 0 (.q 19 0 (.w 12 2 (.w 20 2 (.q 21 0 (.q 22 0 .nil)) .nil) .nil)))))))))))) .nil) .nil))))))) (Sees [blk x31 (.cells (rfC r) 54 (0, 0)), blk r.tb (.cells (rtCells u.t.ref ot).toArray 48 (0, 0))]) MO (by kernel_rfl) (Hp.drawless _ _ _) (fun w hw => by refine ⟨?_, ?_, trivial⟩ <;> first | exact hw.seen [] | exact hw.seen [_] | exact hw.seen [_, _] | exact hw.seen [_, _, _] | exact hw.seen [_, _, _, _] | exact hw.seen [_, _, _, _, _] | exact hw.seen [_, _, _, _, _, _] | exact hw.seen [_, _, _, _, _, _, _] | exact hw.seen [_, _, _, _, _, _, _, _] | exact hw.seen [_, _, _, _, _, _, _, _, _] | exact hw.seen [_, _, _, _, _, _, _, _, _, _] | exact hw.seen [_, _, _, _, _, _, _, _, _, _, _]) ?_
                refine wm_g rfl rfl (y_move rfl) ?_
                refine wm_g rfl rfl (y_move rfl) ?_
                refine wm_g rfl rfl (y_neqI rfl rfl) ?_
                refine wm_g rfl rfl (y_move rfl) ?_
                refine wm_known 215 false rfl (by simp) ?_
                refine wm_gg rfl rfl rfl rfl (y_move rfl) ?_
                refine wm_gg rfl rfl rfl rfl (y_move rfl) ?_
                refine wm_cg rfl (want_some rfl rfl) rfl ?hC (yc_spec (fst := []) (cap := []) _ FN14 (swait_c x25 u hu.keyed (by have := waiting_le hu; omega)) rfl rfl rfl (by (repeat (first | exact pt_nil | apply pt0 | apply pt1 | apply pt2 | apply pt3 | apply pt4 | apply pt5 | apply pt6 | apply pt7 | apply pt8 | apply pt9 | apply pt10 | apply pt11 | apply pt12 | apply pt13 | apply pt14 | apply pt15 | apply pt16 | apply pt17))) (by (repeat (first | exact ro_nil | exact ro_rest (by assumption) | refine ro_cons (by first | exact .inl (by assumption) | exact ro_f0 (fun _ h => h) | exact ro_f0 (fun _ => slc_rsl) | exact ro_f1 (fun _ h => h) | exact ro_f1 (fun _ => slc_rsl) | exact ro_f2 (fun _ h => h) | exact ro_f2 (fun _ => slc_rsl) | exact ro_f3 (fun _ h => h) | exact ro_f3 (fun _ => slc_rsl) | exact ro_f4 (fun _ h => h) | exact ro_f4 (fun _ => slc_rsl) | exact ro_f5 (fun _ h => h) | exact ro_f5 (fun _ => slc_rsl) | exact ro_f6 (fun _ h => h) | exact ro_f6 (fun _ => slc_rsl)) ?_)))) (wm_ex fun x217 hx217 => ?_)
                case hC => exact (fun _ _ h => by obtain ⟨_, _, _, hw⟩ := h; exact (by refine ⟨?_, ?_, trivial⟩ <;> first | exact hw.seen [] | exact hw.seen [_] | exact hw.seen [_, _] | exact hw.seen [_, _, _] | exact hw.seen [_, _, _, _] | exact hw.seen [_, _, _, _, _] | exact hw.seen [_, _, _, _, _, _] | exact hw.seen [_, _, _, _, _, _, _] | exact hw.seen [_, _, _, _, _, _, _, _] | exact hw.seen [_, _, _, _, _, _, _, _, _] | exact hw.seen [_, _, _, _, _, _, _, _, _, _] | exact hw.seen [_, _, _, _, _, _, _, _, _, _, _]))
                refine wm_cg rfl (want_some rfl rfl) rfl ?hC (yc_spec (fst := []) (cap := []) _ FN24 (fwait_c x31 u r hr oc ot n (i + 1) hu h1 h2 (by omega) (by omega)) rfl rfl rfl (by (repeat (first | exact pt_nil | apply pt0 | apply pt1 | apply pt2 | apply pt3 | apply pt4 | apply pt5 | apply pt6 | apply pt7 | apply pt8 | apply pt9 | apply pt10 | apply pt11 | apply pt12 | apply pt13 | apply pt14 | apply pt15 | apply pt16 | apply pt17))) (by (repeat (first | exact ro_nil | exact ro_rest (by assumption) | refine ro_cons (by first | exact .inl (by assumption) | exact ro_f0 (fun _ h => h) | exact ro_f0 (fun _ => slc_rsl) | exact ro_f1 (fun _ h => h) | exact ro_f1 (fun _ => slc_rsl) | exact ro_f2 (fun _ h => h) | exact ro_f2 (fun _ => slc_rsl) | exact ro_f3 (fun _ h => h) | exact ro_f3 (fun _ => slc_rsl) | exact ro_f4 (fun _ h => h) | exact ro_f4 (fun _ => slc_rsl) | exact ro_f5 (fun _ h => h) | exact ro_f5 (fun _ => slc_rsl) | exact ro_f6 (fun _ h => h) | exact ro_f6 (fun _ => slc_rsl)) ?_)))) (wm_ex fun x219 hx219 => ?_)
                case hC => exact (fun _ _ h => by obtain ⟨_, _, _, hw⟩ := h; exact (by refine ⟨?_, ?_, trivial⟩ <;> first | exact hw.seen [] | exact hw.seen [_] | exact hw.seen [_, _] | exact hw.seen [_, _, _] | exact hw.seen [_, _, _, _] | exact hw.seen [_, _, _, _, _] | exact hw.seen [_, _, _, _, _, _] | exact hw.seen [_, _, _, _, _, _, _] | exact hw.seen [_, _, _, _, _, _, _, _] | exact hw.seen [_, _, _, _, _, _, _, _, _] | exact hw.seen [_, _, _, _, _, _, _, _, _, _] | exact hw.seen [_, _, _, _, _, _, _, _, _, _, _]))
                refine wm_gg rfl rfl rfl rfl (y_neqI rfl rfl) ?_
                refine wm_g rfl rfl (y_pick_f rfl rfl) ?_
                refine wm_g rfl rfl (y_move rfl) ?_
                refine wm_known 222 false rfl (by simp) ?_
                refine wm_gg rfl rfl rfl rfl (y_move rfl) ?_
                refine wm_gg rfl rfl rfl rfl (y_move rfl) ?_
                refine wm_gg rfl rfl rfl rfl (y_nilCheck rfl) ?_
                refine wm_gg rfl rfl rfl rfl (y_fieldAddr F54_3 rfl) ?_
                refine wm_gg rfl rfl rfl rfl (y_load NA52 rfl (fun w hw => by first | exact cell_of_heap hw.1.blk rfl | exact cell_of_heap hw.2.1.blk rfl)) ?_
                refine wm_gg rfl rfl rfl rfl (y_nilCheck rfl) ?_
                refine wm_gg rfl rfl rfl rfl (y_fieldAddr F48_0 rfl) ?_
                refine wm_gg rfl rfl rfl rfl (y_load NA39 rfl (fun w hw => by first | exact cell_of_heap hw.1.blk rfl | exact cell_of_heap hw.2.1.blk rfl)) ?_
                refine wm_cg rfl (want_some rfl rfl) rfl ?hC (yc_spec (fst := []) (cap := []) _ FN13 (sleases_c x25 u (hu.fits (by omega))) rfl rfl rfl (by (repeat (first | exact pt_nil | apply pt0 | apply pt1 | apply pt2 | apply pt3 | apply pt4 | apply pt5 | apply pt6 | apply pt7 | apply pt8 | apply pt9 | apply pt10 | apply pt11 | apply pt12 | apply pt13 | apply pt14 | apply pt15 | apply pt16 | apply pt17))) (by (repeat (first | exact ro_nil | exact ro_rest (by assumption) | refine ro_cons (by first | exact .inl (by assumption) | exact ro_f0 (fun _ h => h) | exact ro_f0 (fun _ => slc_rsl) | exact ro_f1 (fun _ h => h) | exact ro_f1 (fun _ => slc_rsl) | exact ro_f2 (fun _ h => h) | exact ro_f2 (fun _ => slc_rsl) | exact ro_f3 (fun _ h => h) | exact ro_f3 (fun _ => slc_rsl) | exact ro_f4 (fun _ h => h) | exact ro_f4 (fun _ => slc_rsl) | exact ro_f5 (fun _ h => h) | exact ro_f5 (fun _ => slc_rsl) | exact ro_f6 (fun _ h => h) | exact ro_f6 (fun _ => slc_rsl)) ?_)))) (wm_ex fun x224 hx224 => ?_)
                case hC => exact (fun _ _ h => by obtain ⟨_, _, _, hw⟩ := h; exact (by refine ⟨?_, ?_, trivial⟩ <;> first | exact hw.seen [] | exact hw.seen [_] | exact hw.seen [_, _] | exact hw.seen [_, _, _] | exact hw.seen [_, _, _, _] | exact hw.seen [_, _, _, _, _] | exact hw.seen [_, _, _, _, _, _] | exact hw.seen [_, _, _, _, _, _, _] | exact hw.seen [_, _, _, _, _, _, _, _] | exact hw.seen [_, _, _, _, _, _, _, _, _] | exact hw.seen [_, _, _, _, _, _, _, _, _, _] | exact hw.seen [_, _, _, _, _, _, _, _, _, _, _]))
                refine wm_world (S' := Hp w0 K [slc 36 6 x224.1 u.t.srt.length x224.2 (u.t.srt.flatMap encL), slc 36 6 ot.1 u.t.ref.l.length ot.2 (u.t.ref.l.flatMap encL), blk r.tb (.cells (rtCells u.t.ref ot).toArray 48 (0, 0)), blk x31 (.cells (rfC r) 54 (0, 0)), scA x25 u, slc 30 3 r.ja r.jobs.length r.jc (r.jobs.flatMap encJ), blk r.qb (.cells [vI u.age, .slice oc.1 r.RI.length oc.2].toArray 89 (0, 0)), slc 112 3 oc.1 r.RI.length oc.2 (r.RI.flatMap encR), slc 83 2 r.wa r.ws.length r.wc (r.ws.flatMap encW), rowsA r.ws]) (fun w hw => hw.sub (by (repeat (first | exact pt_nil | apply pt0 | apply pt1 | apply pt2 | apply pt3 | apply pt4 | apply pt5 | apply pt6 | apply pt7 | apply pt8 | apply pt9 | apply pt10 | apply pt11 | apply pt12 | apply pt13 | apply pt14 | apply pt15 | apply pt16 | apply pt17)))) ?_
                refine wm_cg rfl (want_some rfl rfl) rfl ?hC (yc_spec (fst := []) (cap := []) _ FN25 (leases_c u.t.srt u.t.ref.l x224.1 ot.1 x224.2 ot.2 (by rw [Tb.srt_len]; have := hu.lens.2.2; omega)) rfl rfl rfl (by (repeat (first | exact pt_nil | apply pt0 | apply pt1 | apply pt2 | apply pt3 | apply pt4 | apply pt5 | apply pt6 | apply pt7 | apply pt8 | apply pt9 | apply pt10 | apply pt11 | apply pt12 | apply pt13 | apply pt14 | apply pt15 | apply pt16 | apply pt17))) (by (repeat (first | exact ro_nil | exact ro_rest (by assumption) | refine ro_cons (by first | exact .inl (by assumption) | exact ro_f0 (fun _ h => h) | exact ro_f0 (fun _ => slc_rsl) | exact ro_f1 (fun _ h => h) | exact ro_f1 (fun _ => slc_rsl) | exact ro_f2 (fun _ h => h) | exact ro_f2 (fun _ => slc_rsl) | exact ro_f3 (fun _ h => h) | exact ro_f3 (fun _ => slc_rsl) | exact ro_f4 (fun _ h => h) | exact ro_f4 (fun _ => slc_rsl) | exact ro_f5 (fun _ h => h) | exact ro_f5 (fun _ => slc_rsl) | exact ro_f6 (fun _ h => h) | exact ro_f6 (fun _ => slc_rsl)) ?_)))) (wm_ex fun x232 hx232 => ?_)
                case hC => exact (fun _ _ h => by obtain ⟨_, _, _, hw⟩ := h; exact (by refine ⟨?_, ?_, trivial⟩ <;> first | exact hw.seen [] | exact hw.seen [_] | exact hw.seen [_, _] | exact hw.seen [_, _, _] | exact hw.seen [_, _, _, _] | exact hw.seen [_, _, _, _, _] | exact hw.seen [_, _, _, _, _, _] | exact hw.seen [_, _, _, _, _, _, _] | exact hw.seen [_, _, _, _, _, _, _, _] | exact hw.seen [_, _, _, _, _, _, _, _, _] | exact hw.seen [_, _, _, _, _, _, _, _, _, _] | exact hw.seen [_, _, _, _, _, _, _, _, _, _, _]))
                refine wm_gg rfl rfl rfl rfl (y_not rfl) ?_
                refine wm_g rfl rfl (y_pick_f rfl rfl) ?_
                refine wm_nil ?_
                refine all_wq ?_
                refine wq_then ?_
                refine wc_known 234 false rfl (by rw [decide_eq_true (show u.t.srt = u.t.ref.l from rfl)]; rfl) ?_
                refine wc_cond_false rfl ?_
                refine wc_skip ?_
                refine wq_block_normal ?_
                refine wq_then ?_
                refine wc_region ?_
                refine wl_y rfl (y_move rfl) ?_
                refine wl_y rfl (y_add rfl rfl (by omega)) ?_
                refine wl_y rfl (y_assign rfl) ?_
                refine wl_nil ?_
                exact wq_round (i + 1, u) (by simp only; omega) ⟨by simp only; omega, by simp only; omega, hu, hul⟩ ⟨rfl, rfl, rfl, rfl, trivial⟩ (fun w hw => (rf_shut3 (As := [scA x25 u]) r hr (oc := oc) (ot := ot) (show Hp w0 K [blk x31 (.cells (rfC r) 54 (0, 0)), slc 30 3 r.ja r.jobs.length r.jc (r.jobs.flatMap encJ), blk r.qb (.cells [vI u.age, .slice oc.1 r.RI.length oc.2].toArray 89 (0, 0)), slc 112 3 oc.1 r.RI.length oc.2 (r.RI.flatMap encR), slc 83 2 r.wa r.ws.length r.wc (r.ws.flatMap encW), rowsA r.ws, blk r.tb (.cells (rtCells u.t.ref ot).toArray 48 (0, 0)), slc 36 6 ot.1 u.t.ref.l.length ot.2 (u.t.ref.l.flatMap encL), scA x25 u] w from hw.sub (by (repeat (first | exact pt_nil | apply pt0 | apply pt1 | apply pt2 | apply pt3 | apply pt4 | apply pt5 | apply pt6 | apply pt7 | apply pt8 | apply pt9 | apply pt10 | apply pt11 | apply pt12 | apply pt13 | apply pt14 | apply pt15 | apply pt16 | apply pt17))))).sub (by (repeat (first | exact pt_nil | apply pt0 | apply pt1 | apply pt2 | apply pt3 | apply pt4 | apply pt5 | apply pt6 | apply pt7 | apply pt8 | apply pt9 | apply pt10 | apply pt11 | apply pt12 | apply pt13 | apply pt14 | apply pt15 | apply pt16 | apply pt17))))
        ·
          simp at hc54
          refine wc_exit ?_
          refine wq_then_exit (wq_then_exit (wq_block_exit ?_))
          refine wq_then ?_
          refine wc_seq ?_
          refine wc_region ?_
          refine wl_q (fun _ _ => want_none) rfl (yq_spec (fst := []) (cap := []) _ FN8 awake_c rfl rfl rfl (by (repeat (first | exact pt_nil | apply pt0 | apply pt1 | apply pt2 | apply pt3 | apply pt4 | apply pt5 | apply pt6 | apply pt7 | apply pt8 | apply pt9 | apply pt10 | apply pt11 | apply pt12 | apply pt13 | apply pt14 | apply pt15 | apply pt16 | apply pt17))) (by (repeat (first | exact ro_nil | exact ro_rest (by assumption) | refine ro_cons (by first | exact .inl (by assumption) | exact ro_f0 (fun _ h => h) | exact ro_f0 (fun _ => slc_rsl) | exact ro_f1 (fun _ h => h) | exact ro_f1 (fun _ => slc_rsl) | exact ro_f2 (fun _ h => h) | exact ro_f2 (fun _ => slc_rsl) | exact ro_f3 (fun _ h => h) | exact ro_f3 (fun _ => slc_rsl) | exact ro_f4 (fun _ h => h) | exact ro_f4 (fun _ => slc_rsl) | exact ro_f5 (fun _ h => h) | exact ro_f5 (fun _ => slc_rsl) | exact ro_f6 (fun _ h => h) | exact ro_f6 (fun _ => slc_rsl)) ?_))) (fun _ _ => rfl) (fun _ _ _ h => h.sub (by (repeat (first | exact pt_nil | apply pt0 | apply pt1 | apply pt2 | apply pt3 | apply pt4 | apply pt5 | apply pt6 | apply pt7 | apply pt8 | apply pt9 | apply pt10 | apply pt11 | apply pt12 | apply pt13 | apply pt14 | apply pt15 | apply pt16 | apply pt17))))) ?_
          refine wl_y rfl (y_assign rfl) ?_
          refine wl_nil ?_
          refine wq_then ?_
          refine wc_ret ?_
          refine wq_ret1 rfl rfl (fun w hw => ?_)
          exact ⟨(), trivial, rfl, hw.bare⟩
      ·
        simp at hg51
        refine wl_sk rfl rfl rfl rfl ?_
        refine wl_sk rfl rfl rfl rfl ?_
        refine wl_y rfl (y_pick_f rfl rfl) ?_
        refine wl_nil ?_
        refine wq_then ?_
        refine wc_cond_false rfl ?_
        refine wc_exit ?_
        refine wq_then_exit (wq_then_exit (wq_block_exit ?_))
        refine wq_then ?_
        refine wc_seq ?_
        refine wc_region ?_
        refine wl_q (fun _ _ => want_none) rfl (yq_spec (fst := []) (cap := []) _ FN8 awake_c rfl rfl rfl (by (repeat (first | exact pt_nil | apply pt0 | apply pt1 | apply pt2 | apply pt3 | apply pt4 | apply pt5 | apply pt6 | apply pt7 | apply pt8 | apply pt9 | apply pt10 | apply pt11 | apply pt12 | apply pt13 | apply pt14 | apply pt15 | apply pt16 | apply pt17))) (by (repeat (first | exact ro_nil | exact ro_rest (by assumption) | refine ro_cons (by first | exact .inl (by assumption) | exact ro_f0 (fun _ h => h) | exact ro_f0 (fun _ => slc_rsl) | exact ro_f1 (fun _ h => h) | exact ro_f1 (fun _ => slc_rsl) | exact ro_f2 (fun _ h => h) | exact ro_f2 (fun _ => slc_rsl) | exact ro_f3 (fun _ h => h) | exact ro_f3 (fun _ => slc_rsl) | exact ro_f4 (fun _ h => h) | exact ro_f4 (fun _ => slc_rsl) | exact ro_f5 (fun _ h => h) | exact ro_f5 (fun _ => slc_rsl) | exact ro_f6 (fun _ h => h) | exact ro_f6 (fun _ => slc_rsl)) ?_))) (fun _ _ => rfl) (fun _ _ _ h => h.sub (by (repeat (first | exact pt_nil | apply pt0 | apply pt1 | apply pt2 | apply pt3 | apply pt4 | apply pt5 | apply pt6 | apply pt7 | apply pt8 | apply pt9 | apply pt10 | apply pt11 | apply pt12 | apply pt13 | apply pt14 | apply pt15 | apply pt16 | apply pt17))))) ?_
        refine wl_y rfl (y_assign rfl) ?_
        refine wl_nil ?_
        refine wq_then ?_
        refine wc_ret ?_
        refine wq_ret1 rfl rfl (fun w hw => ?_)
        exact ⟨(), trivial, rfl, hw.bare⟩

end Go.Proofs.Ytfnpjmlpiedgdaa
