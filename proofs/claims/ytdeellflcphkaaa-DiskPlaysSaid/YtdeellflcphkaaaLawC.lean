/-
  Law: what was synced lasts.
-/
import Derived.Test.YtdeellflcphkaaaLastsLaw2
import Derived.Test.YtdeellflcphkaaaWalkH
namespace Go.Proofs.Ytdeellflcphkaaa
open Go.Eng

theorem lasts_end (fm mo : Str) (k : Int) : decide (((fm ++ rest mo k).take (fm ++ rest mo k).length).drop fm.length = (mo.take ((fm ++ rest mo k).length - fm.length)).drop 0) = true := by
  have e : mo.take (rest mo k).length = rest mo k := by rw [rest, List.length_take, Nat.min_eq_left (kept_le mo k)]
  rw [List.take_length, List.drop_left, List.drop_zero, List.length_append, Nat.add_sub_cancel_left, e]; simp
section
variable {b : Nat} {d d' : Dk} {e : Int}
theorem rename_at {p q : Str} (hg : d.good) (h : d.rename p q = (d', e)) : Ctr Try.prog 14 #[ptr b, vS p, vS q] [] [dkA b d] (fun _ : Unit => True) (fun _ => vI e) (fun _ => [dkA b d']) := by have := rename_c b d p q hg.ok; rw [h] at this; exact this
theorem names_at {l : List Str} (hf : d.fits) (h : d.names = l) : Ctr Try.prog 17 #[ptr b] [] [dkA b d] (fun _ : Option Addr × Nat => True) (fun x => .slice x.1 l.length x.2) (fun x => [dkA b d, slc 9 1 x.1 l.length x.2 (l.map vS)]) := by have := names_c b d hf; rw [h] at this; exact this
end
theorem NB4 : NA Try.prog 4 := ⟨_, Try.underlying4, trivial⟩
set_option maxHeartbeats 1000000 in
theorem texts_c (l m : List Str) (oo om : Option Addr) (cc cm : Nat) (hl : l.length ≤ 1000000) :
    Ctr Try.prog 16 #[.slice oo l.length cc, .slice om m.length cm] [rsl oo l.length 1 (l.map vS), rsl om m.length 1 (m.map vS)] [] (fun _ : Unit => True) (fun _ => vB (decide (l = m))) (fun _ => []) := by
  refine spec_start (n := 26) [(0, .slice oo l.length cc), (1, .slice om m.length cm)] Try.func16 rfl rfl ⟨rfl, rfl, trivial⟩ rfl ?_
  intro w0 K hR
  have hA := hR _ (List.mem_cons_self ..)
  have hB := hR _ (List.mem_cons_of_mem _ (List.mem_cons_self ..))
  refine wc_seq ?_
  refine wc_region ?_
  refine wl_y rfl (y_assign rfl) ?_
  refine wl_nil ?_
  refine wq_then ?_
  refine wc_seq ?_
  refine wc_seq ?_
  refine wc_region ?_
  refine wl_y rfl (y_move rfl) ?_
  refine wl_y rfl (y_lenSl Try.underlying32 rfl) ?_
  refine wl_y rfl (y_move rfl) ?_
  refine wl_y rfl (y_lenSl Try.underlying32 rfl) ?_
  refine wl_y rfl (y_neqI rfl rfl) ?_
  refine wl_nil ?_
  refine wq_then ?_
  refine wc_cond rfl (fun hc10 => ?_) (fun hc10 => ?_)
  ·
    simp at hc10
    refine wc_seq ?_
    refine wc_region ?_
    refine wl_y rfl (y_assign rfl) ?_
    refine wl_nil ?_
    refine wq_then ?_
    refine wc_ret ?_
    refine wq_then_ret ?_
    refine wq_ret1 rfl rfl (fun w hw => ?_)
    exact ⟨(), trivial, by rw [decide_eq_false (fun e => hc10 (by rw [e]))], hw⟩
  ·
    simp at hc10
    refine wc_skip ?_
    refine wq_then ?_
    refine wc_seq ?_
    refine wc_seq ?_
    refine wc_region ?_
    refine wl_y rfl (y_assign rfl) ?_
    refine wl_nil ?_
    refine wq_then ?_
    refine wc_block ?_
    refine wc_loop (α := Nat) (fun y => y ≤ l.length ∧ l.take y = m.take y) [(0, _), (1, _)] (fun y => [(5, vI y)]) (fun y => Hp w0 K []) (fun y => l.length - y) 0 ?_ ⟨rfl, rfl, rfl, trivial⟩ ?_ ?_
    · exact ⟨Nat.zero_le _, rfl⟩
    · exact fun w hw => hw
    · rintro i ⟨hi, hall⟩
      refine wc_seq ?_
      refine wc_seq ?_
      refine wc_region ?_
      refine wl_y rfl (y_move rfl) ?_
      refine wl_y rfl (y_move rfl) ?_
      refine wl_y rfl (y_lenSl Try.underlying32 rfl) ?_
      refine wl_y rfl (y_lss rfl rfl) ?_
      refine wl_nil ?_
      refine wq_then ?_
      refine wc_cond rfl (fun hc14 => ?_) (fun hc14 => ?_)
      ·
        simp at hc14
        refine wc_skip ?_
        refine wq_then ?_
        refine wc_seq ?_
        refine wc_block ?_
        refine wc_seq ?_
        refine wc_quiet MO (by kernel_rfl) (Hp.drawless _ _ _) ?_
        obtain ⟨x, hx⟩ : ∃ x, l[i]? = some x := ⟨_, List.getElem?_eq_getElem (by omega)⟩
        obtain ⟨y, hy⟩ : ∃ y, m[i]? = some y := ⟨_, List.getElem?_eq_getElem (by omega)⟩
        refine wt_y rfl (y_move rfl) ?_
        refine wt_y rfl (y_move rfl) ?_
        refine wt_y rfl (y_indexAddr Try.underlying32 T9 rfl rfl rfl (by omega) (fun _ _ => hA.isSome (by omega))) ?_
        refine wt_y rfl (y_load NA9 rfl (cell_ro hA (row_get hx))) ?_
        refine wt_y rfl (y_move rfl) ?_
        refine wt_y rfl (y_move rfl) ?_
        refine wt_y rfl (y_indexAddr Try.underlying32 T9 rfl rfl rfl (by omega) (fun _ _ => hB.isSome (by omega))) ?_
        refine wt_y rfl (y_load NA9 rfl (cell_ro hB (row_get hy))) ?_
        refine wt_y rfl (y_neqS rfl rfl) ?_
        refine wt_nil ?_
        refine wq_then ?_
        refine wc_cond rfl (fun hc25 => ?_) (fun hc25 => ?_)
        ·
          simp at hc25
          refine wc_seq ?_
          refine wc_region ?_
          refine wl_y rfl (y_assign rfl) ?_
          refine wl_nil ?_
          refine wq_then ?_
          refine wc_ret ?_
          refine wq_block_ret (wq_then_ret (wq_then_ret (wq_block_ret (wq_then_ret ?_))))
          refine wq_ret1 rfl rfl (fun w hw => ?_)
          exact ⟨(), trivial, by rw [decide_eq_false (fun e => hc25 (by rw [e, hy] at hx; exact (Option.some.inj hx).symm))], hw⟩
        ·
          simp at hc25
          refine wc_skip ?_
          refine wq_block_normal ?_
          refine wq_then ?_
          refine wc_region ?_
          refine wl_y rfl (y_move rfl) ?_
          refine wl_y rfl (y_add rfl rfl (by omega)) ?_
          refine wl_y rfl (y_assign rfl) ?_
          refine wl_nil ?_
          exact wq_round (i + 1) (by omega) ⟨by omega, take_same hall hx hy hc25⟩ ⟨rfl, rfl, rfl, trivial⟩ (fun w hw => hw)
      ·
        simp at hc14
        refine wc_exit ?_
        refine wq_then_exit (wq_then_exit (wq_block_exit ?_))
        refine wq_then ?_
        refine wc_seq ?_
        refine wc_region ?_
        refine wl_y rfl (y_assign rfl) ?_
        refine wl_nil ?_
        refine wq_then ?_
        refine wc_ret ?_
        refine wq_ret1 rfl rfl (fun w hw => ?_)
        exact ⟨(), trivial, by rw [decide_eq_true (by rw [List.take_of_length_le (by omega), List.take_of_length_le (by omega)] at hall; exact hall)], hw⟩

set_option maxHeartbeats 1000000 in
theorem lawLasts (l : List Str) (oo : Option Addr) (cc : Nat) (sy : List Bool) (os_ : Option Addr) (cs_ : Nat) (a k : Int) (ha1 : a ≤ 9223372036854775807) :
    Ctr Try.prog 4 #[.slice oo l.length cc, .slice os_ sy.length cs_, .agg #[vI a, vI k]] [rsl oo l.length 1 (l.map vS), rsl os_ sy.length 1 (sy.map vB)] [] (fun _ : Unit => True) (fun _ => vB true) (fun _ => []) := by
  refine spec_start (n := 179) [(0, .slice oo l.length cc), (1, .slice os_ sy.length cs_), (2, .agg #[vI a, vI k])] Try.func4 rfl rfl ⟨rfl, rfl, rfl, trivial⟩ rfl ?_
  intro w0 K hR
  have hA := hR _ (List.mem_cons_self ..)
  have hB := hR _ (List.mem_cons_of_mem _ (List.mem_cons_self ..))
  refine wc_seq ?_
  refine wc_region ?_
  refine wl_w (fun _ _ => want_none) rfl (yw_box rfl rfl) (wl_ex fun b5 _ => ?_)
  refine wl_y rfl (y_assign rfl) ?_
  refine wl_nil ?_
  refine wq_then ?_
  refine wc_seq ?_
  refine wc_region ?_
  refine wl_c (fun _ _ => want_none) rfl (yc_spec (fst := []) (cap := []) _ FN7 (new_ok 1048576 (by omega) (by omega)) rfl rfl rfl (by (repeat (first | exact pt_nil | apply pt0 | apply pt1 | apply pt2 | apply pt3 | apply pt4 | apply pt5 | apply pt6 | apply pt7 | apply pt8 | apply pt9 | apply pt10 | apply pt11 | apply pt12 | apply pt13 | apply pt14 | apply pt15 | apply pt16 | apply pt17))) (by (repeat (first | exact ro_nil | exact ro_rest (by assumption) | refine ro_cons (by first | exact .inl (by assumption) | exact ro_f0 (fun _ h => h) | exact ro_f0 (fun _ => slc_rsl) | exact ro_f1 (fun _ h => h) | exact ro_f1 (fun _ => slc_rsl) | exact ro_f2 (fun _ h => h) | exact ro_f2 (fun _ => slc_rsl) | exact ro_f3 (fun _ h => h) | exact ro_f3 (fun _ => slc_rsl) | exact ro_f4 (fun _ h => h) | exact ro_f4 (fun _ => slc_rsl) | exact ro_f5 (fun _ h => h) | exact ro_f5 (fun _ => slc_rsl) | exact ro_f6 (fun _ h => h) | exact ro_f6 (fun _ => slc_rsl)) ?_)))) (wl_ex fun x19 hx19 => ?_)
  refine wl_y rfl (y_move rfl) ?_
  refine wl_y rfl (y_extract rfl rfl) ?_
  refine wl_y rfl (y_extract rfl rfl) ?_
  refine wl_y rfl (y_assign rfl) ?_
  refine wl_y rfl (y_assign rfl) ?_
  refine wl_nil ?_
  refine wq_then ?_
  refine wc_seq ?_
  refine wc_seq ?_
  refine wc_region ?_
  refine wl_y rfl (y_move rfl) ?_
  refine wl_y rfl (y_neqI rfl rfl) ?_
  refine wl_y rfl (y_move rfl) ?_
  apply wl_or 3 27 [(0, _), (1, _), (5, _), (7, _)] (t := 24) rfl ⟨rfl, rfl, rfl, rfl, trivial⟩
  · intro hg24 hM27
    refine wl_sk rfl rfl rfl rfl ?_
    refine wl_sk rfl rfl rfl rfl ?_
    refine wl_y rfl (y_pick_t rfl rfl) ?_
    exact wl_weaken hM27 ⟨rfl, rfl, rfl, rfl, rfl, trivial⟩
  · intro hg24 hM27
    try (simp at hg24)
    refine wl_yg rfl rfl rfl (y_move rfl) ?_
    refine wl_yg rfl rfl rfl (y_eqlP Try.underlying22 rfl rfl) ?_
    refine wl_y rfl (y_pick_f rfl rfl) ?_
    exact wl_weaken hM27 ⟨rfl, rfl, rfl, rfl, rfl, trivial⟩
  ·
    refine wl_nil ?_
    refine wq_then ?_
    refine wc_known 27 false rfl (rfl) ?_
    refine wc_cond_false rfl ?_
    refine wc_skip ?_
    refine wq_then ?_
    refine wc_seq ?_
    refine wc_region ?_
    refine wl_y rfl (y_assign rfl) ?_
    refine wl_nil ?_
    refine wq_then ?_
    refine wc_seq ?_
    refine wc_region ?_
    refine wl_y rfl (y_assign rfl) ?_
    refine wl_nil ?_
    refine wq_then ?_
    refine wc_seq ?_
    refine wc_seq ?_
    refine wc_region ?_
    refine wl_y rfl (y_assign rfl) ?_
    refine wl_nil ?_
    refine wq_then ?_
    refine wc_block ?_
    refine wc_loop (α := Nat × Str × Str) (fun y => y.1 ≤ l.length ∧ y.1 ≤ 100 ∧ (y.2.1 ++ y.2.2).length ≤ 1000 * y.1 ∧ (y.1 = 0 → y.2.1 = [] ∧ y.2.2 = [])) [(0, _), (1, _), (5, _), (7, _)] (fun y => [(11, vI y.1), (9, vS y.2.1), (10, vS y.2.2)]) (fun y => Hp w0 K [dkA x19 (lS y.2.1 y.2.2 y.1), blk b5 (.cells [vI a, vI k].toArray 34 (0, 0))]) (fun y => l.length - y.1) (0, [], []) ?_ ⟨rfl, rfl, rfl, rfl, rfl, rfl, rfl, trivial⟩ ?_ ?_
    · exact ⟨Nat.zero_le _, Nat.zero_le _, Nat.zero_le _, fun _ => ⟨rfl, rfl⟩⟩
    · exact fun w hw => by rw [show lS [] [] 0 = (⟨1048576, [], 0, 0, false⟩ : Dk) from rfl]; exact hw
    · rintro ⟨i, fm, mo⟩ ⟨hi, hi2, hlen, h0⟩; simp only at hi hi2 hlen h0
      refine wc_world (S' := Hp w0 K [dkA x19 (lS fm mo i), blk b5 (.cells [vI a, vI k].toArray 34 (0, 0))]) (fun w hw => hw) ?_
      refine wc_same 11 (vI i) rfl rfl ?_
      refine wc_same 9 (vS fm) rfl rfl ?_
      refine wc_same 10 (vS mo) rfl rfl ?_
      refine wc_seq ?_
      refine wc_seq ?_
      refine wc_region ?_
      refine wl_y rfl (y_move rfl) ?_
      refine wl_y rfl (y_move rfl) ?_
      refine wl_y rfl (y_lenSl Try.underlying32 rfl) ?_
      refine wl_y rfl (y_lss rfl rfl) ?_
      refine wl_y rfl (y_move rfl) ?_
      apply wl_and 3 35 [(0, _), (1, _), (5, _), (7, _), (9, _), (10, _), (11, _)] (t := 32) rfl ⟨rfl, rfl, rfl, rfl, rfl, rfl, rfl, trivial⟩
      · intro hg32 hM35
        try (simp at hg32)
        refine wl_yg rfl rfl rfl (y_move rfl) ?_
        refine wl_yg rfl rfl rfl (y_lss rfl rfl) ?_
        refine wl_y rfl (y_pick_t rfl rfl) ?_
        exact wl_weaken hM35 ⟨rfl, rfl, rfl, rfl, rfl, rfl, rfl, rfl, trivial⟩
      · intro hg32 hM35
        refine wl_sk rfl rfl rfl rfl ?_
        refine wl_sk rfl rfl rfl rfl ?_
        refine wl_y rfl (y_pick_f rfl rfl) ?_
        exact wl_weaken hM35 ⟨rfl, rfl, rfl, rfl, rfl, rfl, rfl, rfl, trivial⟩
      ·
        refine wl_nil ?_
        refine wq_then ?_
        refine wc_cond rfl (fun hc35 => ?_) (fun hc35 => ?_)
        ·
          simp at hc35
          refine wc_skip ?_
          refine wq_then ?_
          refine wc_seq ?_
          refine wc_block ?_
          refine wc_seq ?_
          refine wc_seq ?_
          refine wc_region ?_
          obtain ⟨x, hx⟩ : ∃ x, l[i]? = some x := ⟨_, List.getElem?_eq_getElem (by omega)⟩
          have hsy : i < sy.length → sy[i]? = some (sy.getD i false) := fun h => by rw [List.getD_eq_getElem?_getD, List.getElem?_eq_getElem h]; rfl
          refine wl_y rfl (y_move rfl) ?_
          refine wl_y rfl (y_move rfl) ?_
          refine wl_y rfl (y_indexAddr (i := i) Try.underlying32 T9 rfl rfl rfl (by omega) (fun _ _ => hA.isSome (by omega))) ?_
          refine wl_y rfl (y_load NA9 rfl (cell_ro hA (row_get hx))) ?_
          refine wl_y rfl (y_lenS Try.underlying9 rfl) ?_
          refine wl_y rfl (y_gtr rfl rfl) ?_
          refine wl_nil ?_
          refine wq_then ?_
          refine wc_cond rfl (fun hc43 => ?_) (fun hc43 => ?_)
          ·
            simp at hc43
            refine wc_seq ?_
            refine wc_region ?_
            refine wl_q (fun _ _ => want_none) rfl (yq_spec (fst := []) (cap := []) _ FN13 awake_c rfl rfl rfl (by (repeat (first | exact pt_nil | apply pt0 | apply pt1 | apply pt2 | apply pt3 | apply pt4 | apply pt5 | apply pt6 | apply pt7 | apply pt8 | apply pt9 | apply pt10 | apply pt11 | apply pt12 | apply pt13 | apply pt14 | apply pt15 | apply pt16 | apply pt17))) (by (repeat (first | exact ro_nil | exact ro_rest (by assumption) | refine ro_cons (by first | exact .inl (by assumption) | exact ro_f0 (fun _ h => h) | exact ro_f0 (fun _ => slc_rsl) | exact ro_f1 (fun _ h => h) | exact ro_f1 (fun _ => slc_rsl) | exact ro_f2 (fun _ h => h) | exact ro_f2 (fun _ => slc_rsl) | exact ro_f3 (fun _ h => h) | exact ro_f3 (fun _ => slc_rsl) | exact ro_f4 (fun _ h => h) | exact ro_f4 (fun _ => slc_rsl) | exact ro_f5 (fun _ h => h) | exact ro_f5 (fun _ => slc_rsl) | exact ro_f6 (fun _ h => h) | exact ro_f6 (fun _ => slc_rsl)) ?_))) (fun _ _ => rfl) (fun _ _ _ h => h.sub (by (repeat (first | exact pt_nil | apply pt0 | apply pt1 | apply pt2 | apply pt3 | apply pt4 | apply pt5 | apply pt6 | apply pt7 | apply pt8 | apply pt9 | apply pt10 | apply pt11 | apply pt12 | apply pt13 | apply pt14 | apply pt15 | apply pt16 | apply pt17))))) ?_
            refine wl_y rfl (y_assign rfl) ?_
            refine wl_nil ?_
            refine wq_then ?_
            refine wc_ret ?_
            refine wq_then_ret (wq_block_ret (wq_then_ret (wq_then_ret (wq_block_ret (wq_then_ret ?_)))))
            refine wq_ret1 rfl rfl (fun w hw => ?_)
            exact ⟨(), trivial, rfl, hw.bare⟩
          ·
            simp at hc43
            refine wc_skip ?_
            refine wq_then ?_
            refine wc_seq ?_
            refine wc_seq ?_
            refine wc_region ?_
            refine wl_y rfl (y_move rfl) ?_
            refine wl_y rfl (y_move rfl) ?_
            refine wl_y rfl (y_move rfl) ?_
            refine wl_y rfl (y_indexAddr (i := i) Try.underlying32 T9 rfl rfl rfl (by omega) (fun _ _ => hA.isSome (by omega))) ?_
            refine wl_y rfl (y_load NA9 rfl (cell_ro hA (row_get hx))) ?_
            refine wl_c (fun _ _ => want_none) rfl (yc_spec (fst := []) (cap := []) _ FN9 (append_at (lS_good (by omega) h0) (lS_append (by omega) h0 (by omega))) rfl rfl rfl (by (repeat (first | exact pt_nil | apply pt0 | apply pt1 | apply pt2 | apply pt3 | apply pt4 | apply pt5 | apply pt6 | apply pt7 | apply pt8 | apply pt9 | apply pt10 | apply pt11 | apply pt12 | apply pt13 | apply pt14 | apply pt15 | apply pt16 | apply pt17))) (by (repeat (first | exact ro_nil | exact ro_rest (by assumption) | refine ro_cons (by first | exact .inl (by assumption) | exact ro_f0 (fun _ h => h) | exact ro_f0 (fun _ => slc_rsl) | exact ro_f1 (fun _ h => h) | exact ro_f1 (fun _ => slc_rsl) | exact ro_f2 (fun _ h => h) | exact ro_f2 (fun _ => slc_rsl) | exact ro_f3 (fun _ h => h) | exact ro_f3 (fun _ => slc_rsl) | exact ro_f4 (fun _ h => h) | exact ro_f4 (fun _ => slc_rsl) | exact ro_f5 (fun _ h => h) | exact ro_f5 (fun _ => slc_rsl) | exact ro_f6 (fun _ h => h) | exact ro_f6 (fun _ => slc_rsl)) ?_)))) (wl_ex fun x50 hx50 => ?_)
            refine wl_y rfl (y_neqI rfl rfl) ?_
            refine wl_nil ?_
            refine wq_then ?_
            refine wc_known 51 false rfl (by decide) ?_
            refine wc_cond_false rfl ?_
            refine wc_skip ?_
            refine wq_then ?_
            refine wc_seq ?_
            refine wc_region ?_
            refine wl_y rfl (y_move rfl) ?_
            refine wl_y rfl (y_move rfl) ?_
            refine wl_y rfl (y_move rfl) ?_
            refine wl_y rfl (y_indexAddr (i := i) Try.underlying32 T9 rfl rfl rfl (by omega) (fun _ _ => hA.isSome (by omega))) ?_
            refine wl_y rfl (y_load NA9 rfl (cell_ro hA (row_get hx))) ?_
            refine wl_y rfl (y_addS rfl rfl (by simp only [List.length_append] at hlen; omega)) ?_
            refine wl_y rfl (y_assign rfl) ?_
            refine wl_nil ?_
            refine wq_then ?_
            refine wc_seq ?_
            refine wc_region ?_
            refine wl_y rfl (y_move rfl) ?_
            refine wl_y rfl (y_move rfl) ?_
            refine wl_y rfl (y_lenSl Try.underlying33 rfl) ?_
            refine wl_y rfl (y_lss rfl rfl) ?_
            refine wl_y rfl (y_move rfl) ?_
            apply wl_and 5 67 [(0, _), (1, _), (5, _), (7, _), (9, _), (10, _), (11, _)] (t := 62) rfl ⟨rfl, rfl, rfl, rfl, rfl, rfl, rfl, trivial⟩
            · intro hg62 hM67
              try (simp at hg62)
              refine wl_yg rfl rfl rfl (y_move rfl) ?_
              refine wl_yg rfl rfl rfl (y_move rfl) ?_
              refine wl_yg rfl rfl rfl (y_indexAddr (i := i) Try.underlying33 T4 rfl rfl rfl (by omega) (fun _ _ => hB.isSome (by omega))) ?_
              refine wl_yg rfl rfl rfl (y_load NA4 rfl (cell_ro hB (row_get (hsy (by omega))))) ?_
              refine wl_y rfl (y_pick_t rfl rfl) ?_
              exact wl_weaken hM67 ⟨rfl, rfl, rfl, rfl, rfl, rfl, rfl, rfl, trivial⟩
            · intro hg62 hM67
              refine wl_sk rfl rfl rfl rfl ?_
              refine wl_sk rfl rfl rfl rfl ?_
              refine wl_sk rfl rfl rfl rfl ?_
              refine wl_sk rfl rfl rfl rfl ?_
              refine wl_y rfl (y_pick_f rfl rfl) ?_
              exact wl_weaken hM67 ⟨rfl, rfl, rfl, rfl, rfl, rfl, rfl, rfl, trivial⟩
            ·
              refine wl_nil ?_
              refine wq_then ?_
              refine wc_cond rfl (fun hc67 => ?_) (fun hc67 => ?_)
              ·
                refine wc_seq ?_
                refine wc_seq ?_
                refine wc_region ?_
                refine wl_y rfl (y_move rfl) ?_
                refine wl_c (fun _ _ => want_none) rfl (yc_spec (fst := []) (cap := []) _ FN11 (sync_at (lS_good (fm := fm) (mo := mo ++ x) (by simp only [List.length_append] at hlen ⊢; omega) (fun h => absurd h (Nat.succ_ne_zero i))) (lS_sync (Nat.succ_ne_zero i))) rfl rfl rfl (by (repeat (first | exact pt_nil | apply pt0 | apply pt1 | apply pt2 | apply pt3 | apply pt4 | apply pt5 | apply pt6 | apply pt7 | apply pt8 | apply pt9 | apply pt10 | apply pt11 | apply pt12 | apply pt13 | apply pt14 | apply pt15 | apply pt16 | apply pt17))) (by (repeat (first | exact ro_nil | exact ro_rest (by assumption) | refine ro_cons (by first | exact .inl (by assumption) | exact ro_f0 (fun _ h => h) | exact ro_f0 (fun _ => slc_rsl) | exact ro_f1 (fun _ h => h) | exact ro_f1 (fun _ => slc_rsl) | exact ro_f2 (fun _ h => h) | exact ro_f2 (fun _ => slc_rsl) | exact ro_f3 (fun _ h => h) | exact ro_f3 (fun _ => slc_rsl) | exact ro_f4 (fun _ h => h) | exact ro_f4 (fun _ => slc_rsl) | exact ro_f5 (fun _ h => h) | exact ro_f5 (fun _ => slc_rsl) | exact ro_f6 (fun _ h => h) | exact ro_f6 (fun _ => slc_rsl)) ?_)))) (wl_ex fun x69 hx69 => ?_)
                refine wl_y rfl (y_neqI rfl rfl) ?_
                refine wl_nil ?_
                refine wq_then ?_
                refine wc_known 70 false rfl (by decide) ?_
                refine wc_cond_false rfl ?_
                refine wc_skip ?_
                refine wq_then ?_
                refine wc_seq ?_
                refine wc_region ?_
                refine wl_y rfl (y_move rfl) ?_
                refine wl_y rfl (y_move rfl) ?_
                refine wl_y rfl (y_addS rfl rfl (by simp only [List.length_append] at hlen ⊢; omega)) ?_
                refine wl_y rfl (y_assign rfl) ?_
                refine wl_nil ?_
                refine wq_then ?_
                refine wc_region ?_
                refine wl_y rfl (y_assign rfl) ?_
                refine wl_nil ?_
                refine wq_block_normal ?_
                refine wq_then ?_
                refine wc_region ?_
                refine wl_y rfl (y_move rfl) ?_
                refine wl_y rfl (y_add rfl rfl (by omega)) ?_
                refine wl_y rfl (y_assign rfl) ?_
                refine wl_nil ?_
                exact wq_round (i + 1, fm ++ (mo ++ x), []) (by simp only; omega) ⟨by simp only; omega, by simp only; omega, by simp only [List.length_append, List.length_nil] at hlen ⊢; omega, fun h => absurd h (Nat.succ_ne_zero i)⟩ ⟨rfl, rfl, rfl, rfl, rfl, rfl, rfl, trivial⟩ (fun w hw => hw)
              ·
                refine wc_skip ?_
                refine wq_block_normal ?_
                refine wq_then ?_
                refine wc_region ?_
                refine wl_y rfl (y_move rfl) ?_
                refine wl_y rfl (y_add rfl rfl (by omega)) ?_
                refine wl_y rfl (y_assign rfl) ?_
                refine wl_nil ?_
                exact wq_round (i + 1, fm, mo ++ x) (by simp only; omega) ⟨by simp only; omega, by simp only; omega, by simp only [List.length_append] at hlen ⊢; omega, fun h => absurd h (Nat.succ_ne_zero i)⟩ ⟨rfl, rfl, rfl, rfl, rfl, rfl, rfl, trivial⟩ (fun w hw => hw)
        ·
          simp at hc35
          refine wc_exit ?_
          refine wq_then_exit (wq_then_exit (wq_block_exit ?_))
          refine wq_then ?_
          refine wc_seq ?_
          refine wc_seq ?_
          refine wc_region ?_
          refine wl_y rfl (y_move rfl) ?_
          refine wl_y rfl (y_lenSl Try.underlying32 rfl) ?_
          refine wl_y rfl (y_eqlI rfl rfl) ?_
          refine wl_nil ?_
          refine wq_then ?_
          refine wc_cond rfl (fun hc76 => ?_) (fun hc76 => ?_)
          ·
            simp at hc76
            refine wc_seq ?_
            refine wc_region ?_
            refine wl_q (fun _ _ => want_none) rfl (yq_spec (fst := []) (cap := []) _ FN13 awake_c rfl rfl rfl (by (repeat (first | exact pt_nil | apply pt0 | apply pt1 | apply pt2 | apply pt3 | apply pt4 | apply pt5 | apply pt6 | apply pt7 | apply pt8 | apply pt9 | apply pt10 | apply pt11 | apply pt12 | apply pt13 | apply pt14 | apply pt15 | apply pt16 | apply pt17))) (by (repeat (first | exact ro_nil | exact ro_rest (by assumption) | refine ro_cons (by first | exact .inl (by assumption) | exact ro_f0 (fun _ h => h) | exact ro_f0 (fun _ => slc_rsl) | exact ro_f1 (fun _ h => h) | exact ro_f1 (fun _ => slc_rsl) | exact ro_f2 (fun _ h => h) | exact ro_f2 (fun _ => slc_rsl) | exact ro_f3 (fun _ h => h) | exact ro_f3 (fun _ => slc_rsl) | exact ro_f4 (fun _ h => h) | exact ro_f4 (fun _ => slc_rsl) | exact ro_f5 (fun _ h => h) | exact ro_f5 (fun _ => slc_rsl) | exact ro_f6 (fun _ h => h) | exact ro_f6 (fun _ => slc_rsl)) ?_))) (fun _ _ => rfl) (fun _ _ _ h => h.sub (by (repeat (first | exact pt_nil | apply pt0 | apply pt1 | apply pt2 | apply pt3 | apply pt4 | apply pt5 | apply pt6 | apply pt7 | apply pt8 | apply pt9 | apply pt10 | apply pt11 | apply pt12 | apply pt13 | apply pt14 | apply pt15 | apply pt16 | apply pt17))))) ?_
            refine wl_y rfl (y_assign rfl) ?_
            refine wl_nil ?_
            refine wq_then ?_
            refine wc_ret ?_
            refine wq_then_ret ?_
            refine wq_ret1 rfl rfl (fun w hw => ?_)
            exact ⟨(), trivial, rfl, hw.bare⟩
          ·
            simp at hc76
            have hi0 : i ≠ 0 := by intro h; have := List.length_pos_iff.2 hc76; omega
            refine wc_skip ?_
            refine wq_then ?_
            refine wc_seq ?_
            refine wc_seq ?_
            refine wc_region ?_
            refine wl_y rfl (y_move rfl) ?_
            refine wl_c (fun _ _ => want_none) rfl (yc_spec (fst := []) (cap := []) _ FN9 (append_at (lS_good (by omega) h0) (lT_append (by omega) hi0)) rfl rfl rfl (by (repeat (first | exact pt_nil | apply pt0 | apply pt1 | apply pt2 | apply pt3 | apply pt4 | apply pt5 | apply pt6 | apply pt7 | apply pt8 | apply pt9 | apply pt10 | apply pt11 | apply pt12 | apply pt13 | apply pt14 | apply pt15 | apply pt16 | apply pt17))) (by (repeat (first | exact ro_nil | exact ro_rest (by assumption) | refine ro_cons (by first | exact .inl (by assumption) | exact ro_f0 (fun _ h => h) | exact ro_f0 (fun _ => slc_rsl) | exact ro_f1 (fun _ h => h) | exact ro_f1 (fun _ => slc_rsl) | exact ro_f2 (fun _ h => h) | exact ro_f2 (fun _ => slc_rsl) | exact ro_f3 (fun _ h => h) | exact ro_f3 (fun _ => slc_rsl) | exact ro_f4 (fun _ h => h) | exact ro_f4 (fun _ => slc_rsl) | exact ro_f5 (fun _ h => h) | exact ro_f5 (fun _ => slc_rsl) | exact ro_f6 (fun _ h => h) | exact ro_f6 (fun _ => slc_rsl)) ?_)))) (wl_ex fun x79 hx79 => ?_)
            refine wl_y rfl (y_neqI rfl rfl) ?_
            refine wl_y rfl (y_move rfl) ?_
            refine wl_known 81 false rfl (by decide) ?_
            refine wl_yg rfl rfl rfl (y_move rfl) ?_
            refine wl_c (want_some rfl rfl) rfl (yc_spec (fst := []) (cap := []) _ FN11 (sync_at (lT_good (fm := fm) (mo := mo) (by omega) (by omega) (by omega) (.inl rfl)) (lT_sync fm mo)) rfl rfl rfl (by (repeat (first | exact pt_nil | apply pt0 | apply pt1 | apply pt2 | apply pt3 | apply pt4 | apply pt5 | apply pt6 | apply pt7 | apply pt8 | apply pt9 | apply pt10 | apply pt11 | apply pt12 | apply pt13 | apply pt14 | apply pt15 | apply pt16 | apply pt17))) (by (repeat (first | exact ro_nil | exact ro_rest (by assumption) | refine ro_cons (by first | exact .inl (by assumption) | exact ro_f0 (fun _ h => h) | exact ro_f0 (fun _ => slc_rsl) | exact ro_f1 (fun _ h => h) | exact ro_f1 (fun _ => slc_rsl) | exact ro_f2 (fun _ h => h) | exact ro_f2 (fun _ => slc_rsl) | exact ro_f3 (fun _ h => h) | exact ro_f3 (fun _ => slc_rsl) | exact ro_f4 (fun _ h => h) | exact ro_f4 (fun _ => slc_rsl) | exact ro_f5 (fun _ h => h) | exact ro_f5 (fun _ => slc_rsl) | exact ro_f6 (fun _ h => h) | exact ro_f6 (fun _ => slc_rsl)) ?_)))) (wl_ex fun x83 hx83 => ?_)
            refine wl_yg rfl rfl rfl (y_neqI rfl rfl) ?_
            refine wl_y rfl (y_pick_f rfl rfl) ?_
            refine wl_nil ?_
            refine wq_then ?_
            refine wc_known 85 false rfl (by decide) ?_
            refine wc_cond_false rfl ?_
            refine wc_skip ?_
            refine wq_then ?_
            refine wc_seq ?_
            refine wc_region ?_
            refine wl_y rfl (y_move rfl) ?_
            refine wl_y rfl (y_indexAddrArr (i := 0) Try.underlying34 T3 rfl rfl rfl (by decide)) ?_
            refine wl_y rfl (y_load NA3 rfl (by first | exact cell_blk [] rfl | exact cell_blk [_] rfl | exact cell_blk [_, _] rfl | exact cell_blk [_, _, _] rfl | exact cell_blk [_, _, _, _] rfl | exact cell_blk [_, _, _, _, _] rfl | exact cell_blk [_, _, _, _, _, _] rfl | exact cellR_blk (by assumption) rfl)) ?_
            refine wl_c (fun _ _ => want_none) rfl (yc_spec (fst := []) (cap := []) _ FN8 (arm_c x19 (lT fm mo 1 0 false) a) rfl rfl rfl (by (repeat (first | exact pt_nil | apply pt0 | apply pt1 | apply pt2 | apply pt3 | apply pt4 | apply pt5 | apply pt6 | apply pt7 | apply pt8 | apply pt9 | apply pt10 | apply pt11 | apply pt12 | apply pt13 | apply pt14 | apply pt15 | apply pt16 | apply pt17))) (by (repeat (first | exact ro_nil | exact ro_rest (by assumption) | refine ro_cons (by first | exact .inl (by assumption) | exact ro_f0 (fun _ h => h) | exact ro_f0 (fun _ => slc_rsl) | exact ro_f1 (fun _ h => h) | exact ro_f1 (fun _ => slc_rsl) | exact ro_f2 (fun _ h => h) | exact ro_f2 (fun _ => slc_rsl) | exact ro_f3 (fun _ h => h) | exact ro_f3 (fun _ => slc_rsl) | exact ro_f4 (fun _ h => h) | exact ro_f4 (fun _ => slc_rsl) | exact ro_f5 (fun _ h => h) | exact ro_f5 (fun _ => slc_rsl) | exact ro_f6 (fun _ h => h) | exact ro_f6 (fun _ => slc_rsl)) ?_)))) (wl_ex fun x89 hx89 => ?_)
            refine wl_world (S' := Hp w0 K [dkA x19 (lT fm mo 1 (max a 0) false), blk b5 (.cells [vI a, vI k].toArray 34 (0, 0))]) (fun w hw => hw.sub (by (repeat (first | exact pt_nil | apply pt0 | apply pt1 | apply pt2 | apply pt3 | apply pt4 | apply pt5 | apply pt6 | apply pt7 | apply pt8 | apply pt9 | apply pt10 | apply pt11 | apply pt12 | apply pt13 | apply pt14 | apply pt15 | apply pt16 | apply pt17)))) ?_
            refine wl_nil ?_
            refine wq_then ?_
            refine wc_seq ?_
            refine wc_region ?_
            by_cases ha : a = 1
            ·
              refine wl_y rfl (y_move rfl) ?_
              refine wl_c (fun _ _ => want_none) rfl (yc_spec (fst := []) (cap := []) _ FN14 (rename_at (lT_good (fm := fm) (mo := mo) (by omega) (by omega) (by omega) (.inr rfl)) ((lT_rename (by omega)).trans (if_pos (show max a 0 = 1 by omega)))) rfl rfl rfl (by (repeat (first | exact pt_nil | apply pt0 | apply pt1 | apply pt2 | apply pt3 | apply pt4 | apply pt5 | apply pt6 | apply pt7 | apply pt8 | apply pt9 | apply pt10 | apply pt11 | apply pt12 | apply pt13 | apply pt14 | apply pt15 | apply pt16 | apply pt17))) (by (repeat (first | exact ro_nil | exact ro_rest (by assumption) | refine ro_cons (by first | exact .inl (by assumption) | exact ro_f0 (fun _ h => h) | exact ro_f0 (fun _ => slc_rsl) | exact ro_f1 (fun _ h => h) | exact ro_f1 (fun _ => slc_rsl) | exact ro_f2 (fun _ h => h) | exact ro_f2 (fun _ => slc_rsl) | exact ro_f3 (fun _ h => h) | exact ro_f3 (fun _ => slc_rsl) | exact ro_f4 (fun _ h => h) | exact ro_f4 (fun _ => slc_rsl) | exact ro_f5 (fun _ h => h) | exact ro_f5 (fun _ => slc_rsl) | exact ro_f6 (fun _ h => h) | exact ro_f6 (fun _ => slc_rsl)) ?_)))) (wl_ex fun x91 hx91 => ?_)
              refine wl_y rfl (y_assign rfl) ?_
              refine wl_nil ?_
              refine wq_then ?_
              refine wc_seq ?_
              refine wc_seq ?_
              refine wc_region ?_
              refine wl_y rfl (y_move rfl) ?_
              refine wl_y rfl (y_eqlI rfl rfl) ?_
              refine wl_y rfl (y_indexAddrArr (i := 0) Try.underlying34 T3 rfl rfl rfl (by decide)) ?_
              refine wl_y rfl (y_load NA3 rfl (by first | exact cell_blk [] rfl | exact cell_blk [_] rfl | exact cell_blk [_, _] rfl | exact cell_blk [_, _, _] rfl | exact cell_blk [_, _, _, _] rfl | exact cell_blk [_, _, _, _, _] rfl | exact cell_blk [_, _, _, _, _, _] rfl | exact cellR_blk (by assumption) rfl)) ?_
              refine wl_y rfl (y_eqlI rfl rfl) ?_
              refine wl_y rfl (y_neqB Try.underlying4 rfl rfl) ?_
              refine wl_y rfl (y_move rfl) ?_
              refine wl_known 98 false rfl (by simp [ha]) ?_
              refine wl_yg rfl rfl rfl (y_move rfl) ?_
              refine wl_yg rfl rfl rfl (y_neqI rfl rfl) ?_
              refine wl_yg rfl rfl rfl (y_move rfl) ?_
              refine wl_known 101 true rfl (by decide) ?_
              refine wl_yg rfl rfl rfl (y_move rfl) ?_
              refine wl_yg rfl rfl rfl (y_neqI rfl rfl) ?_
              refine wl_yg rfl rfl rfl (y_pick_t rfl rfl) ?_
              refine wl_y rfl (y_pick_f rfl rfl) ?_
              refine wl_nil ?_
              refine wq_then ?_
              refine wc_known 105 false rfl (by simp [ha]) ?_
              refine wc_cond_false rfl ?_
              refine wc_skip ?_
              refine wq_then ?_
              refine wc_seq ?_
              refine wc_region ?_
              refine wl_y rfl (y_move rfl) ?_
              refine wl_y rfl (y_indexAddrArr (i := 1) Try.underlying34 T3 rfl rfl rfl (by decide)) ?_
              refine wl_y rfl (y_load NA3 rfl (by first | exact cell_blk [] rfl | exact cell_blk [_] rfl | exact cell_blk [_, _] rfl | exact cell_blk [_, _, _] rfl | exact cell_blk [_, _, _, _] rfl | exact cell_blk [_, _, _, _, _] rfl | exact cell_blk [_, _, _, _, _, _] rfl | exact cellR_blk (by assumption) rfl)) ?_
              refine wl_w (fun _ _ => want_none) rfl (yw_buildSlice (cs := ([k] : List Int).map vI) Try.underlying44 T3 rfl rfl rfl rfl rfl rfl rfl) (wl_ex fun b109 _ => ?_)
              refine wl_c (fun _ _ => want_none) rfl (yc_spec (fst := []) (cap := []) _ FN12 (crash_at (ks := [k]) (ko := some ⟨b109, 0, none⟩) (kc := 1) (lT_good (fm := fm) (mo := mo) (by omega) (by omega) (by omega) (.inr rfl)) (by simp [lT]) (by simp) (lT_crash fm mo k)) rfl rfl rfl (by (repeat (first | exact pt_nil | apply pt0 | apply pt1 | apply pt2 | apply pt3 | apply pt4 | apply pt5 | apply pt6 | apply pt7 | apply pt8 | apply pt9 | apply pt10 | apply pt11 | apply pt12 | apply pt13 | apply pt14 | apply pt15 | apply pt16 | apply pt17))) (by (repeat (first | exact ro_nil | exact ro_rest (by assumption) | refine ro_cons (by first | exact .inl (by assumption) | exact ro_f0 (fun _ h => h) | exact ro_f0 (fun _ => slc_rsl) | exact ro_f1 (fun _ h => h) | exact ro_f1 (fun _ => slc_rsl) | exact ro_f2 (fun _ h => h) | exact ro_f2 (fun _ => slc_rsl) | exact ro_f3 (fun _ h => h) | exact ro_f3 (fun _ => slc_rsl) | exact ro_f4 (fun _ h => h) | exact ro_f4 (fun _ => slc_rsl) | exact ro_f5 (fun _ h => h) | exact ro_f5 (fun _ => slc_rsl) | exact ro_f6 (fun _ h => h) | exact ro_f6 (fun _ => slc_rsl)) ?_)))) (wl_ex fun x110 hx110 => ?_)
              refine wl_nil ?_
              refine wq_then ?_
              refine wc_seq ?_
              refine wc_region ?_
              refine wl_y rfl (y_assign rfl) ?_
              refine wl_nil ?_
              refine wq_then ?_
              refine wc_seq ?_
              refine wc_seq ?_
              refine wc_region ?_
              refine wl_y rfl (y_move rfl) ?_
              refine wl_y rfl (y_neqI rfl rfl) ?_
              refine wl_nil ?_
              refine wq_then ?_
              refine wc_known 112 true rfl (by decide) ?_
              refine wc_cond_true rfl ?_
              refine wc_seq ?_
              refine wc_region ?_
              refine wl_y rfl (y_assign rfl) ?_
              refine wl_nil ?_
              refine wq_then ?_
              refine wc_seq ?_
              refine wc_region ?_
              refine wl_y rfl (y_move rfl) ?_
              refine wl_c (fun _ _ => want_none) rfl (yc_spec (fst := []) (cap := []) _ FN15 (read_at (lT_old (fm ++ rest mo k) 0)) rfl rfl rfl (by (repeat (first | exact pt_nil | apply pt0 | apply pt1 | apply pt2 | apply pt3 | apply pt4 | apply pt5 | apply pt6 | apply pt7 | apply pt8 | apply pt9 | apply pt10 | apply pt11 | apply pt12 | apply pt13 | apply pt14 | apply pt15 | apply pt16 | apply pt17))) (by (repeat (first | exact ro_nil | exact ro_rest (by assumption) | refine ro_cons (by first | exact .inl (by assumption) | exact ro_f0 (fun _ h => h) | exact ro_f0 (fun _ => slc_rsl) | exact ro_f1 (fun _ h => h) | exact ro_f1 (fun _ => slc_rsl) | exact ro_f2 (fun _ h => h) | exact ro_f2 (fun _ => slc_rsl) | exact ro_f3 (fun _ h => h) | exact ro_f3 (fun _ => slc_rsl) | exact ro_f4 (fun _ h => h) | exact ro_f4 (fun _ => slc_rsl) | exact ro_f5 (fun _ h => h) | exact ro_f5 (fun _ => slc_rsl) | exact ro_f6 (fun _ h => h) | exact ro_f6 (fun _ => slc_rsl)) ?_)))) (wl_ex fun x115 hx115 => ?_)
              refine wl_y rfl (y_move rfl) ?_
              refine wl_y rfl (y_extract rfl rfl) ?_
              refine wl_y rfl (y_extract rfl rfl) ?_
              refine wl_y rfl (y_assign rfl) ?_
              refine wl_y rfl (y_assign rfl) ?_
              refine wl_nil ?_
              refine wq_then ?_
              refine wc_seq ?_
              refine wc_region ?_
              refine wl_y rfl (y_move rfl) ?_
              refine wl_y rfl (y_neqI rfl rfl) ?_
              refine wl_y rfl (y_move rfl) ?_
              refine wl_known 120 false rfl (by decide) ?_
              refine wl_yg rfl rfl rfl (y_move rfl) ?_
              refine wl_yg rfl rfl rfl (y_neqS rfl rfl) ?_
              refine wl_y rfl (y_pick_f rfl rfl) ?_
              refine wl_nil ?_
              refine wq_then ?_
              refine wc_known 123 false rfl (by decide) ?_
              refine wc_cond_false rfl ?_
              refine wc_skip ?_
              refine wq_then ?_
              refine wc_seq ?_
              refine wc_region ?_
              refine wl_y rfl (y_move rfl) ?_
              refine wl_y rfl (y_move rfl) ?_
              refine wl_c (fun _ _ => want_none) rfl (yc_spec (fst := []) (cap := []) _ FN15 (read_at (lT_new (fm ++ rest mo k) 0)) rfl rfl rfl (by (repeat (first | exact pt_nil | apply pt0 | apply pt1 | apply pt2 | apply pt3 | apply pt4 | apply pt5 | apply pt6 | apply pt7 | apply pt8 | apply pt9 | apply pt10 | apply pt11 | apply pt12 | apply pt13 | apply pt14 | apply pt15 | apply pt16 | apply pt17))) (by (repeat (first | exact ro_nil | exact ro_rest (by assumption) | refine ro_cons (by first | exact .inl (by assumption) | exact ro_f0 (fun _ h => h) | exact ro_f0 (fun _ => slc_rsl) | exact ro_f1 (fun _ h => h) | exact ro_f1 (fun _ => slc_rsl) | exact ro_f2 (fun _ h => h) | exact ro_f2 (fun _ => slc_rsl) | exact ro_f3 (fun _ h => h) | exact ro_f3 (fun _ => slc_rsl) | exact ro_f4 (fun _ h => h) | exact ro_f4 (fun _ => slc_rsl) | exact ro_f5 (fun _ h => h) | exact ro_f5 (fun _ => slc_rsl) | exact ro_f6 (fun _ h => h) | exact ro_f6 (fun _ => slc_rsl)) ?_)))) (wl_ex fun x132 hx132 => ?_)
              refine wl_y rfl (y_move rfl) ?_
              refine wl_y rfl (y_extract rfl rfl) ?_
              refine wl_same 133 (vS (fm ++ rest mo k)) rfl (by rw [show (nF (fm ++ rest mo k) []).data = (fm ++ rest mo k) from List.append_nil _]) ?_
              refine wl_y rfl (y_extract rfl rfl) ?_
              refine wl_y rfl (y_assign rfl) ?_
              refine wl_y rfl (y_assign rfl) ?_
              refine wl_nil ?_
              refine wq_then ?_
              refine wc_seq ?_
              refine wc_quiet MO (by kernel_rfl) (Hp.drawless _ _ _) ?_
              have hS : (fm ++ rest mo k).length = fm.length + (rest mo k).length := List.length_append
              have hr := rest_le mo k
              refine wt_y rfl (y_move rfl) ?_
              refine wt_y rfl (y_eqlI rfl rfl) ?_
              refine wt_y rfl (y_move rfl) ?_
              refine wt_known 137 true rfl (by decide) ?_
              refine wt_yg rfl rfl rfl (y_move rfl) ?_
              refine wt_yg rfl rfl rfl (y_lenS Try.underlying9 rfl) ?_
              refine wt_yg rfl rfl rfl (y_move rfl) ?_
              refine wt_yg rfl rfl rfl (y_lenS Try.underlying9 rfl) ?_
              refine wt_yg rfl rfl rfl (y_geq rfl rfl) ?_
              refine wt_y rfl (y_pick_t rfl rfl) ?_
              refine wt_y rfl (y_move rfl) ?_
              refine wt_known 144 true rfl (decide_eq_true (by omega)) ?_
              refine wt_yg rfl rfl rfl (y_move rfl) ?_
              refine wt_yg rfl rfl rfl (y_lenS Try.underlying9 rfl) ?_
              refine wt_yg rfl rfl rfl (y_move rfl) ?_
              refine wt_yg rfl rfl rfl (y_lenS Try.underlying9 rfl) ?_
              refine wt_yg rfl rfl rfl (y_move rfl) ?_
              refine wt_yg rfl rfl rfl (y_lenS Try.underlying9 rfl) ?_
              refine wt_yg rfl rfl rfl (y_add rfl rfl (by simp only [List.length_append] at hlen; omega)) ?_
              refine wt_yg rfl rfl rfl (y_leq rfl rfl) ?_
              refine wt_y rfl (y_pick_t rfl rfl) ?_
              refine wt_y rfl (y_move rfl) ?_
              refine wt_known 154 true rfl (decide_eq_true (by omega)) ?_
              refine wt_yg rfl rfl rfl (y_move rfl) ?_
              refine wt_yg rfl rfl rfl (y_move rfl) ?_
              refine wt_yg rfl rfl rfl (y_lenS Try.underlying9 rfl) ?_
              refine wt_yg rfl rfl rfl (y_sliceS (i := 0) (j := fm.length) Try.underlying9 rfl rfl ⟨_, rfl, rfl⟩ (Nat.zero_le _) (by omega) rfl) ?_
              refine wt_yg rfl rfl rfl (y_move rfl) ?_
              refine wt_yg rfl rfl rfl (y_eqlS rfl rfl) ?_
              refine wt_y rfl (y_pick_t rfl rfl) ?_
              refine wt_y rfl (y_move rfl) ?_
              refine wt_known 162 true rfl (by simp) ?_
              refine wt_yg rfl rfl rfl (y_move rfl) ?_
              refine wt_yg rfl rfl rfl (y_move rfl) ?_
              refine wt_yg rfl rfl rfl (y_lenS Try.underlying9 rfl) ?_
              refine wt_yg rfl rfl rfl (y_sliceS (i := fm.length) (j := (fm ++ rest mo k).length) Try.underlying9 rfl ⟨_, rfl, rfl⟩ rfl (by omega) (Nat.le_refl _) rfl) ?_
              refine wt_yg rfl rfl rfl (y_move rfl) ?_
              refine wt_yg rfl rfl rfl (y_move rfl) ?_
              refine wt_yg rfl rfl rfl (y_lenS Try.underlying9 rfl) ?_
              refine wt_yg rfl rfl rfl (y_move rfl) ?_
              refine wt_yg rfl rfl rfl (y_lenS Try.underlying9 rfl) ?_
              refine wt_yg rfl rfl rfl (y_sub rfl rfl (by simp only [List.length_append] at hlen; omega)) ?_
              refine wt_yg rfl rfl rfl (y_sliceS (i := 0) (j := (fm ++ rest mo k).length - fm.length) Try.underlying9 rfl rfl ⟨_, rfl, by omega⟩ (Nat.zero_le _) (by omega) rfl) ?_
              refine wt_yg rfl rfl rfl (y_eqlS rfl rfl) ?_
              refine wt_y rfl (y_pick_t rfl rfl) ?_
              refine wt_y rfl (y_move rfl) ?_
              refine wt_known 176 true rfl (lasts_end fm mo k) ?_
              refine wt_c (want_some rfl rfl) rfl (yq_spec (fst := []) (cap := []) _ FN13 awake_c rfl rfl rfl (by (repeat (first | exact pt_nil | apply pt0 | apply pt1 | apply pt2 | apply pt3 | apply pt4 | apply pt5 | apply pt6 | apply pt7 | apply pt8 | apply pt9 | apply pt10 | apply pt11 | apply pt12 | apply pt13 | apply pt14 | apply pt15 | apply pt16 | apply pt17))) (by (repeat (first | exact ro_nil | exact ro_rest (by assumption) | refine ro_cons (by first | exact .inl (by assumption) | exact ro_f0 (fun _ h => h) | exact ro_f0 (fun _ => slc_rsl) | exact ro_f1 (fun _ h => h) | exact ro_f1 (fun _ => slc_rsl) | exact ro_f2 (fun _ h => h) | exact ro_f2 (fun _ => slc_rsl) | exact ro_f3 (fun _ h => h) | exact ro_f3 (fun _ => slc_rsl) | exact ro_f4 (fun _ h => h) | exact ro_f4 (fun _ => slc_rsl) | exact ro_f5 (fun _ h => h) | exact ro_f5 (fun _ => slc_rsl) | exact ro_f6 (fun _ h => h) | exact ro_f6 (fun _ => slc_rsl)) ?_))) (fun _ _ => rfl) (fun _ _ _ h => h.sub (by (repeat (first | exact pt_nil | apply pt0 | apply pt1 | apply pt2 | apply pt3 | apply pt4 | apply pt5 | apply pt6 | apply pt7 | apply pt8 | apply pt9 | apply pt10 | apply pt11 | apply pt12 | apply pt13 | apply pt14 | apply pt15 | apply pt16 | apply pt17))))) ?_
              refine wt_y rfl (y_pick_t rfl rfl) ?_
              refine wt_y rfl (y_assign rfl) ?_
              refine wt_nil ?_
              refine wq_then ?_
              refine wc_ret ?_
              refine wq_ret1 rfl rfl (fun w hw => ?_)
              exact ⟨(), trivial, rfl, hw.bare⟩
            ·
              refine wl_y rfl (y_move rfl) ?_
              refine wl_c (fun _ _ => want_none) rfl (yc_spec (fst := []) (cap := []) _ FN14 (rename_at (lT_good (fm := fm) (mo := mo) (by omega) (by omega) (by omega) (.inr rfl)) ((lT_rename (by omega)).trans (if_neg (show ¬ max a 0 = 1 by omega)))) rfl rfl rfl (by (repeat (first | exact pt_nil | apply pt0 | apply pt1 | apply pt2 | apply pt3 | apply pt4 | apply pt5 | apply pt6 | apply pt7 | apply pt8 | apply pt9 | apply pt10 | apply pt11 | apply pt12 | apply pt13 | apply pt14 | apply pt15 | apply pt16 | apply pt17))) (by (repeat (first | exact ro_nil | exact ro_rest (by assumption) | refine ro_cons (by first | exact .inl (by assumption) | exact ro_f0 (fun _ h => h) | exact ro_f0 (fun _ => slc_rsl) | exact ro_f1 (fun _ h => h) | exact ro_f1 (fun _ => slc_rsl) | exact ro_f2 (fun _ h => h) | exact ro_f2 (fun _ => slc_rsl) | exact ro_f3 (fun _ h => h) | exact ro_f3 (fun _ => slc_rsl) | exact ro_f4 (fun _ h => h) | exact ro_f4 (fun _ => slc_rsl) | exact ro_f5 (fun _ h => h) | exact ro_f5 (fun _ => slc_rsl) | exact ro_f6 (fun _ h => h) | exact ro_f6 (fun _ => slc_rsl)) ?_)))) (wl_ex fun x91 hx91 => ?_)
              refine wl_y rfl (y_assign rfl) ?_
              refine wl_nil ?_
              refine wq_then ?_
              refine wc_seq ?_
              refine wc_seq ?_
              refine wc_region ?_
              refine wl_y rfl (y_move rfl) ?_
              refine wl_y rfl (y_eqlI rfl rfl) ?_
              refine wl_y rfl (y_indexAddrArr (i := 0) Try.underlying34 T3 rfl rfl rfl (by decide)) ?_
              refine wl_y rfl (y_load NA3 rfl (by first | exact cell_blk [] rfl | exact cell_blk [_] rfl | exact cell_blk [_, _] rfl | exact cell_blk [_, _, _] rfl | exact cell_blk [_, _, _, _] rfl | exact cell_blk [_, _, _, _, _] rfl | exact cell_blk [_, _, _, _, _, _] rfl | exact cellR_blk (by assumption) rfl)) ?_
              refine wl_y rfl (y_eqlI rfl rfl) ?_
              refine wl_y rfl (y_neqB Try.underlying4 rfl rfl) ?_
              refine wl_y rfl (y_move rfl) ?_
              refine wl_known 98 false rfl (by simp [ha]) ?_
              refine wl_yg rfl rfl rfl (y_move rfl) ?_
              refine wl_yg rfl rfl rfl (y_neqI rfl rfl) ?_
              refine wl_yg rfl rfl rfl (y_move rfl) ?_
              refine wl_known 101 false rfl (by decide) ?_
              refine wl_sk rfl rfl rfl rfl ?_
              refine wl_sk rfl rfl rfl rfl ?_
              refine wl_yg rfl rfl rfl (y_pick_f rfl rfl) ?_
              refine wl_y rfl (y_pick_f rfl rfl) ?_
              refine wl_nil ?_
              refine wq_then ?_
              refine wc_known 105 false rfl (by simp [ha]) ?_
              refine wc_cond_false rfl ?_
              refine wc_skip ?_
              refine wq_then ?_
              refine wc_seq ?_
              refine wc_region ?_
              refine wl_y rfl (y_move rfl) ?_
              refine wl_y rfl (y_indexAddrArr (i := 1) Try.underlying34 T3 rfl rfl rfl (by decide)) ?_
              refine wl_y rfl (y_load NA3 rfl (by first | exact cell_blk [] rfl | exact cell_blk [_] rfl | exact cell_blk [_, _] rfl | exact cell_blk [_, _, _] rfl | exact cell_blk [_, _, _, _] rfl | exact cell_blk [_, _, _, _, _] rfl | exact cell_blk [_, _, _, _, _, _] rfl | exact cellR_blk (by assumption) rfl)) ?_
              refine wl_w (fun _ _ => want_none) rfl (yw_buildSlice (cs := ([k] : List Int).map vI) Try.underlying44 T3 rfl rfl rfl rfl rfl rfl rfl) (wl_ex fun b109 _ => ?_)
              refine wl_c (fun _ _ => want_none) rfl (yc_spec (fst := []) (cap := []) _ FN12 (crash_at (ks := [k]) (ko := some ⟨b109, 0, none⟩) (kc := 1) (lU_good (fm := fm) (mo := mo) (by omega) (by omega) (by omega)) (by simp [lU]) (by simp) (lU_crash fm mo (max (max a 0 - 1) 0) k)) rfl rfl rfl (by (repeat (first | exact pt_nil | apply pt0 | apply pt1 | apply pt2 | apply pt3 | apply pt4 | apply pt5 | apply pt6 | apply pt7 | apply pt8 | apply pt9 | apply pt10 | apply pt11 | apply pt12 | apply pt13 | apply pt14 | apply pt15 | apply pt16 | apply pt17))) (by (repeat (first | exact ro_nil | exact ro_rest (by assumption) | refine ro_cons (by first | exact .inl (by assumption) | exact ro_f0 (fun _ h => h) | exact ro_f0 (fun _ => slc_rsl) | exact ro_f1 (fun _ h => h) | exact ro_f1 (fun _ => slc_rsl) | exact ro_f2 (fun _ h => h) | exact ro_f2 (fun _ => slc_rsl) | exact ro_f3 (fun _ h => h) | exact ro_f3 (fun _ => slc_rsl) | exact ro_f4 (fun _ h => h) | exact ro_f4 (fun _ => slc_rsl) | exact ro_f5 (fun _ h => h) | exact ro_f5 (fun _ => slc_rsl) | exact ro_f6 (fun _ h => h) | exact ro_f6 (fun _ => slc_rsl)) ?_)))) (wl_ex fun x110 hx110 => ?_)
              refine wl_nil ?_
              refine wq_then ?_
              refine wc_seq ?_
              refine wc_region ?_
              refine wl_y rfl (y_assign rfl) ?_
              refine wl_nil ?_
              refine wq_then ?_
              refine wc_seq ?_
              refine wc_seq ?_
              refine wc_region ?_
              refine wl_y rfl (y_move rfl) ?_
              refine wl_y rfl (y_neqI rfl rfl) ?_
              refine wl_nil ?_
              refine wq_then ?_
              refine wc_known 112 false rfl (by decide) ?_
              refine wc_cond_false rfl ?_
              refine wc_seq ?_
              refine wc_region ?_
              refine wl_y rfl (y_move rfl) ?_
              refine wl_c (fun _ _ => want_none) rfl (yc_spec (fst := []) (cap := []) _ FN17 (names_at (d := lU (fm ++ rest mo k) [] 0) ⟨by simp [lU], by simp [lU, maxLen]⟩ (names_one (k := od) (f := nF (fm ++ rest mo k) []) rfl)) rfl rfl rfl (by (repeat (first | exact pt_nil | apply pt0 | apply pt1 | apply pt2 | apply pt3 | apply pt4 | apply pt5 | apply pt6 | apply pt7 | apply pt8 | apply pt9 | apply pt10 | apply pt11 | apply pt12 | apply pt13 | apply pt14 | apply pt15 | apply pt16 | apply pt17))) (by (repeat (first | exact ro_nil | exact ro_rest (by assumption) | refine ro_cons (by first | exact .inl (by assumption) | exact ro_f0 (fun _ h => h) | exact ro_f0 (fun _ => slc_rsl) | exact ro_f1 (fun _ h => h) | exact ro_f1 (fun _ => slc_rsl) | exact ro_f2 (fun _ h => h) | exact ro_f2 (fun _ => slc_rsl) | exact ro_f3 (fun _ h => h) | exact ro_f3 (fun _ => slc_rsl) | exact ro_f4 (fun _ h => h) | exact ro_f4 (fun _ => slc_rsl) | exact ro_f5 (fun _ h => h) | exact ro_f5 (fun _ => slc_rsl) | exact ro_f6 (fun _ h => h) | exact ro_f6 (fun _ => slc_rsl)) ?_)))) (wl_ex fun x125 hx125 => ?_)
              refine wl_w (fun _ _ => want_none) rfl (yw_buildSlice (cs := ([od] : List Str).map vS) Try.underlying32 T9 rfl rfl rfl rfl rfl rfl rfl) (wl_ex fun b126 _ => ?_)
              refine wl_q (fun _ _ => want_none) rfl (yq_spec (fst := []) (cap := []) _ FN16 (texts_c [od] [od] x125.1 (some ⟨b126, 0, none⟩) x125.2 1 (by decide)) rfl rfl rfl (by (repeat (first | exact pt_nil | apply pt0 | apply pt1 | apply pt2 | apply pt3 | apply pt4 | apply pt5 | apply pt6 | apply pt7 | apply pt8 | apply pt9 | apply pt10 | apply pt11 | apply pt12 | apply pt13 | apply pt14 | apply pt15 | apply pt16 | apply pt17))) (by (repeat (first | exact ro_nil | exact ro_rest (by assumption) | refine ro_cons (by first | exact .inl (by assumption) | exact ro_f0 (fun _ h => h) | exact ro_f0 (fun _ => slc_rsl) | exact ro_f1 (fun _ h => h) | exact ro_f1 (fun _ => slc_rsl) | exact ro_f2 (fun _ h => h) | exact ro_f2 (fun _ => slc_rsl) | exact ro_f3 (fun _ h => h) | exact ro_f3 (fun _ => slc_rsl) | exact ro_f4 (fun _ h => h) | exact ro_f4 (fun _ => slc_rsl) | exact ro_f5 (fun _ h => h) | exact ro_f5 (fun _ => slc_rsl) | exact ro_f6 (fun _ h => h) | exact ro_f6 (fun _ => slc_rsl)) ?_))) (fun _ _ => rfl) (fun _ _ _ h => h.sub (by (repeat (first | exact pt_nil | apply pt0 | apply pt1 | apply pt2 | apply pt3 | apply pt4 | apply pt5 | apply pt6 | apply pt7 | apply pt8 | apply pt9 | apply pt10 | apply pt11 | apply pt12 | apply pt13 | apply pt14 | apply pt15 | apply pt16 | apply pt17))))) ?_
              refine wl_y rfl (y_not rfl) ?_
              refine wl_nil ?_
              refine wq_then ?_
              refine wc_known 128 false rfl (by decide) ?_
              refine wc_cond_false rfl ?_
              refine wc_skip ?_
              refine wq_then ?_
              refine wc_seq ?_
              refine wc_region ?_
              refine wl_y rfl (y_move rfl) ?_
              refine wl_y rfl (y_move rfl) ?_
              refine wl_c (fun _ _ => want_none) rfl (yc_spec (fst := []) (cap := []) _ FN15 (read_at (lU_old (fm ++ rest mo k) 0)) rfl rfl rfl (by (repeat (first | exact pt_nil | apply pt0 | apply pt1 | apply pt2 | apply pt3 | apply pt4 | apply pt5 | apply pt6 | apply pt7 | apply pt8 | apply pt9 | apply pt10 | apply pt11 | apply pt12 | apply pt13 | apply pt14 | apply pt15 | apply pt16 | apply pt17))) (by (repeat (first | exact ro_nil | exact ro_rest (by assumption) | refine ro_cons (by first | exact .inl (by assumption) | exact ro_f0 (fun _ h => h) | exact ro_f0 (fun _ => slc_rsl) | exact ro_f1 (fun _ h => h) | exact ro_f1 (fun _ => slc_rsl) | exact ro_f2 (fun _ h => h) | exact ro_f2 (fun _ => slc_rsl) | exact ro_f3 (fun _ h => h) | exact ro_f3 (fun _ => slc_rsl) | exact ro_f4 (fun _ h => h) | exact ro_f4 (fun _ => slc_rsl) | exact ro_f5 (fun _ h => h) | exact ro_f5 (fun _ => slc_rsl) | exact ro_f6 (fun _ h => h) | exact ro_f6 (fun _ => slc_rsl)) ?_)))) (wl_ex fun x132 hx132 => ?_)
              refine wl_y rfl (y_move rfl) ?_
              refine wl_y rfl (y_extract rfl rfl) ?_
              refine wl_same 133 (vS (fm ++ rest mo k)) rfl (by rw [show (nF (fm ++ rest mo k) []).data = (fm ++ rest mo k) from List.append_nil _]) ?_
              refine wl_y rfl (y_extract rfl rfl) ?_
              refine wl_y rfl (y_assign rfl) ?_
              refine wl_y rfl (y_assign rfl) ?_
              refine wl_nil ?_
              refine wq_then ?_
              refine wc_seq ?_
              refine wc_quiet MO (by kernel_rfl) (Hp.drawless _ _ _) ?_
              have hS : (fm ++ rest mo k).length = fm.length + (rest mo k).length := List.length_append
              have hr := rest_le mo k
              refine wt_y rfl (y_move rfl) ?_
              refine wt_y rfl (y_eqlI rfl rfl) ?_
              refine wt_y rfl (y_move rfl) ?_
              refine wt_known 137 true rfl (by decide) ?_
              refine wt_yg rfl rfl rfl (y_move rfl) ?_
              refine wt_yg rfl rfl rfl (y_lenS Try.underlying9 rfl) ?_
              refine wt_yg rfl rfl rfl (y_move rfl) ?_
              refine wt_yg rfl rfl rfl (y_lenS Try.underlying9 rfl) ?_
              refine wt_yg rfl rfl rfl (y_geq rfl rfl) ?_
              refine wt_y rfl (y_pick_t rfl rfl) ?_
              refine wt_y rfl (y_move rfl) ?_
              refine wt_known 144 true rfl (decide_eq_true (by omega)) ?_
              refine wt_yg rfl rfl rfl (y_move rfl) ?_
              refine wt_yg rfl rfl rfl (y_lenS Try.underlying9 rfl) ?_
              refine wt_yg rfl rfl rfl (y_move rfl) ?_
              refine wt_yg rfl rfl rfl (y_lenS Try.underlying9 rfl) ?_
              refine wt_yg rfl rfl rfl (y_move rfl) ?_
              refine wt_yg rfl rfl rfl (y_lenS Try.underlying9 rfl) ?_
              refine wt_yg rfl rfl rfl (y_add rfl rfl (by simp only [List.length_append] at hlen; omega)) ?_
              refine wt_yg rfl rfl rfl (y_leq rfl rfl) ?_
              refine wt_y rfl (y_pick_t rfl rfl) ?_
              refine wt_y rfl (y_move rfl) ?_
              refine wt_known 154 true rfl (decide_eq_true (by omega)) ?_
              refine wt_yg rfl rfl rfl (y_move rfl) ?_
              refine wt_yg rfl rfl rfl (y_move rfl) ?_
              refine wt_yg rfl rfl rfl (y_lenS Try.underlying9 rfl) ?_
              refine wt_yg rfl rfl rfl (y_sliceS (i := 0) (j := fm.length) Try.underlying9 rfl rfl ⟨_, rfl, rfl⟩ (Nat.zero_le _) (by omega) rfl) ?_
              refine wt_yg rfl rfl rfl (y_move rfl) ?_
              refine wt_yg rfl rfl rfl (y_eqlS rfl rfl) ?_
              refine wt_y rfl (y_pick_t rfl rfl) ?_
              refine wt_y rfl (y_move rfl) ?_
              refine wt_known 162 true rfl (by simp) ?_
              refine wt_yg rfl rfl rfl (y_move rfl) ?_
              refine wt_yg rfl rfl rfl (y_move rfl) ?_
              refine wt_yg rfl rfl rfl (y_lenS Try.underlying9 rfl) ?_
              refine wt_yg rfl rfl rfl (y_sliceS (i := fm.length) (j := (fm ++ rest mo k).length) Try.underlying9 rfl ⟨_, rfl, rfl⟩ rfl (by omega) (Nat.le_refl _) rfl) ?_
              refine wt_yg rfl rfl rfl (y_move rfl) ?_
              refine wt_yg rfl rfl rfl (y_move rfl) ?_
              refine wt_yg rfl rfl rfl (y_lenS Try.underlying9 rfl) ?_
              refine wt_yg rfl rfl rfl (y_move rfl) ?_
              refine wt_yg rfl rfl rfl (y_lenS Try.underlying9 rfl) ?_
              refine wt_yg rfl rfl rfl (y_sub rfl rfl (by simp only [List.length_append] at hlen; omega)) ?_
              refine wt_yg rfl rfl rfl (y_sliceS (i := 0) (j := (fm ++ rest mo k).length - fm.length) Try.underlying9 rfl rfl ⟨_, rfl, by omega⟩ (Nat.zero_le _) (by omega) rfl) ?_
              refine wt_yg rfl rfl rfl (y_eqlS rfl rfl) ?_
              refine wt_y rfl (y_pick_t rfl rfl) ?_
              refine wt_y rfl (y_move rfl) ?_
              refine wt_known 176 true rfl (lasts_end fm mo k) ?_
              refine wt_c (want_some rfl rfl) rfl (yq_spec (fst := []) (cap := []) _ FN13 awake_c rfl rfl rfl (by (repeat (first | exact pt_nil | apply pt0 | apply pt1 | apply pt2 | apply pt3 | apply pt4 | apply pt5 | apply pt6 | apply pt7 | apply pt8 | apply pt9 | apply pt10 | apply pt11 | apply pt12 | apply pt13 | apply pt14 | apply pt15 | apply pt16 | apply pt17))) (by (repeat (first | exact ro_nil | exact ro_rest (by assumption) | refine ro_cons (by first | exact .inl (by assumption) | exact ro_f0 (fun _ h => h) | exact ro_f0 (fun _ => slc_rsl) | exact ro_f1 (fun _ h => h) | exact ro_f1 (fun _ => slc_rsl) | exact ro_f2 (fun _ h => h) | exact ro_f2 (fun _ => slc_rsl) | exact ro_f3 (fun _ h => h) | exact ro_f3 (fun _ => slc_rsl) | exact ro_f4 (fun _ h => h) | exact ro_f4 (fun _ => slc_rsl) | exact ro_f5 (fun _ h => h) | exact ro_f5 (fun _ => slc_rsl) | exact ro_f6 (fun _ h => h) | exact ro_f6 (fun _ => slc_rsl)) ?_))) (fun _ _ => rfl) (fun _ _ _ h => h.sub (by (repeat (first | exact pt_nil | apply pt0 | apply pt1 | apply pt2 | apply pt3 | apply pt4 | apply pt5 | apply pt6 | apply pt7 | apply pt8 | apply pt9 | apply pt10 | apply pt11 | apply pt12 | apply pt13 | apply pt14 | apply pt15 | apply pt16 | apply pt17))))) ?_
              refine wt_y rfl (y_pick_t rfl rfl) ?_
              refine wt_y rfl (y_assign rfl) ?_
              refine wt_nil ?_
              refine wq_then ?_
              refine wc_ret ?_
              refine wq_ret1 rfl rfl (fun w hw => ?_)
              exact ⟨(), trivial, rfl, hw.bare⟩

end Go.Proofs.Ytdeellflcphkaaa
