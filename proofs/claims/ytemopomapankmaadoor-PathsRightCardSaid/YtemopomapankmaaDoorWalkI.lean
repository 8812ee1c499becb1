/-
  Walks: files looked up, compared, counted.
-/
import Derived.Test.YtemopomapankmaaDoorFLaw
namespace Go.Proofs.YtemopomapankmaaDoor
open Go.Eng

set_option maxHeartbeats 1000000 in
theorem get_c (l : List Fl) (oo : Option Addr) (cc : Nat) (q : Str) (hl : l.length ≤ 1000000000) :
    Ctr Tryd.prog 26 #[.slice oo l.length cc, vS q] [rsl oo l.length 2 (l.flatMap encF)] [] (fun _ : Unit => True) (fun _ => .tuple #[vS (getF l q).1, vB (getF l q).2]) (fun _ => []) := by
  refine spec_start (n := 17) [(0, .slice oo l.length cc), (1, vS q)] Tryd.func26 rfl rfl ⟨rfl, rfl, trivial⟩ rfl ?_
  intro w0 K hR
  have hA := hR _ (List.mem_cons_self ..)
  refine wc_seq ?_
  refine wc_region ?_
  refine wl_y rfl (y_assign rfl) ?_
  refine wl_y rfl (y_assign rfl) ?_
  refine wl_nil ?_
  refine wq_then ?_
  refine wc_seq ?_
  refine wc_seq ?_
  refine wc_region ?_
  refine wl_y rfl (y_move rfl) ?_
  refine wl_y rfl (y_move rfl) ?_
  refine wl_c (fun _ _ => want_none) rfl (yc_spec (fst := []) (cap := []) _ FN42 (find_c l oo cc q hl) rfl rfl rfl (by (repeat (first | exact pt_nil | apply pt0 | apply pt1 | apply pt2 | apply pt3 | apply pt4 | apply pt5 | apply pt6 | apply pt7 | apply pt8 | apply pt9 | apply pt10 | apply pt11 | apply pt12 | apply pt13 | apply pt14 | apply pt15 | apply pt16 | apply pt17))) (by (repeat (first | exact ro_nil | exact ro_rest (by assumption) | refine ro_cons (by first | exact .inl (by assumption) | exact ro_f0 (fun _ h => h) | exact ro_f0 (fun _ => slc_rsl) | exact ro_f1 (fun _ h => h) | exact ro_f1 (fun _ => slc_rsl) | exact ro_f2 (fun _ h => h) | exact ro_f2 (fun _ => slc_rsl) | exact ro_f3 (fun _ h => h) | exact ro_f3 (fun _ => slc_rsl) | exact ro_f4 (fun _ h => h) | exact ro_f4 (fun _ => slc_rsl) | exact ro_f5 (fun _ h => h) | exact ro_f5 (fun _ => slc_rsl) | exact ro_f6 (fun _ h => h) | exact ro_f6 (fun _ => slc_rsl)) ?_)))) (wl_ex fun x9 hx9 => ?_)
  refine wl_y rfl (y_assign rfl) ?_
  refine wl_nil ?_
  refine wq_then ?_
  refine wc_seq ?_
  refine wc_region ?_
  refine wl_y rfl (y_move rfl) ?_
  refine wl_y rfl (y_geq rfl rfl) ?_
  refine wl_nil ?_
  refine wq_then ?_
  refine wc_cond rfl (fun hc11 => ?_) (fun hc11 => ?_)
  ·
    simp at hc11
    obtain ⟨i, x, hi, hx, hp, hn⟩ := idxF_pos hc11
    have hil := (List.getElem?_eq_some_iff.1 hx).1
    refine wc_same 6 (vI (i : Nat)) rfl (by rw [hi]) ?_
    refine wc_seq ?_
    refine wc_region ?_
    refine wl_y rfl (y_move rfl) ?_
    refine wl_y rfl (y_move rfl) ?_
    refine wl_y rfl (y_indexAddr Tryd.underlying22 T24 rfl rfl rfl (by omega) (by first | assumption | exact fun _ _ => rfl | exact fun _ _ => hA.isSome (by omega) | exact fun w hw => hw.slc_isSome [] (by omega) | exact fun w hw => hw.slc_isSome [_] (by omega) | exact fun w hw => hw.slc_isSome [_, _] (by omega) | exact fun w hw => hw.slc_isSome [_, _, _] (by omega))) ?_
    refine wl_y rfl (y_fieldAddr_adr F24_1 rfl) ?_
    refine wl_y rfl (y_load NA9 rfl (by first | exact cell_ro hA (rows_get encF_len hx rfl) | exact cell_own [] (rows_get encF_len hx rfl) | exact cell_own [_] (rows_get encF_len hx rfl) | exact cell_own [_, _] (rows_get encF_len hx rfl) | exact cell_own [_, _, _] (rows_get encF_len hx rfl))) ?_
    refine wl_y rfl (y_assign rfl) ?_
    refine wl_y rfl (y_assign rfl) ?_
    refine wl_nil ?_
    refine wq_then ?_
    refine wc_ret ?_
    refine wq_then_ret ?_
    refine wq_ret2 rfl rfl rfl (fun w hw => ?_)
    exact ⟨(), trivial, by rw [getF_hit hx (by simpa using hp) (fun j y hj hy => by simpa using hn j y hj hy)], hw⟩
  ·
    simp at hc11
    obtain ⟨hi, hn⟩ := idxF_neg hc11
    refine wc_skip ?_
    refine wq_then ?_
    refine wc_seq ?_
    refine wc_region ?_
    refine wl_y rfl (y_assign rfl) ?_
    refine wl_y rfl (y_assign rfl) ?_
    refine wl_nil ?_
    refine wq_then ?_
    refine wc_ret ?_
    refine wq_ret2 rfl rfl rfl (fun w hw => ?_)
    exact ⟨(), trivial, by rw [getF_miss (fun x hx => by simpa using hn x hx)], hw⟩

set_option maxHeartbeats 1000000 in
theorem rget_c (l : List Fl) (oo : Option Addr) (cc : Nat) (q : Str) (hl : l.length ≤ 1000000000) :
    Ctr Tryd.prog 27 #[.slice oo l.length cc, vS q] [rsl oo l.length 2 (l.flatMap encF)] [] (fun _ : Unit => True) (fun _ => .tuple #[vS (getF l q).1, vB (getF l q).2]) (fun _ => []) := by
  refine spec_start (n := 25) [(0, .slice oo l.length cc), (1, vS q)] Tryd.func27 rfl rfl ⟨rfl, rfl, trivial⟩ rfl ?_
  intro w0 K hR
  have hA := hR _ (List.mem_cons_self ..)
  refine wc_seq ?_
  refine wc_region ?_
  refine wl_y rfl (y_assign rfl) ?_
  refine wl_y rfl (y_assign rfl) ?_
  refine wl_nil ?_
  refine wq_then ?_
  refine wc_seq ?_
  refine wc_seq ?_
  refine wc_region ?_
  refine wl_y rfl (y_assign rfl) ?_
  refine wl_nil ?_
  refine wq_then ?_
  refine wc_block ?_
  refine wc_loop (α := Nat) (fun y => y ≤ l.length ∧ ∀ j z, j < y → l[j]? = some z → z.1 ≠ q) [(0, _), (1, _)] (fun y => [(6, vI y)]) (fun y => Hp w0 K []) (fun y => l.length - y) 0 ?_ ⟨rfl, rfl, rfl, trivial⟩ ?_ ?_
  · exact ⟨Nat.zero_le _, fun j _ hj => absurd hj (Nat.not_lt_zero _)⟩
  · exact fun w hw => hw
  · rintro i ⟨hi, hall⟩
    refine wc_seq ?_
    refine wc_seq ?_
    refine wc_region ?_
    refine wl_y rfl (y_move rfl) ?_
    refine wl_y rfl (y_move rfl) ?_
    refine wl_y rfl (y_lenSl Tryd.underlying22 rfl) ?_
    refine wl_y rfl (y_lss rfl rfl) ?_
    refine wl_nil ?_
    refine wq_then ?_
    refine wc_cond rfl (fun hc10 => ?_) (fun hc10 => ?_)
    ·
      simp at hc10
      refine wc_skip ?_
      refine wq_then ?_
      refine wc_seq ?_
      refine wc_block ?_
      refine wc_seq ?_
      refine wc_region ?_
      obtain ⟨x, hx⟩ : ∃ x, l[i]? = some x := ⟨_, List.getElem?_eq_getElem (by omega)⟩
      refine wl_y rfl (y_move rfl) ?_
      refine wl_y rfl (y_move rfl) ?_
      refine wl_y rfl (y_indexAddr Tryd.underlying22 T24 rfl rfl rfl (by omega) (by first | assumption | exact fun _ _ => rfl | exact fun _ _ => hA.isSome (by omega) | exact fun w hw => hw.slc_isSome [] (by omega) | exact fun w hw => hw.slc_isSome [_] (by omega) | exact fun w hw => hw.slc_isSome [_, _] (by omega) | exact fun w hw => hw.slc_isSome [_, _, _] (by omega))) ?_
      refine wl_y rfl (y_fieldAddr_adr F24_0 rfl) ?_
      refine wl_y rfl (y_load NA9 rfl (by first | exact cell_ro hA (rows_get encF_len hx rfl) | exact cell_own [] (rows_get encF_len hx rfl) | exact cell_own [_] (rows_get encF_len hx rfl) | exact cell_own [_, _] (rows_get encF_len hx rfl) | exact cell_own [_, _, _] (rows_get encF_len hx rfl))) ?_
      refine wl_y rfl (y_move rfl) ?_
      refine wl_y rfl (y_eqlS rfl rfl) ?_
      refine wl_nil ?_
      refine wq_then ?_
      refine wc_cond rfl (fun hc19 => ?_) (fun hc19 => ?_)
      ·
        simp at hc19
        refine wc_seq ?_
        refine wc_region ?_
        refine wl_y rfl (y_move rfl) ?_
        refine wl_y rfl (y_move rfl) ?_
        refine wl_y rfl (y_indexAddr Tryd.underlying22 T24 rfl rfl rfl (by omega) (by first | assumption | exact fun _ _ => rfl | exact fun _ _ => hA.isSome (by omega) | exact fun w hw => hw.slc_isSome [] (by omega) | exact fun w hw => hw.slc_isSome [_] (by omega) | exact fun w hw => hw.slc_isSome [_, _] (by omega) | exact fun w hw => hw.slc_isSome [_, _, _] (by omega))) ?_
        refine wl_y rfl (y_fieldAddr_adr F24_1 rfl) ?_
        refine wl_y rfl (y_load NA9 rfl (by first | exact cell_ro hA (rows_get encF_len hx rfl) | exact cell_own [] (rows_get encF_len hx rfl) | exact cell_own [_] (rows_get encF_len hx rfl) | exact cell_own [_, _] (rows_get encF_len hx rfl) | exact cell_own [_, _, _] (rows_get encF_len hx rfl))) ?_
        refine wl_y rfl (y_assign rfl) ?_
        refine wl_y rfl (y_assign rfl) ?_
        refine wl_nil ?_
        refine wq_then ?_
        refine wc_ret ?_
        refine wq_block_ret (wq_then_ret (wq_then_ret (wq_block_ret (wq_then_ret ?_))))
        refine wq_ret2 rfl rfl rfl (fun w hw => ?_)
        exact ⟨(), trivial, by rw [getF_hit hx hc19 hall], hw⟩
      ·
        simp at hc19
        refine wc_skip ?_
        refine wq_block_normal ?_
        refine wq_then ?_
        refine wc_region ?_
        refine wl_y rfl (y_move rfl) ?_
        refine wl_y rfl (y_add rfl rfl (by omega)) ?_
        refine wl_y rfl (y_assign rfl) ?_
        refine wl_nil ?_
        exact wq_round (i + 1) (by omega) ⟨by omega, step_of hall hx hc19⟩ ⟨rfl, rfl, rfl, trivial⟩ (fun w hw => hw)
    ·
      simp at hc10
      refine wc_exit ?_
      refine wq_then_exit (wq_then_exit (wq_block_exit ?_))
      refine wq_then ?_
      refine wc_seq ?_
      refine wc_region ?_
      refine wl_y rfl (y_assign rfl) ?_
      refine wl_y rfl (y_assign rfl) ?_
      refine wl_nil ?_
      refine wq_then ?_
      refine wc_ret ?_
      refine wq_ret2 rfl rfl rfl (fun w hw => ?_)
      exact ⟨(), trivial, by rw [getF_miss (all_of_step hall (by omega))], hw⟩

set_option maxHeartbeats 1000000 in
theorem same_c (l : List Fl) (oo : Option Addr) (cc : Nat) (m : List Fl) (om : Option Addr) (cm : Nat) (hl : l.length ≤ 1000000000) :
    Ctr Tryd.prog 21 #[.slice oo l.length cc, .slice om m.length cm] [rsl oo l.length 2 (l.flatMap encF), rsl om m.length 2 (m.flatMap encF)] [] (fun _ : Unit => True) (fun _ => vB (decide (l = m))) (fun _ => []) := by
  refine spec_start (n := 26) [(0, .slice oo l.length cc), (1, .slice om m.length cm)] Tryd.func21 rfl rfl ⟨rfl, rfl, trivial⟩ rfl ?_
  intro w0 K hR
  have hA := hR _ (List.mem_cons_self ..)
  have hB := hR _ (List.mem_cons_of_mem _ (List.mem_cons_self ..))
  refine wc_seq ?_
  refine wc_region ?_
  refine wl_y rfl (y_assign rfl) ?_
  refine wl_nil ?_
  refine wq_then ?_
  refine wc_seq ?_
  refine wc_seq ?_
  refine wc_region ?_
  refine wl_y rfl (y_move rfl) ?_
  refine wl_y rfl (y_lenSl Tryd.underlying22 rfl) ?_
  refine wl_y rfl (y_move rfl) ?_
  refine wl_y rfl (y_lenSl Tryd.underlying22 rfl) ?_
  refine wl_y rfl (y_neqI rfl rfl) ?_
  refine wl_nil ?_
  refine wq_then ?_
  refine wc_cond rfl (fun hc10 => ?_) (fun hc10 => ?_)
  ·
    simp at hc10
    refine wc_seq ?_
    refine wc_region ?_
    refine wl_y rfl (y_assign rfl) ?_
    refine wl_nil ?_
    refine wq_then ?_
    refine wc_ret ?_
    refine wq_then_ret ?_
    refine wq_ret1 rfl rfl (fun w hw => ?_)
    exact ⟨(), trivial, by rw [decide_eq_false (fun e => hc10 (by rw [e]))], hw⟩
  ·
    simp at hc10
    refine wc_skip ?_
    refine wq_then ?_
    refine wc_seq ?_
    refine wc_seq ?_
    refine wc_region ?_
    refine wl_y rfl (y_assign rfl) ?_
    refine wl_nil ?_
    refine wq_then ?_
    refine wc_block ?_
    refine wc_loop (α := Nat) (fun y => y ≤ l.length ∧ l.take y = m.take y) [(0, _), (1, _)] (fun y => [(5, vI y)]) (fun y => Hp w0 K []) (fun y => l.length - y) 0 ?_ ⟨rfl, rfl, rfl, trivial⟩ ?_ ?_
    · exact ⟨Nat.zero_le _, rfl⟩
    · exact fun w hw => hw
    · rintro i ⟨hi, hall⟩
      refine wc_seq ?_
      refine wc_seq ?_
      refine wc_region ?_
      refine wl_y rfl (y_move rfl) ?_
      refine wl_y rfl (y_move rfl) ?_
      refine wl_y rfl (y_lenSl Tryd.underlying22 rfl) ?_
      refine wl_y rfl (y_lss rfl rfl) ?_
      refine wl_nil ?_
      refine wq_then ?_
      refine wc_cond rfl (fun hc14 => ?_) (fun hc14 => ?_)
      ·
        simp at hc14
        refine wc_skip ?_
        refine wq_then ?_
        refine wc_seq ?_
        refine wc_block ?_
        refine wc_seq ?_
        refine wc_quiet MO (by kernel_rfl) (Hp.drawless _ _ _) ?_
        obtain ⟨x, hx⟩ : ∃ x, l[i]? = some x := ⟨_, List.getElem?_eq_getElem (by omega)⟩
        obtain ⟨y, hy⟩ : ∃ y, m[i]? = some y := ⟨_, List.getElem?_eq_getElem (by omega)⟩
        refine wt_y rfl (y_move rfl) ?_
        refine wt_y rfl (y_move rfl) ?_
        refine wt_y rfl (y_indexAddr Tryd.underlying22 T24 rfl rfl rfl (by omega) (by first | assumption | exact fun _ _ => rfl | exact fun _ _ => hA.isSome (by omega) | exact fun _ _ => hB.isSome (by omega) | exact fun w hw => hw.slc_isSome [] (by omega) | exact fun w hw => hw.slc_isSome [_] (by omega) | exact fun w hw => hw.slc_isSome [_, _] (by omega) | exact fun w hw => hw.slc_isSome [_, _, _] (by omega))) ?_
        refine wt_y rfl (y_loadAgg (l := encF x) AG24 rfl rfl (by first | exact agg_ro hA (fun i u h => rows_get encF_len hx h) | exact agg_ro hB (fun i u h => rows_get encF_len hx h) | exact agg_own [] (fun i u h => rows_get encF_len hx h) | exact agg_own [_] (fun i u h => rows_get encF_len hx h) | exact agg_own [_, _] (fun i u h => rows_get encF_len hx h) | exact agg_own [_, _, _] (fun i u h => rows_get encF_len hx h))) ?_
        refine wt_y rfl (y_move rfl) ?_
        refine wt_y rfl (y_move rfl) ?_
        refine wt_y rfl (y_indexAddr Tryd.underlying22 T24 rfl rfl rfl (by omega) (by first | assumption | exact fun _ _ => rfl | exact fun _ _ => hA.isSome (by omega) | exact fun _ _ => hB.isSome (by omega) | exact fun w hw => hw.slc_isSome [] (by omega) | exact fun w hw => hw.slc_isSome [_] (by omega) | exact fun w hw => hw.slc_isSome [_, _] (by omega) | exact fun w hw => hw.slc_isSome [_, _, _] (by omega))) ?_
        refine wt_y rfl (y_loadAgg (l := encF y) AG24 rfl rfl (by first | exact agg_ro hA (fun i u h => rows_get encF_len hy h) | exact agg_ro hB (fun i u h => rows_get encF_len hy h) | exact agg_own [] (fun i u h => rows_get encF_len hy h) | exact agg_own [_] (fun i u h => rows_get encF_len hy h) | exact agg_own [_, _] (fun i u h => rows_get encF_len hy h) | exact agg_own [_, _, _] (fun i u h => rows_get encF_len hy h))) ?_
        refine wt_y rfl (y_neqAgg (E24 x y) rfl rfl) ?_
        refine wt_nil ?_
        refine wq_then ?_
        refine wc_cond rfl (fun hc25 => ?_) (fun hc25 => ?_)
        ·
          simp at hc25
          refine wc_seq ?_
          refine wc_region ?_
          refine wl_y rfl (y_assign rfl) ?_
          refine wl_nil ?_
          refine wq_then ?_
          refine wc_ret ?_
          refine wq_block_ret (wq_then_ret (wq_then_ret (wq_block_ret (wq_then_ret ?_))))
          refine wq_ret1 rfl rfl (fun w hw => ?_)
          exact ⟨(), trivial, by rw [decide_eq_false (fun e => hc25 (by rw [e, hy] at hx; exact (Option.some.inj hx).symm))], hw⟩
        ·
          simp at hc25
          refine wc_skip ?_
          refine wq_block_normal ?_
          refine wq_then ?_
          refine wc_region ?_
          refine wl_y rfl (y_move rfl) ?_
          refine wl_y rfl (y_add rfl rfl (by omega)) ?_
          refine wl_y rfl (y_assign rfl) ?_
          refine wl_nil ?_
          exact wq_round (i + 1) (by omega) ⟨by omega, take_same hall hx hy hc25⟩ ⟨rfl, rfl, rfl, trivial⟩ (fun w hw => hw)
      ·
        simp at hc14
        refine wc_exit ?_
        refine wq_then_exit (wq_then_exit (wq_block_exit ?_))
        refine wq_then ?_
        refine wc_seq ?_
        refine wc_region ?_
        refine wl_y rfl (y_assign rfl) ?_
        refine wl_nil ?_
        refine wq_then ?_
        refine wc_ret ?_
        refine wq_ret1 rfl rfl (fun w hw => ?_)
        exact ⟨(), trivial, by rw [decide_eq_true (by rw [List.take_of_length_le (by omega), List.take_of_length_le (by omega)] at hall; exact hall)], hw⟩

set_option maxHeartbeats 1000000 in
theorem few_c (l : List Fl) (oo : Option Addr) (cc : Nat) :
    Ctr Tryd.prog 17 #[.slice oo l.length cc] [rsl oo l.length 2 (l.flatMap encF)] [] (fun _ : Unit => True) (fun _ => vB (fewF l)) (fun _ => []) := by
  refine spec_start (n := 29) [(0, .slice oo l.length cc)] Tryd.func17 rfl rfl ⟨rfl, trivial⟩ rfl ?_
  intro w0 K hR
  have hA := hR _ (List.mem_cons_self ..)
  refine wc_seq ?_
  refine wc_region ?_
  refine wl_y rfl (y_assign rfl) ?_
  refine wl_nil ?_
  refine wq_then ?_
  refine wc_seq ?_
  refine wc_seq ?_
  refine wc_region ?_
  refine wl_y rfl (y_move rfl) ?_
  refine wl_y rfl (y_lenSl Tryd.underlying22 rfl) ?_
  refine wl_y rfl (y_gtr rfl rfl) ?_
  refine wl_nil ?_
  refine wq_then ?_
  refine wc_cond rfl (fun hc6 => ?_) (fun hc6 => ?_)
  ·
    simp at hc6
    refine wc_seq ?_
    refine wc_region ?_
    refine wl_y rfl (y_assign rfl) ?_
    refine wl_nil ?_
    refine wq_then ?_
    refine wc_ret ?_
    refine wq_then_ret ?_
    refine wq_ret1 rfl rfl (fun w hw => ?_)
    exact ⟨(), trivial, by rw [fewF, decide_eq_true (by omega)]; rfl, hw⟩
  ·
    simp at hc6
    refine wc_skip ?_
    refine wq_then ?_
    refine wc_seq ?_
    refine wc_seq ?_
    refine wc_region ?_
    refine wl_y rfl (y_assign rfl) ?_
    refine wl_nil ?_
    refine wq_then ?_
    refine wc_block ?_
    refine wc_loop (α := Nat) (fun y => y ≤ l.length ∧ ∀ j z, j < y → l[j]? = some z → fewX z = true) [(0, _)] (fun y => [(3, vI y)]) (fun y => Hp w0 K []) (fun y => l.length - y) 0 ?_ ⟨rfl, rfl, trivial⟩ ?_ ?_
    · exact ⟨Nat.zero_le _, fun j _ hj => absurd hj (Nat.not_lt_zero _)⟩
    · exact fun w hw => hw
    · rintro i ⟨hi, hall⟩
      refine wc_seq ?_
      refine wc_seq ?_
      refine wc_region ?_
      refine wl_y rfl (y_move rfl) ?_
      refine wl_y rfl (y_move rfl) ?_
      refine wl_y rfl (y_lenSl Tryd.underlying22 rfl) ?_
      refine wl_y rfl (y_lss rfl rfl) ?_
      refine wl_nil ?_
      refine wq_then ?_
      refine wc_cond rfl (fun hc10 => ?_) (fun hc10 => ?_)
      ·
        simp at hc10
        refine wc_skip ?_
        refine wq_then ?_
        refine wc_seq ?_
        refine wc_block ?_
        refine wc_seq ?_
        refine wc_region ?_
        obtain ⟨x, hx⟩ : ∃ x, l[i]? = some x := ⟨_, List.getElem?_eq_getElem (by omega)⟩
        refine wl_y rfl (y_move rfl) ?_
        refine wl_y rfl (y_move rfl) ?_
        refine wl_y rfl (y_indexAddr Tryd.underlying22 T24 rfl rfl rfl (by omega) (by first | assumption | exact fun _ _ => rfl | exact fun _ _ => hA.isSome (by omega) | exact fun w hw => hw.slc_isSome [] (by omega) | exact fun w hw => hw.slc_isSome [_] (by omega) | exact fun w hw => hw.slc_isSome [_, _] (by omega) | exact fun w hw => hw.slc_isSome [_, _, _] (by omega))) ?_
        refine wl_y rfl (y_fieldAddr_adr F24_0 rfl) ?_
        refine wl_y rfl (y_load NA9 rfl (by first | exact cell_ro hA (rows_get encF_len hx rfl) | exact cell_own [] (rows_get encF_len hx rfl) | exact cell_own [_] (rows_get encF_len hx rfl) | exact cell_own [_, _] (rows_get encF_len hx rfl) | exact cell_own [_, _, _] (rows_get encF_len hx rfl))) ?_
        refine wl_y rfl (y_lenS Tryd.underlying9 rfl) ?_
        refine wl_y rfl (y_gtr rfl rfl) ?_
        refine wl_y rfl (y_move rfl) ?_
        apply wl_or 8 28 [(0, _), (3, _)] (t := 20) rfl ⟨rfl, rfl, trivial⟩
        · intro hg20 hM28
          refine wl_sk rfl rfl rfl rfl ?_
          refine wl_sk rfl rfl rfl rfl ?_
          refine wl_sk rfl rfl rfl rfl ?_
          refine wl_sk rfl rfl rfl rfl ?_
          refine wl_sk rfl rfl rfl rfl ?_
          refine wl_sk rfl rfl rfl rfl ?_
          refine wl_sk rfl rfl rfl rfl ?_
          refine wl_y rfl (y_pick_t rfl rfl) ?_
          exact wl_weaken hM28 ⟨rfl, rfl, rfl, trivial⟩
        · intro hg20 hM28
          try (simp at hg20)
          refine wl_yg rfl rfl rfl (y_move rfl) ?_
          refine wl_yg rfl rfl rfl (y_move rfl) ?_
          refine wl_yg rfl rfl rfl (y_indexAddr Tryd.underlying22 T24 rfl rfl rfl (by omega) (by first | assumption | exact fun _ _ => rfl | exact fun _ _ => hA.isSome (by omega) | exact fun w hw => hw.slc_isSome [] (by omega) | exact fun w hw => hw.slc_isSome [_] (by omega) | exact fun w hw => hw.slc_isSome [_, _] (by omega) | exact fun w hw => hw.slc_isSome [_, _, _] (by omega))) ?_
          refine wl_yg rfl rfl rfl (y_fieldAddr_adr F24_1 rfl) ?_
          refine wl_yg rfl rfl rfl (y_load NA9 rfl (by first | exact cell_ro hA (rows_get encF_len hx rfl) | exact cell_own [] (rows_get encF_len hx rfl) | exact cell_own [_] (rows_get encF_len hx rfl) | exact cell_own [_, _] (rows_get encF_len hx rfl) | exact cell_own [_, _, _] (rows_get encF_len hx rfl))) ?_
          refine wl_yg rfl rfl rfl (y_lenS Tryd.underlying9 rfl) ?_
          refine wl_yg rfl rfl rfl (y_gtr rfl rfl) ?_
          refine wl_y rfl (y_pick_f rfl rfl) ?_
          exact wl_weaken hM28 ⟨rfl, rfl, rfl, trivial⟩
        ·
          refine wl_nil ?_
          refine wq_then ?_
          refine wc_cond rfl (fun hc28 => ?_) (fun hc28 => ?_)
          ·
            refine wc_seq ?_
            refine wc_region ?_
            refine wl_y rfl (y_assign rfl) ?_
            refine wl_nil ?_
            refine wq_then ?_
            refine wc_ret ?_
            refine wq_block_ret (wq_then_ret (wq_then_ret (wq_block_ret (wq_then_ret ?_))))
            refine wq_ret1 rfl rfl (fun w hw => ?_)
            exact ⟨(), trivial, by rw [fewF, show l.all fewX = false by exact List.all_eq_false.2 ⟨x, List.mem_of_getElem? hx, by rw [fewX, hc28]; decide⟩, Bool.and_false], hw⟩
          ·
            refine wc_skip ?_
            refine wq_block_normal ?_
            refine wq_then ?_
            refine wc_region ?_
            refine wl_y rfl (y_move rfl) ?_
            refine wl_y rfl (y_add rfl rfl (by omega)) ?_
            refine wl_y rfl (y_assign rfl) ?_
            refine wl_nil ?_
            exact wq_round (i + 1) (by omega) ⟨by omega, step_of hall hx (by rw [fewX, hc28]; rfl)⟩ ⟨rfl, rfl, trivial⟩ (fun w hw => hw)
      ·
        simp at hc10
        refine wc_exit ?_
        refine wq_then_exit (wq_then_exit (wq_block_exit ?_))
        refine wq_then ?_
        refine wc_seq ?_
        refine wc_region ?_
        refine wl_y rfl (y_assign rfl) ?_
        refine wl_nil ?_
        refine wq_then ?_
        refine wc_ret ?_
        refine wq_ret1 rfl rfl (fun w hw => ?_)
        exact ⟨(), trivial, by rw [fewF, decide_eq_false (by omega), show l.all fewX = true by exact List.all_eq_true.2 (all_of_step hall (by omega))]; rfl, hw⟩

end Go.Proofs.YtemopomapankmaaDoor
