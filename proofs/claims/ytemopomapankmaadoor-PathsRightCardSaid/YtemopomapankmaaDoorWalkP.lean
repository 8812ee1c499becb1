/-
  Walks: files with others.
-/
import Derived.Test.YtemopomapankmaaDoorUnionLaw
namespace Go.Proofs.YtemopomapankmaaDoor
open Go.Eng

set_option maxHeartbeats 1000000 in
theorem union_c (l : List Fl) (oo : Option Addr) (cc : Nat) (m : List Fl) (om : Option Addr) (cm : Nat) (hl : l.length ≤ 1000) (hml : m.length ≤ 1000) (hs : ∀ x ∈ l, x.1.length ≤ 9223372036854775806) (hm : ∀ x ∈ m, x.1.length ≤ 9223372036854775806) :
    Ctr Tryd.prog 28 #[.slice oo l.length cc, .slice om m.length cm] [rsl oo l.length 2 (l.flatMap encF), rsl om m.length 2 (m.flatMap encF)] [] (fun _ : Option Addr × Nat => True) (fun r => .tuple #[.slice r.1 (unionF l m).2.length r.2, vI (unionF l m).1]) (fun r => [slc 24 2 r.1 ((unionF l m).2).length r.2 (((unionF l m).2).flatMap encF)]) := by
  refine spec_start (n := 29) [(0, .slice oo l.length cc), (1, .slice om m.length cm)] Tryd.func28 rfl rfl ⟨rfl, rfl, trivial⟩ rfl ?_
  intro w0 K hR
  have hA := hR _ (List.mem_cons_self ..)
  have hB := hR _ (List.mem_cons_of_mem _ (List.mem_cons_self ..))
  refine wc_seq ?_
  refine wc_region ?_
  refine wl_y rfl (y_assign rfl) ?_
  refine wl_y rfl (y_assign rfl) ?_
  refine wl_nil ?_
  refine wq_then ?_
  refine wc_seq ?_
  refine wc_region ?_
  refine wl_y rfl (y_move rfl) ?_
  refine wl_c (fun _ _ => want_none) rfl (yc_spec (fst := []) (cap := []) _ FN41 (clone_c l oo cc (by omega)) rfl rfl rfl (by (repeat (first | exact pt_nil | apply pt0 | apply pt1 | apply pt2 | apply pt3 | apply pt4 | apply pt5 | apply pt6 | apply pt7 | apply pt8 | apply pt9 | apply pt10 | apply pt11 | apply pt12 | apply pt13 | apply pt14 | apply pt15 | apply pt16 | apply pt17))) (by (repeat (first | exact ro_nil | exact ro_rest (by assumption) | refine ro_cons (by first | exact .inl (by assumption) | exact ro_f0 (fun _ h => h) | exact ro_f0 (fun _ => slc_rsl) | exact ro_f1 (fun _ h => h) | exact ro_f1 (fun _ => slc_rsl) | exact ro_f2 (fun _ h => h) | exact ro_f2 (fun _ => slc_rsl) | exact ro_f3 (fun _ h => h) | exact ro_f3 (fun _ => slc_rsl) | exact ro_f4 (fun _ h => h) | exact ro_f4 (fun _ => slc_rsl) | exact ro_f5 (fun _ h => h) | exact ro_f5 (fun _ => slc_rsl) | exact ro_f6 (fun _ h => h) | exact ro_f6 (fun _ => slc_rsl)) ?_)))) (wl_ex fun x11 hx11 => ?_)
  refine wl_y rfl (y_assign rfl) ?_
  refine wl_nil ?_
  refine wq_then ?_
  refine wc_seq ?_
  refine wc_seq ?_
  refine wc_region ?_
  refine wl_y rfl (y_move rfl) ?_
  refine wl_y rfl (y_lenSl Tryd.underlying22 rfl) ?_
  refine wl_y rfl (y_move rfl) ?_
  refine wl_nil ?_
  refine wq_then ?_
  refine wc_block ?_
  refine wc_loop (α := Nat × List Fl × Option Addr × Nat) (fun y => y.1 ≤ m.length ∧ y.2.1.length ≤ 1000 ∧ From l m y.2.1 ∧ unionF l m = unionF y.2.1 (m.drop y.1)) [(12, _), (13, _)] (fun y => [(14, vI y.1), (6, .slice y.2.2.1 y.2.1.length y.2.2.2)]) (fun y => Hp w0 K [slc 24 2 y.2.2.1 (y.2.1).length y.2.2.2 ((y.2.1).flatMap encF)]) (fun y => m.length - y.1) (0, l, x11) ?_ ⟨rfl, rfl, rfl, rfl, trivial⟩ ?_ ?_
  · exact ⟨Nat.zero_le _, hl, fun x hx => .inl hx, rfl⟩
  · exact fun w hw => hw.sub (by (repeat (first | exact pt_nil | apply pt0 | apply pt1 | apply pt2 | apply pt3 | apply pt4 | apply pt5 | apply pt6 | apply pt7 | apply pt8 | apply pt9 | apply pt10 | apply pt11 | apply pt12 | apply pt13 | apply pt14 | apply pt15 | apply pt16 | apply pt17)))
  · rintro ⟨i, A, p⟩ ⟨hi, hAl, hF, hU⟩; simp only at hi hAl hF hU
    refine wc_same 14 (vI i) rfl rfl ?_
    refine wc_same 6 (.slice p.1 A.length p.2) rfl rfl ?_
    refine wc_world (S' := Hp w0 K [slc 24 2 p.1 (A).length p.2 ((A).flatMap encF)]) (fun w hw => hw) ?_
    refine wc_seq ?_
    refine wc_region ?_
    refine wl_y rfl (y_lss rfl rfl) ?_
    refine wl_nil ?_
    refine wq_then ?_
    refine wc_seq ?_
    refine wc_cond rfl (fun hck => ?_) (fun hck => ?_)
    ·
      simp at hck
      refine wc_skip ?_
      refine wq_then ?_
      refine wc_seq ?_
      refine wc_block ?_
      refine wc_seq ?_
      refine wc_region ?_
      obtain ⟨x, hx⟩ : ∃ x, m[i]? = some x := ⟨_, List.getElem?_eq_getElem (by omega)⟩
      have hxm := List.mem_of_getElem? hx
      refine wl_y rfl (y_indexAddr Tryd.underlying22 T24 rfl rfl rfl (by omega) (by first | assumption | exact fun _ _ => rfl | exact fun _ _ => hB.isSome (by omega) | exact fun w hw => hw.slc_isSome [] (by omega) | exact fun w hw => hw.slc_isSome [_] (by omega) | exact fun w hw => hw.slc_isSome [_, _] (by omega) | exact fun w hw => hw.slc_isSome [_, _, _] (by omega))) ?_
      refine wl_y rfl (y_loadAgg (l := encF x) AG24 rfl rfl (by first | exact agg_ro hB (fun i u h => rows_get encF_len hx h) | exact agg_own [] (fun i u h => rows_get encF_len hx h) | exact agg_own [_] (fun i u h => rows_get encF_len hx h) | exact agg_own [_, _] (fun i u h => rows_get encF_len hx h) | exact agg_own [_, _, _] (fun i u h => rows_get encF_len hx h))) ?_
      refine wl_w (fun _ _ => want_none) rfl (yw_alloc T24 rfl) (wl_ex fun b8 _ => ?_)
      first | refine wl_u (yu_storeAgg [] (l' := [_, _]) T24 rfl rfl rfl (by simp [Value.oneCell', encF]) rfl rfl) ?_ | refine wl_u (yu_storeAgg [_] (l' := [_, _]) T24 rfl rfl rfl (by simp [Value.oneCell', encF]) rfl rfl) ?_ | refine wl_u (yu_storeAgg [_, _] (l' := [_, _]) T24 rfl rfl rfl (by simp [Value.oneCell', encF]) rfl rfl) ?_ | refine wl_u (yu_storeAgg [_, _, _] (l' := [_, _]) T24 rfl rfl rfl (by simp [Value.oneCell', encF]) rfl rfl) ?_
      refine wl_nil ?_
      refine wq_then ?_
      refine wc_seq ?_
      refine wc_region ?_
      refine wl_y rfl (y_assign rfl) ?_
      refine wl_nil ?_
      refine wq_then ?_
      refine wc_seq ?_
      refine wc_region ?_
      refine wl_y rfl (y_move rfl) ?_
      refine wl_y rfl (y_loadAgg (l := [_, _]) AG24 rfl rfl (by first | exact cells_blk [] rfl | exact cells_blk [_] rfl | exact cells_blk [_, _] rfl | exact cells_blk [_, _, _] rfl | exact cellsR_blk (by assumption) rfl)) ?_
      refine wl_c (fun _ _ => want_none) rfl (yc_spec (fst := []) (cap := []) _ FN19 (with_c A p.1 p.2 x (by omega) (fun y hy => (hF y hy).elim (hs y) (hm y)) (hm x hxm)) rfl rfl rfl (by (repeat (first | exact pt_nil | apply pt0 | apply pt1 | apply pt2 | apply pt3 | apply pt4 | apply pt5 | apply pt6 | apply pt7 | apply pt8 | apply pt9 | apply pt10 | apply pt11 | apply pt12 | apply pt13 | apply pt14 | apply pt15 | apply pt16 | apply pt17))) (by (repeat (first | exact ro_nil | exact ro_rest (by assumption) | refine ro_cons (by first | exact .inl (by assumption) | exact ro_f0 (fun _ h => h) | exact ro_f0 (fun _ => slc_rsl) | exact ro_f1 (fun _ h => h) | exact ro_f1 (fun _ => slc_rsl) | exact ro_f2 (fun _ h => h) | exact ro_f2 (fun _ => slc_rsl) | exact ro_f3 (fun _ h => h) | exact ro_f3 (fun _ => slc_rsl) | exact ro_f4 (fun _ h => h) | exact ro_f4 (fun _ => slc_rsl) | exact ro_f5 (fun _ h => h) | exact ro_f5 (fun _ => slc_rsl) | exact ro_f6 (fun _ h => h) | exact ro_f6 (fun _ => slc_rsl)) ?_)))) (wl_ex fun x21 hx21 => ?_)
      refine wl_y rfl (y_move rfl) ?_
      refine wl_y rfl (y_extract rfl rfl) ?_
      refine wl_y rfl (y_extract rfl rfl) ?_
      refine wl_y rfl (y_assign rfl) ?_
      refine wl_y rfl (y_assign rfl) ?_
      refine wl_nil ?_
      refine wq_then ?_
      refine wc_seq ?_
      refine wc_region ?_
      refine wl_y rfl (y_move rfl) ?_
      refine wl_y rfl (y_neqI rfl rfl) ?_
      refine wl_nil ?_
      refine wq_then ?_
      refine wc_cond rfl (fun hcn => ?_) (fun hcn => ?_)
      ·
        simp at hcn
        refine wc_seq ?_
        refine wc_region ?_
        refine wl_y rfl (y_move rfl) ?_
        refine wl_y rfl (y_assign rfl) ?_
        refine wl_y rfl (y_assign rfl) ?_
        refine wl_nil ?_
        refine wq_then ?_
        refine wc_ret ?_
        refine wq_block_ret (wq_then_ret (wq_then_ret (wq_block_ret (wq_then_ret ?_))))
        refine wq_ret2 rfl rfl rfl (fun w hw => ?_)
        exact ⟨(none, 0), trivial, by simp only [union_bad hU hx hcn]; rfl, by simp only [union_bad hU hx hcn]; exact Hp.addNil [] [] (hw.bare)⟩
      ·
        simp at hcn
        refine wc_skip ?_
        refine wq_block_normal ?_
        refine wq_then ?_
        refine wc_region ?_
        refine wl_y rfl (y_add rfl rfl (by omega)) ?_
        refine wl_y rfl (y_move rfl) ?_
        refine wl_nil ?_
        exact wq_round (i + 1, (withF A x).2, x21) (by simp only; omega) ⟨by simp only; omega, by have := withF_len A x; simp only; omega, hF.with hxm, union_step hU hx hcn⟩ ⟨rfl, rfl, rfl, rfl, trivial⟩ (fun w hw => hw.sub (by (repeat (first | exact pt_nil | apply pt0 | apply pt1 | apply pt2 | apply pt3 | apply pt4 | apply pt5 | apply pt6 | apply pt7 | apply pt8 | apply pt9 | apply pt10 | apply pt11 | apply pt12 | apply pt13 | apply pt14 | apply pt15 | apply pt16 | apply pt17))))
    ·
      simp at hck
      refine wc_exit ?_
      refine wq_then_exit (wq_then_exit (wq_block_exit ?_))
      refine wq_then ?_
      refine wc_seq ?_
      refine wc_region ?_
      refine wl_y rfl (y_move rfl) ?_
      refine wl_y rfl (y_assign rfl) ?_
      refine wl_y rfl (y_assign rfl) ?_
      refine wl_nil ?_
      refine wq_then ?_
      refine wc_ret ?_
      refine wq_ret2 rfl rfl rfl (fun w hw => ?_)
      exact ⟨p, trivial, by simp only [union_fin hU (show m.length ≤ i by omega)], by simp only [union_fin hU (show m.length ≤ i by omega)]; exact hw⟩

set_option maxHeartbeats 1000000 in
theorem runion_c (l : List Fl) (oo : Option Addr) (cc : Nat) (m : List Fl) (om : Option Addr) (cm : Nat) (hl : l.length ≤ 1000) (hml : m.length ≤ 1000) (hs : ∀ x ∈ l, x.1.length ≤ 9223372036854775806) (hm : ∀ x ∈ m, x.1.length ≤ 9223372036854775806) :
    Ctr Tryd.prog 29 #[.slice oo l.length cc, .slice om m.length cm] [rsl oo l.length 2 (l.flatMap encF), rsl om m.length 2 (m.flatMap encF)] [] (fun _ : Option Addr × Nat => True) (fun r => .tuple #[.slice r.1 (unionF l m).2.length r.2, vI (unionF l m).1]) (fun r => [slc 24 2 r.1 ((unionF l m).2).length r.2 (((unionF l m).2).flatMap encF)]) := by
  refine spec_start (n := 33) [(0, .slice oo l.length cc), (1, .slice om m.length cm)] Tryd.func29 rfl rfl ⟨rfl, rfl, trivial⟩ rfl ?_
  intro w0 K hR
  have hA := hR _ (List.mem_cons_self ..)
  have hB := hR _ (List.mem_cons_of_mem _ (List.mem_cons_self ..))
  refine wc_seq ?_
  refine wc_region ?_
  refine wl_y rfl (y_assign rfl) ?_
  refine wl_y rfl (y_assign rfl) ?_
  refine wl_nil ?_
  refine wq_then ?_
  refine wc_seq ?_
  refine wc_region ?_
  refine wl_y rfl (y_assign rfl) ?_
  refine wl_nil ?_
  refine wq_then ?_
  refine wc_seq ?_
  refine wc_region ?_
  refine wl_world (fun w hw => Hp.addNil (e := 24) (sz := 2) [] _ hw) ?_
  refine wl_y rfl (y_move rfl) ?_
  refine wl_y rfl (y_move rfl) ?_
  refine wl_w (fun _ _ => want_none) rfl (yw_append [] Tryd.underlying22 Tryd.underlying22 (.inl ⟨_, rfl⟩) T24 rfl rfl rfl (fun w hw => Src.slice (hA.seen hw)) (by omega) (by unfold maxLen; omega) (one_rows encF_one) (rows_length encF_len l)) (wl_ex fun p12 hp12 => ?_)
  refine wl_y rfl (y_assign rfl) ?_
  refine wl_same 6 (.slice p12.1 l.length p12.2) rfl (by rw [Nat.zero_add]) ?_
  refine wl_world (S' := Hp w0 K [slc 24 2 p12.1 (l).length p12.2 ((l).flatMap encF)]) (fun w hw => by rw [Nat.zero_add, List.nil_append] at hw; exact hw) ?_
  refine wl_nil ?_
  refine wq_then ?_
  refine wc_seq ?_
  refine wc_seq ?_
  refine wc_region ?_
  refine wl_y rfl (y_assign rfl) ?_
  refine wl_nil ?_
  refine wq_then ?_
  refine wc_block ?_
  refine wc_loop (α := Nat × List Fl × Option Addr × Nat) (fun y => y.1 ≤ m.length ∧ y.2.1.length ≤ 1000 ∧ From l m y.2.1 ∧ unionF l m = unionF y.2.1 (m.drop y.1)) [(1, _)] (fun y => [(7, vI y.1), (6, .slice y.2.2.1 y.2.1.length y.2.2.2)]) (fun y => Hp w0 K [slc 24 2 y.2.2.1 (y.2.1).length y.2.2.2 ((y.2.1).flatMap encF)]) (fun y => m.length - y.1) (0, l, p12) ?_ ⟨rfl, rfl, rfl, trivial⟩ ?_ ?_
  · exact ⟨Nat.zero_le _, hl, fun x hx => .inl hx, rfl⟩
  · exact fun w hw => hw.sub (by (repeat (first | exact pt_nil | apply pt0 | apply pt1 | apply pt2 | apply pt3 | apply pt4 | apply pt5 | apply pt6 | apply pt7 | apply pt8 | apply pt9 | apply pt10 | apply pt11 | apply pt12 | apply pt13 | apply pt14 | apply pt15 | apply pt16 | apply pt17)))
  · rintro ⟨i, A, p⟩ ⟨hi, hAl, hF, hU⟩; simp only at hi hAl hF hU
    refine wc_same 7 (vI i) rfl rfl ?_
    refine wc_same 6 (.slice p.1 A.length p.2) rfl rfl ?_
    refine wc_world (S' := Hp w0 K [slc 24 2 p.1 (A).length p.2 ((A).flatMap encF)]) (fun w hw => hw) ?_
    refine wc_seq ?_
    refine wc_seq ?_
    refine wc_region ?_
    refine wl_y rfl (y_move rfl) ?_
    refine wl_y rfl (y_move rfl) ?_
    refine wl_y rfl (y_lenSl Tryd.underlying22 rfl) ?_
    refine wl_y rfl (y_lss rfl rfl) ?_
    refine wl_nil ?_
    refine wq_then ?_
    refine wc_cond rfl (fun hck => ?_) (fun hck => ?_)
    ·
      simp at hck
      refine wc_skip ?_
      refine wq_then ?_
      refine wc_seq ?_
      refine wc_block ?_
      refine wc_seq ?_
      refine wc_region ?_
      obtain ⟨x, hx⟩ : ∃ x, m[i]? = some x := ⟨_, List.getElem?_eq_getElem (by omega)⟩
      have hxm := List.mem_of_getElem? hx
      refine wl_have (p := A.length ≤ p.2) (fun w hw => hw.slc_le []) (fun hAc => ?_)
      refine wl_y rfl (y_move rfl) ?_
      refine wl_y rfl (y_move rfl) ?_
      refine wl_y rfl (y_move rfl) ?_
      refine wl_y rfl (y_indexAddr Tryd.underlying22 T24 rfl rfl rfl (by omega) (by first | assumption | exact fun _ _ => rfl | exact fun _ _ => hB.isSome (by omega) | exact fun w hw => hw.slc_isSome [] (by omega) | exact fun w hw => hw.slc_isSome [_] (by omega) | exact fun w hw => hw.slc_isSome [_, _] (by omega) | exact fun w hw => hw.slc_isSome [_, _, _] (by omega))) ?_
      refine wl_y rfl (y_loadAgg (l := encF x) AG24 rfl rfl (by first | exact agg_ro hB (fun i u h => rows_get encF_len hx h) | exact agg_own [] (fun i u h => rows_get encF_len hx h) | exact agg_own [_] (fun i u h => rows_get encF_len hx h) | exact agg_own [_, _] (fun i u h => rows_get encF_len hx h) | exact agg_own [_, _, _] (fun i u h => rows_get encF_len hx h))) ?_
      refine wl_c (fun _ _ => want_none) rfl (yc_spec (fst := []) (cap := []) _ FN20 (rwith_c A p.1 p.2 x (by omega) hAc (fun y hy => (hF y hy).elim (hs y) (hm y)) (hm x hxm)) rfl rfl rfl (by (repeat (first | exact pt_nil | apply pt0 | apply pt1 | apply pt2 | apply pt3 | apply pt4 | apply pt5 | apply pt6 | apply pt7 | apply pt8 | apply pt9 | apply pt10 | apply pt11 | apply pt12 | apply pt13 | apply pt14 | apply pt15 | apply pt16 | apply pt17))) (by (repeat (first | exact ro_nil | exact ro_rest (by assumption) | refine ro_cons (by first | exact .inl (by assumption) | exact ro_f0 (fun _ h => h) | exact ro_f0 (fun _ => slc_rsl) | exact ro_f1 (fun _ h => h) | exact ro_f1 (fun _ => slc_rsl) | exact ro_f2 (fun _ h => h) | exact ro_f2 (fun _ => slc_rsl) | exact ro_f3 (fun _ h => h) | exact ro_f3 (fun _ => slc_rsl) | exact ro_f4 (fun _ h => h) | exact ro_f4 (fun _ => slc_rsl) | exact ro_f5 (fun _ h => h) | exact ro_f5 (fun _ => slc_rsl) | exact ro_f6 (fun _ h => h) | exact ro_f6 (fun _ => slc_rsl)) ?_)))) (wl_ex fun x25 hx25 => ?_)
      refine wl_y rfl (y_move rfl) ?_
      refine wl_y rfl (y_extract rfl rfl) ?_
      refine wl_y rfl (y_extract rfl rfl) ?_
      refine wl_y rfl (y_assign rfl) ?_
      refine wl_y rfl (y_assign rfl) ?_
      refine wl_nil ?_
      refine wq_then ?_
      refine wc_seq ?_
      refine wc_seq ?_
      refine wc_region ?_
      refine wl_y rfl (y_move rfl) ?_
      refine wl_y rfl (y_neqI rfl rfl) ?_
      refine wl_nil ?_
      refine wq_then ?_
      refine wc_cond rfl (fun hcn => ?_) (fun hcn => ?_)
      ·
        simp at hcn
        refine wc_seq ?_
        refine wc_region ?_
        refine wl_y rfl (y_move rfl) ?_
        refine wl_y rfl (y_assign rfl) ?_
        refine wl_y rfl (y_assign rfl) ?_
        refine wl_nil ?_
        refine wq_then ?_
        refine wc_ret ?_
        refine wq_then_ret (wq_block_ret (wq_then_ret (wq_then_ret (wq_block_ret (wq_then_ret ?_)))))
        refine wq_ret2 rfl rfl rfl (fun w hw => ?_)
        exact ⟨(none, 0), trivial, by simp only [union_bad hU hx hcn]; rfl, by simp only [union_bad hU hx hcn]; exact Hp.addNil [] [] (hw.bare)⟩
      ·
        simp at hcn
        refine wc_skip ?_
        refine wq_then ?_
        refine wc_region ?_
        refine wl_y rfl (y_move rfl) ?_
        refine wl_y rfl (y_assign rfl) ?_
        refine wl_nil ?_
        refine wq_block_normal ?_
        refine wq_then ?_
        refine wc_region ?_
        refine wl_y rfl (y_move rfl) ?_
        refine wl_y rfl (y_add rfl rfl (by omega)) ?_
        refine wl_y rfl (y_assign rfl) ?_
        refine wl_nil ?_
        exact wq_round (i + 1, (withF A x).2, x25) (by simp only; omega) ⟨by simp only; omega, by have := withF_len A x; simp only; omega, hF.with hxm, union_step hU hx hcn⟩ ⟨rfl, rfl, rfl, trivial⟩ (fun w hw => hw.sub (by (repeat (first | exact pt_nil | apply pt0 | apply pt1 | apply pt2 | apply pt3 | apply pt4 | apply pt5 | apply pt6 | apply pt7 | apply pt8 | apply pt9 | apply pt10 | apply pt11 | apply pt12 | apply pt13 | apply pt14 | apply pt15 | apply pt16 | apply pt17))))
    ·
      simp at hck
      refine wc_exit ?_
      refine wq_then_exit (wq_then_exit (wq_block_exit ?_))
      refine wq_then ?_
      refine wc_seq ?_
      refine wc_region ?_
      refine wl_y rfl (y_move rfl) ?_
      refine wl_y rfl (y_assign rfl) ?_
      refine wl_y rfl (y_assign rfl) ?_
      refine wl_nil ?_
      refine wq_then ?_
      refine wc_ret ?_
      refine wq_ret2 rfl rfl rfl (fun w hw => ?_)
      exact ⟨p, trivial, by simp only [union_fin hU (show m.length ≤ i by omega)], by simp only [union_fin hU (show m.length ≤ i by omega)]; exact hw⟩

end Go.Proofs.YtemopomapankmaaDoor
