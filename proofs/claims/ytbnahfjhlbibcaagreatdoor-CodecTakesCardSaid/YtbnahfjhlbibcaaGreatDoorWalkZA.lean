/-
  Walks: the reference reads files and targets.
-/
import Derived.Test.YtbnahfjhlbibcaaGreatDoorWalkR
import Derived.Test.YtbnahfjhlbibcaaGreatDoorWalkJ
namespace Go.Proofs.YtbnahfjhlbibcaaGreatDoor
open Go.Eng

open Go.Lib
section
variable {α : Type} {f : Rdr' → Rdr' × α} {s : Str}
theorem rdX_bad (h : (rdL s).2 ≠ 0) : rdThings f s = ([], (rdL s).2) := if_pos h
theorem rdX_none (h : (rdL s).2 = 0) (h2 : rdAll f (rdL s).1 = none) : rdThings f s = ([], 11) := by
  rw [rdThings, if_neg (fun e => e h)]; simp only [h2]
theorem rdX_some {l : List α} (h : (rdL s).2 = 0) (h2 : rdAll f (rdL s).1 = some l) : rdThings f s = (l, 0) := by
  rw [rdThings, if_neg (fun e => e h)]; simp only [h2]
theorem rdX_bnd (s : Str) : 3 * (rdL s).1.length ≤ s.length ∧ ∀ x ∈ (rdL s).1, x.length ≤ s.length := by
  unfold rdL
  split
  · simp
  · exact list_bnd ⟨s, 0⟩
theorem rdAll_len : ∀ {l : List Str} {r : List α}, rdAll f l = some r → r.length = l.length
  | [], r, h => by simp only [rdAll, Option.some.injEq] at h; subst h; rfl
  | s :: l, r, h => by
    rw [rdAll] at h
    split at h
    · cases h
    · cases hq : rdAll f l with
      | none => rw [hq] at h; cases h
      | some q =>
        rw [hq] at h
        simp only [Option.map_some, Option.some.injEq] at h
        subst h
        rw [List.length_cons, List.length_cons, rdAll_len hq]
theorem rdX_len (s : Str) : (rdThings f s).1.length ≤ s.length := by
  by_cases h : (rdL s).2 = 0
  · cases hq : rdAll f (rdL s).1 with
    | none => rw [rdX_none h hq]; simp
    | some l => rw [rdX_some h hq]; have h1 := rdAll_len hq; have h2 := (rdX_bnd s).1; simp only; omega
  · rw [rdX_bad h]; simp
end
set_option maxHeartbeats 1000000 in
theorem rlist9_c (data : Str) (hl : data.length ≤ 1000000000) :
    Ctr Tryz.prog 74 #[vS data] [] [] (fun _ : Option Addr × Nat => True) (fun x => .tuple #[.slice x.1 (rdL data).1.length x.2, vI (rdL data).2]) (fun x => [slc 9 1 x.1 (rdL data).1.length x.2 ((rdL data).1.map vS)]) := by
  refine spec_start (n := 18) [(0, vS data)] Tryz.func74 rfl rfl ⟨rfl, trivial⟩ rfl ?_
  intro w0 K hR
  refine wc_seq ?_
  refine wc_region ?_
  refine wl_y rfl (y_assign rfl) ?_
  refine wl_y rfl (y_assign rfl) ?_
  refine wl_nil ?_
  refine wq_then ?_
  refine wc_seq ?_
  refine wc_region ?_
  refine wl_y rfl (y_move rfl) ?_
  refine wl_y rfl (y_build (cs := [_, _]) T72 PL72 rfl rfl rfl) ?_
  refine wl_w (fun _ _ => want_none) rfl (yw_box rfl rfl) (wl_ex fun b9 _ => ?_)
  refine wl_y rfl (y_assign rfl) ?_
  refine wl_nil ?_
  refine wq_then ?_
  refine wc_seq ?_
  refine wc_region ?_
  refine wl_y rfl (y_move rfl) ?_
  refine wl_c (fun _ _ => want_none) rfl (yc_spec (fst := []) (cap := []) _ FN30 (rlist_p b9 ⟨data, 0⟩ hl) rfl rfl rfl (by (repeat (first | exact pt_nil | apply pt0 | apply pt1 | apply pt2 | apply pt3 | apply pt4 | apply pt5 | apply pt6 | apply pt7 | apply pt8 | apply pt9 | apply pt10 | apply pt11 | apply pt12 | apply pt13 | apply pt14 | apply pt15 | apply pt16 | apply pt17))) (by (repeat (first | exact ro_nil | exact ro_rest (by assumption) | refine ro_cons (by first | exact .inl (by assumption) | exact ro_f0 (fun _ h => h) | exact ro_f0 (fun _ => slc_rsl) | exact ro_f1 (fun _ h => h) | exact ro_f1 (fun _ => slc_rsl) | exact ro_f2 (fun _ h => h) | exact ro_f2 (fun _ => slc_rsl) | exact ro_f3 (fun _ h => h) | exact ro_f3 (fun _ => slc_rsl) | exact ro_f4 (fun _ h => h) | exact ro_f4 (fun _ => slc_rsl) | exact ro_f5 (fun _ h => h) | exact ro_f5 (fun _ => slc_rsl) | exact ro_f6 (fun _ h => h) | exact ro_f6 (fun _ => slc_rsl)) ?_)))) (wl_ex fun x11 hx11 => ?_)
  refine wl_y rfl (y_assign rfl) ?_
  refine wl_nil ?_
  refine wq_then ?_
  refine wc_seq ?_
  refine wc_region ?_
  refine wl_y rfl (y_move rfl) ?_
  refine wl_q (fun _ _ => want_none) rfl (yq_spec (fst := []) (cap := []) _ FN31 (rend_p b9 (Rdr'.mk data 0).list.1) rfl rfl rfl (by (repeat (first | exact pt_nil | apply pt0 | apply pt1 | apply pt2 | apply pt3 | apply pt4 | apply pt5 | apply pt6 | apply pt7 | apply pt8 | apply pt9 | apply pt10 | apply pt11 | apply pt12 | apply pt13 | apply pt14 | apply pt15 | apply pt16 | apply pt17))) (by (repeat (first | exact ro_nil | exact ro_rest (by assumption) | refine ro_cons (by first | exact .inl (by assumption) | exact ro_f0 (fun _ h => h) | exact ro_f0 (fun _ => slc_rsl) | exact ro_f1 (fun _ h => h) | exact ro_f1 (fun _ => slc_rsl) | exact ro_f2 (fun _ h => h) | exact ro_f2 (fun _ => slc_rsl) | exact ro_f3 (fun _ h => h) | exact ro_f3 (fun _ => slc_rsl) | exact ro_f4 (fun _ h => h) | exact ro_f4 (fun _ => slc_rsl) | exact ro_f5 (fun _ h => h) | exact ro_f5 (fun _ => slc_rsl) | exact ro_f6 (fun _ h => h) | exact ro_f6 (fun _ => slc_rsl)) ?_))) (fun _ _ => rfl) (fun _ _ _ h => h.sub (by (repeat (first | exact pt_nil | apply pt0 | apply pt1 | apply pt2 | apply pt3 | apply pt4 | apply pt5 | apply pt6 | apply pt7 | apply pt8 | apply pt9 | apply pt10 | apply pt11 | apply pt12 | apply pt13 | apply pt14 | apply pt15 | apply pt16 | apply pt17))))) ?_
  refine wl_y rfl (y_assign rfl) ?_
  refine wl_nil ?_
  refine wq_then ?_
  refine wc_seq ?_
  refine wc_seq ?_
  refine wc_region ?_
  refine wl_y rfl (y_move rfl) ?_
  refine wl_y rfl (y_neqI rfl rfl) ?_
  refine wl_nil ?_
  refine wq_then ?_
  refine wc_cond rfl (fun hc15 => ?_) (fun hc15 => ?_)
  ·
    simp at hc15
    refine wc_seq ?_
    refine wc_region ?_
    refine wl_y rfl (y_move rfl) ?_
    refine wl_y rfl (y_assign rfl) ?_
    refine wl_y rfl (y_assign rfl) ?_
    refine wl_nil ?_
    refine wq_then ?_
    refine wc_ret ?_
    refine wq_then_ret ?_
    refine wq_ret2 rfl rfl rfl (fun w hw => ?_)
    rw [rdL_bad (by omega)]; exact ⟨(none, 0), trivial, rfl, Hp.addNil [] _ hw.bare⟩
  ·
    simp at hc15
    refine wc_skip ?_
    refine wq_then ?_
    refine wc_seq ?_
    refine wc_region ?_
    refine wl_y rfl (y_move rfl) ?_
    refine wl_y rfl (y_assign rfl) ?_
    refine wl_y rfl (y_assign rfl) ?_
    refine wl_nil ?_
    refine wq_then ?_
    refine wc_ret ?_
    refine wq_ret2 rfl rfl rfl (fun w hw => ?_)
    rw [rdL_ok (by omega)]; exact ⟨x11, trivial, rfl, hw.sub (by (repeat (first | exact pt_nil | apply pt0 | apply pt1 | apply pt2 | apply pt3 | apply pt4 | apply pt5 | apply pt6 | apply pt7 | apply pt8 | apply pt9 | apply pt10 | apply pt11 | apply pt12 | apply pt13 | apply pt14 | apply pt15 | apply pt16 | apply pt17)))⟩

set_option maxHeartbeats 1000000 in
theorem rreadF_c (data : Str) (hl : data.length ≤ 1000000000) :
    Ctr Tryz.prog 57 #[vS data] [] [] (fun x : Sl PF => x.xs = (rdFiles data).1) (fun x => .tuple #[vSl x, vI (rdFiles data).2]) (fun x => [filesA x]) := by
  refine spec_start (n := 44) [(0, vS data)] Tryz.func57 rfl rfl ⟨rfl, trivial⟩ rfl ?_
  intro w0 K hR
  obtain ⟨hln, hlb⟩ := rdX_bnd data
  refine wc_seq ?_
  refine wc_region ?_
  refine wl_y rfl (y_assign rfl) ?_
  refine wl_y rfl (y_assign rfl) ?_
  refine wl_nil ?_
  refine wq_then ?_
  refine wc_seq ?_
  refine wc_region ?_
  refine wl_y rfl (y_move rfl) ?_
  refine wl_c (fun _ _ => want_none) rfl (yc_spec (fst := []) (cap := []) _ FN74 (rlist9_c data hl) rfl rfl rfl (by (repeat (first | exact pt_nil | apply pt0 | apply pt1 | apply pt2 | apply pt3 | apply pt4 | apply pt5 | apply pt6 | apply pt7 | apply pt8 | apply pt9 | apply pt10 | apply pt11 | apply pt12 | apply pt13 | apply pt14 | apply pt15 | apply pt16 | apply pt17))) (by (repeat (first | exact ro_nil | exact ro_rest (by assumption) | refine ro_cons (by first | exact .inl (by assumption) | exact ro_f0 (fun _ h => h) | exact ro_f0 (fun _ => slc_rsl) | exact ro_f1 (fun _ h => h) | exact ro_f1 (fun _ => slc_rsl) | exact ro_f2 (fun _ h => h) | exact ro_f2 (fun _ => slc_rsl) | exact ro_f3 (fun _ h => h) | exact ro_f3 (fun _ => slc_rsl) | exact ro_f4 (fun _ h => h) | exact ro_f4 (fun _ => slc_rsl) | exact ro_f5 (fun _ h => h) | exact ro_f5 (fun _ => slc_rsl) | exact ro_f6 (fun _ h => h) | exact ro_f6 (fun _ => slc_rsl)) ?_)))) (wl_ex fun x12 hx12 => ?_)
  refine wl_y rfl (y_move rfl) ?_
  refine wl_y rfl (y_extract rfl rfl) ?_
  refine wl_y rfl (y_extract rfl rfl) ?_
  refine wl_y rfl (y_assign rfl) ?_
  refine wl_y rfl (y_assign rfl) ?_
  refine wl_nil ?_
  refine wq_then ?_
  refine wc_seq ?_
  refine wc_seq ?_
  refine wc_region ?_
  refine wl_y rfl (y_move rfl) ?_
  refine wl_y rfl (y_neqI rfl rfl) ?_
  refine wl_nil ?_
  refine wq_then ?_
  refine wc_cond rfl (fun hc16 => ?_) (fun hc16 => ?_)
  ·
    simp at hc16
    refine wc_seq ?_
    refine wc_region ?_
    refine wl_y rfl (y_move rfl) ?_
    refine wl_y rfl (y_assign rfl) ?_
    refine wl_y rfl (y_assign rfl) ?_
    refine wl_nil ?_
    refine wq_then ?_
    refine wc_ret ?_
    refine wq_then_ret ?_
    refine wq_ret2 rfl rfl rfl (fun w hw => ?_)
    rw [show rdFiles data = _ from rdX_bad (by omega)]; exact ⟨⟨none, 0, []⟩, rfl, rfl, hp_files (e := 9) (Hp.addNil [] _ hw.bare)⟩
  ·
    simp at hc16
    refine wc_skip ?_
    refine wq_then ?_
    refine wc_seq ?_
    refine wc_region ?_
    refine wl_y rfl (y_assign rfl) ?_
    refine wl_nil ?_
    refine wq_then ?_
    refine wc_seq ?_
    refine wc_seq ?_
    refine wc_region ?_
    refine wl_y rfl (y_assign rfl) ?_
    refine wl_nil ?_
    refine wq_then ?_
    refine wc_block ?_
    refine wc_loop (α := Nat × List PF × Option Addr × Nat) (fun y => y.1 ≤ (rdL data).1.length ∧ y.2.1.length = y.1 ∧ rdAll tkFile ((rdL data).1.take y.1) = some y.2.1) [(4, _)] (fun y => [(7, vI y.1), (6, .slice y.2.2.1 y.1 y.2.2.2)]) (fun y => Hp w0 K [slc 108 2 y.2.2.1 y.1 y.2.2.2 (y.2.1.flatMap encF), slc 9 1 x12.1 (rdL data).1.length x12.2 ((rdL data).1.map vS)]) (fun y => (rdL data).1.length - y.1) (0, [], none, 0) ?_ ⟨rfl, rfl, rfl, trivial⟩ ?_ ?_
    · exact ⟨Nat.zero_le _, rfl, rfl⟩
    · exact fun w hw => Hp.addNil [] _ (hw.sub (by (repeat (first | exact pt_nil | apply pt0 | apply pt1 | apply pt2 | apply pt3 | apply pt4 | apply pt5 | apply pt6 | apply pt7 | apply pt8 | apply pt9 | apply pt10 | apply pt11 | apply pt12 | apply pt13 | apply pt14 | apply pt15 | apply pt16 | apply pt17))))
    · rintro ⟨i, acc, a, cap⟩ ⟨hi, hal, hI⟩; simp only at hi hal hI
      refine wc_world (S' := Hp w0 K [slc 108 2 a i cap (acc.flatMap encF), slc 9 1 x12.1 (rdL data).1.length x12.2 ((rdL data).1.map vS)]) (fun w hw => hw) ?_
      refine wc_same 7 (vI i) rfl rfl ?_
      refine wc_same 6 (.slice a i cap) rfl rfl ?_
      refine wc_seq ?_
      refine wc_seq ?_
      refine wc_region ?_
      refine wl_y rfl (y_move rfl) ?_
      refine wl_y rfl (y_move rfl) ?_
      refine wl_y rfl (y_lenSl Tryz.underlying39 rfl) ?_
      refine wl_y rfl (y_lss rfl rfl) ?_
      refine wl_nil ?_
      refine wq_then ?_
      refine wc_cond rfl (fun hc21 => ?_) (fun hc21 => ?_)
      ·
        simp at hc21
        refine wc_skip ?_
        refine wq_then ?_
        refine wc_seq ?_
        refine wc_block ?_
        refine wc_seq ?_
        refine wc_region ?_
        obtain ⟨x, hx⟩ : ∃ x, (rdL data).1[i]? = some x := ⟨_, List.getElem?_eq_getElem (by omega)⟩
        have hxl := hlb x (List.mem_of_getElem? hx)
        have hb1 := text_bounds ⟨x, 0⟩
        simp only at hb1
        refine wl_y rfl (y_move rfl) ?_
        refine wl_y rfl (y_move rfl) ?_
        refine wl_y rfl (y_indexAddr Tryz.underlying39 T9 rfl rfl rfl (by omega) (fun w hw => hw.slc_isSome [_] (by omega))) ?_
        refine wl_y rfl (y_load NA9 rfl (cell_own [_] (row_at hx))) ?_
        refine wl_y rfl (y_build (cs := [_, _]) T72 PL72 rfl rfl rfl) ?_
        refine wl_w (fun _ _ => want_none) rfl (yw_box rfl rfl) (wl_ex fun b29 _ => ?_)
        refine wl_y rfl (y_assign rfl) ?_
        refine wl_nil ?_
        refine wq_then ?_
        refine wc_seq ?_
        refine wc_region ?_
        refine wl_w (fun _ _ => want_none) rfl (yw_alloc T108 rfl) (wl_ex fun b9 _ => ?_)
        refine wl_nil ?_
        refine wq_then ?_
        refine wc_seq ?_
        refine wc_region ?_
        refine wl_y rfl (y_move rfl) ?_
        refine wl_c (fun _ _ => want_none) rfl (yc_spec (fst := []) (cap := []) _ FN38 (rtext_p b29 ⟨x, 0⟩ (by simp only; omega)) rfl rfl rfl (by (repeat (first | exact pt_nil | apply pt0 | apply pt1 | apply pt2 | apply pt3 | apply pt4 | apply pt5 | apply pt6 | apply pt7 | apply pt8 | apply pt9 | apply pt10 | apply pt11 | apply pt12 | apply pt13 | apply pt14 | apply pt15 | apply pt16 | apply pt17))) (by (repeat (first | exact ro_nil | exact ro_rest (by assumption) | refine ro_cons (by first | exact .inl (by assumption) | exact ro_f0 (fun _ h => h) | exact ro_f0 (fun _ => slc_rsl) | exact ro_f1 (fun _ h => h) | exact ro_f1 (fun _ => slc_rsl) | exact ro_f2 (fun _ h => h) | exact ro_f2 (fun _ => slc_rsl) | exact ro_f3 (fun _ h => h) | exact ro_f3 (fun _ => slc_rsl) | exact ro_f4 (fun _ h => h) | exact ro_f4 (fun _ => slc_rsl) | exact ro_f5 (fun _ h => h) | exact ro_f5 (fun _ => slc_rsl) | exact ro_f6 (fun _ h => h) | exact ro_f6 (fun _ => slc_rsl)) ?_)))) (wl_ex fun x31 hx31 => ?_)
        refine wl_y rfl (y_fieldAddr F108_0 rfl) ?_
        first | refine wl_u (yu_store [] (l' := [_, _]) T9 rfl rfl rfl rfl rfl rfl rfl) ?_ | refine wl_u (yu_store [_] (l' := [_, _]) T9 rfl rfl rfl rfl rfl rfl rfl) ?_ | refine wl_u (yu_store [_, _] (l' := [_, _]) T9 rfl rfl rfl rfl rfl rfl rfl) ?_ | refine wl_u (yu_store [_, _, _] (l' := [_, _]) T9 rfl rfl rfl rfl rfl rfl rfl) ?_ | refine wl_u (yu_store [_, _, _, _] (l' := [_, _]) T9 rfl rfl rfl rfl rfl rfl rfl) ?_ | refine wl_u (yu_store [_, _, _, _, _] (l' := [_, _]) T9 rfl rfl rfl rfl rfl rfl rfl) ?_ | refine wl_u (yu_store [_, _, _, _, _, _] (l' := [_, _]) T9 rfl rfl rfl rfl rfl rfl rfl) ?_ | refine wl_u (yu_store [_, _, _, _, _, _, _] (l' := [_, _]) T9 rfl rfl rfl rfl rfl rfl rfl) ?_
        refine wl_nil ?_
        refine wq_then ?_
        refine wc_seq ?_
        refine wc_region ?_
        refine wl_y rfl (y_move rfl) ?_
        refine wl_c (fun _ _ => want_none) rfl (yc_spec (fst := []) (cap := []) _ FN38 (rtext_p b29 (Rdr'.mk x 0).text.1 (by omega)) rfl rfl rfl (by (repeat (first | exact pt_nil | apply pt0 | apply pt1 | apply pt2 | apply pt3 | apply pt4 | apply pt5 | apply pt6 | apply pt7 | apply pt8 | apply pt9 | apply pt10 | apply pt11 | apply pt12 | apply pt13 | apply pt14 | apply pt15 | apply pt16 | apply pt17))) (by (repeat (first | exact ro_nil | exact ro_rest (by assumption) | refine ro_cons (by first | exact .inl (by assumption) | exact ro_f0 (fun _ h => h) | exact ro_f0 (fun _ => slc_rsl) | exact ro_f1 (fun _ h => h) | exact ro_f1 (fun _ => slc_rsl) | exact ro_f2 (fun _ h => h) | exact ro_f2 (fun _ => slc_rsl) | exact ro_f3 (fun _ h => h) | exact ro_f3 (fun _ => slc_rsl) | exact ro_f4 (fun _ h => h) | exact ro_f4 (fun _ => slc_rsl) | exact ro_f5 (fun _ h => h) | exact ro_f5 (fun _ => slc_rsl) | exact ro_f6 (fun _ h => h) | exact ro_f6 (fun _ => slc_rsl)) ?_)))) (wl_ex fun x34 hx34 => ?_)
        refine wl_y rfl (y_fieldAddr F108_1 rfl) ?_
        first | refine wl_u (yu_store [] (l' := [_, _]) T9 rfl rfl rfl rfl rfl rfl rfl) ?_ | refine wl_u (yu_store [_] (l' := [_, _]) T9 rfl rfl rfl rfl rfl rfl rfl) ?_ | refine wl_u (yu_store [_, _] (l' := [_, _]) T9 rfl rfl rfl rfl rfl rfl rfl) ?_ | refine wl_u (yu_store [_, _, _] (l' := [_, _]) T9 rfl rfl rfl rfl rfl rfl rfl) ?_ | refine wl_u (yu_store [_, _, _, _] (l' := [_, _]) T9 rfl rfl rfl rfl rfl rfl rfl) ?_ | refine wl_u (yu_store [_, _, _, _, _] (l' := [_, _]) T9 rfl rfl rfl rfl rfl rfl rfl) ?_ | refine wl_u (yu_store [_, _, _, _, _, _] (l' := [_, _]) T9 rfl rfl rfl rfl rfl rfl rfl) ?_ | refine wl_u (yu_store [_, _, _, _, _, _, _] (l' := [_, _]) T9 rfl rfl rfl rfl rfl rfl rfl) ?_
        refine wl_nil ?_
        refine wq_then ?_
        refine wc_seq ?_
        refine wc_seq ?_
        refine wc_region ?_
        refine wl_y rfl (y_move rfl) ?_
        refine wl_q (fun _ _ => want_none) rfl (yq_spec (fst := []) (cap := []) _ FN31 (rend_p b29 (tkFile ⟨x, 0⟩).1) rfl rfl rfl (by (repeat (first | exact pt_nil | apply pt0 | apply pt1 | apply pt2 | apply pt3 | apply pt4 | apply pt5 | apply pt6 | apply pt7 | apply pt8 | apply pt9 | apply pt10 | apply pt11 | apply pt12 | apply pt13 | apply pt14 | apply pt15 | apply pt16 | apply pt17))) (by (repeat (first | exact ro_nil | exact ro_rest (by assumption) | refine ro_cons (by first | exact .inl (by assumption) | exact ro_f0 (fun _ h => h) | exact ro_f0 (fun _ => slc_rsl) | exact ro_f1 (fun _ h => h) | exact ro_f1 (fun _ => slc_rsl) | exact ro_f2 (fun _ h => h) | exact ro_f2 (fun _ => slc_rsl) | exact ro_f3 (fun _ h => h) | exact ro_f3 (fun _ => slc_rsl) | exact ro_f4 (fun _ h => h) | exact ro_f4 (fun _ => slc_rsl) | exact ro_f5 (fun _ h => h) | exact ro_f5 (fun _ => slc_rsl) | exact ro_f6 (fun _ h => h) | exact ro_f6 (fun _ => slc_rsl)) ?_))) (fun _ _ => rfl) (fun _ _ _ h => h.sub (by (repeat (first | exact pt_nil | apply pt0 | apply pt1 | apply pt2 | apply pt3 | apply pt4 | apply pt5 | apply pt6 | apply pt7 | apply pt8 | apply pt9 | apply pt10 | apply pt11 | apply pt12 | apply pt13 | apply pt14 | apply pt15 | apply pt16 | apply pt17))))) ?_
        refine wl_y rfl (y_neqI rfl rfl) ?_
        refine wl_nil ?_
        refine wq_then ?_
        refine wc_cond rfl (fun hcE => ?_) (fun hcE => ?_)
        ·
          simp at hcE
          refine wc_seq ?_
          refine wc_region ?_
          refine wl_y rfl (y_assign rfl) ?_
          refine wl_y rfl (y_assign rfl) ?_
          refine wl_nil ?_
          refine wq_then ?_
          refine wc_ret ?_
          refine wq_then_ret (wq_block_ret (wq_then_ret (wq_then_ret (wq_block_ret (wq_then_ret ?_)))))
          refine wq_ret2 rfl rfl rfl (fun w hw => ?_)
          rw [show rdFiles data = _ from rdX_none (by omega) (rdAll_fail hx hI (by omega))]; exact ⟨⟨none, 0, []⟩, rfl, rfl, hp_files (e := 9) (Hp.addNil [] _ hw.bare)⟩
        ·
          simp at hcE
          refine wc_skip ?_
          refine wq_then ?_
          refine wc_region ?_
          refine wl_y rfl (y_move rfl) ?_
          refine wl_y rfl (y_loadAgg (l := [_, _]) AG108 rfl rfl (by first | exact cells_blk [] rfl | exact cells_blk [_] rfl | exact cells_blk [_, _] rfl | exact cells_blk [_, _, _] rfl | exact cells_blk [_, _, _, _] rfl | exact cells_blk [_, _, _, _, _] rfl | exact cells_blk [_, _, _, _, _, _] rfl | exact cells_blk [_, _, _, _, _, _, _] rfl | exact cellsR_blk (by assumption) rfl)) ?_
          refine wl_w (fun _ _ => want_none) rfl (yw_buildSlice (cs := encF (tkFile ⟨x, 0⟩).2) Tryz.underlying24 T108 rfl rfl rfl rfl rfl rfl rfl) (wl_ex fun b41 _ => ?_)
          first | refine wl_w (fun _ _ => want_none) rfl (yw_append (m := 1) [] (cs := acc.flatMap encF) (news := encF (tkFile ⟨x, 0⟩).2) Tryz.underlying24 Tryz.underlying24 (.inl ⟨_, rfl⟩) T108 rfl rfl rfl (fun w hw => Src.slice ((hw.seen []).mono fun _ => slc_rsl)) (by omega) (by unfold maxLen; omega) (by simp [Value.oneCell']) rfl) (wl_ex fun p42 hp42 => ?_) | refine wl_w (fun _ _ => want_none) rfl (yw_append (m := 1) [_] (cs := acc.flatMap encF) (news := encF (tkFile ⟨x, 0⟩).2) Tryz.underlying24 Tryz.underlying24 (.inl ⟨_, rfl⟩) T108 rfl rfl rfl (fun w hw => Src.slice ((hw.seen []).mono fun _ => slc_rsl)) (by omega) (by unfold maxLen; omega) (by simp [Value.oneCell']) rfl) (wl_ex fun p42 hp42 => ?_) | refine wl_w (fun _ _ => want_none) rfl (yw_append (m := 1) [_, _] (cs := acc.flatMap encF) (news := encF (tkFile ⟨x, 0⟩).2) Tryz.underlying24 Tryz.underlying24 (.inl ⟨_, rfl⟩) T108 rfl rfl rfl (fun w hw => Src.slice ((hw.seen []).mono fun _ => slc_rsl)) (by omega) (by unfold maxLen; omega) (by simp [Value.oneCell']) rfl) (wl_ex fun p42 hp42 => ?_) | refine wl_w (fun _ _ => want_none) rfl (yw_append (m := 1) [_, _, _] (cs := acc.flatMap encF) (news := encF (tkFile ⟨x, 0⟩).2) Tryz.underlying24 Tryz.underlying24 (.inl ⟨_, rfl⟩) T108 rfl rfl rfl (fun w hw => Src.slice ((hw.seen []).mono fun _ => slc_rsl)) (by omega) (by unfold maxLen; omega) (by simp [Value.oneCell']) rfl) (wl_ex fun p42 hp42 => ?_) | refine wl_w (fun _ _ => want_none) rfl (yw_append (m := 1) [_, _, _, _] (cs := acc.flatMap encF) (news := encF (tkFile ⟨x, 0⟩).2) Tryz.underlying24 Tryz.underlying24 (.inl ⟨_, rfl⟩) T108 rfl rfl rfl (fun w hw => Src.slice ((hw.seen []).mono fun _ => slc_rsl)) (by omega) (by unfold maxLen; omega) (by simp [Value.oneCell']) rfl) (wl_ex fun p42 hp42 => ?_) | refine wl_w (fun _ _ => want_none) rfl (yw_append (m := 1) [_, _, _, _, _] (cs := acc.flatMap encF) (news := encF (tkFile ⟨x, 0⟩).2) Tryz.underlying24 Tryz.underlying24 (.inl ⟨_, rfl⟩) T108 rfl rfl rfl (fun w hw => Src.slice ((hw.seen []).mono fun _ => slc_rsl)) (by omega) (by unfold maxLen; omega) (by simp [Value.oneCell']) rfl) (wl_ex fun p42 hp42 => ?_) | refine wl_w (fun _ _ => want_none) rfl (yw_append (m := 1) [_, _, _, _, _, _] (cs := acc.flatMap encF) (news := encF (tkFile ⟨x, 0⟩).2) Tryz.underlying24 Tryz.underlying24 (.inl ⟨_, rfl⟩) T108 rfl rfl rfl (fun w hw => Src.slice ((hw.seen []).mono fun _ => slc_rsl)) (by omega) (by unfold maxLen; omega) (by simp [Value.oneCell']) rfl) (wl_ex fun p42 hp42 => ?_)
          refine wl_y rfl (y_assign rfl) ?_
          refine wl_nil ?_
          refine wq_block_normal ?_
          refine wq_then ?_
          refine wc_region ?_
          refine wl_y rfl (y_move rfl) ?_
          refine wl_y rfl (y_add rfl rfl (by omega)) ?_
          refine wl_y rfl (y_assign rfl) ?_
          refine wl_nil ?_
          exact wq_round (i + 1, acc ++ [(tkFile ⟨x, 0⟩).2], p42.1, p42.2) (by simp only; omega) ⟨by simp only; omega, by simp only [List.length_append, List.length_singleton]; omega, rdAll_next hx hI (by omega)⟩ ⟨rfl, rfl, rfl, trivial⟩ (fun w hw => by simp only [List.flatMap_append, List.flatMap_cons, List.flatMap_nil, List.append_nil]; exact hw.sub (by (repeat (first | exact pt_nil | apply pt0 | apply pt1 | apply pt2 | apply pt3 | apply pt4 | apply pt5 | apply pt6 | apply pt7 | apply pt8 | apply pt9 | apply pt10 | apply pt11 | apply pt12 | apply pt13 | apply pt14 | apply pt15 | apply pt16 | apply pt17))))
      ·
        simp at hc21
        refine wc_exit ?_
        refine wq_then_exit (wq_then_exit (wq_block_exit ?_))
        refine wq_then ?_
        refine wc_seq ?_
        refine wc_region ?_
        refine wl_y rfl (y_move rfl) ?_
        refine wl_y rfl (y_assign rfl) ?_
        refine wl_y rfl (y_assign rfl) ?_
        refine wl_nil ?_
        refine wq_then ?_
        refine wc_ret ?_
        refine wq_ret2 rfl rfl rfl (fun w hw => ?_)
        rw [show i = (rdL data).1.length by omega, List.take_length] at hI
        rw [show rdFiles data = _ from rdX_some (by omega) hI]; exact ⟨⟨a, cap, acc⟩, rfl, by rw [← hal], by rw [← hal] at hw; exact hp_files (hw.sub (by (repeat (first | exact pt_nil | apply pt0 | apply pt1 | apply pt2 | apply pt3 | apply pt4 | apply pt5 | apply pt6 | apply pt7 | apply pt8 | apply pt9 | apply pt10 | apply pt11 | apply pt12 | apply pt13 | apply pt14 | apply pt15 | apply pt16 | apply pt17))))⟩

set_option maxHeartbeats 1000000 in
theorem rreadT_c (data : Str) (hl : data.length ≤ 1000000000) :
    Ctr Tryz.prog 70 #[vS data] [] [] (fun x : Sl TgV => grE x = (rdGraph data).1) (fun x => .tuple #[vSl x, vI (rdGraph data).2]) (fun x => [graphA x]) := by
  refine spec_start (n := 50) [(0, vS data)] Tryz.func70 rfl rfl ⟨rfl, trivial⟩ rfl ?_
  intro w0 K hR
  obtain ⟨hln, hlb⟩ := rdX_bnd data
  refine wc_seq ?_
  refine wc_region ?_
  refine wl_y rfl (y_assign rfl) ?_
  refine wl_y rfl (y_assign rfl) ?_
  refine wl_nil ?_
  refine wq_then ?_
  refine wc_seq ?_
  refine wc_region ?_
  refine wl_y rfl (y_move rfl) ?_
  refine wl_c (fun _ _ => want_none) rfl (yc_spec (fst := []) (cap := []) _ FN74 (rlist9_c data hl) rfl rfl rfl (by (repeat (first | exact pt_nil | apply pt0 | apply pt1 | apply pt2 | apply pt3 | apply pt4 | apply pt5 | apply pt6 | apply pt7 | apply pt8 | apply pt9 | apply pt10 | apply pt11 | apply pt12 | apply pt13 | apply pt14 | apply pt15 | apply pt16 | apply pt17))) (by (repeat (first | exact ro_nil | exact ro_rest (by assumption) | refine ro_cons (by first | exact .inl (by assumption) | exact ro_f0 (fun _ h => h) | exact ro_f0 (fun _ => slc_rsl) | exact ro_f1 (fun _ h => h) | exact ro_f1 (fun _ => slc_rsl) | exact ro_f2 (fun _ h => h) | exact ro_f2 (fun _ => slc_rsl) | exact ro_f3 (fun _ h => h) | exact ro_f3 (fun _ => slc_rsl) | exact ro_f4 (fun _ h => h) | exact ro_f4 (fun _ => slc_rsl) | exact ro_f5 (fun _ h => h) | exact ro_f5 (fun _ => slc_rsl) | exact ro_f6 (fun _ h => h) | exact ro_f6 (fun _ => slc_rsl)) ?_)))) (wl_ex fun x12 hx12 => ?_)
  refine wl_y rfl (y_move rfl) ?_
  refine wl_y rfl (y_extract rfl rfl) ?_
  refine wl_y rfl (y_extract rfl rfl) ?_
  refine wl_y rfl (y_assign rfl) ?_
  refine wl_y rfl (y_assign rfl) ?_
  refine wl_nil ?_
  refine wq_then ?_
  refine wc_seq ?_
  refine wc_seq ?_
  refine wc_region ?_
  refine wl_y rfl (y_move rfl) ?_
  refine wl_y rfl (y_neqI rfl rfl) ?_
  refine wl_nil ?_
  refine wq_then ?_
  refine wc_cond rfl (fun hc16 => ?_) (fun hc16 => ?_)
  ·
    simp at hc16
    refine wc_seq ?_
    refine wc_region ?_
    refine wl_y rfl (y_move rfl) ?_
    refine wl_y rfl (y_assign rfl) ?_
    refine wl_y rfl (y_assign rfl) ?_
    refine wl_nil ?_
    refine wq_then ?_
    refine wc_ret ?_
    refine wq_then_ret ?_
    refine wq_ret2 rfl rfl rfl (fun w hw => ?_)
    rw [show rdGraph data = _ from rdX_bad (by omega)]; exact ⟨⟨none, 0, []⟩, rfl, rfl, hp_graph (e := 9) (Hp.addNil [] _ (tgs_nil hw.bare))⟩
  ·
    simp at hc16
    refine wc_skip ?_
    refine wq_then ?_
    refine wc_seq ?_
    refine wc_region ?_
    refine wl_y rfl (y_assign rfl) ?_
    refine wl_nil ?_
    refine wq_then ?_
    refine wc_seq ?_
    refine wc_seq ?_
    refine wc_region ?_
    refine wl_y rfl (y_assign rfl) ?_
    refine wl_nil ?_
    refine wq_then ?_
    refine wc_block ?_
    refine wc_loop (α := Nat × List TgV × Option Addr × Nat) (fun y => y.1 ≤ (rdL data).1.length ∧ y.2.1.length = y.1 ∧ rdAll tkTg ((rdL data).1.take y.1) = some (y.2.1.map TgV.er)) [(4, _)] (fun y => [(7, vI y.1), (6, .slice y.2.2.1 y.1 y.2.2.2)]) (fun y => Hp w0 K [slc 105 4 y.2.2.1 y.1 y.2.2.2 (y.2.1.flatMap encTg), tgsA (y.2.1), slc 9 1 x12.1 (rdL data).1.length x12.2 ((rdL data).1.map vS)]) (fun y => (rdL data).1.length - y.1) (0, [], none, 0) ?_ ⟨rfl, rfl, rfl, trivial⟩ ?_ ?_
    · exact ⟨Nat.zero_le _, rfl, rfl⟩
    · exact fun w hw => Hp.addNil [] _ (tgs_nil <| hw.sub (by (repeat (first | exact pt_nil | apply pt0 | apply pt1 | apply pt2 | apply pt3 | apply pt4 | apply pt5 | apply pt6 | apply pt7 | apply pt8 | apply pt9 | apply pt10 | apply pt11 | apply pt12 | apply pt13 | apply pt14 | apply pt15 | apply pt16 | apply pt17))))
    · rintro ⟨i, acc, a, cap⟩ ⟨hi, hal, hI⟩; simp only at hi hal hI
      refine wc_world (S' := Hp w0 K [slc 105 4 a i cap (acc.flatMap encTg), tgsA (acc), slc 9 1 x12.1 (rdL data).1.length x12.2 ((rdL data).1.map vS)]) (fun w hw => hw) ?_
      refine wc_same 7 (vI i) rfl rfl ?_
      refine wc_same 6 (.slice a i cap) rfl rfl ?_
      refine wc_seq ?_
      refine wc_seq ?_
      refine wc_region ?_
      refine wl_y rfl (y_move rfl) ?_
      refine wl_y rfl (y_move rfl) ?_
      refine wl_y rfl (y_lenSl Tryz.underlying39 rfl) ?_
      refine wl_y rfl (y_lss rfl rfl) ?_
      refine wl_nil ?_
      refine wq_then ?_
      refine wc_cond rfl (fun hc21 => ?_) (fun hc21 => ?_)
      ·
        simp at hc21
        refine wc_skip ?_
        refine wq_then ?_
        refine wc_seq ?_
        refine wc_block ?_
        refine wc_seq ?_
        refine wc_region ?_
        obtain ⟨x, hx⟩ : ∃ x, (rdL data).1[i]? = some x := ⟨_, List.getElem?_eq_getElem (by omega)⟩
        have hxl := hlb x (List.mem_of_getElem? hx)
        have hb1 := text_bounds ⟨x, 0⟩
        simp only at hb1
        have hb2 := text_bounds (Rdr'.mk x 0).text.1
        have hb3 := list_rest_le (Rdr'.mk x 0).text.1.text.1
        refine wl_y rfl (y_move rfl) ?_
        refine wl_y rfl (y_move rfl) ?_
        refine wl_y rfl (y_indexAddr Tryz.underlying39 T9 rfl rfl rfl (by omega) (fun w hw => hw.slc_isSome [_, _] (by omega))) ?_
        refine wl_y rfl (y_load NA9 rfl (cell_own [_, _] (row_at hx))) ?_
        refine wl_y rfl (y_build (cs := [_, _]) T72 PL72 rfl rfl rfl) ?_
        refine wl_w (fun _ _ => want_none) rfl (yw_box rfl rfl) (wl_ex fun b29 _ => ?_)
        refine wl_y rfl (y_assign rfl) ?_
        refine wl_nil ?_
        refine wq_then ?_
        refine wc_seq ?_
        refine wc_region ?_
        refine wl_w (fun _ _ => want_none) rfl (yw_alloc T105 rfl) (wl_ex fun b9 _ => ?_)
        refine wl_nil ?_
        refine wq_then ?_
        refine wc_seq ?_
        refine wc_region ?_
        refine wl_y rfl (y_move rfl) ?_
        refine wl_c (fun _ _ => want_none) rfl (yc_spec (fst := []) (cap := []) _ FN38 (rtext_p b29 ⟨x, 0⟩ (by simp only; omega)) rfl rfl rfl (by (repeat (first | exact pt_nil | apply pt0 | apply pt1 | apply pt2 | apply pt3 | apply pt4 | apply pt5 | apply pt6 | apply pt7 | apply pt8 | apply pt9 | apply pt10 | apply pt11 | apply pt12 | apply pt13 | apply pt14 | apply pt15 | apply pt16 | apply pt17))) (by (repeat (first | exact ro_nil | exact ro_rest (by assumption) | refine ro_cons (by first | exact .inl (by assumption) | exact ro_f0 (fun _ h => h) | exact ro_f0 (fun _ => slc_rsl) | exact ro_f1 (fun _ h => h) | exact ro_f1 (fun _ => slc_rsl) | exact ro_f2 (fun _ h => h) | exact ro_f2 (fun _ => slc_rsl) | exact ro_f3 (fun _ h => h) | exact ro_f3 (fun _ => slc_rsl) | exact ro_f4 (fun _ h => h) | exact ro_f4 (fun _ => slc_rsl) | exact ro_f5 (fun _ h => h) | exact ro_f5 (fun _ => slc_rsl) | exact ro_f6 (fun _ h => h) | exact ro_f6 (fun _ => slc_rsl)) ?_)))) (wl_ex fun x31 hx31 => ?_)
        refine wl_y rfl (y_fieldAddr F105_0 rfl) ?_
        first | refine wl_u (yu_store [] (l' := [_, _, _, _]) T9 rfl rfl rfl rfl rfl rfl rfl) ?_ | refine wl_u (yu_store [_] (l' := [_, _, _, _]) T9 rfl rfl rfl rfl rfl rfl rfl) ?_ | refine wl_u (yu_store [_, _] (l' := [_, _, _, _]) T9 rfl rfl rfl rfl rfl rfl rfl) ?_ | refine wl_u (yu_store [_, _, _] (l' := [_, _, _, _]) T9 rfl rfl rfl rfl rfl rfl rfl) ?_ | refine wl_u (yu_store [_, _, _, _] (l' := [_, _, _, _]) T9 rfl rfl rfl rfl rfl rfl rfl) ?_ | refine wl_u (yu_store [_, _, _, _, _] (l' := [_, _, _, _]) T9 rfl rfl rfl rfl rfl rfl rfl) ?_ | refine wl_u (yu_store [_, _, _, _, _, _] (l' := [_, _, _, _]) T9 rfl rfl rfl rfl rfl rfl rfl) ?_ | refine wl_u (yu_store [_, _, _, _, _, _, _] (l' := [_, _, _, _]) T9 rfl rfl rfl rfl rfl rfl rfl) ?_
        refine wl_nil ?_
        refine wq_then ?_
        refine wc_seq ?_
        refine wc_region ?_
        refine wl_y rfl (y_move rfl) ?_
        refine wl_c (fun _ _ => want_none) rfl (yc_spec (fst := []) (cap := []) _ FN38 (rtext_p b29 (Rdr'.mk x 0).text.1 (by omega)) rfl rfl rfl (by (repeat (first | exact pt_nil | apply pt0 | apply pt1 | apply pt2 | apply pt3 | apply pt4 | apply pt5 | apply pt6 | apply pt7 | apply pt8 | apply pt9 | apply pt10 | apply pt11 | apply pt12 | apply pt13 | apply pt14 | apply pt15 | apply pt16 | apply pt17))) (by (repeat (first | exact ro_nil | exact ro_rest (by assumption) | refine ro_cons (by first | exact .inl (by assumption) | exact ro_f0 (fun _ h => h) | exact ro_f0 (fun _ => slc_rsl) | exact ro_f1 (fun _ h => h) | exact ro_f1 (fun _ => slc_rsl) | exact ro_f2 (fun _ h => h) | exact ro_f2 (fun _ => slc_rsl) | exact ro_f3 (fun _ h => h) | exact ro_f3 (fun _ => slc_rsl) | exact ro_f4 (fun _ h => h) | exact ro_f4 (fun _ => slc_rsl) | exact ro_f5 (fun _ h => h) | exact ro_f5 (fun _ => slc_rsl) | exact ro_f6 (fun _ h => h) | exact ro_f6 (fun _ => slc_rsl)) ?_)))) (wl_ex fun x34 hx34 => ?_)
        refine wl_y rfl (y_fieldAddr F105_1 rfl) ?_
        first | refine wl_u (yu_store [] (l' := [_, _, _, _]) T9 rfl rfl rfl rfl rfl rfl rfl) ?_ | refine wl_u (yu_store [_] (l' := [_, _, _, _]) T9 rfl rfl rfl rfl rfl rfl rfl) ?_ | refine wl_u (yu_store [_, _] (l' := [_, _, _, _]) T9 rfl rfl rfl rfl rfl rfl rfl) ?_ | refine wl_u (yu_store [_, _, _] (l' := [_, _, _, _]) T9 rfl rfl rfl rfl rfl rfl rfl) ?_ | refine wl_u (yu_store [_, _, _, _] (l' := [_, _, _, _]) T9 rfl rfl rfl rfl rfl rfl rfl) ?_ | refine wl_u (yu_store [_, _, _, _, _] (l' := [_, _, _, _]) T9 rfl rfl rfl rfl rfl rfl rfl) ?_ | refine wl_u (yu_store [_, _, _, _, _, _] (l' := [_, _, _, _]) T9 rfl rfl rfl rfl rfl rfl rfl) ?_ | refine wl_u (yu_store [_, _, _, _, _, _, _] (l' := [_, _, _, _]) T9 rfl rfl rfl rfl rfl rfl rfl) ?_
        refine wl_nil ?_
        refine wq_then ?_
        refine wc_seq ?_
        refine wc_region ?_
        refine wl_y rfl (y_move rfl) ?_
        refine wl_c (fun _ _ => want_none) rfl (yc_spec (fst := []) (cap := []) _ FN30 (rlist_p b29 (Rdr'.mk x 0).text.1.text.1 (by omega)) rfl rfl rfl (by (repeat (first | exact pt_nil | apply pt0 | apply pt1 | apply pt2 | apply pt3 | apply pt4 | apply pt5 | apply pt6 | apply pt7 | apply pt8 | apply pt9 | apply pt10 | apply pt11 | apply pt12 | apply pt13 | apply pt14 | apply pt15 | apply pt16 | apply pt17))) (by (repeat (first | exact ro_nil | exact ro_rest (by assumption) | refine ro_cons (by first | exact .inl (by assumption) | exact ro_f0 (fun _ h => h) | exact ro_f0 (fun _ => slc_rsl) | exact ro_f1 (fun _ h => h) | exact ro_f1 (fun _ => slc_rsl) | exact ro_f2 (fun _ h => h) | exact ro_f2 (fun _ => slc_rsl) | exact ro_f3 (fun _ h => h) | exact ro_f3 (fun _ => slc_rsl) | exact ro_f4 (fun _ h => h) | exact ro_f4 (fun _ => slc_rsl) | exact ro_f5 (fun _ h => h) | exact ro_f5 (fun _ => slc_rsl) | exact ro_f6 (fun _ h => h) | exact ro_f6 (fun _ => slc_rsl)) ?_)))) (wl_ex fun x37 hx37 => ?_)
        refine wl_y rfl (y_fieldAddr F105_2 rfl) ?_
        first | refine wl_u (yu_store [] (l' := [_, _, _, _]) T39 rfl rfl rfl rfl rfl rfl rfl) ?_ | refine wl_u (yu_store [_] (l' := [_, _, _, _]) T39 rfl rfl rfl rfl rfl rfl rfl) ?_ | refine wl_u (yu_store [_, _] (l' := [_, _, _, _]) T39 rfl rfl rfl rfl rfl rfl rfl) ?_ | refine wl_u (yu_store [_, _, _] (l' := [_, _, _, _]) T39 rfl rfl rfl rfl rfl rfl rfl) ?_ | refine wl_u (yu_store [_, _, _, _] (l' := [_, _, _, _]) T39 rfl rfl rfl rfl rfl rfl rfl) ?_ | refine wl_u (yu_store [_, _, _, _, _] (l' := [_, _, _, _]) T39 rfl rfl rfl rfl rfl rfl rfl) ?_ | refine wl_u (yu_store [_, _, _, _, _, _] (l' := [_, _, _, _]) T39 rfl rfl rfl rfl rfl rfl rfl) ?_ | refine wl_u (yu_store [_, _, _, _, _, _, _] (l' := [_, _, _, _]) T39 rfl rfl rfl rfl rfl rfl rfl) ?_
        refine wl_nil ?_
        refine wq_then ?_
        refine wc_seq ?_
        refine wc_region ?_
        refine wl_y rfl (y_move rfl) ?_
        refine wl_c (fun _ _ => want_none) rfl (yc_spec (fst := []) (cap := []) _ FN30 (rlist_p b29 (Rdr'.mk x 0).text.1.text.1.list.1 (by omega)) rfl rfl rfl (by (repeat (first | exact pt_nil | apply pt0 | apply pt1 | apply pt2 | apply pt3 | apply pt4 | apply pt5 | apply pt6 | apply pt7 | apply pt8 | apply pt9 | apply pt10 | apply pt11 | apply pt12 | apply pt13 | apply pt14 | apply pt15 | apply pt16 | apply pt17))) (by (repeat (first | exact ro_nil | exact ro_rest (by assumption) | refine ro_cons (by first | exact .inl (by assumption) | exact ro_f0 (fun _ h => h) | exact ro_f0 (fun _ => slc_rsl) | exact ro_f1 (fun _ h => h) | exact ro_f1 (fun _ => slc_rsl) | exact ro_f2 (fun _ h => h) | exact ro_f2 (fun _ => slc_rsl) | exact ro_f3 (fun _ h => h) | exact ro_f3 (fun _ => slc_rsl) | exact ro_f4 (fun _ h => h) | exact ro_f4 (fun _ => slc_rsl) | exact ro_f5 (fun _ h => h) | exact ro_f5 (fun _ => slc_rsl) | exact ro_f6 (fun _ h => h) | exact ro_f6 (fun _ => slc_rsl)) ?_)))) (wl_ex fun x40 hx40 => ?_)
        refine wl_y rfl (y_fieldAddr F105_3 rfl) ?_
        first | refine wl_u (yu_store [] (l' := [_, _, _, _]) T39 rfl rfl rfl rfl rfl rfl rfl) ?_ | refine wl_u (yu_store [_] (l' := [_, _, _, _]) T39 rfl rfl rfl rfl rfl rfl rfl) ?_ | refine wl_u (yu_store [_, _] (l' := [_, _, _, _]) T39 rfl rfl rfl rfl rfl rfl rfl) ?_ | refine wl_u (yu_store [_, _, _] (l' := [_, _, _, _]) T39 rfl rfl rfl rfl rfl rfl rfl) ?_ | refine wl_u (yu_store [_, _, _, _] (l' := [_, _, _, _]) T39 rfl rfl rfl rfl rfl rfl rfl) ?_ | refine wl_u (yu_store [_, _, _, _, _] (l' := [_, _, _, _]) T39 rfl rfl rfl rfl rfl rfl rfl) ?_ | refine wl_u (yu_store [_, _, _, _, _, _] (l' := [_, _, _, _]) T39 rfl rfl rfl rfl rfl rfl rfl) ?_ | refine wl_u (yu_store [_, _, _, _, _, _, _] (l' := [_, _, _, _]) T39 rfl rfl rfl rfl rfl rfl rfl) ?_
        refine wl_nil ?_
        refine wq_then ?_
        refine wc_seq ?_
        refine wc_seq ?_
        refine wc_region ?_
        refine wl_y rfl (y_move rfl) ?_
        refine wl_q (fun _ _ => want_none) rfl (yq_spec (fst := []) (cap := []) _ FN31 (rend_p b29 (tkTg ⟨x, 0⟩).1) rfl rfl rfl (by (repeat (first | exact pt_nil | apply pt0 | apply pt1 | apply pt2 | apply pt3 | apply pt4 | apply pt5 | apply pt6 | apply pt7 | apply pt8 | apply pt9 | apply pt10 | apply pt11 | apply pt12 | apply pt13 | apply pt14 | apply pt15 | apply pt16 | apply pt17))) (by (repeat (first | exact ro_nil | exact ro_rest (by assumption) | refine ro_cons (by first | exact .inl (by assumption) | exact ro_f0 (fun _ h => h) | exact ro_f0 (fun _ => slc_rsl) | exact ro_f1 (fun _ h => h) | exact ro_f1 (fun _ => slc_rsl) | exact ro_f2 (fun _ h => h) | exact ro_f2 (fun _ => slc_rsl) | exact ro_f3 (fun _ h => h) | exact ro_f3 (fun _ => slc_rsl) | exact ro_f4 (fun _ h => h) | exact ro_f4 (fun _ => slc_rsl) | exact ro_f5 (fun _ h => h) | exact ro_f5 (fun _ => slc_rsl) | exact ro_f6 (fun _ h => h) | exact ro_f6 (fun _ => slc_rsl)) ?_))) (fun _ _ => rfl) (fun _ _ _ h => h.sub (by (repeat (first | exact pt_nil | apply pt0 | apply pt1 | apply pt2 | apply pt3 | apply pt4 | apply pt5 | apply pt6 | apply pt7 | apply pt8 | apply pt9 | apply pt10 | apply pt11 | apply pt12 | apply pt13 | apply pt14 | apply pt15 | apply pt16 | apply pt17))))) ?_
        refine wl_y rfl (y_neqI rfl rfl) ?_
        refine wl_nil ?_
        refine wq_then ?_
        refine wc_cond rfl (fun hcE => ?_) (fun hcE => ?_)
        ·
          simp at hcE
          refine wc_seq ?_
          refine wc_region ?_
          refine wl_y rfl (y_assign rfl) ?_
          refine wl_y rfl (y_assign rfl) ?_
          refine wl_nil ?_
          refine wq_then ?_
          refine wc_ret ?_
          refine wq_then_ret (wq_block_ret (wq_then_ret (wq_then_ret (wq_block_ret (wq_then_ret ?_)))))
          refine wq_ret2 rfl rfl rfl (fun w hw => ?_)
          rw [show rdGraph data = _ from rdX_none (by omega) (rdAll_fail hx hI (by omega))]; exact ⟨⟨none, 0, []⟩, rfl, rfl, hp_graph (e := 9) (Hp.addNil [] _ (tgs_nil hw.bare))⟩
        ·
          simp at hcE
          refine wc_skip ?_
          refine wq_then ?_
          refine wc_region ?_
          refine wl_y rfl (y_move rfl) ?_
          refine wl_y rfl (y_loadAgg (l := [_, _, _, _]) AG105 rfl rfl (by first | exact cells_blk [] rfl | exact cells_blk [_] rfl | exact cells_blk [_, _] rfl | exact cells_blk [_, _, _] rfl | exact cells_blk [_, _, _, _] rfl | exact cells_blk [_, _, _, _, _] rfl | exact cells_blk [_, _, _, _, _, _] rfl | exact cells_blk [_, _, _, _, _, _, _] rfl | exact cellsR_blk (by assumption) rfl)) ?_
          refine wl_w (fun _ _ => want_none) rfl (yw_buildSlice (cs := encTg (⟨(tkTg ⟨x, 0⟩).2.name, (tkTg ⟨x, 0⟩).2.cmd, ⟨x37.1, x37.2, (tkTg ⟨x, 0⟩).2.deps⟩, ⟨x40.1, x40.2, (tkTg ⟨x, 0⟩).2.srcs⟩⟩ : TgV)) Tryz.underlying23 T105 rfl rfl rfl rfl rfl rfl rfl) (wl_ex fun b47 _ => ?_)
          first | refine wl_w (fun _ _ => want_none) rfl (yw_append (m := 1) [] (cs := acc.flatMap encTg) (news := encTg (⟨(tkTg ⟨x, 0⟩).2.name, (tkTg ⟨x, 0⟩).2.cmd, ⟨x37.1, x37.2, (tkTg ⟨x, 0⟩).2.deps⟩, ⟨x40.1, x40.2, (tkTg ⟨x, 0⟩).2.srcs⟩⟩ : TgV)) Tryz.underlying23 Tryz.underlying23 (.inl ⟨_, rfl⟩) T105 rfl rfl rfl (fun w hw => Src.slice ((hw.seen []).mono fun _ => slc_rsl)) (by omega) (by unfold maxLen; omega) (by simp [Value.oneCell']) rfl) (wl_ex fun p48 hp48 => ?_) | refine wl_w (fun _ _ => want_none) rfl (yw_append (m := 1) [_] (cs := acc.flatMap encTg) (news := encTg (⟨(tkTg ⟨x, 0⟩).2.name, (tkTg ⟨x, 0⟩).2.cmd, ⟨x37.1, x37.2, (tkTg ⟨x, 0⟩).2.deps⟩, ⟨x40.1, x40.2, (tkTg ⟨x, 0⟩).2.srcs⟩⟩ : TgV)) Tryz.underlying23 Tryz.underlying23 (.inl ⟨_, rfl⟩) T105 rfl rfl rfl (fun w hw => Src.slice ((hw.seen []).mono fun _ => slc_rsl)) (by omega) (by unfold maxLen; omega) (by simp [Value.oneCell']) rfl) (wl_ex fun p48 hp48 => ?_) | refine wl_w (fun _ _ => want_none) rfl (yw_append (m := 1) [_, _] (cs := acc.flatMap encTg) (news := encTg (⟨(tkTg ⟨x, 0⟩).2.name, (tkTg ⟨x, 0⟩).2.cmd, ⟨x37.1, x37.2, (tkTg ⟨x, 0⟩).2.deps⟩, ⟨x40.1, x40.2, (tkTg ⟨x, 0⟩).2.srcs⟩⟩ : TgV)) Tryz.underlying23 Tryz.underlying23 (.inl ⟨_, rfl⟩) T105 rfl rfl rfl (fun w hw => Src.slice ((hw.seen []).mono fun _ => slc_rsl)) (by omega) (by unfold maxLen; omega) (by simp [Value.oneCell']) rfl) (wl_ex fun p48 hp48 => ?_) | refine wl_w (fun _ _ => want_none) rfl (yw_append (m := 1) [_, _, _] (cs := acc.flatMap encTg) (news := encTg (⟨(tkTg ⟨x, 0⟩).2.name, (tkTg ⟨x, 0⟩).2.cmd, ⟨x37.1, x37.2, (tkTg ⟨x, 0⟩).2.deps⟩, ⟨x40.1, x40.2, (tkTg ⟨x, 0⟩).2.srcs⟩⟩ : TgV)) Tryz.underlying23 Tryz.underlying23 (.inl ⟨_, rfl⟩) T105 rfl rfl rfl (fun w hw => Src.slice ((hw.seen []).mono fun _ => slc_rsl)) (by omega) (by unfold maxLen; omega) (by simp [Value.oneCell']) rfl) (wl_ex fun p48 hp48 => ?_) | refine wl_w (fun _ _ => want_none) rfl (yw_append (m := 1) [_, _, _, _] (cs := acc.flatMap encTg) (news := encTg (⟨(tkTg ⟨x, 0⟩).2.name, (tkTg ⟨x, 0⟩).2.cmd, ⟨x37.1, x37.2, (tkTg ⟨x, 0⟩).2.deps⟩, ⟨x40.1, x40.2, (tkTg ⟨x, 0⟩).2.srcs⟩⟩ : TgV)) Tryz.underlying23 Tryz.underlying23 (.inl ⟨_, rfl⟩) T105 rfl rfl rfl (fun w hw => Src.slice ((hw.seen []).mono fun _ => slc_rsl)) (by omega) (by unfold maxLen; omega) (by simp [Value.oneCell']) rfl) (wl_ex fun p48 hp48 => ?_) | refine wl_w (fun _ _ => want_none) rfl (yw_append (m := 1) [_, _, _, _, _] (cs := acc.flatMap encTg) (news := encTg (⟨(tkTg ⟨x, 0⟩).2.name, (tkTg ⟨x, 0⟩).2.cmd, ⟨x37.1, x37.2, (tkTg ⟨x, 0⟩).2.deps⟩, ⟨x40.1, x40.2, (tkTg ⟨x, 0⟩).2.srcs⟩⟩ : TgV)) Tryz.underlying23 Tryz.underlying23 (.inl ⟨_, rfl⟩) T105 rfl rfl rfl (fun w hw => Src.slice ((hw.seen []).mono fun _ => slc_rsl)) (by omega) (by unfold maxLen; omega) (by simp [Value.oneCell']) rfl) (wl_ex fun p48 hp48 => ?_) | refine wl_w (fun _ _ => want_none) rfl (yw_append (m := 1) [_, _, _, _, _, _] (cs := acc.flatMap encTg) (news := encTg (⟨(tkTg ⟨x, 0⟩).2.name, (tkTg ⟨x, 0⟩).2.cmd, ⟨x37.1, x37.2, (tkTg ⟨x, 0⟩).2.deps⟩, ⟨x40.1, x40.2, (tkTg ⟨x, 0⟩).2.srcs⟩⟩ : TgV)) Tryz.underlying23 Tryz.underlying23 (.inl ⟨_, rfl⟩) T105 rfl rfl rfl (fun w hw => Src.slice ((hw.seen []).mono fun _ => slc_rsl)) (by omega) (by unfold maxLen; omega) (by simp [Value.oneCell']) rfl) (wl_ex fun p48 hp48 => ?_)
          refine wl_y rfl (y_assign rfl) ?_
          refine wl_nil ?_
          refine wq_block_normal ?_
          refine wq_then ?_
          refine wc_region ?_
          refine wl_y rfl (y_move rfl) ?_
          refine wl_y rfl (y_add rfl rfl (by omega)) ?_
          refine wl_y rfl (y_assign rfl) ?_
          refine wl_nil ?_
          exact wq_round (i + 1, acc ++ [(⟨(tkTg ⟨x, 0⟩).2.name, (tkTg ⟨x, 0⟩).2.cmd, ⟨x37.1, x37.2, (tkTg ⟨x, 0⟩).2.deps⟩, ⟨x40.1, x40.2, (tkTg ⟨x, 0⟩).2.srcs⟩⟩ : TgV)], p48.1, p48.2) (by simp only; omega) ⟨by simp only; omega, by simp only [List.length_append, List.length_singleton]; omega, by simp only; rw [er_snoc (p := (tkTg ⟨x, 0⟩).2) rfl]; exact rdAll_next hx hI (by omega)⟩ ⟨rfl, rfl, rfl, trivial⟩ (fun w hw => by
            have h9 : Hp w0 K [slc 9 1 x37.1 (tkTg ⟨x, 0⟩).2.deps.length x37.2 ((tkTg ⟨x, 0⟩).2.deps.map vS), slc 9 1 x40.1 (tkTg ⟨x, 0⟩).2.srcs.length x40.2 ((tkTg ⟨x, 0⟩).2.srcs.map vS), tgsA acc, slc 105 4 p48.1 (i + 1) p48.2 (acc.flatMap encTg ++ encTg (⟨(tkTg ⟨x, 0⟩).2.name, (tkTg ⟨x, 0⟩).2.cmd, ⟨x37.1, x37.2, (tkTg ⟨x, 0⟩).2.deps⟩, ⟨x40.1, x40.2, (tkTg ⟨x, 0⟩).2.srcs⟩⟩ : TgV)), slc 9 1 x12.1 (rdL data).1.length x12.2 ((rdL data).1.map vS)] w := hw.sub (by (repeat (first | exact pt_nil | apply pt0 | apply pt1 | apply pt2 | apply pt3 | apply pt4 | apply pt5 | apply pt6 | apply pt7 | apply pt8 | apply pt9 | apply pt10 | apply pt11 | apply pt12 | apply pt13 | apply pt14 | apply pt15 | apply pt16 | apply pt17)))
            have h6 : Hp w0 K [tgsA acc, strsA ((⟨(tkTg ⟨x, 0⟩).2.name, (tkTg ⟨x, 0⟩).2.cmd, ⟨x37.1, x37.2, (tkTg ⟨x, 0⟩).2.deps⟩, ⟨x40.1, x40.2, (tkTg ⟨x, 0⟩).2.srcs⟩⟩ : TgV)).deps, strsA ((⟨(tkTg ⟨x, 0⟩).2.name, (tkTg ⟨x, 0⟩).2.cmd, ⟨x37.1, x37.2, (tkTg ⟨x, 0⟩).2.deps⟩, ⟨x40.1, x40.2, (tkTg ⟨x, 0⟩).2.srcs⟩⟩ : TgV)).srcs, slc 105 4 p48.1 (i + 1) p48.2 (acc.flatMap encTg ++ encTg (⟨(tkTg ⟨x, 0⟩).2.name, (tkTg ⟨x, 0⟩).2.cmd, ⟨x37.1, x37.2, (tkTg ⟨x, 0⟩).2.deps⟩, ⟨x40.1, x40.2, (tkTg ⟨x, 0⟩).2.srcs⟩⟩ : TgV)), slc 9 1 x12.1 (rdL data).1.length x12.2 ((rdL data).1.map vS)] w := (hp_strs (Hp.mono_at [_] h9 fun _ hh => slc_rsl hh)).sub (by (repeat (first | exact pt_nil | apply pt0 | apply pt1 | apply pt2 | apply pt3 | apply pt4 | apply pt5 | apply pt6 | apply pt7 | apply pt8 | apply pt9 | apply pt10 | apply pt11 | apply pt12 | apply pt13 | apply pt14 | apply pt15 | apply pt16 | apply pt17)))
            have h8 := tgs_add (t := (⟨(tkTg ⟨x, 0⟩).2.name, (tkTg ⟨x, 0⟩).2.cmd, ⟨x37.1, x37.2, (tkTg ⟨x, 0⟩).2.deps⟩, ⟨x40.1, x40.2, (tkTg ⟨x, 0⟩).2.srcs⟩⟩ : TgV)) h6
            simp only [List.flatMap_append, List.flatMap_cons, List.flatMap_nil, List.append_nil]
            exact h8.sub (by (repeat (first | exact pt_nil | apply pt0 | apply pt1 | apply pt2 | apply pt3 | apply pt4 | apply pt5 | apply pt6 | apply pt7 | apply pt8 | apply pt9 | apply pt10 | apply pt11 | apply pt12 | apply pt13 | apply pt14 | apply pt15 | apply pt16 | apply pt17))))
      ·
        simp at hc21
        refine wc_exit ?_
        refine wq_then_exit (wq_then_exit (wq_block_exit ?_))
        refine wq_then ?_
        refine wc_seq ?_
        refine wc_region ?_
        refine wl_y rfl (y_move rfl) ?_
        refine wl_y rfl (y_assign rfl) ?_
        refine wl_y rfl (y_assign rfl) ?_
        refine wl_nil ?_
        refine wq_then ?_
        refine wc_ret ?_
        refine wq_ret2 rfl rfl rfl (fun w hw => ?_)
        rw [show i = (rdL data).1.length by omega, List.take_length] at hI
        rw [show rdGraph data = _ from rdX_some (by omega) hI]; exact ⟨⟨a, cap, acc⟩, rfl, by rw [← hal], by rw [← hal] at hw; exact hp_graph (hw.sub (by (repeat (first | exact pt_nil | apply pt0 | apply pt1 | apply pt2 | apply pt3 | apply pt4 | apply pt5 | apply pt6 | apply pt7 | apply pt8 | apply pt9 | apply pt10 | apply pt11 | apply pt12 | apply pt13 | apply pt14 | apply pt15 | apply pt16 | apply pt17))))⟩

end Go.Proofs.YtbnahfjhlbibcaaGreatDoor
