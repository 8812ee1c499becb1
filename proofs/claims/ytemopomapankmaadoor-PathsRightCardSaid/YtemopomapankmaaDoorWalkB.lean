/-
  Walks: what stands below what.
-/
import Derived.Test.YtemopomapankmaaDoorWalkA
namespace Go.Proofs.YtemopomapankmaaDoor
open Go.Eng

set_option maxHeartbeats 1000000 in
theorem below_c (s q : Str) (hq : q.length ≤ 9223372036854775806) :
    Ctr Tryd.prog 48 #[vS s, vS q] [] [] (fun _ : Unit => True) (fun _ => .tuple #[vS (if isPre (q ++ [47]) s then s.drop (q ++ [47]).length else s), vB (below s q)]) (fun _ => []) := by
  refine spec_start (n := 21) [(0, vS s), (1, vS q)] Tryd.func48 rfl rfl ⟨rfl, rfl, trivial⟩ rfl ?_
  intro w0 K hR
  refine wc_seq ?_
  refine wc_region ?_
  refine wl_y rfl (y_assign rfl) ?_
  refine wl_y rfl (y_assign rfl) ?_
  refine wl_nil ?_
  refine wq_then ?_
  refine wc_seq ?_
  refine wc_region ?_
  refine wl_y rfl (y_move rfl) ?_
  refine wl_y rfl (y_move rfl) ?_
  refine wl_y rfl (y_addS rfl rfl (by simp; omega)) ?_
  refine wl_c (fun _ _ => want_none) rfl (yc_spec (fst := []) (cap := []) _ FN56 (cutPrefix s (q ++ [47])) rfl rfl rfl (by (repeat (first | exact pt_nil | apply pt0 | apply pt1 | apply pt2 | apply pt3 | apply pt4 | apply pt5 | apply pt6 | apply pt7 | apply pt8 | apply pt9 | apply pt10 | apply pt11 | apply pt12 | apply pt13 | apply pt14 | apply pt15 | apply pt16 | apply pt17))) (by (repeat (first | exact ro_nil | exact ro_rest (by assumption) | refine ro_cons (by first | exact .inl (by assumption) | exact ro_f0 (fun _ h => h) | exact ro_f0 (fun _ => slc_rsl) | exact ro_f1 (fun _ h => h) | exact ro_f1 (fun _ => slc_rsl) | exact ro_f2 (fun _ h => h) | exact ro_f2 (fun _ => slc_rsl) | exact ro_f3 (fun _ h => h) | exact ro_f3 (fun _ => slc_rsl) | exact ro_f4 (fun _ h => h) | exact ro_f4 (fun _ => slc_rsl) | exact ro_f5 (fun _ h => h) | exact ro_f5 (fun _ => slc_rsl) | exact ro_f6 (fun _ h => h) | exact ro_f6 (fun _ => slc_rsl)) ?_)))) (wl_ex fun x12 hx12 => ?_)
  refine wl_y rfl (y_move rfl) ?_
  refine wl_y rfl (y_extract rfl rfl) ?_
  refine wl_y rfl (y_extract rfl rfl) ?_
  refine wl_y rfl (y_assign rfl) ?_
  refine wl_y rfl (y_assign rfl) ?_
  refine wl_nil ?_
  refine wq_then ?_
  refine wc_seq ?_
  refine wc_region ?_
  refine wl_y rfl (y_move rfl) ?_
  refine wl_y rfl (y_move rfl) ?_
  refine wl_y rfl (y_move rfl) ?_
  apply wl_and 3 20 [(15, _)] (t := 17) rfl ⟨rfl, trivial⟩
  · intro hg17 hM20
    try (simp at hg17)
    refine wl_yg rfl rfl rfl (y_move rfl) ?_
    refine wl_yg rfl rfl rfl (y_neqS rfl rfl) ?_
    refine wl_y rfl (y_pick_t rfl rfl) ?_
    exact wl_weaken hM20 ⟨rfl, rfl, trivial⟩
  · intro hg17 hM20
    refine wl_sk rfl rfl rfl rfl ?_
    refine wl_sk rfl rfl rfl rfl ?_
    refine wl_y rfl (y_pick_f rfl rfl) ?_
    exact wl_weaken hM20 ⟨rfl, rfl, trivial⟩
  ·
    refine wl_y rfl (y_assign rfl) ?_
    refine wl_y rfl (y_assign rfl) ?_
    refine wl_nil ?_
    refine wq_then ?_
    refine wc_ret ?_
    refine wq_ret2 rfl rfl rfl (fun w hw => ?_)
    refine ⟨(), trivial, ?_, hw⟩
    by_cases h : isPre (q ++ [47]) s = true
    · simp [below, h, -List.drop_eq_nil_iff]
    · simp [below, h, -List.drop_eq_nil_iff]

set_option maxHeartbeats 1000000 in
theorem clash_c (a b : Str) (ha : a.length ≤ 9223372036854775806) (hb : b.length ≤ 9223372036854775806) :
    Ctr Tryd.prog 40 #[vS a, vS b] [] [] (fun _ : Unit => True) (fun _ => vB (clash a b)) (fun _ => []) := by
  refine spec_start (n := 25) [(0, vS a), (1, vS b)] Tryd.func40 rfl rfl ⟨rfl, rfl, trivial⟩ rfl ?_
  intro w0 K hR
  refine wc_seq ?_
  refine wc_region ?_
  refine wl_y rfl (y_assign rfl) ?_
  refine wl_nil ?_
  refine wq_then ?_
  refine wc_seq ?_
  refine wc_region ?_
  refine wl_y rfl (y_move rfl) ?_
  refine wl_y rfl (y_move rfl) ?_
  refine wl_c (fun _ _ => want_none) rfl (yc_spec (fst := []) (cap := []) _ FN48 (below_c a b hb) rfl rfl rfl (by (repeat (first | exact pt_nil | apply pt0 | apply pt1 | apply pt2 | apply pt3 | apply pt4 | apply pt5 | apply pt6 | apply pt7 | apply pt8 | apply pt9 | apply pt10 | apply pt11 | apply pt12 | apply pt13 | apply pt14 | apply pt15 | apply pt16 | apply pt17))) (by (repeat (first | exact ro_nil | exact ro_rest (by assumption) | refine ro_cons (by first | exact .inl (by assumption) | exact ro_f0 (fun _ h => h) | exact ro_f0 (fun _ => slc_rsl) | exact ro_f1 (fun _ h => h) | exact ro_f1 (fun _ => slc_rsl) | exact ro_f2 (fun _ h => h) | exact ro_f2 (fun _ => slc_rsl) | exact ro_f3 (fun _ h => h) | exact ro_f3 (fun _ => slc_rsl) | exact ro_f4 (fun _ h => h) | exact ro_f4 (fun _ => slc_rsl) | exact ro_f5 (fun _ h => h) | exact ro_f5 (fun _ => slc_rsl) | exact ro_f6 (fun _ h => h) | exact ro_f6 (fun _ => slc_rsl)) ?_)))) (wl_ex fun x12 hx12 => ?_)
  refine wl_y rfl (y_move rfl) ?_
  refine wl_y rfl (y_extract rfl rfl) ?_
  refine wl_y rfl (y_extract rfl rfl) ?_
  refine wl_y rfl (y_assign rfl) ?_
  refine wl_y rfl (y_assign rfl) ?_
  refine wl_nil ?_
  refine wq_then ?_
  refine wc_seq ?_
  refine wc_region ?_
  refine wl_y rfl (y_move rfl) ?_
  refine wl_y rfl (y_move rfl) ?_
  refine wl_c (fun _ _ => want_none) rfl (yc_spec (fst := []) (cap := []) _ FN48 (below_c b a ha) rfl rfl rfl (by (repeat (first | exact pt_nil | apply pt0 | apply pt1 | apply pt2 | apply pt3 | apply pt4 | apply pt5 | apply pt6 | apply pt7 | apply pt8 | apply pt9 | apply pt10 | apply pt11 | apply pt12 | apply pt13 | apply pt14 | apply pt15 | apply pt16 | apply pt17))) (by (repeat (first | exact ro_nil | exact ro_rest (by assumption) | refine ro_cons (by first | exact .inl (by assumption) | exact ro_f0 (fun _ h => h) | exact ro_f0 (fun _ => slc_rsl) | exact ro_f1 (fun _ h => h) | exact ro_f1 (fun _ => slc_rsl) | exact ro_f2 (fun _ h => h) | exact ro_f2 (fun _ => slc_rsl) | exact ro_f3 (fun _ h => h) | exact ro_f3 (fun _ => slc_rsl) | exact ro_f4 (fun _ h => h) | exact ro_f4 (fun _ => slc_rsl) | exact ro_f5 (fun _ h => h) | exact ro_f5 (fun _ => slc_rsl) | exact ro_f6 (fun _ h => h) | exact ro_f6 (fun _ => slc_rsl)) ?_)))) (wl_ex fun x18 hx18 => ?_)
  refine wl_y rfl (y_move rfl) ?_
  refine wl_y rfl (y_extract rfl rfl) ?_
  refine wl_y rfl (y_extract rfl rfl) ?_
  refine wl_y rfl (y_assign rfl) ?_
  refine wl_y rfl (y_assign rfl) ?_
  refine wl_nil ?_
  refine wq_then ?_
  refine wc_seq ?_
  refine wc_region ?_
  refine wl_y rfl (y_move rfl) ?_
  refine wl_y rfl (y_move rfl) ?_
  apply wl_or 2 24 [] (t := 22) rfl trivial
  · intro hg22 hM24
    refine wl_sk rfl rfl rfl rfl ?_
    refine wl_y rfl (y_pick_t rfl rfl) ?_
    exact wl_weaken hM24 ⟨rfl, trivial⟩
  · intro hg22 hM24
    try (simp at hg22)
    refine wl_yg rfl rfl rfl (y_move rfl) ?_
    refine wl_y rfl (y_pick_f rfl rfl) ?_
    exact wl_weaken hM24 ⟨rfl, trivial⟩
  ·
    refine wl_y rfl (y_assign rfl) ?_
    refine wl_nil ?_
    refine wq_then ?_
    refine wc_ret ?_
    refine wq_ret1 rfl rfl (fun w hw => ?_)
    exact ⟨(), trivial, rfl, hw⟩

set_option maxHeartbeats 1000000 in
theorem rbelow_c (s q : Str) (hq : q.length ≤ 9223372036854775806) :
    Ctr Tryd.prog 46 #[vS s, vS q] [] [] (fun _ : Unit => True) (fun _ => vB (below s q)) (fun _ => []) := by
  refine spec_start (n := 26) [(0, vS s), (1, vS q)] Tryd.func46 rfl rfl ⟨rfl, rfl, trivial⟩ rfl ?_
  intro w0 K hR
  refine wc_seq ?_
  refine wc_region ?_
  refine wl_y rfl (y_assign rfl) ?_
  refine wl_nil ?_
  refine wq_then ?_
  refine wc_seq ?_
  refine wc_region ?_
  have _hq := hq
  refine wl_y rfl (y_move rfl) ?_
  refine wl_y rfl (y_lenS Tryd.underlying9 rfl) ?_
  refine wl_y rfl (y_move rfl) ?_
  refine wl_y rfl (y_lenS Tryd.underlying9 rfl) ?_
  refine wl_y rfl (y_add rfl rfl (by omega)) ?_
  refine wl_y rfl (y_gtr rfl rfl) ?_
  refine wl_y rfl (y_move rfl) ?_
  apply wl_and 7 18 [(0, _), (1, _)] (t := 11) rfl ⟨rfl, rfl, trivial⟩
  · intro hg11 hM18
    try (simp at hg11)
    refine wl_yg rfl rfl rfl (y_move rfl) ?_
    refine wl_yg rfl rfl rfl (y_move rfl) ?_
    refine wl_yg rfl rfl rfl (y_lenS Tryd.underlying9 rfl) ?_
    refine wl_yg rfl rfl rfl (y_sliceS (i := 0) (j := q.length) Tryd.underlying9 rfl rfl ⟨_, rfl, rfl⟩ (by first | omega | (simp; omega)) (by first | omega | (simp; omega)) rfl) ?_
    refine wl_yg rfl rfl rfl (y_move rfl) ?_
    refine wl_yg rfl rfl rfl (y_eqlS rfl rfl) ?_
    refine wl_y rfl (y_pick_t rfl rfl) ?_
    exact wl_weaken hM18 ⟨rfl, rfl, rfl, trivial⟩
  · intro hg11 hM18
    refine wl_sk rfl rfl rfl rfl ?_
    refine wl_sk rfl rfl rfl rfl ?_
    refine wl_sk rfl rfl rfl rfl ?_
    refine wl_sk rfl rfl rfl rfl ?_
    refine wl_sk rfl rfl rfl rfl ?_
    refine wl_sk rfl rfl rfl rfl ?_
    refine wl_y rfl (y_pick_f rfl rfl) ?_
    exact wl_weaken hM18 ⟨rfl, rfl, rfl, trivial⟩
  ·
    refine wl_y rfl (y_move rfl) ?_
    apply wl_and 6 25 [] (t := 19) rfl trivial
    · intro hg19 hM25
      try (simp at hg19)
      refine wl_yg rfl rfl rfl (y_move rfl) ?_
      refine wl_yg rfl rfl rfl (y_move rfl) ?_
      refine wl_yg rfl rfl rfl (y_lenS Tryd.underlying9 rfl) ?_
      refine wl_yg rfl rfl rfl (y_indexD Tryd.underlying9 rfl rfl rfl (by omega)) ?_
      refine wl_yg rfl rfl rfl (y_eqlI rfl rfl) ?_
      refine wl_y rfl (y_pick_t rfl rfl) ?_
      exact wl_weaken hM25 ⟨rfl, trivial⟩
    · intro hg19 hM25
      refine wl_sk rfl rfl rfl rfl ?_
      refine wl_sk rfl rfl rfl rfl ?_
      refine wl_sk rfl rfl rfl rfl ?_
      refine wl_sk rfl rfl rfl rfl ?_
      refine wl_sk rfl rfl rfl rfl ?_
      refine wl_y rfl (y_pick_f rfl rfl) ?_
      exact wl_weaken hM25 ⟨rfl, trivial⟩
    ·
      refine wl_y rfl (y_assign rfl) ?_
      refine wl_nil ?_
      refine wq_then ?_
      refine wc_ret ?_
      refine wq_ret1 rfl rfl (fun w hw => ?_)
      exact ⟨(), trivial, by rw [rbelow_eq], hw⟩

end Go.Proofs.YtemopomapankmaaDoor
