/-
  Walks: paths.
-/
import Derived.Test.YtemopomapankmaaDoorWalkD
namespace Go.Proofs.YtemopomapankmaaDoor
open Go.Eng

set_option maxHeartbeats 1000000 in
theorem split_c (s : Str) (c : UInt8) (hs : s.length ≤ 1000000) :
    Ctr Tryd.prog 47 #[vS s, vS [c]] [] [] (fun _ : Option Addr × Nat => True) (fun p => .slice p.1 (parts c s).length p.2) (fun p => [slc 9 1 p.1 (parts c s).length p.2 ((parts c s).map vS)]) := by
  refine spec_start (n := 8) [(0, vS s), (1, vS [c])] Tryd.func47 rfl rfl ⟨rfl, rfl, trivial⟩ rfl ?_
  intro w0 K hR
  refine wc_seq ?_
  refine wc_region ?_
  refine wl_y rfl (y_assign rfl) ?_
  refine wl_nil ?_
  refine wq_then ?_
  refine wc_seq ?_
  refine wc_region ?_
  refine wl_y rfl (y_move rfl) ?_
  refine wl_y rfl (y_move rfl) ?_
  refine wl_c (fun _ _ => want_none) rfl (yc_spec (fst := []) (cap := []) _ FN55 (genSplit_c s c hs) rfl rfl rfl (by (repeat (first | exact pt_nil | apply pt0 | apply pt1 | apply pt2 | apply pt3 | apply pt4 | apply pt5 | apply pt6 | apply pt7 | apply pt8 | apply pt9 | apply pt10 | apply pt11 | apply pt12 | apply pt13 | apply pt14 | apply pt15 | apply pt16 | apply pt17))) (by (repeat (first | exact ro_nil | exact ro_rest (by assumption) | refine ro_cons (by first | exact .inl (by assumption) | exact ro_f0 (fun _ h => h) | exact ro_f0 (fun _ => slc_rsl) | exact ro_f1 (fun _ h => h) | exact ro_f1 (fun _ => slc_rsl) | exact ro_f2 (fun _ h => h) | exact ro_f2 (fun _ => slc_rsl) | exact ro_f3 (fun _ h => h) | exact ro_f3 (fun _ => slc_rsl) | exact ro_f4 (fun _ h => h) | exact ro_f4 (fun _ => slc_rsl) | exact ro_f5 (fun _ h => h) | exact ro_f5 (fun _ => slc_rsl) | exact ro_f6 (fun _ h => h) | exact ro_f6 (fun _ => slc_rsl)) ?_)))) (wl_ex fun x7 hx7 => ?_)
  refine wl_y rfl (y_assign rfl) ?_
  refine wl_nil ?_
  refine wq_then ?_
  refine wc_ret ?_
  refine wq_ret1 rfl rfl (fun w hw => ?_)
  exact ⟨x7, trivial, rfl, hw⟩

set_option maxHeartbeats 1000000 in
theorem path_c (s : Str) :
    Ctr Tryd.prog 22 #[vS s] [] [] (fun _ : Unit => True) (fun _ => vI (pathE s)) (fun _ => []) := by
  refine spec_start (n := 52) [(0, vS s)] Tryd.func22 rfl rfl ⟨rfl, trivial⟩ rfl ?_
  intro w0 K hR
  refine wc_seq ?_
  refine wc_region ?_
  refine wl_y rfl (y_assign rfl) ?_
  refine wl_nil ?_
  refine wq_then ?_
  refine wc_seq ?_
  refine wc_seq ?_
  refine wc_region ?_
  refine wl_y rfl (y_move rfl) ?_
  refine wl_y rfl (y_eqlS rfl rfl) ?_
  refine wl_y rfl (y_move rfl) ?_
  apply wl_or 4 13 [(0, _)] (t := 9) rfl ⟨rfl, trivial⟩
  · intro hg9 hM13
    refine wl_sk rfl rfl rfl rfl ?_
    refine wl_sk rfl rfl rfl rfl ?_
    refine wl_sk rfl rfl rfl rfl ?_
    refine wl_y rfl (y_pick_t rfl rfl) ?_
    exact wl_weaken hM13 ⟨rfl, rfl, trivial⟩
  · intro hg9 hM13
    try (simp at hg9)
    refine wl_yg rfl rfl rfl (y_move rfl) ?_
    refine wl_yg rfl rfl rfl (y_lenS Tryd.underlying9 rfl) ?_
    refine wl_yg rfl rfl rfl (y_gtr rfl rfl) ?_
    refine wl_y rfl (y_pick_f rfl rfl) ?_
    exact wl_weaken hM13 ⟨rfl, rfl, trivial⟩
  ·
    refine wl_nil ?_
    refine wq_then ?_
    refine wc_cond rfl (fun hc13 => ?_) (fun hc13 => ?_)
    ·
      refine wc_seq ?_
      refine wc_region ?_
      refine wl_y rfl (y_assign rfl) ?_
      refine wl_nil ?_
      refine wq_then ?_
      refine wc_ret ?_
      refine wq_then_ret ?_
      refine wq_ret1 rfl rfl (fun w hw => ?_)
      exact ⟨(), trivial, by rw [show pathE s = 13 by simp only [pathE, isPath, hc13]; rfl], hw⟩
    ·
      have hlen : s.length ≤ 48 := by simp at hc13; omega
      have hpl : (parts 47 s).length ≤ 49 := by rw [parts_len]; have := List.count_le_length (a := 47) (l := s); omega
      refine wc_skip ?_
      refine wq_then ?_
      refine wc_seq ?_
      refine wc_seq ?_
      refine wc_region ?_
      refine wl_y rfl (y_move rfl) ?_
      refine wl_c (fun _ _ => want_none) rfl (yc_spec (fst := []) (cap := []) _ FN47 (split_c s 47 (by omega)) rfl rfl rfl (by (repeat (first | exact pt_nil | apply pt0 | apply pt1 | apply pt2 | apply pt3 | apply pt4 | apply pt5 | apply pt6 | apply pt7 | apply pt8 | apply pt9 | apply pt10 | apply pt11 | apply pt12 | apply pt13 | apply pt14 | apply pt15 | apply pt16 | apply pt17))) (by (repeat (first | exact ro_nil | exact ro_rest (by assumption) | refine ro_cons (by first | exact .inl (by assumption) | exact ro_f0 (fun _ h => h) | exact ro_f0 (fun _ => slc_rsl) | exact ro_f1 (fun _ h => h) | exact ro_f1 (fun _ => slc_rsl) | exact ro_f2 (fun _ h => h) | exact ro_f2 (fun _ => slc_rsl) | exact ro_f3 (fun _ h => h) | exact ro_f3 (fun _ => slc_rsl) | exact ro_f4 (fun _ h => h) | exact ro_f4 (fun _ => slc_rsl) | exact ro_f5 (fun _ h => h) | exact ro_f5 (fun _ => slc_rsl) | exact ro_f6 (fun _ h => h) | exact ro_f6 (fun _ => slc_rsl)) ?_)))) (wl_ex fun x15 hx15 => ?_)
      refine wl_world (S' := Hp w0 K [slc 9 1 x15.1 (parts 47 s).length x15.2 ((parts 47 s).map vS)]) (fun w hw => hw) ?_
      obtain ⟨n, hn⟩ : ∃ n, (parts 47 s).length = n := ⟨_, rfl⟩
      refine wl_y rfl (y_lenSl Tryd.underlying52 rfl) ?_
      refine wl_y rfl (y_move rfl) ?_
      refine wl_nil ?_
      refine wq_then ?_
      refine wc_block ?_
      refine wc_loop (α := Nat) (fun y => y ≤ (parts 47 s).length ∧ ((parts 47 s).take y).any oddPart = false) [(15, _), (16, _)] (fun y => [(17, vI y)]) (fun y => Hp w0 K [slc 9 1 x15.1 (parts 47 s).length x15.2 ((parts 47 s).map vS)]) (fun y => (parts 47 s).length - y) 0 ?_ ⟨rfl, rfl, rfl, trivial⟩ ?_ ?_
      · exact ⟨Nat.zero_le _, rfl⟩
      · exact fun w hw => hw
      · rintro i ⟨hi, hall⟩
        refine wc_seq ?_
        refine wc_region ?_
        refine wl_y rfl (y_lss rfl rfl) ?_
        refine wl_nil ?_
        refine wq_then ?_
        refine wc_seq ?_
        refine wc_cond rfl (fun hc18 => ?_) (fun hc18 => ?_)
        ·
          simp at hc18
          refine wc_skip ?_
          refine wq_then ?_
          refine wc_seq ?_
          refine wc_block ?_
          refine wc_seq ?_
          refine wc_region ?_
          obtain ⟨p, hp⟩ : ∃ p, (parts 47 s)[i]? = some p := ⟨_, List.getElem?_eq_getElem (by omega)⟩
          have hple := parts_le (List.mem_of_getElem? hp)
          refine wl_y rfl (y_indexAddr (i := i) Tryd.underlying52 T9 rfl rfl rfl (by omega) (fun w hw => hw.slc_isSome [] (by omega))) ?_
          refine wl_y rfl (y_load NA9 rfl (cell_own [] (row_get hp))) ?_
          refine wl_y rfl (y_assign rfl) ?_
          refine wl_nil ?_
          refine wq_then ?_
          refine wc_seq ?_
          refine wc_region ?_
          refine wl_y rfl (y_move rfl) ?_
          refine wl_y rfl (y_eqlS rfl rfl) ?_
          refine wl_y rfl (y_move rfl) ?_
          apply wl_or 3 26 [(4, _), (15, _), (16, _), (17, _)] (t := 23) rfl ⟨rfl, rfl, rfl, rfl, trivial⟩
          · intro hg23 hM26
            refine wl_sk rfl rfl rfl rfl ?_
            refine wl_sk rfl rfl rfl rfl ?_
            refine wl_y rfl (y_pick_t rfl rfl) ?_
            exact wl_weaken hM26 ⟨rfl, rfl, rfl, rfl, rfl, trivial⟩
          · intro hg23 hM26
            try (simp at hg23)
            refine wl_yg rfl rfl rfl (y_move rfl) ?_
            refine wl_yg rfl rfl rfl (y_eqlS rfl rfl) ?_
            refine wl_y rfl (y_pick_f rfl rfl) ?_
            exact wl_weaken hM26 ⟨rfl, rfl, rfl, rfl, rfl, trivial⟩
          ·
            refine wl_y rfl (y_move rfl) ?_
            apply wl_or 3 30 [(4, _), (15, _), (16, _), (17, _)] (t := 27) rfl ⟨rfl, rfl, rfl, rfl, trivial⟩
            · intro hg27 hM30
              refine wl_sk rfl rfl rfl rfl ?_
              refine wl_sk rfl rfl rfl rfl ?_
              refine wl_y rfl (y_pick_t rfl rfl) ?_
              exact wl_weaken hM30 ⟨rfl, rfl, rfl, rfl, rfl, trivial⟩
            · intro hg27 hM30
              try (simp at hg27)
              refine wl_yg rfl rfl rfl (y_move rfl) ?_
              refine wl_yg rfl rfl rfl (y_eqlS rfl rfl) ?_
              refine wl_y rfl (y_pick_f rfl rfl) ?_
              exact wl_weaken hM30 ⟨rfl, rfl, rfl, rfl, rfl, trivial⟩
            ·
              refine wl_y rfl (y_assign rfl) ?_
              refine wl_same 5 (vB (oddW p || (p.take 0).any badC)) rfl (by simp [oddW]) ?_
              refine wl_nil ?_
              refine wq_then ?_
              refine wc_seq (wc_cut (α := Unit) (fun x => True) [(15, _), (16, _), (17, _)] (fun x => [(5, vB (oddPart p))]) (fun x => Hp w0 K [slc 9 1 x15.1 (parts 47 s).length x15.2 ((parts 47 s).map vS)]) ⟨rfl, rfl, rfl, trivial⟩ ?_ ?_)
              ·
                refine wc_seq ?_
                refine wc_region ?_
                refine wl_y rfl (y_move rfl) ?_
                refine wl_y rfl (y_lenS Tryd.underlying9 rfl) ?_
                refine wl_y rfl (y_move rfl) ?_
                refine wl_nil ?_
                refine wq_then ?_
                refine wc_block ?_
                refine wc_loop (α := Nat) (fun y => y ≤ p.length) [(4, _), (15, _), (16, _), (17, _), (32, _)] (fun y => [(33, vI y), (5, vB (oddW p || (p.take y).any badC))]) (fun y => Hp w0 K [slc 9 1 x15.1 (parts 47 s).length x15.2 ((parts 47 s).map vS)]) (fun y => p.length - y) 0 ?_ ⟨rfl, rfl, rfl, rfl, rfl, rfl, rfl, trivial⟩ ?_ ?_
                · exact Nat.zero_le _
                · exact fun w hw => hw
                · rintro j hj
                  refine wc_seq ?_
                  refine wc_region ?_
                  refine wl_y rfl (y_lss rfl rfl) ?_
                  refine wl_nil ?_
                  refine wq_then ?_
                  refine wc_seq ?_
                  refine wc_cond rfl (fun hc34 => ?_) (fun hc34 => ?_)
                  ·
                    simp at hc34
                    refine wc_skip ?_
                    refine wq_then ?_
                    refine wc_seq ?_
                    refine wc_block ?_
                    refine wc_seq ?_
                    refine wc_region ?_
                    obtain ⟨ch, hch⟩ : ∃ ch, p[j]? = some ch := ⟨_, List.getElem?_eq_getElem (by omega)⟩
                    refine wl_y rfl (y_move rfl) ?_
                    refine wl_y rfl (y_assign rfl) ?_
                    refine wl_nil ?_
                    refine wq_then ?_
                    refine wc_region ?_
                    refine wl_y rfl (y_move rfl) ?_
                    refine wl_y rfl (y_move rfl) ?_
                    apply wl_or 5 42 [(4, _), (6, _), (15, _), (16, _), (17, _), (32, _), (33, _)] (t := 37) rfl ⟨rfl, rfl, rfl, rfl, rfl, rfl, rfl, trivial⟩
                    · intro hg37 hM42
                      refine wl_sk rfl rfl rfl rfl ?_
                      refine wl_sk rfl rfl rfl rfl ?_
                      refine wl_sk rfl rfl rfl rfl ?_
                      refine wl_sk rfl rfl rfl rfl ?_
                      refine wl_y rfl (y_pick_t rfl rfl) ?_
                      exact wl_weaken hM42 ⟨rfl, rfl, rfl, rfl, rfl, rfl, rfl, rfl, trivial⟩
                    · intro hg37 hM42
                      try (simp at hg37)
                      refine wl_yg rfl rfl rfl (y_move rfl) ?_
                      refine wl_yg rfl rfl rfl (y_move rfl) ?_
                      refine wl_yg rfl rfl rfl (y_indexS Tryd.underlying9 rfl rfl rfl hch) ?_
                      refine wl_yg rfl rfl rfl (y_leq rfl rfl) ?_
                      refine wl_y rfl (y_pick_f rfl rfl) ?_
                      exact wl_weaken hM42 ⟨rfl, rfl, rfl, rfl, rfl, rfl, rfl, rfl, trivial⟩
                    ·
                      refine wl_y rfl (y_move rfl) ?_
                      apply wl_or 5 48 [(4, _), (15, _), (16, _), (17, _), (32, _), (33, _)] (t := 43) rfl ⟨rfl, rfl, rfl, rfl, rfl, rfl, trivial⟩
                      · intro hg43 hM48
                        refine wl_sk rfl rfl rfl rfl ?_
                        refine wl_sk rfl rfl rfl rfl ?_
                        refine wl_sk rfl rfl rfl rfl ?_
                        refine wl_sk rfl rfl rfl rfl ?_
                        refine wl_y rfl (y_pick_t rfl rfl) ?_
                        exact wl_weaken hM48 ⟨rfl, rfl, rfl, rfl, rfl, rfl, rfl, trivial⟩
                      · intro hg43 hM48
                        try (simp at hg43)
                        refine wl_yg rfl rfl rfl (y_move rfl) ?_
                        refine wl_yg rfl rfl rfl (y_move rfl) ?_
                        refine wl_yg rfl rfl rfl (y_indexS Tryd.underlying9 rfl rfl rfl hch) ?_
                        refine wl_yg rfl rfl rfl (y_gtr rfl rfl) ?_
                        refine wl_y rfl (y_pick_f rfl rfl) ?_
                        exact wl_weaken hM48 ⟨rfl, rfl, rfl, rfl, rfl, rfl, rfl, trivial⟩
                      ·
                        refine wl_same 48 (vB (oddW p || (p.take (j + 1)).any badC)) rfl (by rw [any_snoc hch, badC, ← Bool.or_assoc, ← Bool.or_assoc]) ?_
                        refine wl_y rfl (y_assign rfl) ?_
                        refine wl_nil ?_
                        refine wq_block_normal ?_
                        refine wq_then ?_
                        refine wc_region ?_
                        refine wl_y rfl (y_add rfl rfl (by omega)) ?_
                        refine wl_y rfl (y_move rfl) ?_
                        refine wl_nil ?_
                        exact wq_round (j + 1) (by omega) (by omega) ⟨rfl, rfl, rfl, rfl, rfl, rfl, rfl, trivial⟩ (fun w hw => hw)
                  ·
                    simp at hc34
                    refine wc_same 5 (vB (oddPart p)) rfl (by rw [show j = p.length by omega, List.take_length]; rfl) ?_
                    refine wc_exit ?_
                    refine wq_then_exit (wq_then_exit (wq_block_exit ?_))
                    exact wq_cut () trivial ⟨rfl, rfl, rfl, rfl, trivial⟩ (fun w hw => hw)
              · intro x _
                refine all_wc ?_
                refine wc_seq ?_
                refine wc_region ?_
                refine wl_y rfl (y_move rfl) ?_
                refine wl_nil ?_
                refine wq_then ?_
                refine wc_cond rfl (fun hc50 => ?_) (fun hc50 => ?_)
                ·
                  refine wc_seq ?_
                  refine wc_region ?_
                  refine wl_y rfl (y_assign rfl) ?_
                  refine wl_nil ?_
                  refine wq_then ?_
                  refine wc_ret ?_
                  refine wq_block_ret (wq_then_ret (wq_then_ret (wq_block_ret (wq_then_ret ?_))))
                  refine wq_ret1 rfl rfl (fun w hw => ?_)
                  have hbad : (parts 47 s).any oddPart = true := List.any_eq_true.2 ⟨p, List.mem_of_getElem? hp, hc50⟩
                  exact ⟨(), trivial, by rw [show pathE s = 13 by simp only [pathE, isPath, hbad, Bool.not_true, Bool.and_false]; rfl], hw.bare⟩
                ·
                  refine wc_skip ?_
                  refine wq_block_normal ?_
                  refine wq_then ?_
                  refine wc_region ?_
                  refine wl_y rfl (y_add rfl rfl (by omega)) ?_
                  refine wl_y rfl (y_move rfl) ?_
                  refine wl_nil ?_
                  exact wq_round (i + 1) (by omega) ⟨by omega, by rw [List.take_add_one, hp]; simp only [List.any_append, hall, Option.toList_some, List.any_cons, List.any_nil, hc50]; rfl⟩ ⟨rfl, rfl, rfl, trivial⟩ (fun w hw => hw)
        ·
          simp at hc18
          refine wc_exit ?_
          refine wq_then_exit (wq_then_exit (wq_block_exit ?_))
          refine wq_then ?_
          refine wc_seq ?_
          refine wc_region ?_
          refine wl_y rfl (y_assign rfl) ?_
          refine wl_nil ?_
          refine wq_then ?_
          refine wc_ret ?_
          refine wq_ret1 rfl rfl (fun w hw => ?_)
          rw [show i = (parts 47 s).length by omega, List.take_length] at hall
          exact ⟨(), trivial, by rw [show pathE s = 0 by simp only [pathE, isPath, hall, hc13]; rfl], hw.bare⟩

end Go.Proofs.YtemopomapankmaaDoor
