/-
  Walks: the reference's paths.
-/
import Derived.Test.YtemopomapankmaaDoorPathLaw
namespace Go.Proofs.YtemopomapankmaaDoor
open Go.Eng

set_option maxHeartbeats 1000000 in
theorem rpath_c (s : Str) :
    Ctr Tryd.prog 23 #[vS s] [] [] (fun _ : Unit => True) (fun _ => vI (pathE s)) (fun _ => []) := by
  refine spec_start (n := 56) [(0, vS s)] Tryd.func23 rfl rfl ⟨rfl, trivial⟩ rfl ?_
  intro w0 K hR
  refine wc_seq ?_
  refine wc_region ?_
  refine wl_y rfl (y_assign rfl) ?_
  refine wl_nil ?_
  refine wq_then ?_
  refine wc_seq ?_
  refine wc_seq ?_
  refine wc_region ?_
  refine wl_y rfl (y_move rfl) ?_
  refine wl_y rfl (y_lenS Tryd.underlying9 rfl) ?_
  refine wl_y rfl (y_lss rfl rfl) ?_
  refine wl_y rfl (y_move rfl) ?_
  apply wl_or 4 13 [(0, _)] (t := 9) rfl ⟨rfl, trivial⟩
  · intro hg9 hM13
    refine wl_sk rfl rfl rfl rfl ?_
    refine wl_sk rfl rfl rfl rfl ?_
    refine wl_sk rfl rfl rfl rfl ?_
    refine wl_y rfl (y_pick_t rfl rfl) ?_
    exact wl_weaken hM13 ⟨rfl, rfl, trivial⟩
  · intro hg9 hM13
    try (simp at hg9)
    refine wl_yg rfl rfl rfl (y_move rfl) ?_
    refine wl_yg rfl rfl rfl (y_lenS Tryd.underlying9 rfl) ?_
    refine wl_yg rfl rfl rfl (y_gtr rfl rfl) ?_
    refine wl_y rfl (y_pick_f rfl rfl) ?_
    exact wl_weaken hM13 ⟨rfl, rfl, trivial⟩
  ·
    refine wl_nil ?_
    refine wq_then ?_
    refine wc_cond rfl (fun hc13 => ?_) (fun hc13 => ?_)
    ·
      refine wc_seq ?_
      refine wc_region ?_
      refine wl_y rfl (y_assign rfl) ?_
      refine wl_nil ?_
      refine wq_then ?_
      refine wc_ret ?_
      refine wq_then_ret ?_
      refine wq_ret1 rfl rfl (fun w hw => ?_)
      exact ⟨(), trivial, by rw [show pathE s = 13 by simp only [pathE, isPath, ← lenZ, hc13]; rfl], hw⟩
    ·
      have hlen : s.length ≤ 48 := by simp at hc13; omega
      refine wc_skip ?_
      refine wq_then ?_
      refine wc_seq ?_
      refine wc_region ?_
      refine wl_y rfl (y_assign rfl) ?_
      refine wl_nil ?_
      refine wq_then ?_
      refine wc_seq ?_
      refine wc_seq ?_
      refine wc_region ?_
      refine wl_y rfl (y_assign rfl) ?_
      refine wl_nil ?_
      refine wq_then ?_
      refine wc_block ?_
      refine wc_loop (α := Nat × Nat) (fun y => y.2 ≤ s.length + 1 ∧ (y.2 ≤ s.length → RP s y.1 y.2) ∧ (y.2 = s.length + 1 → (parts 47 s).any oddPart = false)) [(0, _)] (fun y => [(3, vI y.1), (4, vI y.2)]) (fun y => Hp w0 K []) (fun y => s.length + 1 - y.2) (0, 0) ?_ ⟨rfl, rfl, rfl, trivial⟩ ?_ ?_
      · exact ⟨Nat.zero_le _, fun _ => RP.start s, fun h => by simp at h⟩
      · exact fun w hw => hw
      · rintro ⟨a, i⟩ ⟨hi, hRP, hfin⟩; simp only at hi hRP hfin
        refine wc_same 3 (vI a) rfl rfl ?_
        refine wc_same 4 (vI i) rfl rfl ?_
        refine wc_seq ?_
        refine wc_seq ?_
        refine wc_region ?_
        refine wl_y rfl (y_move rfl) ?_
        refine wl_y rfl (y_move rfl) ?_
        refine wl_y rfl (y_lenS Tryd.underlying9 rfl) ?_
        refine wl_y rfl (y_leq rfl rfl) ?_
        refine wl_nil ?_
        refine wq_then ?_
        refine wc_cond rfl (fun hc17 => ?_) (fun hc17 => ?_)
        ·
          simp at hc17
          have hR1 := hRP (by omega)
          have hale := hR1.le
          refine wc_skip ?_
          refine wq_then ?_
          refine wc_seq ?_
          refine wc_block ?_
          refine wc_seq ?_
          refine wc_seq ?_
          refine wc_region ?_
          refine wl_y rfl (y_move rfl) ?_
          refine wl_y rfl (y_move rfl) ?_
          refine wl_y rfl (y_lenS Tryd.underlying9 rfl) ?_
          refine wl_y rfl (y_lss rfl rfl) ?_
          refine wl_y rfl (y_move rfl) ?_
          apply wl_and 5 29 [(0, _), (3, _), (4, _)] (t := 24) rfl ⟨rfl, rfl, rfl, trivial⟩
          · intro hg24 hM29
            try (simp at hg24)
            refine wl_yg rfl rfl rfl (y_move rfl) ?_
            refine wl_yg rfl rfl rfl (y_move rfl) ?_
            refine wl_yg rfl rfl rfl (y_indexD Tryd.underlying9 rfl rfl rfl (by omega)) ?_
            refine wl_yg rfl rfl rfl (y_neqI rfl rfl) ?_
            refine wl_y rfl (y_pick_t rfl rfl) ?_
            exact wl_weaken hM29 ⟨rfl, rfl, rfl, rfl, trivial⟩
          · intro hg24 hM29
            refine wl_sk rfl rfl rfl rfl ?_
            refine wl_sk rfl rfl rfl rfl ?_
            refine wl_sk rfl rfl rfl rfl ?_
            refine wl_sk rfl rfl rfl rfl ?_
            refine wl_y rfl (y_pick_f rfl rfl) ?_
            exact wl_weaken hM29 ⟨rfl, rfl, rfl, rfl, trivial⟩
          ·
            refine wl_nil ?_
            refine wq_then ?_
            refine wc_cond rfl (fun hc29 => ?_) (fun hc29 => ?_)
            ·
              simp at hc29
              refine wc_seq ?_
              refine wc_seq ?_
              refine wc_region ?_
              have hsi := getD_some hc29.1
              refine wl_y rfl (y_move rfl) ?_
              refine wl_y rfl (y_move rfl) ?_
              refine wl_y rfl (y_indexD Tryd.underlying9 rfl rfl rfl (by omega)) ?_
              refine wl_y rfl (y_lss rfl rfl) ?_
              refine wl_y rfl (y_move rfl) ?_
              apply wl_or 5 39 [(0, _), (3, _), (4, _)] (t := 34) rfl ⟨rfl, rfl, rfl, trivial⟩
              · intro hg34 hM39
                refine wl_sk rfl rfl rfl rfl ?_
                refine wl_sk rfl rfl rfl rfl ?_
                refine wl_sk rfl rfl rfl rfl ?_
                refine wl_sk rfl rfl rfl rfl ?_
                refine wl_y rfl (y_pick_t rfl rfl) ?_
                exact wl_weaken hM39 ⟨rfl, rfl, rfl, rfl, trivial⟩
              · intro hg34 hM39
                try (simp at hg34)
                refine wl_yg rfl rfl rfl (y_move rfl) ?_
                refine wl_yg rfl rfl rfl (y_move rfl) ?_
                refine wl_yg rfl rfl rfl (y_indexD Tryd.underlying9 rfl rfl rfl (by omega)) ?_
                refine wl_yg rfl rfl rfl (y_gtr rfl rfl) ?_
                refine wl_y rfl (y_pick_f rfl rfl) ?_
                exact wl_weaken hM39 ⟨rfl, rfl, rfl, rfl, trivial⟩
              ·
                refine wl_same 39 (vB (badC (s.getD i 0))) rfl (by rw [badR]) ?_
                refine wl_nil ?_
                refine wq_then ?_
                refine wc_cond rfl (fun hc39 => ?_) (fun hc39 => ?_)
                ·
                  refine wc_seq ?_
                  refine wc_region ?_
                  refine wl_y rfl (y_assign rfl) ?_
                  refine wl_nil ?_
                  refine wq_then ?_
                  refine wc_ret ?_
                  refine wq_then_ret (wq_then_ret (wq_block_ret (wq_then_ret (wq_then_ret (wq_block_ret (wq_then_ret ?_))))))
                  refine wq_ret1 rfl rfl (fun w hw => ?_)
                  have hbad := hR1.bad hsi (ne47 hc29.2) hc39
                  exact ⟨(), trivial, by rw [show pathE s = 13 by simp only [pathE, isPath, hbad, Bool.not_true, Bool.and_false]; rfl], hw⟩
                ·
                  refine wc_skip ?_
                  refine wq_then ?_
                  refine wc_exit ?_
                  refine wq_then_exit (wq_block_exit ?_)
                  refine wq_then ?_
                  refine wc_region ?_
                  refine wl_y rfl (y_move rfl) ?_
                  refine wl_y rfl (y_add rfl rfl (by omega)) ?_
                  refine wl_y rfl (y_assign rfl) ?_
                  refine wl_nil ?_
                  exact wq_round (a, i + 1) (by simp only; omega) ⟨by simp only; omega, fun _ => hR1.step hsi (ne47 hc29.2) hc39, fun h => by simp only at h; omega⟩ ⟨rfl, rfl, rfl, trivial⟩ (fun w hw => hw)
            ·
              simp at hc29
              have hor : i = s.length ∨ s[i]? = some 47 := by
                by_cases hl : i < s.length
                · right; rw [getD_some hl]; exact congrArg some (is47 (by first | exact hc29 hl | omega))
                · left; omega
              refine wc_skip ?_
              refine wq_then ?_
              refine wc_seq ?_
              refine wc_region ?_
              refine wl_y rfl (y_move rfl) ?_
              refine wl_y rfl (y_move rfl) ?_
              refine wl_y rfl (y_move rfl) ?_
              refine wl_y rfl (y_sliceS (i := a) (j := i) Tryd.underlying9 rfl ⟨_, rfl, rfl⟩ ⟨_, rfl, rfl⟩ (by first | omega | (simp; omega)) (by first | omega | (simp; omega)) rfl) ?_
              refine wl_y rfl (y_assign rfl) ?_
              refine wl_nil ?_
              refine wq_then ?_
              refine wc_seq ?_
              refine wc_seq ?_
              refine wc_region ?_
              refine wl_y rfl (y_move rfl) ?_
              refine wl_y rfl (y_eqlS rfl rfl) ?_
              refine wl_y rfl (y_move rfl) ?_
              apply wl_or 3 49 [(0, _), (4, _), (5, _)] (t := 46) rfl ⟨rfl, rfl, rfl, trivial⟩
              · intro hg46 hM49
                refine wl_sk rfl rfl rfl rfl ?_
                refine wl_sk rfl rfl rfl rfl ?_
                refine wl_y rfl (y_pick_t rfl rfl) ?_
                exact wl_weaken hM49 ⟨rfl, rfl, rfl, rfl, trivial⟩
              · intro hg46 hM49
                try (simp at hg46)
                refine wl_yg rfl rfl rfl (y_move rfl) ?_
                refine wl_yg rfl rfl rfl (y_eqlS rfl rfl) ?_
                refine wl_y rfl (y_pick_f rfl rfl) ?_
                exact wl_weaken hM49 ⟨rfl, rfl, rfl, rfl, trivial⟩
              ·
                refine wl_y rfl (y_move rfl) ?_
                apply wl_or 3 53 [(0, _), (4, _)] (t := 50) rfl ⟨rfl, rfl, trivial⟩
                · intro hg50 hM53
                  refine wl_sk rfl rfl rfl rfl ?_
                  refine wl_sk rfl rfl rfl rfl ?_
                  refine wl_y rfl (y_pick_t rfl rfl) ?_
                  exact wl_weaken hM53 ⟨rfl, rfl, rfl, trivial⟩
                · intro hg50 hM53
                  try (simp at hg50)
                  refine wl_yg rfl rfl rfl (y_move rfl) ?_
                  refine wl_yg rfl rfl rfl (y_eqlS rfl rfl) ?_
                  refine wl_y rfl (y_pick_f rfl rfl) ?_
                  exact wl_weaken hM53 ⟨rfl, rfl, rfl, trivial⟩
                ·
                  refine wl_same 53 (vB (oddW ((s.take i).drop a))) rfl rfl ?_
                  refine wl_nil ?_
                  refine wq_then ?_
                  refine wc_cond rfl (fun hc53 => ?_) (fun hc53 => ?_)
                  ·
                    refine wc_seq ?_
                    refine wc_region ?_
                    refine wl_y rfl (y_assign rfl) ?_
                    refine wl_nil ?_
                    refine wq_then ?_
                    refine wc_ret ?_
                    refine wq_then_ret (wq_block_ret (wq_then_ret (wq_then_ret (wq_block_ret (wq_then_ret ?_)))))
                    refine wq_ret1 rfl rfl (fun w hw => ?_)
                    have hbad := hR1.odd hor hc53
                    exact ⟨(), trivial, by rw [show pathE s = 13 by simp only [pathE, isPath, hbad, Bool.not_true, Bool.and_false]; rfl], hw⟩
                  ·
                    refine wc_skip ?_
                    refine wq_then ?_
                    refine wc_region ?_
                    refine wl_y rfl (y_move rfl) ?_
                    refine wl_y rfl (y_add rfl rfl (by omega)) ?_
                    refine wl_y rfl (y_assign rfl) ?_
                    refine wl_nil ?_
                    refine wq_block_normal ?_
                    refine wq_then ?_
                    refine wc_region ?_
                    refine wl_y rfl (y_move rfl) ?_
                    refine wl_y rfl (y_add rfl rfl (by omega)) ?_
                    refine wl_y rfl (y_assign rfl) ?_
                    refine wl_nil ?_
                    exact wq_round (i + 1, i + 1) (by simp only; omega) ⟨by simp only; omega, fun h => hR1.cut (by rcases hor with h' | h'; (simp only at h; omega); exact h') hc53, fun h => hR1.fin (by simp only at h; omega) hc53⟩ ⟨rfl, rfl, rfl, trivial⟩ (fun w hw => hw)
        ·
          simp at hc17
          refine wc_exit ?_
          refine wq_then_exit (wq_then_exit (wq_block_exit ?_))
          refine wq_then ?_
          refine wc_seq ?_
          refine wc_region ?_
          refine wl_y rfl (y_assign rfl) ?_
          refine wl_nil ?_
          refine wq_then ?_
          refine wc_ret ?_
          refine wq_ret1 rfl rfl (fun w hw => ?_)
          have hall := hfin (by omega)
          exact ⟨(), trivial, by rw [show pathE s = 0 by simp only [pathE, isPath, ← lenZ, hall, hc13]; rfl], hw⟩

end Go.Proofs.YtemopomapankmaaDoor
