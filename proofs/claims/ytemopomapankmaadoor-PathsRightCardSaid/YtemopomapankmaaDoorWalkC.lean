/-
  Walks: names.
-/
import Derived.Test.YtemopomapankmaaDoorNameLaw
namespace Go.Proofs.YtemopomapankmaaDoor
open Go.Eng

set_option maxHeartbeats 1000000 in
theorem name_c (s : Str) :
    Ctr Tryd.prog 30 #[vS s] [] [] (fun _ : Unit => True) (fun _ => vI (nameE s)) (fun _ => []) := by
  refine spec_start (n := 43) [(0, vS s)] Tryd.func30 rfl rfl ⟨rfl, trivial⟩ rfl ?_
  intro w0 K hR
  refine wc_seq ?_
  refine wc_region ?_
  refine wl_y rfl (y_assign rfl) ?_
  refine wl_nil ?_
  refine wq_then ?_
  refine wc_seq ?_
  refine wc_seq ?_
  refine wc_region ?_
  refine wl_y rfl (y_move rfl) ?_
  refine wl_y rfl (y_eqlS rfl rfl) ?_
  refine wl_y rfl (y_move rfl) ?_
  apply wl_or 4 11 [(0, _)] (t := 7) rfl ⟨rfl, trivial⟩
  · intro hg7 hM11
    refine wl_sk rfl rfl rfl rfl ?_
    refine wl_sk rfl rfl rfl rfl ?_
    refine wl_sk rfl rfl rfl rfl ?_
    refine wl_y rfl (y_pick_t rfl rfl) ?_
    exact wl_weaken hM11 ⟨rfl, rfl, trivial⟩
  · intro hg7 hM11
    try (simp at hg7)
    refine wl_yg rfl rfl rfl (y_move rfl) ?_
    refine wl_yg rfl rfl rfl (y_lenS Tryd.underlying9 rfl) ?_
    refine wl_yg rfl rfl rfl (y_gtr rfl rfl) ?_
    refine wl_y rfl (y_pick_f rfl rfl) ?_
    exact wl_weaken hM11 ⟨rfl, rfl, trivial⟩
  ·
    refine wl_nil ?_
    refine wq_then ?_
    refine wc_cond rfl (fun hc0 => ?_) (fun hc0 => ?_)
    ·
      refine wc_seq ?_
      refine wc_region ?_
      refine wl_y rfl (y_assign rfl) ?_
      refine wl_nil ?_
      refine wq_then ?_
      refine wc_ret ?_
      refine wq_then_ret ?_
      refine wq_ret1 rfl rfl (fun w hw => ?_)
      exact ⟨(), trivial, by rw [show nameE s = 14 by simp only [nameE, isName, hc0]; rfl], hw⟩
    ·
      have hlen : s.length ≤ 16 := by simp at hc0; omega
      refine wc_skip ?_
      refine wq_then ?_
      refine wc_seq ?_
      refine wc_seq ?_
      refine wc_region ?_
      refine wl_y rfl (y_move rfl) ?_
      refine wl_y rfl (y_lenS Tryd.underlying9 rfl) ?_
      refine wl_y rfl (y_move rfl) ?_
      refine wl_nil ?_
      refine wq_then ?_
      refine wc_block ?_
      refine wc_loop (α := Nat) (fun y => y ≤ s.length ∧ (s.take y).all nameC = true) [(0, _), (13, _)] (fun y => [(14, vI y)]) (fun y => Hp w0 K []) (fun y => s.length - y) 0 ?_ ⟨rfl, rfl, rfl, trivial⟩ ?_ ?_
      · exact ⟨Nat.zero_le _, rfl⟩
      · exact fun w hw => hw
      · rintro k ⟨hk, hall⟩
        refine wc_seq ?_
        refine wc_region ?_
        refine wl_y rfl (y_lss rfl rfl) ?_
        refine wl_nil ?_
        refine wq_then ?_
        refine wc_seq ?_
        refine wc_cond rfl (fun hc15 => ?_) (fun hc15 => ?_)
        ·
          simp at hc15
          refine wc_skip ?_
          refine wq_then ?_
          refine wc_seq ?_
          refine wc_block ?_
          refine wc_seq ?_
          refine wc_region ?_
          obtain ⟨ch, hch⟩ : ∃ ch, s[k]? = some ch := ⟨_, List.getElem?_eq_getElem (by omega)⟩
          refine wl_y rfl (y_move rfl) ?_
          refine wl_y rfl (y_assign rfl) ?_
          refine wl_nil ?_
          refine wq_then ?_
          refine wc_seq ?_
          refine wc_region ?_
          refine wl_y rfl (y_move rfl) ?_
          refine wl_y rfl (y_move rfl) ?_
          refine wl_y rfl (y_indexS Tryd.underlying9 rfl rfl rfl hch) ?_
          refine wl_y rfl (y_assign rfl) ?_
          refine wl_nil ?_
          refine wq_then ?_
          refine wc_seq ?_
          refine wc_region ?_
          refine wl_y rfl (y_move rfl) ?_
          refine wl_y rfl (y_neqI rfl rfl) ?_
          refine wl_y rfl (y_move rfl) ?_
          apply wl_and 3 25 [(0, _), (4, _), (13, _), (14, _)] (t := 22) rfl ⟨rfl, rfl, rfl, rfl, trivial⟩
          · intro hg22 hM25
            try (simp at hg22)
            refine wl_yg rfl rfl rfl (y_move rfl) ?_
            refine wl_yg rfl rfl rfl (y_neqI rfl rfl) ?_
            refine wl_y rfl (y_pick_t rfl rfl) ?_
            exact wl_weaken hM25 ⟨rfl, rfl, rfl, rfl, rfl, trivial⟩
          · intro hg22 hM25
            refine wl_sk rfl rfl rfl rfl ?_
            refine wl_sk rfl rfl rfl rfl ?_
            refine wl_y rfl (y_pick_f rfl rfl) ?_
            exact wl_weaken hM25 ⟨rfl, rfl, rfl, rfl, rfl, trivial⟩
          ·
            refine wl_y rfl (y_move rfl) ?_
            apply wl_and 7 33 [(0, _), (4, _), (13, _), (14, _)] (t := 26) rfl ⟨rfl, rfl, rfl, rfl, trivial⟩
            · intro hg26 hM33
              try (simp at hg26)
              refine wl_yg rfl rfl rfl (y_move rfl) ?_
              refine wl_yg rfl rfl rfl (y_lss rfl rfl) ?_
              refine wl_yg rfl rfl rfl (y_move rfl) ?_
              apply wl_or 3 32 [(0, _), (4, _), (13, _), (14, _), (26, _)] (t := 29) rfl ⟨rfl, rfl, rfl, rfl, rfl, trivial⟩
              · intro hg29 hM32
                refine wl_sk rfl rfl rfl rfl ?_
                refine wl_sk rfl rfl rfl rfl ?_
                refine wl_yg rfl rfl rfl (y_pick_t rfl rfl) ?_
                exact wl_weaken hM32 ⟨rfl, rfl, rfl, rfl, rfl, rfl, trivial⟩
              · intro hg29 hM32
                try (simp at hg29)
                refine wl_yg rfl rfl rfl (y_move rfl) ?_
                refine wl_yg rfl rfl rfl (y_gtr rfl rfl) ?_
                refine wl_yg rfl rfl rfl (y_pick_f rfl rfl) ?_
                exact wl_weaken hM32 ⟨rfl, rfl, rfl, rfl, rfl, rfl, trivial⟩
              ·
                refine wl_y rfl (y_pick_t rfl rfl) ?_
                exact wl_weaken hM33 ⟨rfl, rfl, rfl, rfl, rfl, trivial⟩
            · intro hg26 hM33
              refine wl_sk rfl rfl rfl rfl ?_
              refine wl_sk rfl rfl rfl rfl ?_
              refine wl_sk rfl rfl rfl rfl ?_
              refine wl_sku rfl rfl rfl ?_
              refine wl_sku rfl rfl rfl ?_
              refine wl_sk rfl rfl rfl rfl ?_
              refine wl_y rfl (y_pick_f rfl rfl) ?_
              exact wl_weaken hM33 ⟨rfl, rfl, rfl, rfl, rfl, trivial⟩
            ·
              refine wl_y rfl (y_move rfl) ?_
              apply wl_and 7 41 [(0, _), (13, _), (14, _)] (t := 34) rfl ⟨rfl, rfl, rfl, trivial⟩
              · intro hg34 hM41
                try (simp at hg34)
                refine wl_yg rfl rfl rfl (y_move rfl) ?_
                refine wl_yg rfl rfl rfl (y_lss rfl rfl) ?_
                refine wl_yg rfl rfl rfl (y_move rfl) ?_
                apply wl_or 3 40 [(0, _), (13, _), (14, _), (34, _)] (t := 37) rfl ⟨rfl, rfl, rfl, rfl, trivial⟩
                · intro hg37 hM40
                  refine wl_sk rfl rfl rfl rfl ?_
                  refine wl_sk rfl rfl rfl rfl ?_
                  refine wl_yg rfl rfl rfl (y_pick_t rfl rfl) ?_
                  exact wl_weaken hM40 ⟨rfl, rfl, rfl, rfl, rfl, trivial⟩
                · intro hg37 hM40
                  try (simp at hg37)
                  refine wl_yg rfl rfl rfl (y_move rfl) ?_
                  refine wl_yg rfl rfl rfl (y_gtr rfl rfl) ?_
                  refine wl_yg rfl rfl rfl (y_pick_f rfl rfl) ?_
                  exact wl_weaken hM40 ⟨rfl, rfl, rfl, rfl, rfl, trivial⟩
                ·
                  refine wl_y rfl (y_pick_t rfl rfl) ?_
                  exact wl_weaken hM41 ⟨rfl, rfl, rfl, rfl, trivial⟩
              · intro hg34 hM41
                refine wl_sk rfl rfl rfl rfl ?_
                refine wl_sk rfl rfl rfl rfl ?_
                refine wl_sk rfl rfl rfl rfl ?_
                refine wl_sku rfl rfl rfl ?_
                refine wl_sku rfl rfl rfl ?_
                refine wl_sk rfl rfl rfl rfl ?_
                refine wl_y rfl (y_pick_f rfl rfl) ?_
                exact wl_weaken hM41 ⟨rfl, rfl, rfl, rfl, trivial⟩
              ·
                refine wl_same 41 (vB (!nameC ch)) rfl (by rw [badN1]) ?_
                refine wl_nil ?_
                refine wq_then ?_
                refine wc_cond rfl (fun hc41 => ?_) (fun hc41 => ?_)
                ·
                  simp at hc41
                  refine wc_seq ?_
                  refine wc_region ?_
                  refine wl_y rfl (y_assign rfl) ?_
                  refine wl_nil ?_
                  refine wq_then ?_
                  refine wc_ret ?_
                  refine wq_block_ret (wq_then_ret (wq_then_ret (wq_block_ret (wq_then_ret ?_))))
                  refine wq_ret1 rfl rfl (fun w hw => ?_)
                  exact ⟨(), trivial, by rw [show nameE s = 14 by simp only [nameE, isName, not_all hch hc41, Bool.and_false]; rfl], hw⟩
                ·
                  simp at hc41
                  refine wc_skip ?_
                  refine wq_block_normal ?_
                  refine wq_then ?_
                  refine wc_region ?_
                  refine wl_y rfl (y_add rfl rfl (by omega)) ?_
                  refine wl_y rfl (y_move rfl) ?_
                  refine wl_nil ?_
                  exact wq_round (k + 1) (by omega) ⟨by omega, by rw [all_snoc _ hch, hall, hc41]; rfl⟩ ⟨rfl, rfl, rfl, trivial⟩ (fun w hw => hw)
        ·
          simp at hc15
          refine wc_exit ?_
          refine wq_then_exit (wq_then_exit (wq_block_exit ?_))
          refine wq_then ?_
          refine wc_seq ?_
          refine wc_region ?_
          refine wl_y rfl (y_assign rfl) ?_
          refine wl_nil ?_
          refine wq_then ?_
          refine wc_ret ?_
          refine wq_ret1 rfl rfl (fun w hw => ?_)
          exact ⟨(), trivial, by rw [show nameE s = 0 by
            have hk' : k = s.length := by omega
            rw [hk', List.take_length] at hall
            simp only [nameE, isName, hc0, hall]; rfl], hw⟩

set_option maxHeartbeats 1000000 in
theorem rname_c (s : Str) :
    Ctr Tryd.prog 31 #[vS s] [] [] (fun _ : Unit => True) (fun _ => vI (nameE s)) (fun _ => []) := by
  refine spec_start (n := 45) [(0, vS s)] Tryd.func31 rfl rfl ⟨rfl, trivial⟩ rfl ?_
  intro w0 K hR
  refine wc_seq ?_
  refine wc_region ?_
  refine wl_y rfl (y_assign rfl) ?_
  refine wl_nil ?_
  refine wq_then ?_
  refine wc_seq ?_
  refine wc_seq ?_
  refine wc_region ?_
  refine wl_y rfl (y_move rfl) ?_
  refine wl_y rfl (y_lenS Tryd.underlying9 rfl) ?_
  refine wl_y rfl (y_lss rfl rfl) ?_
  refine wl_y rfl (y_move rfl) ?_
  apply wl_or 4 12 [(0, _)] (t := 8) rfl ⟨rfl, trivial⟩
  · intro hg8 hM12
    refine wl_sk rfl rfl rfl rfl ?_
    refine wl_sk rfl rfl rfl rfl ?_
    refine wl_sk rfl rfl rfl rfl ?_
    refine wl_y rfl (y_pick_t rfl rfl) ?_
    exact wl_weaken hM12 ⟨rfl, rfl, trivial⟩
  · intro hg8 hM12
    try (simp at hg8)
    refine wl_yg rfl rfl rfl (y_move rfl) ?_
    refine wl_yg rfl rfl rfl (y_lenS Tryd.underlying9 rfl) ?_
    refine wl_yg rfl rfl rfl (y_gtr rfl rfl) ?_
    refine wl_y rfl (y_pick_f rfl rfl) ?_
    exact wl_weaken hM12 ⟨rfl, rfl, trivial⟩
  ·
    refine wl_nil ?_
    refine wq_then ?_
    refine wc_cond rfl (fun hc0 => ?_) (fun hc0 => ?_)
    ·
      refine wc_seq ?_
      refine wc_region ?_
      refine wl_y rfl (y_assign rfl) ?_
      refine wl_nil ?_
      refine wq_then ?_
      refine wc_ret ?_
      refine wq_then_ret ?_
      refine wq_ret1 rfl rfl (fun w hw => ?_)
      exact ⟨(), trivial, by rw [show nameE s = 14 by simp only [nameE, isName, ← lenZ, hc0]; rfl], hw⟩
    ·
      have hlen : s.length ≤ 16 := by simp at hc0; omega
      refine wc_skip ?_
      refine wq_then ?_
      refine wc_seq ?_
      refine wc_seq ?_
      refine wc_region ?_
      refine wl_y rfl (y_assign rfl) ?_
      refine wl_nil ?_
      refine wq_then ?_
      refine wc_block ?_
      refine wc_loop (α := Nat) (fun y => y ≤ s.length ∧ (s.take y).all nameC = true) [(0, _)] (fun y => [(3, vI y)]) (fun y => Hp w0 K []) (fun y => s.length - y) 0 ?_ ⟨rfl, rfl, trivial⟩ ?_ ?_
      · exact ⟨Nat.zero_le _, rfl⟩
      · exact fun w hw => hw
      · rintro k ⟨hk, hall⟩
        refine wc_seq ?_
        refine wc_seq ?_
        refine wc_region ?_
        refine wl_y rfl (y_move rfl) ?_
        refine wl_y rfl (y_move rfl) ?_
        refine wl_y rfl (y_lenS Tryd.underlying9 rfl) ?_
        refine wl_y rfl (y_lss rfl rfl) ?_
        refine wl_nil ?_
        refine wq_then ?_
        refine wc_cond rfl (fun hc15 => ?_) (fun hc15 => ?_)
        ·
          simp at hc15
          refine wc_skip ?_
          refine wq_then ?_
          refine wc_seq ?_
          refine wc_block ?_
          refine wc_seq ?_
          refine wc_region ?_
          obtain ⟨ch, hch⟩ : ∃ ch, s[k]? = some ch := ⟨_, List.getElem?_eq_getElem (by omega)⟩
          refine wl_y rfl (y_move rfl) ?_
          refine wl_y rfl (y_move rfl) ?_
          refine wl_y rfl (y_indexS Tryd.underlying9 rfl rfl rfl hch) ?_
          refine wl_y rfl (y_assign rfl) ?_
          refine wl_nil ?_
          refine wq_then ?_
          refine wc_seq ?_
          refine wc_region ?_
          refine wl_y rfl (y_move rfl) ?_
          refine wl_y rfl (y_geq rfl rfl) ?_
          refine wl_y rfl (y_move rfl) ?_
          apply wl_and 3 27 [(0, _), (3, _), (4, _)] (t := 24) rfl ⟨rfl, rfl, rfl, trivial⟩
          · intro hg24 hM27
            try (simp at hg24)
            refine wl_yg rfl rfl rfl (y_move rfl) ?_
            refine wl_yg rfl rfl rfl (y_leq rfl rfl) ?_
            refine wl_y rfl (y_pick_t rfl rfl) ?_
            exact wl_weaken hM27 ⟨rfl, rfl, rfl, rfl, trivial⟩
          · intro hg24 hM27
            refine wl_sk rfl rfl rfl rfl ?_
            refine wl_sk rfl rfl rfl rfl ?_
            refine wl_y rfl (y_pick_f rfl rfl) ?_
            exact wl_weaken hM27 ⟨rfl, rfl, rfl, rfl, trivial⟩
          ·
            refine wl_y rfl (y_move rfl) ?_
            apply wl_or 7 35 [(0, _), (3, _), (4, _)] (t := 28) rfl ⟨rfl, rfl, rfl, trivial⟩
            · intro hg28 hM35
              refine wl_sk rfl rfl rfl rfl ?_
              refine wl_sk rfl rfl rfl rfl ?_
              refine wl_sk rfl rfl rfl rfl ?_
              refine wl_sku rfl rfl rfl ?_
              refine wl_sku rfl rfl rfl ?_
              refine wl_sk rfl rfl rfl rfl ?_
              refine wl_y rfl (y_pick_t rfl rfl) ?_
              exact wl_weaken hM35 ⟨rfl, rfl, rfl, rfl, trivial⟩
            · intro hg28 hM35
              try (simp at hg28)
              refine wl_yg rfl rfl rfl (y_move rfl) ?_
              refine wl_yg rfl rfl rfl (y_geq rfl rfl) ?_
              refine wl_yg rfl rfl rfl (y_move rfl) ?_
              apply wl_and 3 34 [(0, _), (3, _), (4, _), (28, _)] (t := 31) rfl ⟨rfl, rfl, rfl, rfl, trivial⟩
              · intro hg31 hM34
                try (simp at hg31)
                refine wl_yg rfl rfl rfl (y_move rfl) ?_
                refine wl_yg rfl rfl rfl (y_leq rfl rfl) ?_
                refine wl_yg rfl rfl rfl (y_pick_t rfl rfl) ?_
                exact wl_weaken hM34 ⟨rfl, rfl, rfl, rfl, rfl, trivial⟩
              · intro hg31 hM34
                refine wl_sk rfl rfl rfl rfl ?_
                refine wl_sk rfl rfl rfl rfl ?_
                refine wl_yg rfl rfl rfl (y_pick_f rfl rfl) ?_
                exact wl_weaken hM34 ⟨rfl, rfl, rfl, rfl, rfl, trivial⟩
              ·
                refine wl_y rfl (y_pick_f rfl rfl) ?_
                exact wl_weaken hM35 ⟨rfl, rfl, rfl, rfl, trivial⟩
            ·
              refine wl_y rfl (y_move rfl) ?_
              apply wl_or 3 39 [(0, _), (3, _), (4, _)] (t := 36) rfl ⟨rfl, rfl, rfl, trivial⟩
              · intro hg36 hM39
                refine wl_sk rfl rfl rfl rfl ?_
                refine wl_sk rfl rfl rfl rfl ?_
                refine wl_y rfl (y_pick_t rfl rfl) ?_
                exact wl_weaken hM39 ⟨rfl, rfl, rfl, rfl, trivial⟩
              · intro hg36 hM39
                try (simp at hg36)
                refine wl_yg rfl rfl rfl (y_move rfl) ?_
                refine wl_yg rfl rfl rfl (y_eqlI rfl rfl) ?_
                refine wl_y rfl (y_pick_f rfl rfl) ?_
                exact wl_weaken hM39 ⟨rfl, rfl, rfl, rfl, trivial⟩
              ·
                refine wl_y rfl (y_move rfl) ?_
                apply wl_or 3 43 [(0, _), (3, _)] (t := 40) rfl ⟨rfl, rfl, trivial⟩
                · intro hg40 hM43
                  refine wl_sk rfl rfl rfl rfl ?_
                  refine wl_sk rfl rfl rfl rfl ?_
                  refine wl_y rfl (y_pick_t rfl rfl) ?_
                  exact wl_weaken hM43 ⟨rfl, rfl, rfl, trivial⟩
                · intro hg40 hM43
                  try (simp at hg40)
                  refine wl_yg rfl rfl rfl (y_move rfl) ?_
                  refine wl_yg rfl rfl rfl (y_eqlI rfl rfl) ?_
                  refine wl_y rfl (y_pick_f rfl rfl) ?_
                  exact wl_weaken hM43 ⟨rfl, rfl, rfl, trivial⟩
                ·
                  refine wl_y rfl (y_not rfl) ?_
                  refine wl_same 44 (vB (!nameC ch)) rfl (by rw [badN2]) ?_
                  refine wl_nil ?_
                  refine wq_then ?_
                  refine wc_cond rfl (fun hc41 => ?_) (fun hc41 => ?_)
                  ·
                    simp at hc41
                    refine wc_seq ?_
                    refine wc_region ?_
                    refine wl_y rfl (y_assign rfl) ?_
                    refine wl_nil ?_
                    refine wq_then ?_
                    refine wc_ret ?_
                    refine wq_block_ret (wq_then_ret (wq_then_ret (wq_block_ret (wq_then_ret ?_))))
                    refine wq_ret1 rfl rfl (fun w hw => ?_)
                    exact ⟨(), trivial, by rw [show nameE s = 14 by simp only [nameE, isName, not_all hch hc41, Bool.and_false]; rfl], hw⟩
                  ·
                    simp at hc41
                    refine wc_skip ?_
                    refine wq_block_normal ?_
                    refine wq_then ?_
                    refine wc_region ?_
                    refine wl_y rfl (y_move rfl) ?_
                    refine wl_y rfl (y_add rfl rfl (by omega)) ?_
                    refine wl_y rfl (y_assign rfl) ?_
                    refine wl_nil ?_
                    exact wq_round (k + 1) (by omega) ⟨by omega, by rw [all_snoc _ hch, hall, hc41]; rfl⟩ ⟨rfl, rfl, trivial⟩ (fun w hw => hw)
        ·
          simp at hc15
          refine wc_exit ?_
          refine wq_then_exit (wq_then_exit (wq_block_exit ?_))
          refine wq_then ?_
          refine wc_seq ?_
          refine wc_region ?_
          refine wl_y rfl (y_assign rfl) ?_
          refine wl_nil ?_
          refine wq_then ?_
          refine wc_ret ?_
          refine wq_ret1 rfl rfl (fun w hw => ?_)
          exact ⟨(), trivial, by rw [show nameE s = 0 by
            have hk' : k = s.length := by omega
            rw [hk', List.take_length] at hall
            simp only [nameE, isName, ← lenZ, hc0, hall]; rfl], hw⟩

end Go.Proofs.YtemopomapankmaaDoor
