/-
  Walks: how texts begin.
-/
import Derived.Test.YtbnahfjhlbibcaaGreatDoorLib
namespace Go.Proofs.YtbnahfjhlbibcaaGreatDoor
open Go.Eng

open Go.Lib
theorem eqC (b c : UInt8) : ((b.toNat : Int) = (c.toNat : Nat)) ↔ b = c := by
  constructor
  · intro h; exact UInt8.toNat_inj.1 (by omega)
  · rintro rfl; rfl
theorem notD {b : UInt8} (h : (b.toNat : Int) < 48) : isD b = false := by simp only [isD, decide_eq_false_iff_not]; omega
theorem notD2 {b : UInt8} (h : 57 < (b.toNat : Int)) : isD b = false := by simp only [isD, decide_eq_false_iff_not]; omega
theorem isDD {b : UInt8} (h1 : 48 ≤ (b.toNat : Int)) (h2 : (b.toNat : Int) ≤ 57) : isD b = true := by simp only [isD, decide_eq_true_eq]; omega
theorem dig_snoc {s : Str} {k : Nat} {c : UInt8} (hall : ∀ j b, j < k → s[j]? = some b → isD b = true) (hc : s[k]? = some c) (hd : isD c = true) : ∀ j b, j < k + 1 → s[j]? = some b → isD b = true := fun j b hj hb => by
  by_cases h : j = k
  · subst h; rw [hc] at hb; cases hb; exact hd
  · exact hall j b (by omega) hb
theorem badL_false {s : Str} (h : badL s = false) : s[kLen s]? = some cCol ∧ kLen s ≠ 0 ∧ ¬ (1 < kLen s ∧ s[0]? = some 48) := by
  simp only [badL, decide_eq_false_iff_not, not_or, Decidable.not_not] at h
  exact h
theorem preF_ne {s : Str} (h : kLen s ≠ 0) : preF s ≠ [] := fun e => by have := preF_len s; rw [e] at this; exact h this.symm
theorem lenF_end {s : Str} (h : kLen s = s.length) : lenF s = (0, [], 10) := by rw [lenF, if_pos h]
theorem lenF_bad {s : Str} (h : kLen s ≠ s.length) (h2 : badL s = true) : lenF s = (0, [], 11) := by rw [lenF, if_neg h, if_pos h2]
theorem lenF_ok {s : Str} (h : kLen s ≠ s.length) (h2 : badL s = false) : lenF s = (((valF (preF s) : Nat) : Int), s.drop (kLen s + 1), 0) := by rw [lenF, if_neg h, h2, if_neg (by decide)]
theorem bad1 {s : Str} {c : UInt8} (hc : s[kLen s]? = some c) (h : c ≠ 58) : badL s = true := by
  simp only [badL, decide_eq_true_eq, hc]; exact .inl (by simpa using h)
theorem bad2 {s : Str} (h : kLen s = 0) : badL s = true := by simp only [badL, decide_eq_true_eq]; exact .inr (.inl h)
theorem bad3 {s : Str} (h : 1 < kLen s) (h2 : s[0]? = some 48) : badL s = true := by simp only [badL, decide_eq_true_eq]; exact .inr (.inr ⟨h, h2⟩)
theorem good1 {s : Str} {c : UInt8} (hc : s[kLen s]? = some c) (h : c = 58) (h0 : kLen s ≠ 0) (h2 : ¬ (1 < kLen s ∧ s[0]? = some 48)) : badL s = false := by
  subst h
  simp only [badL, decide_eq_false_iff_not, not_or, Decidable.not_not]; exact ⟨hc, h0, h2⟩
theorem u8_eq {c : UInt8} {k : Nat} (h : (c.toNat : Int) = k) (hk : k < 256) : c = UInt8.ofNat k := by
  apply UInt8.toNat_inj.1
  have : (UInt8.ofNat k).toNat = k := by simp; omega
  omega
theorem u8_ne {c d : UInt8} {k : Nat} (h : ¬ (c.toNat : Int) = k) (hk : d.toNat = k) : c ≠ d := fun e => h (by rw [e, hk])
theorem at_get {s : Str} {k : Nat} (h : k < s.length) : ∃ c, s[k]? = some c := ⟨_, List.getElem?_eq_getElem h⟩
set_option maxHeartbeats 1000000 in
theorem length_c (s : Str) (hl : s.length ≤ 1000000000) :
    Ctr Tryz.prog 71 #[vS s] [] [] (fun _ : Unit => True) (fun _ => .tuple #[vI (lenF s).1, vS (lenF s).2.1, vI (lenF s).2.2]) (fun _ => []) := by
  refine spec_start (n := 67) [(0, vS s)] Tryz.func71 rfl rfl ⟨rfl, trivial⟩ rfl ?_
  intro w0 K hR
  refine wc_seq ?_
  refine wc_region ?_
  refine wl_y rfl (y_assign rfl) ?_
  refine wl_y rfl (y_assign rfl) ?_
  refine wl_y rfl (y_assign rfl) ?_
  refine wl_nil ?_
  refine wq_then ?_
  refine wc_seq ?_
  refine wc_region ?_
  refine wl_y rfl (y_assign rfl) ?_
  refine wl_nil ?_
  refine wq_then ?_
  refine wc_seq (wc_cut (α := Unit) (fun x => True) [(0, _)] (fun x => [(5, vI (kLen s))]) (fun x => Hp w0 K []) ⟨rfl, trivial⟩ ?_ ?_)
  ·
    refine wc_block ?_
    refine wc_loop (α := Nat) (fun y => y ≤ 7 ∧ y ≤ s.length ∧ ∀ j b, j < y → s[j]? = some b → isD b = true) [(0, _)] (fun y => [(5, vI y)]) (fun y => Hp w0 K []) (fun y => 7 - y) 0 ?_ ⟨rfl, rfl, trivial⟩ ?_ ?_
    · exact ⟨Nat.zero_le _, Nat.zero_le _, fun j _ hj => absurd hj (Nat.not_lt_zero _)⟩
    · exact fun w hw => hw
    · rintro k ⟨h7, hk, hall⟩
      refine wc_seq ?_
      refine wc_seq ?_
      refine wc_region ?_
      refine wl_y rfl (y_move rfl) ?_
      refine wl_y rfl (y_move rfl) ?_
      refine wl_y rfl (y_lenS Tryz.underlying9 rfl) ?_
      refine wl_y rfl (y_lss rfl rfl) ?_
      refine wl_y rfl (y_move rfl) ?_
      refine wl_case 12 rfl (fun hg12 => ?_) (fun hg12 => ?_)
      ·
        simp at hg12
        refine wl_yg rfl rfl rfl (y_move rfl) ?_
        refine wl_yg rfl rfl rfl (y_lss rfl rfl) ?_
        refine wl_y rfl (y_pick_t rfl rfl) ?_
        refine wl_y rfl (y_move rfl) ?_
        refine wl_case 16 rfl (fun hg16 => ?_) (fun hg16 => ?_)
        ·
          simp at hg16
          obtain ⟨c, hc⟩ := at_get (s := s) (k := k) (by omega)
          refine wl_yg rfl rfl rfl (y_move rfl) ?_
          refine wl_yg rfl rfl rfl (y_move rfl) ?_
          refine wl_yg rfl rfl rfl (y_indexS Tryz.underlying9 rfl rfl rfl (by assumption)) ?_
          refine wl_yg rfl rfl rfl (y_geq rfl rfl) ?_
          refine wl_y rfl (y_pick_t rfl rfl) ?_
          refine wl_y rfl (y_move rfl) ?_
          refine wl_case 22 rfl (fun hg22 => ?_) (fun hg22 => ?_)
          ·
            simp at hg22
            refine wl_yg rfl rfl rfl (y_move rfl) ?_
            refine wl_yg rfl rfl rfl (y_move rfl) ?_
            refine wl_yg rfl rfl rfl (y_indexS Tryz.underlying9 rfl rfl rfl (by assumption)) ?_
            refine wl_yg rfl rfl rfl (y_leq rfl rfl) ?_
            refine wl_y rfl (y_pick_t rfl rfl) ?_
            refine wl_nil ?_
            refine wq_then ?_
            refine wc_cond rfl (fun hc27 => ?_) (fun hc27 => ?_)
            ·
              simp at hc27
              refine wc_skip ?_
              refine wq_then ?_
              refine wc_block ?_
              refine wc_region ?_
              refine wl_y rfl (y_move rfl) ?_
              refine wl_y rfl (y_add rfl rfl (by omega)) ?_
              refine wl_y rfl (y_assign rfl) ?_
              refine wl_nil ?_
              refine wq_block_normal ?_
              exact wq_round (k + 1) (by omega) ⟨by omega, by omega, dig_snoc hall hc (isDD hg22 hc27)⟩ ⟨rfl, rfl, trivial⟩ (fun w hw => hw)
            ·
              simp at hc27
              refine wc_exit ?_
              refine wq_then_exit (wq_then_exit (wq_block_exit ?_))
              have hke := kLen_eq h7 hk hall (.inr (.inr ⟨c, hc, notD2 hc27⟩))
              refine wq_same 5 (vI (kLen s)) rfl (by rw [hke]) ?_
              exact wq_cut () trivial ⟨rfl, rfl, trivial⟩ (fun w hw => hw)
          ·
            simp at hg22
            refine wl_sk rfl rfl rfl rfl ?_
            refine wl_sk rfl rfl rfl rfl ?_
            refine wl_sk rfl rfl rfl rfl ?_
            refine wl_sk rfl rfl rfl rfl ?_
            refine wl_y rfl (y_pick_f rfl rfl) ?_
            refine wl_nil ?_
            refine wq_then ?_
            refine wc_cond_false rfl ?_
            refine wc_exit ?_
            refine wq_then_exit (wq_then_exit (wq_block_exit ?_))
            have hke := kLen_eq h7 hk hall (.inr (.inr ⟨c, hc, notD hg22⟩))
            refine wq_same 5 (vI (kLen s)) rfl (by rw [hke]) ?_
            exact wq_cut () trivial ⟨rfl, rfl, trivial⟩ (fun w hw => hw)
        ·
          simp at hg16
          refine wl_sk rfl rfl rfl rfl ?_
          refine wl_sk rfl rfl rfl rfl ?_
          refine wl_sk rfl rfl rfl rfl ?_
          refine wl_sk rfl rfl rfl rfl ?_
          refine wl_y rfl (y_pick_f rfl rfl) ?_
          refine wl_y rfl (y_move rfl) ?_
          refine wl_sk rfl rfl rfl rfl ?_
          refine wl_sk rfl rfl rfl rfl ?_
          refine wl_sk rfl rfl rfl rfl ?_
          refine wl_sk rfl rfl rfl rfl ?_
          refine wl_y rfl (y_pick_f rfl rfl) ?_
          refine wl_nil ?_
          refine wq_then ?_
          refine wc_cond_false rfl ?_
          refine wc_exit ?_
          refine wq_then_exit (wq_then_exit (wq_block_exit ?_))
          have hke := kLen_eq h7 hk hall (.inl (by omega))
          refine wq_same 5 (vI (kLen s)) rfl (by rw [hke]) ?_
          exact wq_cut () trivial ⟨rfl, rfl, trivial⟩ (fun w hw => hw)
      ·
        simp at hg12
        refine wl_sk rfl rfl rfl rfl ?_
        refine wl_sk rfl rfl rfl rfl ?_
        refine wl_y rfl (y_pick_f rfl rfl) ?_
        refine wl_y rfl (y_move rfl) ?_
        refine wl_sk rfl rfl rfl rfl ?_
        refine wl_sk rfl rfl rfl rfl ?_
        refine wl_sk rfl rfl rfl rfl ?_
        refine wl_sk rfl rfl rfl rfl ?_
        refine wl_y rfl (y_pick_f rfl rfl) ?_
        refine wl_y rfl (y_move rfl) ?_
        refine wl_sk rfl rfl rfl rfl ?_
        refine wl_sk rfl rfl rfl rfl ?_
        refine wl_sk rfl rfl rfl rfl ?_
        refine wl_sk rfl rfl rfl rfl ?_
        refine wl_y rfl (y_pick_f rfl rfl) ?_
        refine wl_nil ?_
        refine wq_then ?_
        refine wc_cond_false rfl ?_
        refine wc_exit ?_
        refine wq_then_exit (wq_then_exit (wq_block_exit ?_))
        have hke := kLen_eq h7 hk hall (.inr (.inl (by omega)))
        refine wq_same 5 (vI (kLen s)) rfl (by rw [hke]) ?_
        exact wq_cut () trivial ⟨rfl, rfl, trivial⟩ (fun w hw => hw)
  · intro _ _
    have h7 := kLen_7 s
    have hk := kLen_le s
    refine all_wc ?_
    refine wc_seq (wc_cut (α := Unit) (fun x => kLen s ≠ s.length ∧ badL s = false) [(0, _), (5, _)] (fun x => []) (fun x => Hp w0 K []) ⟨rfl, rfl, trivial⟩ ?_ ?_)
    ·
      refine wc_block ?_
      refine wc_seq ?_
      refine wc_region ?_
      refine wl_y rfl (y_move rfl) ?_
      refine wl_y rfl (y_move rfl) ?_
      refine wl_y rfl (y_lenS Tryz.underlying9 rfl) ?_
      refine wl_y rfl (y_eqlI rfl rfl) ?_
      refine wl_y rfl (y_assign rfl) ?_
      refine wl_nil ?_
      refine wq_then ?_
      refine wc_cond rfl (fun hc30 => ?_) (fun hc30 => ?_)
      ·
        simp at hc30
        refine wc_seq ?_
        refine wc_region ?_
        refine wl_y rfl (y_assign rfl) ?_
        refine wl_y rfl (y_assign rfl) ?_
        refine wl_y rfl (y_assign rfl) ?_
        refine wl_nil ?_
        refine wq_then ?_
        refine wc_ret ?_
        refine wq_block_ret (wq_then_ret ?_)
        refine wq_ret3 rfl rfl rfl rfl (fun w hw => ?_)
        rw [lenF_end (by omega)]; exact ⟨(), trivial, rfl, hw.bare⟩
      ·
        simp at hc30
        refine wc_seq ?_
        refine wc_region ?_
        obtain ⟨c, hc⟩ := at_get (s := s) (k := kLen s) (by omega)
        refine wl_y rfl (y_move rfl) ?_
        refine wl_y rfl (y_move rfl) ?_
        refine wl_y rfl (y_indexS Tryz.underlying9 rfl rfl rfl (by assumption)) ?_
        refine wl_y rfl (y_neqI rfl rfl) ?_
        refine wl_y rfl (y_move rfl) ?_
        refine wl_case 40 rfl (fun hg40 => ?_) (fun hg40 => ?_)
        ·
          simp at hg40
          refine wl_sk rfl rfl rfl rfl ?_
          refine wl_sk rfl rfl rfl rfl ?_
          refine wl_y rfl (y_pick_t rfl rfl) ?_
          refine wl_y rfl (y_move rfl) ?_
          refine wl_sk rfl rfl rfl rfl ?_
          refine wl_sk rfl rfl rfl rfl ?_
          refine wl_sk rfl rfl rfl rfl ?_
          refine wl_sku rfl rfl rfl ?_
          refine wl_sku rfl rfl rfl ?_
          refine wl_sku rfl rfl rfl ?_
          refine wl_sk rfl rfl rfl rfl ?_
          refine wl_y rfl (y_pick_t rfl rfl) ?_
          refine wl_y rfl (y_assign rfl) ?_
          refine wl_nil ?_
          refine wq_then ?_
          refine wc_cond_true rfl ?_
          refine wc_seq ?_
          refine wc_region ?_
          refine wl_y rfl (y_assign rfl) ?_
          refine wl_y rfl (y_assign rfl) ?_
          refine wl_y rfl (y_assign rfl) ?_
          refine wl_nil ?_
          refine wq_then ?_
          refine wc_ret ?_
          refine wq_block_ret (wq_then_ret ?_)
          refine wq_ret3 rfl rfl rfl rfl (fun w hw => ?_)
          rw [lenF_bad (by omega) (bad1 hc (u8_ne (k := 58) (by omega) rfl))]; exact ⟨(), trivial, rfl, hw.bare⟩
        ·
          simp at hg40
          refine wl_yg rfl rfl rfl (y_move rfl) ?_
          refine wl_yg rfl rfl rfl (y_eqlI rfl rfl) ?_
          refine wl_y rfl (y_pick_f rfl rfl) ?_
          refine wl_y rfl (y_move rfl) ?_
          refine wl_case 44 rfl (fun hg44 => ?_) (fun hg44 => ?_)
          ·
            simp at hg44
            refine wl_sk rfl rfl rfl rfl ?_
            refine wl_sk rfl rfl rfl rfl ?_
            refine wl_sk rfl rfl rfl rfl ?_
            refine wl_sku rfl rfl rfl ?_
            refine wl_sku rfl rfl rfl ?_
            refine wl_sku rfl rfl rfl ?_
            refine wl_sk rfl rfl rfl rfl ?_
            refine wl_y rfl (y_pick_t rfl rfl) ?_
            refine wl_y rfl (y_assign rfl) ?_
            refine wl_nil ?_
            refine wq_then ?_
            refine wc_cond_true rfl ?_
            refine wc_seq ?_
            refine wc_region ?_
            refine wl_y rfl (y_assign rfl) ?_
            refine wl_y rfl (y_assign rfl) ?_
            refine wl_y rfl (y_assign rfl) ?_
            refine wl_nil ?_
            refine wq_then ?_
            refine wc_ret ?_
            refine wq_block_ret (wq_then_ret ?_)
            refine wq_ret3 rfl rfl rfl rfl (fun w hw => ?_)
            rw [lenF_bad (by omega) (bad2 (by omega))]; exact ⟨(), trivial, rfl, hw.bare⟩
          ·
            simp at hg44
            refine wl_yg rfl rfl rfl (y_move rfl) ?_
            refine wl_yg rfl rfl rfl (y_gtr rfl rfl) ?_
            refine wl_yg rfl rfl rfl (y_move rfl) ?_
            refine wl_case 47 rfl (fun hg47 => ?_) (fun hg47 => ?_)
            ·
              simp at hg47
              obtain ⟨c0, hc0⟩ := at_get (s := s) (k := 0) (by omega)
              refine wl_yg rfl rfl rfl (y_move rfl) ?_
              refine wl_yg rfl rfl rfl (y_indexS Tryz.underlying9 rfl rfl rfl (by assumption)) ?_
              refine wl_yg rfl rfl rfl (y_eqlI rfl rfl) ?_
              refine wl_yg rfl rfl rfl (y_pick_t rfl rfl) ?_
              refine wl_y rfl (y_pick_f rfl rfl) ?_
              refine wl_y rfl (y_assign rfl) ?_
              refine wl_nil ?_
              refine wq_then ?_
              refine wc_cond rfl (fun hc35 => ?_) (fun hc35 => ?_)
              ·
                simp at hc35
                refine wc_seq ?_
                refine wc_region ?_
                refine wl_y rfl (y_assign rfl) ?_
                refine wl_y rfl (y_assign rfl) ?_
                refine wl_y rfl (y_assign rfl) ?_
                refine wl_nil ?_
                refine wq_then ?_
                refine wc_ret ?_
                refine wq_block_ret (wq_then_ret ?_)
                refine wq_ret3 rfl rfl rfl rfl (fun w hw => ?_)
                rw [lenF_bad (by omega) (bad3 (by omega) (by rw [hc0]; exact congrArg some (u8_eq (k := 48) (by omega) (by omega))))]; exact ⟨(), trivial, rfl, hw.bare⟩
              ·
                simp at hc35
                refine wc_skip ?_
                refine wq_block_normal ?_
                exact wq_cut () ⟨by omega, good1 hc (u8_eq (k := 58) (by omega) (by omega)) (by omega) (fun h => u8_ne (k := 48) (by omega) rfl (Option.some.inj (hc0.symm.trans h.2)))⟩ ⟨rfl, rfl, trivial⟩ (fun w hw => hw)
            ·
              simp at hg47
              refine wl_sk rfl rfl rfl rfl ?_
              refine wl_sk rfl rfl rfl rfl ?_
              refine wl_sk rfl rfl rfl rfl ?_
              refine wl_yg rfl rfl rfl (y_pick_f rfl rfl) ?_
              refine wl_y rfl (y_pick_f rfl rfl) ?_
              refine wl_y rfl (y_assign rfl) ?_
              refine wl_nil ?_
              refine wq_then ?_
              refine wc_cond_false rfl ?_
              refine wc_skip ?_
              refine wq_block_normal ?_
              exact wq_cut () ⟨by omega, good1 hc (u8_eq (k := 58) (by omega) (by omega)) (by omega) (fun h => by omega)⟩ ⟨rfl, rfl, trivial⟩ (fun w hw => hw)
    · rintro _ ⟨hne, hbl⟩
      obtain ⟨hcol, hk0, hz⟩ := badL_false hbl
      have h7 := kLen_7 s
      have hk := kLen_le s
      refine all_wc ?_
      refine wc_seq ?_
      refine wc_region ?_
      refine wl_y rfl (y_move rfl) ?_
      refine wl_y rfl (y_move rfl) ?_
      refine wl_y rfl (y_sliceS (i := 0) (j := kLen s) Tryz.underlying9 rfl rfl ⟨_, rfl, rfl⟩ (by first | omega | (simp; omega)) (by first | omega | (simp; omega)) rfl) ?_
      refine wl_q (fun _ _ => want_none) rfl (yq_spec (fst := []) (cap := []) _ FN93 (atoi_c (preF s) (by rw [preF_len]; omega) (preF_ne hk0) (preF_dig s)) rfl rfl rfl (by (repeat (first | exact pt_nil | apply pt0 | apply pt1 | apply pt2 | apply pt3 | apply pt4 | apply pt5 | apply pt6 | apply pt7 | apply pt8 | apply pt9 | apply pt10 | apply pt11 | apply pt12 | apply pt13 | apply pt14 | apply pt15 | apply pt16 | apply pt17))) (by (repeat (first | exact ro_nil | exact ro_rest (by assumption) | refine ro_cons (by first | exact .inl (by assumption) | exact ro_f0 (fun _ h => h) | exact ro_f0 (fun _ => slc_rsl) | exact ro_f1 (fun _ h => h) | exact ro_f1 (fun _ => slc_rsl) | exact ro_f2 (fun _ h => h) | exact ro_f2 (fun _ => slc_rsl) | exact ro_f3 (fun _ h => h) | exact ro_f3 (fun _ => slc_rsl) | exact ro_f4 (fun _ h => h) | exact ro_f4 (fun _ => slc_rsl) | exact ro_f5 (fun _ h => h) | exact ro_f5 (fun _ => slc_rsl) | exact ro_f6 (fun _ h => h) | exact ro_f6 (fun _ => slc_rsl)) ?_))) (fun _ _ => rfl) (fun _ _ _ h => h.sub (by (repeat (first | exact pt_nil | apply pt0 | apply pt1 | apply pt2 | apply pt3 | apply pt4 | apply pt5 | apply pt6 | apply pt7 | apply pt8 | apply pt9 | apply pt10 | apply pt11 | apply pt12 | apply pt13 | apply pt14 | apply pt15 | apply pt16 | apply pt17))))) ?_
      refine wl_y rfl (y_move rfl) ?_
      refine wl_y rfl (y_extract rfl rfl) ?_
      refine wl_y rfl (y_extract rfl rfl) ?_
      refine wl_y rfl (y_assign rfl) ?_
      refine wl_y rfl (y_assign rfl) ?_
      refine wl_nil ?_
      refine wq_then ?_
      refine wc_seq ?_
      refine wc_seq ?_
      refine wc_region ?_
      refine wl_y rfl (y_move rfl) ?_
      refine wl_y rfl (y_neqIf Tryz.underlying94 ⟨_, rfl⟩ rfl rfl ⟨_, rfl⟩ (.inl rfl)) ?_
      refine wl_nil ?_
      refine wq_then ?_
      refine wc_known 61 false rfl (rfl) ?_
      refine wc_cond_false rfl ?_
      refine wc_skip ?_
      refine wq_then ?_
      refine wc_seq ?_
      refine wc_quiet MO (by kernel_rfl) (Hp.drawless _ _ _) ?_
      refine wt_y rfl (y_move rfl) ?_
      refine wt_y rfl (y_move rfl) ?_
      refine wt_y rfl (y_move rfl) ?_
      refine wt_y rfl (y_add rfl rfl (by omega)) ?_
      refine wt_y rfl (y_sliceS (i := kLen s + 1) (j := s.length) Tryz.underlying9 rfl ⟨_, rfl, rfl⟩ rfl (by first | omega | (simp; omega)) (by first | omega | (simp; omega)) rfl) ?_
      refine wt_y rfl (y_assign rfl) ?_
      refine wt_y rfl (y_assign rfl) ?_
      refine wt_y rfl (y_assign rfl) ?_
      refine wt_nil ?_
      refine wq_then ?_
      refine wc_ret ?_
      refine wq_ret3 rfl rfl rfl rfl (fun w hw => ?_)
      rw [lenF_ok hne hbl]; exact ⟨(), trivial, by rw [List.take_of_length_le (Nat.le_refl _)], hw.bare⟩

end Go.Proofs.YtbnahfjhlbibcaaGreatDoor
