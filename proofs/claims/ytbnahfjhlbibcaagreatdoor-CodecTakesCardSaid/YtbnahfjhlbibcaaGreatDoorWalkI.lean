/-
  Walks: the reference's numbers.
-/
import Derived.Test.YtbnahfjhlbibcaaGreatDoorWalkH
namespace Go.Proofs.YtbnahfjhlbibcaaGreatDoor
open Go.Eng

open Go.Lib
theorem mag_len {s : Str} {v : Int} (hv : inR v) (h : itoa v = s) : ∃ u : Nat, magF s = decDigits u ∧ u ≤ 9223372036854775808 ∧ v = (if s.head? = some 45 then -(u : Int) else u) ∧ (s.head? ≠ some 45 → u ≤ 9223372036854775807) ∧ 1 ≤ (magF s).length ∧ (magF s).length ≤ 19 := by
  subst h
  obtain ⟨u, h1, h2, h3, h4⟩ := itoa_mag hv
  have h5 := dec_len (u := u) (k := 18) (by omega)
  have h6 := List.length_pos_iff.2 (dec_ne u)
  exact ⟨u, h1, h2, h3, h4, by rw [h1]; omega, by rw [h1]; omega⟩
theorem quo_dig {c : UInt8} (h : 48 ≤ (c.toNat : Int)) (h2 : (c.toNat : Int) ≤ 57) : IntKind.i64.wrap ((-9223372036854775808 + ((c.toNat : Int) - 48)).tdiv 10) = -(((9223372036854775808 - (c.toNat - 48)) / 10 : Nat) : Int) := by
  rw [show (-9223372036854775808 + ((c.toNat : Int) - 48)) = -((9223372036854775808 - (c.toNat - 48) : Nat) : Int) by omega]
  exact tdiv_neg _ (by omega)
theorem neg_val {v : Nat} (h : v ≤ 9223372036854775807) : IntKind.i64.wrap (0 - -((v : Nat) : Int)) = (v : Int) := by
  rw [show (0 - -((v : Nat) : Int)) = (v : Int) by omega]
  exact IntWalk.i64_in _ (by omega)
theorem quo_bound {v d : Nat} (h : -(((9223372036854775808 - d) / 10 : Nat) : Int) ≤ -(v : Int)) : v ≤ (9223372036854775808 - d) / 10 := by omega
theorem none_len {s : Str} (h : ¬ (1 ≤ (magF s).length ∧ (magF s).length ≤ 19)) : numF s = none := numF_none fun v hv e => by
  obtain ⟨_, _, _, _, _, h5, h6⟩ := mag_len hv e
  exact h ⟨h5, h6⟩
theorem none_dig {s : Str} {i : Nat} {c : UInt8} (hc : (magF s)[i]? = some c) (h : isD c = false) : numF s = none := numF_none fun v hv e => by
  obtain ⟨u, h1, _⟩ := mag_len hv e
  have := dec_dig u c (by rw [← h1]; exact List.mem_of_getElem? hc)
  rw [h] at this; cases this
theorem none_big {s : Str} {i : Nat} (h : 9223372036854775808 < valF ((magF s).take i)) : numF s = none := numF_none fun v hv e => by
  obtain ⟨u, h1, h2, _⟩ := mag_len hv e
  have h3 := valF_take (magF s) i
  rw [h1, dec_val] at h3
  rw [h1] at h
  omega
theorem mag_sign {s : Str} : ((magF s).length = s.length) ↔ s.head? ≠ some 45 := by
  unfold magF
  split
  · rename_i h
    cases s with
    | nil => cases h
    | cons b r => simp_all
  · rename_i h; simp [h]
theorem val_of {s : Str} {v : Int} (hv : inR v) (h : itoa v = s) : v = (if s.head? = some 45 then -((valF (magF s) : Nat) : Int) else ((valF (magF s) : Nat) : Int)) := by
  obtain ⟨u, h1, h2, h3, _⟩ := mag_len hv h
  rw [h1, dec_val]; exact h3
theorem none_max {s : Str} (h : s.head? ≠ some 45) (h2 : valF (magF s) = 9223372036854775808) : numF s = none := numF_none fun v hv e => by
  have := val_of hv e
  rw [if_neg h, h2] at this
  unfold inR at hv
  omega
/-- What the reference's number is. -/
def numP (s : Str) (x : Int × Bool) : Prop := (x.2 = true ∧ numF s = some x.1) ∨ (x.2 = false ∧ numF s = none)
theorem numP_end {s : Str} {n : Int} (hn : inR n) (h : ∀ v, inR v → itoa v = s → v = n) : numP s (n, decide (itoa n = s)) := by
  by_cases e : itoa n = s
  · exact .inl ⟨decide_eq_true e, numF_iff.2 ⟨hn, e⟩⟩
  · refine .inr ⟨decide_eq_false e, numF_none fun v hv e2 => e ?_⟩
    rw [← h v hv e2]; exact e2
theorem mag_len_le (s : Str) : (magF s).length ≤ s.length := by unfold magF; split <;> simp
theorem mag_dig {c : UInt8} : (c.toNat : Int) - 48 < 0 ∨ 9 < (c.toNat : Int) - 48 → isD c = false := fun h => by simp only [isD, decide_eq_false_iff_not]; omega
theorem mag_dig2 {c : UInt8} : ¬ ((c.toNat : Int) - 48 < 0) → ¬ (9 < (c.toNat : Int) - 48) → isD c = true := fun h h2 => by simp only [isD, decide_eq_true_eq]; omega
theorem mag_neg {s : Str} {c : UInt8} (hc : s[0]? = some c) (h : c = 45) : magF s = (s.take s.length).drop 1 := by
  subst h
  rw [List.take_of_length_le (Nat.le_refl _), magF, if_pos (by rw [List.head?_eq_getElem?]; exact hc), List.drop_one]
theorem mag_pos {s : Str} {c : UInt8} (hc : s[0]? = some c) (h : c ≠ 45) : magF s = s := by
  rw [magF, if_neg (by rw [List.head?_eq_getElem?, hc]; simpa using h)]
theorem mag_nil {s : Str} (h : s.length = 0) : magF s = s := by rw [List.eq_nil_of_length_eq_zero h]; rfl
set_option maxHeartbeats 1000000 in
theorem rnumber_c (s : Str) (hl : s.length ≤ 1000000000) :
    Ctr Tryz.prog 50 #[vS s] [] [] (fun x : Int × Bool => numP s x) (fun x => .tuple #[vI x.1, vB x.2]) (fun _ => []) := by
  refine spec_start (n := 69) [(0, vS s)] Tryz.func50 rfl rfl ⟨rfl, trivial⟩ rfl ?_
  intro w0 K hR
  refine wc_seq ?_
  refine wc_region ?_
  refine wl_y rfl (y_assign rfl) ?_
  refine wl_y rfl (y_assign rfl) ?_
  refine wl_nil ?_
  refine wq_then ?_
  refine wc_seq ?_
  refine wc_region ?_
  refine wl_y rfl (y_move rfl) ?_
  refine wl_y rfl (y_assign rfl) ?_
  refine wl_nil ?_
  refine wq_then ?_
  refine wc_seq (wc_cut (α := Unit) (fun x => True) [(0, _)] (fun x => [(4, vS (magF s))]) (fun x => Hp w0 K []) ⟨rfl, trivial⟩ ?_ ?_)
  ·
    refine wc_seq ?_
    refine wc_region ?_
    refine wl_y rfl (y_move rfl) ?_
    refine wl_y rfl (y_lenS Tryz.underlying9 rfl) ?_
    refine wl_y rfl (y_gtr rfl rfl) ?_
    refine wl_y rfl (y_move rfl) ?_
    refine wl_case 12 rfl (fun hg12 => ?_) (fun hg12 => ?_)
    ·
      simp at hg12
      obtain ⟨c, hc⟩ := at_get (s := s) (k := 0) (by omega)
      refine wl_yg rfl rfl rfl (y_move rfl) ?_
      refine wl_yg rfl rfl rfl (y_indexS Tryz.underlying9 rfl rfl rfl (by assumption)) ?_
      refine wl_yg rfl rfl rfl (y_eqlI rfl rfl) ?_
      refine wl_y rfl (y_pick_t rfl rfl) ?_
      refine wl_nil ?_
      refine wq_then ?_
      refine wc_cond rfl (fun hc16 => ?_) (fun hc16 => ?_)
      ·
        simp at hc16
        refine wc_region ?_
        refine wl_y rfl (y_move rfl) ?_
        refine wl_y rfl (y_sliceS (i := 1) (j := s.length) Tryz.underlying9 rfl ⟨_, rfl, rfl⟩ rfl (by first | omega | (simp; omega)) (by first | omega | (simp; omega)) rfl) ?_
        refine wl_y rfl (y_assign rfl) ?_
        refine wl_nil ?_
        refine wq_same 4 (vS (magF s)) rfl (by rw [mag_neg hc (u8_eq (k := 45) (by omega) (by omega))]) ?_
        exact wq_cut () trivial ⟨rfl, rfl, trivial⟩ (fun w hw => hw)
      ·
        simp at hc16
        refine wc_skip ?_
        refine wq_same 4 (vS (magF s)) rfl (by rw [mag_pos hc (u8_ne (k := 45) (by omega) rfl)]) ?_
        exact wq_cut () trivial ⟨rfl, rfl, trivial⟩ (fun w hw => hw)
    ·
      simp at hg12
      refine wl_sk rfl rfl rfl rfl ?_
      refine wl_sk rfl rfl rfl rfl ?_
      refine wl_sk rfl rfl rfl rfl ?_
      refine wl_y rfl (y_pick_f rfl rfl) ?_
      refine wl_nil ?_
      refine wq_then ?_
      refine wc_cond_false rfl ?_
      refine wc_skip ?_
      refine wq_same 4 (vS (magF s)) rfl (by rw [mag_nil (by simp [hg12])]) ?_
      exact wq_cut () trivial ⟨rfl, rfl, trivial⟩ (fun w hw => hw)
  · intro _ _
    have hml := mag_len_le s
    refine all_wc ?_
    refine wc_seq ?_
    refine wc_seq ?_
    refine wc_region ?_
    refine wl_y rfl (y_move rfl) ?_
    refine wl_y rfl (y_lenS Tryz.underlying9 rfl) ?_
    refine wl_y rfl (y_eqlI rfl rfl) ?_
    refine wl_y rfl (y_move rfl) ?_
    refine wl_case 22 rfl (fun hg22 => ?_) (fun hg22 => ?_)
    ·
      simp at hg22
      refine wl_sk rfl rfl rfl rfl ?_
      refine wl_sk rfl rfl rfl rfl ?_
      refine wl_sk rfl rfl rfl rfl ?_
      refine wl_y rfl (y_pick_t rfl rfl) ?_
      refine wl_nil ?_
      refine wq_then ?_
      refine wc_cond_true rfl ?_
      refine wc_seq ?_
      refine wc_region ?_
      refine wl_y rfl (y_assign rfl) ?_
      refine wl_y rfl (y_assign rfl) ?_
      refine wl_nil ?_
      refine wq_then ?_
      refine wc_ret ?_
      refine wq_then_ret ?_
      refine wq_ret2 rfl rfl rfl (fun w hw => ?_)
      exact ⟨(0, false), .inr ⟨rfl, none_len (by simp [hg22])⟩, rfl, hw⟩
    ·
      simp at hg22
      refine wl_yg rfl rfl rfl (y_move rfl) ?_
      refine wl_yg rfl rfl rfl (y_lenS Tryz.underlying9 rfl) ?_
      refine wl_yg rfl rfl rfl (y_gtr rfl rfl) ?_
      refine wl_y rfl (y_pick_f rfl rfl) ?_
      refine wl_nil ?_
      refine wq_then ?_
      refine wc_cond rfl (fun hc26 => ?_) (fun hc26 => ?_)
      ·
        simp at hc26
        refine wc_seq ?_
        refine wc_region ?_
        refine wl_y rfl (y_assign rfl) ?_
        refine wl_y rfl (y_assign rfl) ?_
        refine wl_nil ?_
        refine wq_then ?_
        refine wc_ret ?_
        refine wq_then_ret ?_
        refine wq_ret2 rfl rfl rfl (fun w hw => ?_)
        exact ⟨(0, false), .inr ⟨rfl, none_len (by omega)⟩, rfl, hw⟩
      ·
        simp at hc26
        refine wc_skip ?_
        refine wq_then ?_
        refine wc_seq ?_
        refine wc_region ?_
        refine wl_y rfl (y_assign rfl) ?_
        refine wl_nil ?_
        refine wq_then ?_
        refine wc_seq (wc_cut (α := Unit) (fun x => valF (magF s) ≤ 9223372036854775808) [(0, _), (4, _)] (fun x => [(5, vI (-((valF (magF s) : Nat) : Int)))]) (fun x => Hp w0 K []) ⟨rfl, rfl, trivial⟩ ?_ ?_)
        ·
          refine wc_seq ?_
          refine wc_region ?_
          refine wl_y rfl (y_assign rfl) ?_
          refine wl_nil ?_
          refine wq_then ?_
          refine wc_block ?_
          refine wc_loop (α := Nat) (fun y => y ≤ (magF s).length ∧ valF ((magF s).take y) ≤ 9223372036854775808) [(0, _), (4, _)] (fun y => [(6, vI y), (5, vI (-((valF ((magF s).take y) : Nat) : Int)))]) (fun y => Hp w0 K []) (fun y => (magF s).length - y) 0 ?_ ⟨rfl, rfl, rfl, rfl, trivial⟩ ?_ ?_
          · exact ⟨Nat.zero_le _, Nat.zero_le _⟩
          · exact fun w hw => hw
          · rintro i ⟨hi, hval⟩
            refine wc_seq ?_
            refine wc_seq ?_
            refine wc_region ?_
            refine wl_y rfl (y_move rfl) ?_
            refine wl_y rfl (y_move rfl) ?_
            refine wl_y rfl (y_lenS Tryz.underlying9 rfl) ?_
            refine wl_y rfl (y_lss rfl rfl) ?_
            refine wl_nil ?_
            refine wq_then ?_
            refine wc_cond rfl (fun hc30 => ?_) (fun hc30 => ?_)
            ·
              simp at hc30
              refine wc_skip ?_
              refine wq_then ?_
              refine wc_seq ?_
              refine wc_block ?_
              refine wc_seq ?_
              refine wc_region ?_
              obtain ⟨c, hc⟩ := at_get (s := magF s) (k := i) (by omega)
              have hcl := c.toNat_lt
              refine wl_y rfl (y_move rfl) ?_
              refine wl_y rfl (y_move rfl) ?_
              refine wl_y rfl (y_indexS Tryz.underlying9 rfl rfl rfl (by assumption)) ?_
              refine wl_y rfl (y_convInt (q := (c.toNat : Int)) Tryz.underlying5 Tryz.underlying3 rfl (IntWalk.i64_in _ (by omega))) ?_
              refine wl_y rfl (y_sub rfl rfl (by omega)) ?_
              refine wl_y rfl (y_assign rfl) ?_
              refine wl_nil ?_
              refine wq_then ?_
              refine wc_seq ?_
              refine wc_seq ?_
              refine wc_region ?_
              refine wl_y rfl (y_move rfl) ?_
              refine wl_y rfl (y_lss rfl rfl) ?_
              refine wl_y rfl (y_move rfl) ?_
              refine wl_case 40 rfl (fun hg40 => ?_) (fun hg40 => ?_)
              ·
                simp at hg40
                refine wl_sk rfl rfl rfl rfl ?_
                refine wl_sk rfl rfl rfl rfl ?_
                refine wl_y rfl (y_pick_t rfl rfl) ?_
                refine wl_y rfl (y_move rfl) ?_
                refine wl_sk rfl rfl rfl rfl ?_
                refine wl_sk rfl rfl rfl rfl ?_
                refine wl_sk rfl rfl rfl rfl ?_
                refine wl_sk rfl rfl rfl rfl ?_
                refine wl_sk rfl rfl rfl rfl ?_
                refine wl_y rfl (y_pick_t rfl rfl) ?_
                refine wl_nil ?_
                refine wq_then ?_
                refine wc_cond_true rfl ?_
                refine wc_seq ?_
                refine wc_region ?_
                refine wl_y rfl (y_assign rfl) ?_
                refine wl_y rfl (y_assign rfl) ?_
                refine wl_nil ?_
                refine wq_then ?_
                refine wc_ret ?_
                refine wq_then_ret (wq_block_ret (wq_then_ret (wq_then_ret (wq_block_ret (wq_then_ret ?_)))))
                refine wq_ret2 rfl rfl rfl (fun w hw => ?_)
                exact ⟨(0, false), .inr ⟨rfl, none_dig hc (mag_dig (.inl (by omega)))⟩, rfl, hw⟩
              ·
                simp at hg40
                refine wl_yg rfl rfl rfl (y_move rfl) ?_
                refine wl_yg rfl rfl rfl (y_gtr rfl rfl) ?_
                refine wl_y rfl (y_pick_f rfl rfl) ?_
                refine wl_y rfl (y_move rfl) ?_
                refine wl_case 44 rfl (fun hg44 => ?_) (fun hg44 => ?_)
                ·
                  simp at hg44
                  refine wl_sk rfl rfl rfl rfl ?_
                  refine wl_sk rfl rfl rfl rfl ?_
                  refine wl_sk rfl rfl rfl rfl ?_
                  refine wl_sk rfl rfl rfl rfl ?_
                  refine wl_sk rfl rfl rfl rfl ?_
                  refine wl_y rfl (y_pick_t rfl rfl) ?_
                  refine wl_nil ?_
                  refine wq_then ?_
                  refine wc_cond_true rfl ?_
                  refine wc_seq ?_
                  refine wc_region ?_
                  refine wl_y rfl (y_assign rfl) ?_
                  refine wl_y rfl (y_assign rfl) ?_
                  refine wl_nil ?_
                  refine wq_then ?_
                  refine wc_ret ?_
                  refine wq_then_ret (wq_block_ret (wq_then_ret (wq_then_ret (wq_block_ret (wq_then_ret ?_)))))
                  refine wq_ret2 rfl rfl rfl (fun w hw => ?_)
                  exact ⟨(0, false), .inr ⟨rfl, none_dig hc (mag_dig (.inr (by omega)))⟩, rfl, hw⟩
                ·
                  simp at hg44
                  refine wl_yg rfl rfl rfl (y_move rfl) ?_
                  refine wl_yg rfl rfl rfl (y_move rfl) ?_
                  refine wl_yg rfl rfl rfl (y_add rfl rfl (by omega)) ?_
                  refine wl_yg rfl rfl rfl (y_quoE (r := -(((9223372036854775808 - (c.toNat - 48)) / 10 : Nat) : Int)) rfl rfl (by omega) (quo_dig (by omega) (by omega))) ?_
                  refine wl_yg rfl rfl rfl (y_lss rfl rfl) ?_
                  refine wl_y rfl (y_pick_f rfl rfl) ?_
                  refine wl_nil ?_
                  refine wq_then ?_
                  refine wc_cond rfl (fun hc50 => ?_) (fun hc50 => ?_)
                  ·
                    simp at hc50
                    refine wc_seq ?_
                    refine wc_region ?_
                    refine wl_y rfl (y_assign rfl) ?_
                    refine wl_y rfl (y_assign rfl) ?_
                    refine wl_nil ?_
                    refine wq_then ?_
                    refine wc_ret ?_
                    refine wq_then_ret (wq_block_ret (wq_then_ret (wq_then_ret (wq_block_ret (wq_then_ret ?_)))))
                    refine wq_ret2 rfl rfl rfl (fun w hw => ?_)
                    have hvs := val_step hc
                    exact ⟨(0, false), .inr ⟨rfl, none_big (i := i + 1) (by omega)⟩, rfl, hw⟩
                  ·
                    simp at hc50
                    refine wc_skip ?_
                    refine wq_then ?_
                    refine wc_region ?_
                    refine wl_y rfl (y_move rfl) ?_
                    refine wl_y rfl (y_mul rfl rfl (by omega)) ?_
                    refine wl_y rfl (y_move rfl) ?_
                    refine wl_y rfl (y_sub rfl rfl (by omega)) ?_
                    refine wl_y rfl (y_assign rfl) ?_
                    refine wl_nil ?_
                    refine wq_block_normal ?_
                    refine wq_then ?_
                    refine wc_region ?_
                    refine wl_y rfl (y_move rfl) ?_
                    refine wl_y rfl (y_add rfl rfl (by omega)) ?_
                    refine wl_y rfl (y_assign rfl) ?_
                    refine wl_nil ?_
                    have hvs := val_step hc
                    have hq : valF ((magF s).take i) ≤ (9223372036854775808 - (c.toNat - 48)) / 10 := by omega
                    refine wq_same 5 (vI (-((valF ((magF s).take (i + 1)) : Nat) : Int))) rfl (congrArg vI (by omega)) ?_
                    exact wq_round (i + 1) (by omega) ⟨by omega, by omega⟩ ⟨rfl, rfl, rfl, rfl, trivial⟩ (fun w hw => hw)
            ·
              simp at hc30
              refine wc_exit ?_
              refine wq_then_exit (wq_then_exit (wq_block_exit ?_))
              obtain rfl : i = (magF s).length := by omega
              rw [List.take_length] at hval
              refine wq_same 5 (vI (-((valF (magF s) : Nat) : Int))) rfl (by rw [List.take_length]) ?_
              exact wq_cut () hval ⟨rfl, rfl, rfl, trivial⟩ (fun w hw => hw)
        · intro _ hvb
          refine all_wc ?_
          refine wc_seq (wc_cut (α := Int) (fun n => inR n ∧ ∀ v, inR v → itoa v = s → v = n) [(0, _)] (fun n => [(5, vI n)]) (fun n => Hp w0 K []) ⟨rfl, trivial⟩ ?_ ?_)
          ·
            refine wc_seq ?_
            refine wc_region ?_
            refine wl_y rfl (y_move rfl) ?_
            refine wl_y rfl (y_lenS Tryz.underlying9 rfl) ?_
            refine wl_y rfl (y_move rfl) ?_
            refine wl_y rfl (y_lenS Tryz.underlying9 rfl) ?_
            refine wl_y rfl (y_eqlI rfl rfl) ?_
            refine wl_nil ?_
            refine wq_then ?_
            refine wc_cond rfl (fun hc59 => ?_) (fun hc59 => ?_)
            ·
              simp at hc59
              refine wc_seq ?_
              refine wc_seq ?_
              refine wc_region ?_
              refine wl_y rfl (y_move rfl) ?_
              refine wl_y rfl (y_eqlI rfl rfl) ?_
              refine wl_nil ?_
              refine wq_then ?_
              refine wc_cond rfl (fun hc61 => ?_) (fun hc61 => ?_)
              ·
                simp at hc61
                refine wc_seq ?_
                refine wc_region ?_
                refine wl_y rfl (y_assign rfl) ?_
                refine wl_y rfl (y_assign rfl) ?_
                refine wl_nil ?_
                refine wq_then ?_
                refine wc_ret ?_
                refine wq_then_ret (wq_then_ret ?_)
                refine wq_ret2 rfl rfl rfl (fun w hw => ?_)
                exact ⟨(0, false), .inr ⟨rfl, none_max (mag_sign.1 (by omega)) (by omega)⟩, rfl, hw⟩
              ·
                simp at hc61
                refine wc_skip ?_
                refine wq_then ?_
                refine wc_region ?_
                refine wl_y rfl (y_move rfl) ?_
                refine wl_y rfl (y_negE (r := ((valF (magF s) : Nat) : Int)) rfl (neg_val (by omega))) ?_
                refine wl_y rfl (y_assign rfl) ?_
                refine wl_nil ?_
                have hsg := mag_sign.1 (show (magF s).length = s.length by omega)
                exact wq_cut ((valF (magF s) : Nat) : Int) ⟨⟨by omega, by omega⟩, fun v hv e => by have := val_of hv e; rw [if_neg hsg] at this; exact this⟩ ⟨rfl, rfl, trivial⟩ (fun w hw => hw)
            ·
              simp at hc59
              refine wc_skip ?_
              have hsg : s.head? = some 45 := Decidable.not_not.1 fun h => hc59 (by have := mag_sign.2 h; omega)
              exact wq_cut (-((valF (magF s) : Nat) : Int)) ⟨⟨by omega, by omega⟩, fun v hv e => by have := val_of hv e; rw [if_pos hsg] at this; exact this⟩ ⟨rfl, rfl, trivial⟩ (fun w hw => hw)
          · rintro n ⟨hn, hu⟩
            refine all_wc ?_
            refine wc_seq ?_
            refine wc_region ?_
            refine wl_y rfl (y_move rfl) ?_
            refine wl_y rfl (y_move rfl) ?_
            refine wl_q (fun _ _ => want_none) rfl (yq_spec (fst := []) (cap := []) _ FN69 (digits_c n hn) rfl rfl rfl (by (repeat (first | exact pt_nil | apply pt0 | apply pt1 | apply pt2 | apply pt3 | apply pt4 | apply pt5 | apply pt6 | apply pt7 | apply pt8 | apply pt9 | apply pt10 | apply pt11 | apply pt12 | apply pt13 | apply pt14 | apply pt15 | apply pt16 | apply pt17))) (by (repeat (first | exact ro_nil | exact ro_rest (by assumption) | refine ro_cons (by first | exact .inl (by assumption) | exact ro_f0 (fun _ h => h) | exact ro_f0 (fun _ => slc_rsl) | exact ro_f1 (fun _ h => h) | exact ro_f1 (fun _ => slc_rsl) | exact ro_f2 (fun _ h => h) | exact ro_f2 (fun _ => slc_rsl) | exact ro_f3 (fun _ h => h) | exact ro_f3 (fun _ => slc_rsl) | exact ro_f4 (fun _ h => h) | exact ro_f4 (fun _ => slc_rsl) | exact ro_f5 (fun _ h => h) | exact ro_f5 (fun _ => slc_rsl) | exact ro_f6 (fun _ h => h) | exact ro_f6 (fun _ => slc_rsl)) ?_))) (fun _ _ => rfl) (fun _ _ _ h => h.sub (by (repeat (first | exact pt_nil | apply pt0 | apply pt1 | apply pt2 | apply pt3 | apply pt4 | apply pt5 | apply pt6 | apply pt7 | apply pt8 | apply pt9 | apply pt10 | apply pt11 | apply pt12 | apply pt13 | apply pt14 | apply pt15 | apply pt16 | apply pt17))))) ?_
            refine wl_y rfl (y_move rfl) ?_
            refine wl_y rfl (y_eqlS rfl rfl) ?_
            refine wl_y rfl (y_assign rfl) ?_
            refine wl_y rfl (y_assign rfl) ?_
            refine wl_nil ?_
            refine wq_then ?_
            refine wc_ret ?_
            refine wq_ret2 rfl rfl rfl (fun w hw => ?_)
            exact ⟨(n, decide (itoa n = s)), numP_end hn hu, rfl, hw.bare⟩

end Go.Proofs.YtbnahfjhlbibcaaGreatDoor
