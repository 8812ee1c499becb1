/-
  Numbers and their digits.
-/
import Derived.Test.YtbnahfjhlbibcaaGreatDoorTy
import Derived.Lib.AtoiTie
import Derived.Lib.ParseIntBTie
import Derived.Lib.ItoaLen
import Derived.Lib.ItoaMem
namespace Go.Proofs.YtbnahfjhlbibcaaGreatDoor
open Go.Eng

abbrev vI (n : Int) : Value := .int .i64 n
abbrev vS (s : Str) : Value := .string (bs s)
abbrev vB (b : Bool) : Value := .bool b
abbrev ptr (b : Nat) : Value := .pointer (some ⟨b, 0, none⟩)
open Go.Lib

/-! ### Numbers and their digits -/
def isD (b : UInt8) : Bool := decide (48 ≤ b.toNat ∧ b.toNat ≤ 57)
def valF (l : Str) : Nat := l.foldl (fun a b => 10 * a + (b.toNat - 48)) 0
theorem valF_snoc (l : Str) (b : UInt8) : valF (l ++ [b]) = 10 * valF l + (b.toNat - 48) := by simp [valF]
theorem foldl_le (l : Str) : ∀ a : Nat, a ≤ l.foldl (fun a b => 10 * a + (b.toNat - 48)) a := by
  induction l with
  | nil => intro a; exact Nat.le_refl _
  | cons b l ih => intro a; exact Nat.le_trans (show a ≤ 10 * a + (b.toNat - 48) by omega) (ih _)
theorem valF_take (l : Str) (i : Nat) : valF (l.take i) ≤ valF l := by
  conv => rhs; rw [← List.take_append_drop i l]
  rw [valF, valF, List.foldl_append]
  exact foldl_le _ _
theorem decFrom_val : ∀ (l : Str) (a : Nat), (∀ b ∈ l, isD b = true) → decFrom a l = some (l.foldl (fun a b => 10 * a + (b.toNat - 48)) a)
  | [], a, _ => rfl
  | b :: l, a, h => by
    have hb := h b (by simp)
    simp only [isD, decide_eq_true_eq] at hb
    simp only [decFrom, digitVal, if_pos hb, List.foldl_cons]
    rw [decFrom_val l _ fun c hc => h c (by simp [hc]), Nat.mul_comm]
theorem valF_lt (l : Str) (h : ∀ b ∈ l, isD b = true) : valF l < 10 ^ l.length := by
  have := decFrom_lt l 0 _ (decFrom_val l 0 h)
  rw [Nat.zero_add, Nat.one_mul] at this
  exact this
theorem atoi_val {l : Str} (hl : l ≠ []) (h : ∀ b ∈ l, isD b = true) : Lib.atoi l = some (valF l : Nat) := by
  cases l with
  | nil => exact absurd rfl hl
  | cons b r =>
    have hb := h b (by simp)
    simp only [isD, decide_eq_true_eq] at hb
    have h1 : (b == 45) = false := by simp; rintro rfl; simp at hb
    have h2 : (b == 43) = false := by simp; rintro rfl; simp at hb
    simp only [Lib.atoi, h1, h2, Bool.false_eq_true, if_false, decNat, List.isEmpty_cons, decFrom_val _ 0 h]
    rfl
theorem dig_dig (d : Nat) (h : d < 10) : isD (UInt8.ofNat (48 + d)) = true ∧ (UInt8.ofNat (48 + d)).toNat - 48 = d := by
  have : (UInt8.ofNat (48 + d)).toNat = 48 + d := by simp; omega
  simp only [isD, this, decide_eq_true_eq]; omega
theorem dec_dig : ∀ (u : Nat), ∀ b ∈ decDigits u, isD b = true := by
  intro u
  induction u using Nat.strongRecOn with
  | _ u ih =>
    intro b hb
    rw [decDigits] at hb
    split at hb
    · obtain rfl := List.mem_singleton.1 hb; exact (dig_dig u ‹_›).1
    · rcases List.mem_append.1 hb with hb | hb
      · exact ih (u / 10) (by omega) b hb
      · obtain rfl := List.mem_singleton.1 hb; exact (dig_dig (u % 10) (by omega)).1
theorem dec_val : ∀ (u : Nat), valF (decDigits u) = u := by
  intro u
  induction u using Nat.strongRecOn with
  | _ u ih =>
    rw [decDigits]
    split
    · simp only [valF, List.foldl_cons, List.foldl_nil]; rw [(dig_dig u ‹_›).2]; omega
    · rw [valF_snoc, ih (u / 10) (by omega), (dig_dig (u % 10) (by omega)).2]; omega
theorem dec_ne (u : Nat) : decDigits u ≠ [] := by
  intro h
  have := decDigits_length u
  rw [h] at this
  have := nDigits_pos u
  simp at *; omega
/-- A numeral of more than one digit begins with no zero. -/
theorem dec_head : ∀ (u : Nat), 10 ≤ u → ∃ b r, decDigits u = b :: r ∧ b ≠ 48 := by
  intro u
  induction u using Nat.strongRecOn with
  | _ u ih =>
    intro hu
    rw [decDigits, dif_neg (by omega)]
    by_cases h : u / 10 < 10
    · refine ⟨UInt8.ofNat (48 + u / 10), [UInt8.ofNat (48 + u % 10)], by rw [decDigits, dif_pos h]; rfl, fun e => ?_⟩
      have := (dig_dig (u / 10) h).2
      rw [e] at this
      simp at this
      omega
    · obtain ⟨b, r, e, hb⟩ := ih (u / 10) (by omega) (by omega)
      exact ⟨b, r ++ [UInt8.ofNat (48 + u % 10)], by rw [e]; rfl, hb⟩
theorem dec_len {u k : Nat} (h : u < 10 ^ (k + 1)) : (decDigits u).length ≤ k + 1 := by
  rw [decDigits_length]
  induction k generalizing u with
  | zero => rw [nDigits_small (by simpa using h)]; omega
  | succ k ih =>
    by_cases h1 : u < 10
    · rw [nDigits_small h1]; omega
    · rw [nDigits_big h1]
      have := ih (u := u / 10) (by rw [Nat.pow_succ] at h; omega)
      omega
theorem parse_dec : ∀ (l : Str) (a m : Nat), decFrom a l = some m → m < 18446744073709551616 → parseUint10 a l = .ok m
  | [], a, m, h, _ => by simp only [decFrom, Option.some.injEq] at h; subst h; rfl
  | b :: l, a, m, h, hm => by
    simp only [decFrom] at h
    cases hd : digitVal b with
    | none => simp [hd] at h
    | some d =>
      simp only [hd] at h
      obtain ⟨h1, h2, rfl⟩ := digitVal_eq hd
      have hle : ∀ (l : Str) (a m : Nat), decFrom a l = some m → a ≤ m := by
        intro l
        induction l with
        | nil => intro a m h; simp only [decFrom, Option.some.injEq] at h; omega
        | cons c l ih =>
          intro a m h
          simp only [decFrom] at h
          cases hc : digitVal c with
          | none => simp [hc] at h
          | some e => simp only [hc] at h; have := ih _ _ h; omega
      have := hle _ _ _ h
      simp only [parseUint10, if_pos (show 48 ≤ b.toNat ∧ b.toNat ≤ 57 from ⟨h1, h2⟩)]
      rw [if_neg (by omega), if_neg (by omega)]
      exact parse_dec l _ m h hm
theorem parseMag_dec {u : Nat} (h : u < 18446744073709551616) : parseMag (decDigits u) = .ok u := by
  rw [parseMag, if_neg (dec_ne u)]
  refine parse_dec _ 0 u ?_ h
  rw [decFrom_val _ 0 (dec_dig u)]
  exact congrArg some (dec_val u)
def inR (n : Int) : Prop := -9223372036854775808 ≤ n ∧ n ≤ 9223372036854775807
theorem parse_itoa {n : Int} (h : inR n) : parseIntB 64 (itoa n) = .ok n := by
  obtain ⟨h0, h1⟩ := h
  rw [parseIntB_64, itoa]
  by_cases hn : n < 0
  · rw [if_pos hn, atoiAll_minus, parseMag_dec (by omega)]
    simp only [signed]
    split
    · omega
    · congr 1; omega
  · rw [if_neg hn]
    obtain ⟨b, r, e⟩ : ∃ b r, decDigits n.toNat = b :: r := List.exists_cons_of_ne_nil (dec_ne _)
    have hb := dec_dig n.toNat b (by rw [e]; simp)
    simp only [isD, decide_eq_true_eq] at hb
    rw [e, atoiAll_plain b r (by omega) (by omega), ← e, parseMag_dec (by omega)]
    simp only [signless]
    split
    · omega
    · congr 1; omega
theorem itoa_inj {n m : Int} (hn : inR n) (hm : inR m) (h : itoa n = itoa m) : n = m := by
  have h1 := parse_itoa hn
  rw [h, parse_itoa hm] at h1
  cases h1; rfl
/-- The number that a text is, digit for digit. -/
def numF (s : Str) : Option Int := match parseIntB 64 s with
  | .ok v => if itoa v = s then some v else none
  | _ => none
theorem numF_iff {s : Str} {v : Int} : numF s = some v ↔ inR v ∧ itoa v = s := by
  constructor
  · intro h
    unfold numF at h
    split at h
    · rename_i u hu
      split at h
      · cases h
        refine ⟨?_, ‹_›⟩
        have := parseIntB_bounds hu
        unfold inR
        omega
      · cases h
    · cases h
  · rintro ⟨h1, rfl⟩
    rw [numF, parse_itoa h1]
    simp
theorem numF_none {s : Str} (h : ∀ v, inR v → itoa v ≠ s) : numF s = none := by
  cases hh : numF s with
  | none => rfl
  | some v => exact absurd (numF_iff.1 hh).2 (h v (numF_iff.1 hh).1)
/-- What stands behind the sign. -/
def magF (s : Str) : Str := if s.head? = some 45 then s.tail else s
theorem itoa_mag {v : Int} (h : inR v) : ∃ u : Nat, magF (itoa v) = decDigits u ∧ u ≤ 9223372036854775808 ∧ v = (if (itoa v).head? = some 45 then -(u : Int) else u) ∧ ((itoa v).head? ≠ some 45 → u ≤ 9223372036854775807) := by
  obtain ⟨h0, h1⟩ := h
  rw [itoa]
  by_cases hn : v < 0
  · rw [if_pos hn]
    refine ⟨v.natAbs, by simp [magF], by omega, ?_, by simp⟩
    simp only [List.head?_cons, if_true]; omega
  · rw [if_neg hn]
    have hh : (decDigits v.toNat).head? ≠ some 45 := fun e => by
      obtain ⟨b, r, e2⟩ : ∃ b r, decDigits v.toNat = b :: r := List.exists_cons_of_ne_nil (dec_ne _)
      have hb := dec_dig v.toNat b (by rw [e2]; simp)
      rw [e2] at e
      simp only [List.head?_cons, Option.some.injEq] at e
      subst e
      simp [isD] at hb
    refine ⟨v.toNat, by rw [magF, if_neg hh], by omega, ?_, fun _ => by omega⟩
    rw [if_neg hh]; omega
theorem itoa_len {n : Int} (h : inR n) : 1 ≤ (itoa n).length ∧ (itoa n).length ≤ 20 := by
  obtain ⟨h0, h1⟩ := h
  have h1 := fun u => List.length_pos_iff.2 (dec_ne u)
  unfold itoa
  split
  · have := dec_len (u := n.natAbs) (k := 18) (by omega)
    simp; omega
  · have := dec_len (u := n.toNat) (k := 18) (by omega)
    have := h1 n.toNat
    omega

end Go.Proofs.YtbnahfjhlbibcaaGreatDoor
