/-
  Numbers that are taken apart.
-/
import Derived.Test.YtbnahfjhlbibcaaGreatDoorDef
namespace Go.Proofs.YtbnahfjhlbibcaaGreatDoor
open Go.Eng

open Go.Lib
theorem tmod_neg (m : Nat) : (-(m : Int)).tmod 10 = -((m % 10 : Nat) : Int) := by rw [Int.neg_tmod]; rfl
theorem tdiv_neg (m : Nat) (h : m ≤ 9223372036854775808) : IntKind.i64.wrap ((-(m : Int)).tdiv 10) = -((m / 10 : Nat) : Int) := by
  rw [Int.neg_tdiv, show (m : Int).tdiv 10 = ((m / 10 : Nat) : Int) from rfl]
  exact IntWalk.i64_in _ (by omega)
def digB (d : Nat) : UInt8 := UInt8.ofNat (48 + d)
theorem digB_nat {d : Nat} (h : d < 10) : ((digB d).toNat : Int) = 48 + d := by simp [digB]; omega
theorem wrap_dig {d : Nat} {p : Int} (h : d < 10) (hp : p = 48 + d) : IntKind.u8.wrap p = ((digB d).toNat : Nat) := by
  rw [digB_nat h, hp]
  simp only [IntKind.wrap]
  first
  | decide
  | (simp [IntKind.bits, IntKind.signed]; omega)
/-- What is left of a number, ahead of the digits that are there. -/
def digI (u m : Nat) (s : Str) : Prop := if m = 0 then s = decDigits u else decDigits m ++ s = decDigits u
theorem digI_start {u : Nat} (h : u ≠ 0) : digI u u [] := by simp [digI, h]
theorem digI_len {u m : Nat} {s : Str} (hu : u ≤ 9223372036854775808) (h : digI u m s) : s.length ≤ 20 := by
  have h1 := dec_len (u := u) (k := 18) (by omega)
  unfold digI at h
  split at h
  · subst h; omega
  · rw [← h, List.length_append] at h1; omega
theorem digI_step {u m : Nat} {s : Str} (hm : m ≠ 0) (h : digI u m s) : digI u (m / 10) ([digB (m % 10)] ++ s) := by
  rw [digI, if_neg hm, decDigits] at h
  unfold digI
  split at h
  · rename_i h10
    rw [if_pos (by omega), Nat.mod_eq_of_lt h10]
    exact h
  · rw [if_neg (by omega)]
    rw [List.append_assoc] at h
    exact h
theorem digI_end {u : Nat} {s : Str} (h : digI u 0 s) : s = decDigits u := by simpa [digI] using h
theorem itoa_negN {n : Int} (h : n < 0) : itoa n = [45] ++ decDigits n.natAbs := by rw [itoa, if_pos h]; rfl
theorem itoa_small {n : Int} (h : 0 ≤ n) (h2 : n < 10) : itoa n = [digB n.toNat] := by
  rw [itoa, if_neg (by omega), decDigits, dif_pos (by omega)]; rfl
theorem itoa_big {n : Int} (h : 10 ≤ n) : itoa n = itoa (n / 10) ++ [digB (n.toNat % 10)] := by
  rw [itoa, if_neg (by omega), itoa, if_neg (by omega), decDigits, dif_neg (by omega)]
  congr 2
  omega
end Go.Proofs.YtbnahfjhlbibcaaGreatDoor
