/-
  Plain laws: one more file in its place.
-/
import Derived.Test.YtemopomapankmaaDoorWalkL
namespace Go.Proofs.YtemopomapankmaaDoor
open Go.Eng


theorem zeroL_len2 (k : Nat) : (zeroL [vS [], vS []] k).length = k * 2 := by rw [zeroL_length]; rfl
theorem ins_rows (l : List Fl) (i : Nat) (f : Fl) (h : i ≤ l.length) : (l.take i ++ f :: l.drop i).flatMap encF = (l.flatMap encF).take (i * 2) ++ encF f ++ (l.flatMap encF).drop (i * 2) := by
  rw [rows_take encF_len i h, rows_drop encF_len i h, List.flatMap_append, List.flatMap_cons, List.append_assoc]
theorem ins_end (l : List Fl) (f : Fl) : (l.take l.length ++ f :: l.drop l.length) = l ++ [f] := by simp
theorem ins_length (l : List Fl) (i : Nat) (f : Fl) (h : i ≤ l.length) : (l.take i ++ f :: l.drop i).length = l.length + 1 := by
  simp [List.length_append, List.length_take, List.length_drop]; omega
theorem ins_key {l : List Fl} {i : Nat} {t : List Value} (h : i < l.length) : ((l.flatMap encF ++ t).drop (i * 2)).take (min (l.length + 1 - i) (l.length + 1 - (i + 1)) * 2) = (l.flatMap encF).drop (i * 2) := by
  have hl : ((l.flatMap encF).drop (i * 2)).length = (l.length - i) * 2 := by rw [List.length_drop, rows_length encF_len]; omega
  rw [List.drop_append_of_le_length (by rw [rows_length encF_len]; omega), show min (l.length + 1 - i) (l.length + 1 - (i + 1)) * 2 = ((l.flatMap encF).drop (i * 2)).length by rw [hl]; omega, List.take_left']
  rfl
theorem cells_two {l : List Fl} {i : Nat} (h : i ≤ l.length) : ((l.flatMap encF).take (i * 2)).length = i * 2 := by
  rw [List.length_take, rows_length encF_len]; omega
theorem cells_rest {l : List Fl} {i : Nat} (h : i ≤ l.length) : ((l.flatMap encF).drop (i * 2)).length = (l.length - i) * 2 := by
  rw [List.length_drop, rows_length encF_len]; omega
end Go.Proofs.YtemopomapankmaaDoor
