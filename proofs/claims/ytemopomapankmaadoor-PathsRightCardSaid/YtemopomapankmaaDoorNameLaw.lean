/-
  Plain laws: letters of names.
-/
import Derived.Test.YtemopomapankmaaDoorWalkB
namespace Go.Proofs.YtemopomapankmaaDoor
open Go.Eng

theorem badN1 (c : UInt8) : ((((!decide ((c.toNat : Int) = 45)) && (!decide ((c.toNat : Int) = 95))) && (decide ((c.toNat : Int) < 48) || decide ((57 : Int) < c.toNat))) && (decide ((c.toNat : Int) < 97) || decide ((122 : Int) < c.toNat))) = !nameC c := by
  rw [Bool.eq_iff_iff]; simp only [nameC, Bool.and_eq_true, Bool.or_eq_true, Bool.not_eq_true', Bool.or_eq_false_iff, Bool.and_eq_false_iff, decide_eq_true_eq, decide_eq_false_iff_not]; omega
theorem badN2 (c : UInt8) : (!((((decide ((97 : Int) ≤ c.toNat) && decide ((c.toNat : Int) ≤ 122)) || (decide ((48 : Int) ≤ c.toNat) && decide ((c.toNat : Int) ≤ 57))) || decide ((c.toNat : Int) = 45)) || decide ((c.toNat : Int) = 95))) = !nameC c := by
  rw [Bool.eq_iff_iff]; simp only [nameC, Bool.and_eq_true, Bool.or_eq_true, Bool.not_eq_true', Bool.or_eq_false_iff, Bool.and_eq_false_iff, decide_eq_true_eq, decide_eq_false_iff_not]; omega
theorem all_snoc {p : Str} {j : Nat} {ch : UInt8} (f : UInt8 → Bool) (h : p[j]? = some ch) : (p.take (j + 1)).all f = ((p.take j).all f && f ch) := by
  rw [List.take_add_one, h]; simp
theorem not_all {p : Str} {j : Nat} {ch : UInt8} {f : UInt8 → Bool} (h : p[j]? = some ch) (hf : f ch = false) : p.all f = false := by
  cases hp : p.all f
  · rfl
  · rw [List.all_eq_true] at hp; have := hp ch (List.mem_of_getElem? h); rw [hf] at this; cases this
theorem lenZ (s : Str) : (decide ((s.length : Int) < 1)) = decide (s = []) := by
  cases s with
  | nil => rfl
  | cons a l => simp; omega
end Go.Proofs.YtemopomapankmaaDoor
