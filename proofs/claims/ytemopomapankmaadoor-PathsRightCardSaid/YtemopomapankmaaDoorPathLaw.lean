/-
  Plain laws: a path told from the left.
-/
import Derived.Test.YtemopomapankmaaDoorWalkE
namespace Go.Proofs.YtemopomapankmaaDoor
open Go.Eng

structure RP (s : Str) (a i : Nat) : Prop where
  le : a ≤ i
  il : i ≤ s.length
  ok : ((s.take i).drop a).any badC = false
  eq : (parts 47 s).any oddPart = (partsFrom 47 ((s.take i).drop a) (s.drop i)).any oddPart
theorem RP.start (s : Str) : RP s 0 0 := ⟨Nat.le_refl _, Nat.zero_le _, rfl, rfl⟩
theorem drop_at {s : Str} {i : Nat} {ch : UInt8} (h : s[i]? = some ch) : s.drop i = ch :: s.drop (i + 1) := by
  have hl := (List.getElem?_eq_some_iff.1 h).1
  rw [List.getElem?_eq_getElem hl] at h
  rw [List.drop_eq_getElem_cons hl, Option.some.inj h]
theorem take_at {s : Str} {a i : Nat} {ch : UInt8} (ha : a ≤ i) (h : s[i]? = some ch) : (s.take (i + 1)).drop a = (s.take i).drop a ++ [ch] := by
  have hl := (List.getElem?_eq_some_iff.1 h).1
  rw [List.take_add_one, h, List.drop_append_of_le_length (by rw [List.length_take]; omega)]; rfl
theorem RP.step {s : Str} {a i : Nat} {ch : UInt8} (h : RP s a i) (hi : s[i]? = some ch) (h47 : ch ≠ 47) (hb : badC ch = false) : RP s a (i + 1) := by
  have hl := (List.getElem?_eq_some_iff.1 hi).1
  refine ⟨by have := h.le; omega, by omega, ?_, ?_⟩
  · rw [take_at h.le hi, List.any_append, h.ok]; simp [hb]
  · rw [take_at h.le hi, h.eq, drop_at hi, partsFrom, if_neg h47]
theorem RP.bad {s : Str} {a i : Nat} {ch : UInt8} (h : RP s a i) (hi : s[i]? = some ch) (h47 : ch ≠ 47) (hb : badC ch = true) : (parts 47 s).any oddPart = true := by
  rw [h.eq, drop_at hi, partsFrom, if_neg h47]
  exact odd_from (by simp [hb])
theorem RP.cut {s : Str} {a i : Nat} (h : RP s a i) (hi : s[i]? = some 47) (ho : oddW ((s.take i).drop a) = false) : RP s (i + 1) (i + 1) := by
  have hl := (List.getElem?_eq_some_iff.1 hi).1
  have e : (s.take (i + 1)).drop (i + 1) = [] := by rw [List.drop_eq_nil_iff, List.length_take]; omega
  refine ⟨Nat.le_refl _, by omega, by rw [e]; rfl, ?_⟩
  rw [h.eq, drop_at hi, partsFrom, if_pos rfl, List.any_cons, oddPart, ho, h.ok, e]; rfl
theorem RP.fin {s : Str} {a i : Nat} (h : RP s a i) (hi : i = s.length) (ho : oddW ((s.take i).drop a) = false) : (parts 47 s).any oddPart = false := by
  rw [h.eq, show s.drop i = [] by rw [List.drop_eq_nil_iff]; omega, partsFrom, List.any_cons, oddPart, ho, h.ok]; rfl
theorem RP.odd {s : Str} {a i : Nat} (h : RP s a i) (hi : i = s.length ∨ s[i]? = some 47) (ho : oddW ((s.take i).drop a) = true) : (parts 47 s).any oddPart = true := by
  rw [h.eq]
  rcases hi with hi | hi
  · rw [show s.drop i = [] by rw [List.drop_eq_nil_iff]; omega, partsFrom, List.any_cons, oddPart, ho]; rfl
  · rw [drop_at hi, partsFrom, if_pos rfl, List.any_cons, oddPart, ho]; rfl
theorem badR (c : UInt8) : (decide ((c.toNat : Int) < 33) || decide ((126 : Int) < c.toNat)) = badC c := by
  rw [Bool.eq_iff_iff]; simp only [badC, Bool.or_eq_true, decide_eq_true_eq]; omega
theorem ne47 {c : UInt8} (h : ¬ (c.toNat : Int) = 47) : c ≠ 47 := fun e => h (by rw [e]; rfl)
theorem is47 {c : UInt8} (h : (c.toNat : Int) = 47) : c = 47 := UInt8.toNat_inj.1 (by have : (47 : UInt8).toNat = 47 := rfl; omega)
theorem getD_some {l : Str} {i : Nat} (h : i < l.length) : l[i]? = some (l.getD i 0) := by rw [List.getD_eq_getElem?_getD, List.getElem?_eq_getElem h]; rfl
end Go.Proofs.YtemopomapankmaaDoor
