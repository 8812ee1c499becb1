/-
  Texts: their parts between slashes; which may be paths and names.
-/
import Derived.Test.YtemopomapankmaaDoorTy
namespace Go.Proofs.YtemopomapankmaaDoor
open Go.Eng


abbrev vI (n : Int) : Value := .int .i64 n
abbrev vS (l : Str) : Value := .string (bs l)
abbrev vB (b : Bool) : Value := .bool b
abbrev ptr (b : Nat) : Value := .pointer (some ⟨b, 0, none⟩)
/-- The parts of a text, of which the first begins with pre. -/
def partsFrom (c : UInt8) : Str → Str → List Str
  | pre, [] => [pre]
  | pre, x :: l => if x = c then pre :: partsFrom c [] l else partsFrom c (pre ++ [x]) l
def parts (c : UInt8) (s : Str) : List Str := partsFrom c [] s
theorem partsFrom_none {c : UInt8} : ∀ {p pre l : Str}, c ∉ p → partsFrom c pre (p ++ l) = partsFrom c (pre ++ p) l
  | [], pre, l, _ => by simp
  | x :: p, pre, l, h => by
    have hx : x ≠ c := fun e => h (by simp [e])
    rw [List.cons_append, partsFrom, if_neg hx, partsFrom_none (fun h' => h (by simp [h']))]
    simp
theorem parts_cut {c : UInt8} {p l : Str} (h : c ∉ p) : parts c (p ++ c :: l) = p :: parts c l := by
  rw [parts, partsFrom_none h, partsFrom, if_pos rfl]; rfl
theorem parts_last {c : UInt8} {p : Str} (h : c ∉ p) : parts c p = [p] := by
  have := partsFrom_none (l := []) (pre := []) h
  rw [List.append_nil] at this
  rw [parts, this]; rfl
theorem partsFrom_len (c : UInt8) : ∀ (l pre : Str), (partsFrom c pre l).length = l.count c + 1
  | [], pre => by simp [partsFrom]
  | x :: l, pre => by
    rw [partsFrom, List.count_cons]
    by_cases h : x = c
    · simp [h, partsFrom_len c l]
    · simp [h, partsFrom_len c l]
theorem parts_len (c : UInt8) (s : Str) : (parts c s).length = s.count c + 1 := partsFrom_len c s []
theorem parts_pos (c : UInt8) (s : Str) : 0 < (parts c s).length := by rw [parts_len]; omega

theorem partsFrom_le {c : UInt8} : ∀ {l pre p : Str}, p ∈ partsFrom c pre l → p.length ≤ pre.length + l.length
  | [], pre, p, h => by simp [partsFrom] at h; rw [h]; simp
  | x :: l, pre, p, h => by
    rw [partsFrom] at h
    split at h
    · rcases List.mem_cons.1 h with rfl | h
      · omega
      · have := partsFrom_le h; simp at this ⊢; omega
    · have := partsFrom_le h; simp at this ⊢; omega
theorem parts_le {c : UInt8} {s p : Str} (h : p ∈ parts c s) : p.length ≤ s.length := by have := partsFrom_le h; simpa using this
theorem fillS (dn : List Str) (p : Str) {N : Nat} (h : dn.length < N) : ((dn.map vS ++ List.replicate (N - dn.length) (vS [])).set (dn.length * 1) (vS p)) = (dn ++ [p]).map vS ++ List.replicate (N - (dn ++ [p]).length) (vS []) := by
  obtain ⟨k, hk⟩ : ∃ k, N - dn.length = k + 1 := ⟨N - dn.length - 1, by omega⟩
  have := fill_next (vS []) (vS p) (dn.map vS) k
  rw [List.length_map] at this
  rw [hk, Nat.mul_one, this, List.map_append, show N - (dn ++ [p]).length = k by simp; omega]; rfl
theorem cut_at {r : Str} {c : UInt8} {m : Nat} (h1 : r[m]? = some c) (h2 : ∀ k, k < m → r[k]? ≠ some c) : r = r.take m ++ c :: r.drop (m + 1) ∧ c ∉ r.take m := by
  have hl := (List.getElem?_eq_some_iff.1 h1).1
  rw [List.getElem?_eq_getElem hl] at h1
  refine ⟨?_, fun hx => ?_⟩
  · rw [← Option.some.inj h1, ← List.drop_eq_getElem_cons hl, List.take_append_drop]
  · obtain ⟨i, hi⟩ := List.mem_iff_getElem?.1 hx
    rw [List.getElem?_take] at hi
    split at hi
    · rename_i hlt; exact h2 i hlt hi
    · cases hi
def badC (c : UInt8) : Bool := decide ((c.toNat : Int) ≤ 32) || decide ((126 : Int) < c.toNat)
def oddW (p : Str) : Bool := (decide (p = []) || decide (p = [46])) || decide (p = [46, 46])
def oddPart (p : Str) : Bool := oddW p || p.any badC
def isPath (s : Str) : Bool := !(decide (s = []) || decide ((48 : Int) < (s.length : Nat))) && !(parts 47 s).any oddPart
def pathE (s : Str) : Int := if isPath s then 0 else 13
theorem pathE_cases (s : Str) : (isPath s = true ∧ pathE s = 0) ∨ (isPath s = false ∧ pathE s = 13) := by
  unfold pathE; cases isPath s <;> simp
theorem isPath_len {s : Str} (h : isPath s = true) : s.length ≤ 48 := by
  simp [isPath] at h; omega
theorem any_snoc {p : Str} {j : Nat} {ch : UInt8} (h : p[j]? = some ch) : (p.take (j + 1)).any badC = ((p.take j).any badC || badC ch) := by
  rw [List.take_add_one, h]; simp
/-- A part that begins with a bad letter is odd. -/
theorem odd_from {c : UInt8} : ∀ {l pre : Str}, pre.any badC = true → (partsFrom c pre l).any oddPart = true
  | [], pre, h => by simp [partsFrom, oddPart, h]
  | x :: l, pre, h => by
    rw [partsFrom]
    split
    · simp [oddPart, h]
    · exact odd_from (by simp [h])
def nameC (c : UInt8) : Bool := decide ((c.toNat : Int) = 45) || decide ((c.toNat : Int) = 95) || (decide ((48 : Int) ≤ c.toNat) && decide ((c.toNat : Int) ≤ 57)) || (decide ((97 : Int) ≤ c.toNat) && decide ((c.toNat : Int) ≤ 122))
def isName (s : Str) : Bool := !(decide (s = []) || decide ((16 : Int) < (s.length : Nat))) && s.all nameC
def nameE (s : Str) : Int := if isName s then 0 else 14
def isPre (p s : Str) : Bool := decide (s.take p.length = p)
/-- Does s stand below the path q? -/
def below (s q : Str) : Bool := isPre (q ++ [47]) s && !decide (s.drop (q.length + 1) = [])
theorem rbelow_eq (s q : Str) : below s q = ((decide ((q.length : Int) + 1 < (s.length : Nat)) && decide ((s.take q.length).drop 0 = q)) && decide (((s.getD q.length 0).toNat : Int) = 47)) := by
  rw [Bool.eq_iff_iff]
  simp only [below, isPre, Bool.and_eq_true, decide_eq_true_eq, Bool.not_eq_true', decide_eq_false_iff_not, List.drop_zero, List.length_append, List.length_singleton]
  have key : ∀ h : q.length < s.length, s.take (q.length + 1) = s.take q.length ++ [s.getD q.length 0] := fun h => by
    rw [List.take_add_one, List.getElem?_eq_getElem h, List.getD_eq_getElem?_getD, List.getElem?_eq_getElem h]; rfl
  constructor
  · rintro ⟨h1, h2⟩
    have hl : q.length + 1 < s.length := by
      rw [List.drop_eq_nil_iff] at h2; omega
    rw [key (by omega)] at h1
    have h3 := List.append_inj h1 (by rw [List.length_take]; omega)
    simp only [List.cons.injEq, and_true] at h3
    exact ⟨⟨by omega, h3.1⟩, by rw [h3.2]; rfl⟩
  · rintro ⟨⟨h1, h2⟩, h3⟩
    have h4 : s.getD q.length 0 = 47 := UInt8.toNat_inj.1 (by have : (47 : UInt8).toNat = 47 := rfl; omega)
    rw [key (by omega), h2, h4]
    exact ⟨rfl, by rw [List.drop_eq_nil_iff]; omega⟩
def clash (a b : Str) : Bool := below a b || below b a
end Go.Proofs.YtemopomapankmaaDoor
