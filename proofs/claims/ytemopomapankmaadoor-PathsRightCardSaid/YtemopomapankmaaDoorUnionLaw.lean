/-
  Plain laws: files with others; what is wrong with files.
-/
import Derived.Test.YtemopomapankmaaDoorWalkO
namespace Go.Proofs.YtemopomapankmaaDoor
open Go.Eng


def unionF : List Fl → List Fl → Int × List Fl
  | l, [] => (0, l)
  | l, f :: m => if (withF l f).1 = 0 then unionF (withF l f).2 m else ((withF l f).1, [])
theorem putF_mem {l : List Fl} {f x : Fl} (h : x ∈ putF l f) : x = f ∨ x ∈ l := by
  unfold putF at h
  split at h
  · exact (List.mem_or_eq_of_mem_set h).symm
  · rcases List.mem_append.1 h with h | h
    · exact .inr (List.mem_of_mem_take h)
    · rcases List.mem_cons.1 h with h | h
      · exact .inl h
      · exact .inr (List.mem_of_mem_drop h)
theorem withF_mem {l : List Fl} {f x : Fl} (h : x ∈ (withF l f).2) : x = f ∨ x ∈ l := by
  unfold withF at h
  split at h
  · cases h
  split at h
  · cases h
  split at h
  · cases h
  split at h
  · cases h
  exact putF_mem h
theorem withF_len (l : List Fl) (f : Fl) : (withF l f).2.length ≤ 32 := by
  unfold withF
  split
  · simp
  split
  · simp
  split
  · simp
  split
  · simp
  simp only; omega
theorem union_step {l m A : List Fl} {i : Nat} {x : Fl} (h : unionF l m = unionF A (m.drop i)) (hx : m[i]? = some x) (hz : (withF A x).1 = 0) : unionF l m = unionF (withF A x).2 (m.drop (i + 1)) := by
  have hl := (List.getElem?_eq_some_iff.1 hx).1
  rw [h, List.drop_eq_getElem_cons hl, unionF]
  rw [List.getElem?_eq_getElem hl] at hx
  rw [Option.some.inj hx, if_pos hz]
theorem union_bad {l m A : List Fl} {i : Nat} {x : Fl} (h : unionF l m = unionF A (m.drop i)) (hx : m[i]? = some x) (hz : ¬ (withF A x).1 = 0) : unionF l m = ((withF A x).1, []) := by
  have hl := (List.getElem?_eq_some_iff.1 hx).1
  rw [h, List.drop_eq_getElem_cons hl, unionF]
  rw [List.getElem?_eq_getElem hl] at hx
  rw [Option.some.inj hx, if_neg hz]
theorem union_fin {l m A : List Fl} {i : Nat} (h : unionF l m = unionF A (m.drop i)) (hi : m.length ≤ i) : unionF l m = (0, A) := by
  rw [h, show m.drop i = [] by rw [List.drop_eq_nil_iff]; exact hi]; rfl
def From (l m A : List Fl) : Prop := ∀ x ∈ A, x ∈ l ∨ x ∈ m
theorem From.with {l m A : List Fl} {x : Fl} (h : From l m A) (hx : x ∈ m) : From l m (withF A x).2 := fun y hy => by
  rcases withF_mem hy with rfl | hy
  · exact .inr hx
  · exact h y hy

def geS (a b : Str) : Bool := !(Op.bytesLess a b)
def badX (x : Fl) : Int := if isPath x.1 = false then 13 else if (2048 : Int) < (x.2.length : Nat) then 15 else 0
def checkA : List Fl → Int
  | [] => 0
  | x :: l => if badX x = 0 then checkA l else badX x
def ordBad (l : List Fl) (i : Nat) : Bool := decide ((0 : Int) < (i : Nat)) && geS (l.getD (i - 1) ([], [])).1 (l.getD i ([], [])).1
def twiceAt (l : List Fl) (i : Nat) : Bool := ordBad l i || l.any (fun g => clash (l.getD i ([], [])).1 g.1)
def twiceF (l : List Fl) : Bool := (List.range l.length).any (twiceAt l)
def checkF (l : List Fl) : Int := if ¬ checkA l = 0 then checkA l else if (32 : Int) < (l.length : Nat) then 15 else if twiceF l then 16 else 0
theorem checkA_bad {l : List Fl} {i : Nat} {x : Fl} (hx : l[i]? = some x) (hb : ¬ badX x = 0) (hn : ∀ j z, j < i → l[j]? = some z → badX z = 0) : checkA l = badX x := by
  induction l generalizing i with
  | nil => cases hx
  | cons y l ih =>
    cases i with
    | zero =>
      obtain rfl : y = x := by simpa using hx
      rw [checkA, if_neg hb]
    | succ i =>
      rw [checkA, if_pos (hn 0 y (by omega) rfl)]
      exact ih (by simpa using hx) (fun j z hj hz => hn (j + 1) z (by omega) (by simpa using hz))
theorem checkA_ok : ∀ {l : List Fl}, (∀ x ∈ l, badX x = 0) → checkA l = 0
  | [], _ => rfl
  | x :: l, h => by rw [checkA, if_pos (h x (by simp)), checkA_ok (fun y hy => h y (by simp [hy]))]
theorem checkF_a {l : List Fl} (h : ¬ checkA l = 0) : checkF l = checkA l := by rw [checkF, if_pos h]
theorem checkF_b {l : List Fl} (h : checkA l = 0) (h2 : (32 : Int) < (l.length : Nat)) : checkF l = 15 := by rw [checkF, if_neg (by simp [h]), if_pos h2]
theorem checkF_c {l : List Fl} (h : checkA l = 0) (h2 : ¬ (32 : Int) < (l.length : Nat)) (h3 : twiceF l = true) : checkF l = 16 := by rw [checkF, if_neg (by simp [h]), if_neg h2, if_pos h3]
theorem checkF_d {l : List Fl} (h : checkA l = 0) (h2 : ¬ (32 : Int) < (l.length : Nat)) (h3 : twiceF l = false) : checkF l = 0 := by rw [checkF, if_neg (by simp [h]), if_neg h2, h3]; rfl
theorem getDF {l : List Fl} {i : Nat} (h : i < l.length) : l[i]? = some (l.getD i ([], [])) := by rw [List.getD_eq_getElem?_getD, List.getElem?_eq_getElem h]; rfl
theorem getD_ofF {l : List Fl} {i : Nat} {x : Fl} (h : l[i]? = some x) : l.getD i ([], []) = x := by rw [List.getD_eq_getElem?_getD, h]; rfl
theorem twice_at {l : List Fl} {i : Nat} (hi : i < l.length) (h : twiceAt l i = true) : twiceF l = true := List.any_eq_true.2 ⟨i, List.mem_range.2 hi, h⟩
theorem twice_no {l : List Fl} {i : Nat} (hi : l.length ≤ i) (h : ∀ j, j < i → twiceAt l j = false) : twiceF l = false := by
  unfold twiceF
  rw [List.any_eq_false]
  intro j hj
  rw [h j (by have := List.mem_range.1 hj; omega)]; decide
theorem badX_path {x : Fl} (h : isPath x.1 = false) : badX x = 13 := by rw [badX, if_pos h]
theorem badX_big {x : Fl} (h : isPath x.1 = true) (h2 : (2048 : Int) < (x.2.length : Nat)) : badX x = 15 := by rw [badX, if_neg (by rw [h]; decide), if_pos h2]
theorem badX_no {x : Fl} (h : isPath x.1 = true) (h2 : ¬ (2048 : Int) < (x.2.length : Nat)) : badX x = 0 := by rw [badX, if_neg (by rw [h]; decide), if_neg h2]
/-- What the reference asks of a place. -/
theorem twice_below {l : List Fl} {i : Nat} {x y : Fl} (hx : l[i]? = some x) (hy : y ∈ l) (h : below x.1 y.1 = true) : twiceF l = true := by
  refine twice_at (List.getElem?_eq_some_iff.1 hx).1 ?_
  rw [twiceAt, getD_ofF hx, Bool.or_eq_true]
  exact .inr (List.any_eq_true.2 ⟨y, hy, by simp [clash, h]⟩)
theorem twice_ref {l : List Fl} {i : Nat} (hi : l.length ≤ i) (h : ∀ j x, j < i → l[j]? = some x → ordBad l j = false ∧ ∀ y ∈ l, below x.1 y.1 = false) : twiceF l = false := by
  refine twice_no (i := l.length) (Nat.le_refl _) fun j hj => ?_
  have hx := getDF hj
  obtain ⟨h1, h2⟩ := h j _ (by omega) hx
  rw [twiceAt, h1, Bool.false_or, List.any_eq_false]
  intro y hy
  obtain ⟨k, hk⟩ := List.mem_iff_getElem?.1 hy
  have hkl := (List.getElem?_eq_some_iff.1 hk).1
  have h3 := (h k y (by omega) hk).2 _ (List.mem_of_getElem? hx)
  rw [clash, h2 y hy, h3]; decide
end Go.Proofs.YtemopomapankmaaDoor
