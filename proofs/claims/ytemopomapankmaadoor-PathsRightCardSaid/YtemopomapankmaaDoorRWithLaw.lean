/-
  Plain laws: the reference's search.
-/
import Derived.Test.YtemopomapankmaaDoorWalkN
namespace Go.Proofs.YtemopomapankmaaDoor
open Go.Eng


/-- What the first loop knows. -/
def RW1 (l : List Fl) (f : Fl) (i : Nat) (same : Bool) (a : Nat) : Prop :=
  (same = false ∧ a = l.length ∧ ∀ j z, j < i → l[j]? = some z → z.1 ≠ f.1) ∨ (same = true ∧ a < i ∧ ∃ x, l[a]? = some x ∧ x.1 = f.1 ∧ ∀ j z, j < a → l[j]? = some z → z.1 ≠ f.1)
theorem RW1.start (l : List Fl) (f : Fl) : RW1 l f 0 false l.length := .inl ⟨rfl, rfl, fun j _ hj => absurd hj (Nat.not_lt_zero _)⟩
theorem RW1.hit {l : List Fl} {f x : Fl} {i a : Nat} (h : RW1 l f i false a) (hx : l[i]? = some x) (hp : x.1 = f.1) : RW1 l f (i + 1) true i := by
  rcases h with ⟨_, _, h⟩ | ⟨h, _⟩
  · exact .inr ⟨rfl, by omega, x, hx, hp, h⟩
  · cases h
theorem RW1.go {l : List Fl} {f x : Fl} {i a : Nat} {same : Bool} (h : RW1 l f i same a) (hx : l[i]? = some x) (hp : same = true ∨ x.1 ≠ f.1) : RW1 l f (i + 1) same a := by
  rcases h with ⟨rfl, h1, h⟩ | ⟨rfl, h1, h⟩
  · rcases hp with hp | hp
    · cases hp
    · exact .inl ⟨rfl, h1, step_of h hx hp⟩
  · exact .inr ⟨rfl, by omega, h⟩
/-- Where the new one goes, and how many go. -/
def RW2 (l : List Fl) (f : Fl) (same : Bool) (a : Nat) : Prop := a + (if same then 1 else 0) ≤ l.length ∧ putF l f = l.take a ++ f :: l.drop (a + (if same then 1 else 0))
theorem RW2.same {l : List Fl} {f : Fl} {i a : Nat} (h : RW1 l f i true a) : RW2 l f true a := by
  rcases h with ⟨h, _⟩ | ⟨_, _, x, hx, hp, hn⟩
  · cases h
  · have hl := (List.getElem?_eq_some_iff.1 hx).1
    exact ⟨by simp; omega, by rw [putF_hit hx hp hn, set_split f hl]; rfl⟩
theorem RW2.gt {l : List Fl} {f x : Fl} {i j a : Nat} (h : RW1 l f j false a) (hj : l.length ≤ j) (hx : l[i]? = some x) (hp : gtS x.1 f.1 = true) (hn : ∀ k y, k < i → l[k]? = some y → gtS y.1 f.1 = false) : RW2 l f false i := by
  rcases h with ⟨_, _, h⟩ | ⟨h, _⟩
  · have hl := (List.getElem?_eq_some_iff.1 hx).1
    exact ⟨by simp; omega, by rw [putF_miss (all_of_step h hj), gtAt_hit hx hp hn]; rfl⟩
  · cases h
theorem RW2.fin {l : List Fl} {f : Fl} {j a : Nat} (h : RW1 l f j false a) (hj : l.length ≤ j) (hn : ∀ x ∈ l, gtS x.1 f.1 = false) : RW2 l f false a := by
  rcases h with ⟨_, rfl, h⟩ | ⟨h, _⟩
  · exact ⟨by simp, by rw [putF_miss (all_of_step h hj), gtAt_miss hn]; rfl⟩
  · cases h
theorem any_step {l : List Fl} {p : Fl → Bool} (h : ∀ x ∈ l, p x = false) : l.any p = false := by simpa using h
end Go.Proofs.YtemopomapankmaaDoor
