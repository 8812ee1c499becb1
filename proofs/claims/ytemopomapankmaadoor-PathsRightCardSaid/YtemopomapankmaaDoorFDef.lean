/-
  Files in a row: found, put, taken away.
-/
import Derived.Test.YtemopomapankmaaDoorWalkF
namespace Go.Proofs.YtemopomapankmaaDoor
open Go.Eng


/-- A file: its path, its bytes. -/
abbrev Fl := Str × Str
def encF (f : Fl) : List Value := [vS f.1, vS f.2]
theorem encF_len (f : Fl) : (encF f).length = 2 := rfl
theorem encF_one (f : Fl) : ∀ v ∈ encF f, v.oneCell' = true := by simp [encF, Value.oneCell']
abbrev agF (f : Fl) : Value := .agg (encF f).toArray
def short (f : Fl) : Prop := f.1.length ≤ 9223372036854775000
def idxF (p : Fl → Bool) : List Fl → Int
  | [] => -1
  | x :: l => if p x then 0 else if idxF p l = -1 then -1 else idxF p l + 1
theorem idxF_hit {p : Fl → Bool} : ∀ {l : List Fl} {i : Nat} {x : Fl}, l[i]? = some x → p x = true → (∀ j y, j < i → l[j]? = some y → p y = false) → idxF p l = i
  | y :: l, 0, x, h, hp, _ => by
    obtain rfl : y = x := by simpa using h
    simp [idxF, hp]
  | y :: l, i + 1, x, h, hp, hn => by
    have h0 := hn 0 y (by omega) rfl
    have := idxF_hit (l := l) (i := i) (by simpa using h) hp (fun j z hj hz => hn (j + 1) z (by omega) (by simpa using hz))
    rw [idxF, h0, this]; simp
theorem idxF_miss {p : Fl → Bool} : ∀ {l : List Fl}, (∀ x ∈ l, p x = false) → idxF p l = -1
  | [], _ => rfl
  | y :: l, h => by rw [idxF, h y (by simp), idxF_miss (fun x hx => h x (by simp [hx]))]; rfl
theorem none_step {p : Fl → Bool} {l : List Fl} {i : Nat} {x : Fl} (hall : ∀ j z, j < i → l[j]? = some z → p z = false) (hx : l[i]? = some x) (hp : p x = false) : ∀ j z, j < i + 1 → l[j]? = some z → p z = false := fun j z hj hz => by
  rcases Nat.lt_or_ge j i with h | h
  · exact hall j z h hz
  · obtain rfl : j = i := by omega
    rw [hx] at hz; cases hz; exact hp
theorem idxF_cases (p : Fl → Bool) (l : List Fl) : (idxF p l = -1 ∧ ∀ x ∈ l, p x = false) ∨ ∃ i x, idxF p l = (i : Nat) ∧ l[i]? = some x ∧ p x = true ∧ ∀ j y, j < i → l[j]? = some y → p y = false := by
  induction l with
  | nil => exact .inl ⟨rfl, by simp⟩
  | cons y l ih =>
    cases hy : p y with
    | true => exact .inr ⟨0, y, by simp [idxF, hy], rfl, hy, fun j _ hj => absurd hj (Nat.not_lt_zero _)⟩
    | false =>
      rcases ih with ⟨h1, h2⟩ | ⟨i, x, h1, h2, h3, h4⟩
      · exact .inl ⟨by simp [idxF, hy, h1], fun x hx => by rcases List.mem_cons.1 hx with rfl | hx; exact hy; exact h2 x hx⟩
      · refine .inr ⟨i + 1, x, by rw [idxF, hy, h1]; simp, by simpa using h2, h3, fun j z hj hz => ?_⟩
        cases j with
        | zero => obtain rfl : y = z := by simpa using hz
                  exact hy
        | succ j => exact h4 j z (by omega) (by simpa using hz)
end Go.Proofs.YtemopomapankmaaDoor
