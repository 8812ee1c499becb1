/-
  Plain laws: files below a path.
-/
import Derived.Test.YtemopomapankmaaDoorWalkJ
namespace Go.Proofs.YtemopomapankmaaDoor
open Go.Eng


def intoX (q : Str) (x : Fl) : Fl := (q ++ [47] ++ x.1, x.2)
def intoG (q : Str) (x : Fl) : List Fl := [intoX q x]
theorem intoG_le (q : Str) (x : Fl) : (intoG q x).length ≤ 1 := Nat.le_refl _
def intoF (l : List Fl) (q : Str) : Int × List Fl := if isPath q && l.all (fun x => isPath (intoX q x).1) then (0, l.flatMap (intoG q)) else (13, [])
theorem intoF_q {l : List Fl} {q : Str} (h : isPath q = false) : intoF l q = (13, []) := by simp [intoF, h]
theorem intoF_x {l : List Fl} {q : Str} {x : Fl} (hx : x ∈ l) (h : isPath (intoX q x).1 = false) : intoF l q = (13, []) := by
  rw [intoF, if_neg]
  simp only [Bool.and_eq_true, List.all_eq_true, not_and]
  intro _ h2
  have := h2 x hx
  rw [h] at this; cases this
theorem intoF_ok {l : List Fl} {q : Str} (hq : isPath q = true) (h : ∀ x ∈ l, isPath (intoX q x).1 = true) : intoF l q = (0, l.flatMap (intoG q)) := by
  rw [intoF, if_pos]
  simp only [Bool.and_eq_true, List.all_eq_true]
  exact ⟨hq, h⟩
theorem pathE_ne {s : Str} (h : ¬ pathE s = 0) : isPath s = false ∧ pathE s = 13 := by
  rcases pathE_cases s with ⟨_, h2⟩ | h1
  · exact absurd h2 h
  · exact h1
theorem pathE_eq {s : Str} (h : pathE s = 0) : isPath s = true := by
  rcases pathE_cases s with ⟨h1, _⟩ | ⟨_, h2⟩
  · exact h1
  · rw [h2] at h; cases h
end Go.Proofs.YtemopomapankmaaDoor
