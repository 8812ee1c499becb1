/-
  Plain laws: taken away in place.
-/
import Derived.Test.YtemopomapankmaaDoorWalkK
namespace Go.Proofs.YtemopomapankmaaDoor
open Go.Eng


theorem setAll_take : ∀ (vs cs : List Value) (k : Nat), (setAll cs k vs).take k = cs.take k
  | [], _, _ => rfl
  | v :: vs, cs, k => by
    have h := setAll_take vs (cs.set k v) (k + 1)
    have h2 := congrArg (fun l => l.take k) h
    simp only [List.take_take, Nat.min_eq_left (Nat.le_succ k)] at h2
    rw [setAll, h2, List.take_set_of_le (Nat.le_refl _)]
structure DelS (p : Fl → Bool) (l A : List Fl) (i j : Nat) : Prop where
  len : A.length = l.length
  ij : i < j
  jl : j ≤ l.length
  pre : A.take i = (l.take j).filter (fun x => !p x)
  post : A.drop j = l.drop j
theorem DelS.get {p : Fl → Bool} {l A : List Fl} {i j : Nat} {x : Fl} (h : DelS p l A i j) (hx : A[j]? = some x) : l[j]? = some x := by
  have := congrArg (fun m => m[0]?) h.post
  simp only [List.getElem?_drop, Nat.add_zero] at this
  rw [← this]; exact hx
theorem DelS.start {p : Fl → Bool} {l : List Fl} {i : Nat} {x : Fl} (hx : l[i]? = some x) (hp : p x = true) (hn : ∀ j y, j < i → l[j]? = some y → p y = false) : DelS p l l i (i + 1) := by
  have hil := (List.getElem?_eq_some_iff.1 hx).1
  refine ⟨rfl, by omega, by omega, ?_, rfl⟩
  rw [List.take_add_one, hx, List.filter_append]
  have h1 : (l.take i).filter (fun x => !p x) = l.take i := List.filter_eq_self.2 fun y hy => by
    obtain ⟨j, hj⟩ := List.mem_iff_getElem?.1 hy
    rw [List.getElem?_take] at hj
    split at hj
    · rename_i hl; simp [hn j y hl hj]
    · cases hj
  rw [h1]; simp [hp]
theorem DelS.skip {p : Fl → Bool} {l A : List Fl} {i j : Nat} {x : Fl} (h : DelS p l A i j) (hx : A[j]? = some x) (hp : p x = true) : DelS p l A i (j + 1) := by
  have hl := h.get hx
  have hjl := (List.getElem?_eq_some_iff.1 hl).1
  refine ⟨h.len, by have := h.ij; omega, by omega, ?_, ?_⟩
  · rw [h.pre, List.take_add_one, hl, List.filter_append]; simp [hp]
  · have := congrArg (fun m => m.drop 1) h.post
    simpa using this
theorem DelS.keep {p : Fl → Bool} {l A : List Fl} {i j : Nat} {x : Fl} (h : DelS p l A i j) (hx : A[j]? = some x) (hp : p x = false) : DelS p l (A.set i x) (i + 1) (j + 1) := by
  have hl := h.get hx
  have hjl := (List.getElem?_eq_some_iff.1 hl).1
  have hij := h.ij
  have hlen := h.len
  refine ⟨by rw [List.length_set]; exact hlen, by omega, by omega, ?_, ?_⟩
  · rw [List.take_add_one, List.take_set_of_le (Nat.le_refl _), List.getElem?_set_self (by omega), h.pre, List.take_add_one, hl, List.filter_append]; simp [hp]
  · rw [List.drop_set_of_lt (by omega)]
    have := congrArg (fun m => m.drop 1) h.post
    simpa using this
end Go.Proofs.YtemopomapankmaaDoor
