/-
  Plain laws: files looked up, told apart, and gathered.
-/
import Derived.Test.YtemopomapankmaaDoorWalkH
namespace Go.Proofs.YtemopomapankmaaDoor
open Go.Eng


def getF : List Fl → Str → Str × Bool
  | [], _ => ([], false)
  | x :: l, q => if x.1 = q then (x.2, true) else getF l q
theorem getF_hit {q : Str} : ∀ {l : List Fl} {i : Nat} {x : Fl}, l[i]? = some x → x.1 = q → (∀ j y, j < i → l[j]? = some y → y.1 ≠ q) → getF l q = (x.2, true)
  | y :: l, 0, x, h, hp, _ => by
    obtain rfl : y = x := by simpa using h
    rw [getF, if_pos hp]
  | y :: l, i + 1, x, h, hp, hn => by
    rw [getF, if_neg (hn 0 y (by omega) rfl)]
    exact getF_hit (l := l) (i := i) (by simpa using h) hp (fun j z hj hz => hn (j + 1) z (by omega) (by simpa using hz))
theorem getF_miss {q : Str} : ∀ {l : List Fl}, (∀ x ∈ l, x.1 ≠ q) → getF l q = ([], false)
  | [], _ => rfl
  | y :: l, h => by rw [getF, if_neg (h y (by simp)), getF_miss (fun x hx => h x (by simp [hx]))]
theorem idxF_pos {p : Fl → Bool} {l : List Fl} (h : 0 ≤ idxF p l) : ∃ i x, idxF p l = (i : Nat) ∧ l[i]? = some x ∧ p x = true ∧ ∀ j y, j < i → l[j]? = some y → p y = false := by
  rcases idxF_cases p l with ⟨h1, _⟩ | h1
  · omega
  · exact h1
theorem idxF_neg {p : Fl → Bool} {l : List Fl} (h : idxF p l < 0) : idxF p l = -1 ∧ ∀ x ∈ l, p x = false := by
  rcases idxF_cases p l with h1 | ⟨i, x, h1, _⟩
  · exact h1
  · omega
theorem all_of_step {p : Fl → Prop} {l : List Fl} {i : Nat} (hall : ∀ j z, j < i → l[j]? = some z → p z) (hi : l.length ≤ i) : ∀ x ∈ l, p x := fun x hx => by
  obtain ⟨j, hj⟩ := List.mem_iff_getElem?.1 hx
  exact hall j x (by have := (List.getElem?_eq_some_iff.1 hj).1; omega) hj
theorem step_of {p : Fl → Prop} {l : List Fl} {i : Nat} {x : Fl} (hall : ∀ j z, j < i → l[j]? = some z → p z) (hx : l[i]? = some x) (hp : p x) : ∀ j z, j < i + 1 → l[j]? = some z → p z := fun j z hj hz => by
  rcases Nat.lt_or_ge j i with h | h
  · exact hall j z h hz
  · obtain rfl : j = i := by omega
    rw [hx] at hz; cases hz; exact hp
theorem take_same {l m : List Fl} {i : Nat} {x y : Fl} (h : l.take i = m.take i) (hx : l[i]? = some x) (hy : m[i]? = some y) (he : x = y) : l.take (i + 1) = m.take (i + 1) := by
  rw [List.take_add_one, List.take_add_one, h, hx, hy, he]
def fewX (x : Fl) : Bool := !(decide ((500 : Int) < (x.1.length : Nat)) || decide ((5000 : Int) < (x.2.length : Nat)))
def fewF (l : List Fl) : Bool := !decide ((100 : Int) < (l.length : Nat)) && l.all fewX
theorem fewF_spec {l : List Fl} (h : fewF l = true) : l.length ≤ 100 ∧ ∀ x ∈ l, x.1.length ≤ 500 ∧ x.2.length ≤ 5000 := by
  simp only [fewF, fewX, Bool.and_eq_true, Bool.not_eq_true', decide_eq_false_iff_not, List.all_eq_true, Bool.or_eq_false_iff] at h
  exact ⟨by omega, fun x hx => by have := h.2 x hx; omega⟩
theorem fm_step {g : Fl → List Fl} {l : List Fl} {i : Nat} {x : Fl} (h : l[i]? = some x) : (l.take (i + 1)).flatMap g = (l.take i).flatMap g ++ g x := by
  rw [List.take_add_one, h]; simp
theorem fm_len {g : Fl → List Fl} (hg : ∀ x, (g x).length ≤ 1) : ∀ (l : List Fl), (l.flatMap g).length ≤ l.length
  | [] => by simp
  | x :: l => by rw [List.flatMap_cons, List.length_append, List.length_cons]; have := hg x; have := fm_len hg l; omega
theorem fm_take {g : Fl → List Fl} (hg : ∀ x, (g x).length ≤ 1) (l : List Fl) (i : Nat) : ((l.take i).flatMap g).length ≤ i := by
  have := fm_len hg (l.take i); rw [List.length_take] at this; omega
def underG (q : Str) (x : Fl) : List Fl := if below x.1 q then [(x.1.drop (q.length + 1), x.2)] else []
theorem underG_le (q : Str) (x : Fl) : (underG q x).length ≤ 1 := by unfold underG; split <;> simp
def underF (l : List Fl) (q : Str) : List Fl := l.flatMap (underG q)
def withoutG (q : Str) (x : Fl) : List Fl := if below x.1 q || decide (x.1 = q) then [] else [x]
theorem withoutG_le (q : Str) (x : Fl) : (withoutG q x).length ≤ 1 := by unfold withoutG; split <;> simp
def withoutF (l : List Fl) (q : Str) : List Fl := l.flatMap (withoutG q)
theorem below_pre {s q : Str} (h : below s q = true) : isPre (q ++ [47]) s = true := by simp only [below, Bool.and_eq_true] at h; exact h.1
theorem below_len {s q : Str} (h : below s q = true) : q.length + 1 < s.length := by
  rw [rbelow_eq] at h
  simp only [Bool.and_eq_true, decide_eq_true_eq] at h
  omega
end Go.Proofs.YtemopomapankmaaDoor
