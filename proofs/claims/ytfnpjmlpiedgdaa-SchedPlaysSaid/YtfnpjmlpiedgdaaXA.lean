/-
  The reference's queue, and what holds of queues.
-/
import Derived.Test.YtfnpjmlpiedgdaaQB
namespace Go.Proofs.Ytfnpjmlpiedgdaa
open Go.Eng

def encR (x : It Int) : List Value := [vI x.v, vI x.rank, vI x.tm]
theorem encR_len (x : It Int) : (encR x).length = 3 := rfl
theorem encR_one (x : It Int) : ∀ v ∈ encR x, v.oneCell' = true := by simp [encR, Value.oneCell']
def refRaw (b : Nat) (age : Int) (R : List (It Int)) (oc : Option Addr × Nat) : List Atom :=
  [blk b (.cells [vI age, .slice oc.1 R.length oc.2].toArray 89 (0, 0)), slc 112 3 oc.1 R.length oc.2 (R.flatMap encR)]
def refA (b : Nat) (age : Int) (R : List (It Int)) : Atom := exA (fun _ => True) (refRaw b age R)
section
variable {α : Type}
def key (age : Int) (x : It α) : Int := x.tm + age * x.rank
def FirstTo (age : Int) (R : List (It α)) (i k : Nat) : Prop := ∃ x, R[k]? = some x ∧ k < i ∧ ∀ j y, j < i → R[j]? = some y → key age x ≤ key age y ∧ (j < k → key age x < key age y)
structure QOk (age n : Int) (R : List (It α)) : Prop where
  all : ∀ x ∈ R, 0 ≤ x.rank ∧ x.rank ≤ 9 ∧ 0 ≤ x.tm ∧ x.tm ≤ 1000000000 ∧ x.turn = x.tm + age * x.rank ∧ x.no ≤ n
  asc : R.Pairwise fun x y => x.no < y.no
theorem FirstTo.step {age : Int} {R : List (It α)} {i k : Nat} {x y : It α} (h : FirstTo age R i k) (hx : R[k]? = some x) (hy : R[i]? = some y) (hl : key age y < key age x) : FirstTo age R (i + 1) i := by
  obtain ⟨x', hx', hk, h⟩ := h
  obtain rfl : x' = x := Option.some.inj (hx'.symm.trans hx)
  refine ⟨y, hy, by omega, fun j z hj hz => ?_⟩
  rcases Nat.lt_or_ge j i with hji | hji
  · have := (h j z hji hz).1; omega
  · obtain rfl : j = i := by omega
    obtain rfl : z = y := Option.some.inj (hz.symm.trans hy)
    omega
theorem FirstTo.stay {age : Int} {R : List (It α)} {i k : Nat} {x y : It α} (h : FirstTo age R i k) (hx : R[k]? = some x) (hy : R[i]? = some y) (hl : key age x ≤ key age y) : FirstTo age R (i + 1) k := by
  obtain ⟨x', hx', hk, h⟩ := h
  obtain rfl : x' = x := Option.some.inj (hx'.symm.trans hx)
  refine ⟨x', hx', by omega, fun j z hj hz => ?_⟩
  rcases Nat.lt_or_ge j i with hji | hji
  · exact h j z hji hz
  · obtain rfl : j = i := by omega
    obtain rfl : z = y := Option.some.inj (hz.symm.trans hy)
    omega
theorem rest_erase {age n : Int} {R : List (It α)} (hq : QOk age n R) {k : Nat} {r : It α} (hk : R[k]? = some r) : rest R r = R.eraseIdx k := by
  have hl := (List.getElem?_eq_some_iff.1 hk).1
  have e : R = R.take k ++ r :: R.drop (k + 1) := by
    rw [List.getElem?_eq_getElem hl] at hk
    rw [← Option.some.inj hk, ← List.drop_eq_getElem_cons hl, List.take_append_drop]
  have hp := hq.asc
  rw [e] at hp
  rw [List.pairwise_append, List.pairwise_cons] at hp
  obtain ⟨_, ⟨h2, _⟩, h3⟩ := hp
  rw [List.eraseIdx_eq_take_drop_succ]
  conv => lhs; rw [e]
  rw [rest, List.filter_append, List.filter_cons_of_neg (by simp)]
  congr 1
  · refine List.filter_eq_self.2 fun a ha => ?_
    have := h3 a ha r (by simp)
    simp; omega
  · refine List.filter_eq_self.2 fun a ha => ?_
    have := h2 a ha
    simp; omega
theorem first_min {age n : Int} {R : List (It α)} (hq : QOk age n R) {k : Nat} {r : It α} (hk : FirstTo age R R.length k) (hr : IsMin r R) : R[k]? = some r := by
  obtain ⟨x, hx, _, h⟩ := hk
  obtain ⟨j, hj⟩ := List.mem_iff_getElem?.1 hr.1
  have hjl := (List.getElem?_eq_some_iff.1 hj).1
  have hkl := (List.getElem?_eq_some_iff.1 hx).1
  obtain ⟨h1, h2⟩ := h j r hjl hj
  have hm := hr.2 x (List.mem_of_getElem? hx)
  rw [It.not_iff, (hq.all x (List.mem_of_getElem? hx)).2.2.2.2.1, (hq.all r hr.1).2.2.2.2.1] at hm
  have hxe : R[k] = x := by rw [List.getElem?_eq_getElem hkl] at hx; exact Option.some.inj hx
  have hre : R[j] = r := by rw [List.getElem?_eq_getElem hjl] at hj; exact Option.some.inj hj
  unfold key at h1 h2
  have hp := List.pairwise_iff_getElem.1 hq.asc
  rcases Nat.lt_trichotomy j k with hl | rfl | hl
  · have := h2 hl; omega
  · exact hj
  · have := hp k j hkl hjl hl
    rw [hxe, hre] at this
    omega
theorem QOk.push {age n : Int} {R : List (It α)} (h : QOk age n R) {v : α} {rank tm : Int} (h1 : 0 ≤ rank ∧ rank ≤ 9) (h2 : 0 ≤ tm ∧ tm ≤ 1000000000) : QOk age (n + 1) (R ++ [⟨v, rank, tm, tm + age * rank, n + 1⟩]) := by
  refine ⟨fun x hx => ?_, ?_⟩
  · rcases List.mem_append.1 hx with hx | hx
    · obtain ⟨a, b, c, d, e, f⟩ := h.all x hx; exact ⟨a, b, c, d, e, by omega⟩
    · obtain rfl := List.mem_singleton.1 hx
      exact ⟨h1.1, h1.2, h2.1, h2.2, rfl, by simp⟩
  · rw [List.pairwise_append]
    refine ⟨h.asc, List.pairwise_singleton _ _, fun a ha b hb => ?_⟩
    obtain rfl := List.mem_singleton.1 hb
    have := (h.all a ha).2.2.2.2.2
    simp only; omega
theorem QOk.rest {age n : Int} {R : List (It α)} (h : QOk age n R) (r : It α) : QOk age n (rest R r) := ⟨fun a ha => h.all a (List.mem_filter.1 ha).1, h.asc.filter _⟩
theorem QOk.dist {age n : Int} {R : List (It α)} (h : QOk age n R) : R.Pairwise fun x y => x.no ≠ y.no := h.asc.imp fun h => Int.ne_of_lt h
theorem QOk.four {age n : Int} {R : List (It α)} (h : QOk age n R) : ∀ x ∈ R, 0 ≤ x.rank ∧ x.rank ≤ 9 ∧ 0 ≤ x.tm ∧ x.tm ≤ 1000000000 := fun x hx => let ⟨a, b, c, d, _⟩ := h.all x hx; ⟨a, b, c, d⟩
end
end Go.Proofs.Ytfnpjmlpiedgdaa
