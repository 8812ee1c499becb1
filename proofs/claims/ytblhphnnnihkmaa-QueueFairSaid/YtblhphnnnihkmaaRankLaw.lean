/-
  Plain laws: things pushed at one time.
-/
import Derived.Test.YtblhphnnnihkmaaAbs

namespace Go.Proofs.Ytblhphnnnihkmaa
open Go.Eng
structure QR (age n : Int) (k : Nat) (rk : List Int) (R : List (It Int)) : Prop where
  all : ∀ a ∈ R, a.tm = 7 ∧ a.turn = 7 + age * a.rank ∧ 0 ≤ a.rank ∧ (∃ j : Nat, a.v = j ∧ rk[j]? = some a.rank) ∧ a.no ≤ n ∧ a.v < k
  asc : R.Pairwise fun x y => x.no < y.no ∧ x.v < y.v
theorem QR.dist {age n : Int} {k : Nat} {rk : List Int} {R : List (It Int)} (h : QR age n k rk R) : R.Pairwise fun x y => x.no ≠ y.no := h.asc.imp fun h => Int.ne_of_lt h.1
theorem QR.push {age n : Int} {k : Nat} {rk : List Int} {R : List (It Int)} (h : QR age n k rk R) {x : Int} (hx : rk[k]? = some x) (h0 : 0 ≤ x) : QR age (n + 1) (k + 1) rk (R ++ [⟨k, x, 7, 7 + age * x, n + 1⟩]) := by
  refine ⟨fun a ha => ?_, ?_⟩
  · rcases List.mem_append.1 ha with ha | ha
    · obtain ⟨h1, h2, h3, h4, h5, h6⟩ := h.all a ha
      exact ⟨h1, h2, h3, h4, by omega, by omega⟩
    · obtain rfl := List.mem_singleton.1 ha
      exact ⟨rfl, rfl, h0, ⟨k, rfl, hx⟩, by simp, by simp; omega⟩
  · rw [List.pairwise_append]
    refine ⟨h.asc, List.pairwise_singleton _ _, fun a ha b hb => ?_⟩
    obtain rfl := List.mem_singleton.1 hb
    obtain ⟨_, _, _, _, h5, h6⟩ := h.all a ha
    exact ⟨by simp only; omega, h6⟩
theorem QR.more {age n : Int} {k : Nat} {rk : List Int} {R : List (It Int)} (h : QR age n k rk R) : QR age n (k + 1) rk R :=
  ⟨fun a ha => by obtain ⟨h1, h2, h3, h4, h5, h6⟩ := h.all a ha; exact ⟨h1, h2, h3, h4, h5, by omega⟩, h.asc⟩
theorem QR.rest {age n : Int} {k : Nat} {rk : List Int} {R : List (It Int)} (h : QR age n k rk R) (r : It Int) : QR age n k rk (rest R r) :=
  ⟨fun a ha => h.all a (List.mem_filter.1 ha).1, h.asc.filter _⟩
theorem rest_length {α : Type} {R : List (It α)} {r : It α} (h : r ∈ R) : (rest R r).length < R.length := by
  refine Nat.lt_of_le_of_ne (List.length_filter_le _ _) fun he => ?_
  have := List.length_filter_eq_length_iff.1 he r h
  simp at this
theorem QR.next {age n : Int} {k : Nat} {rk : List Int} {R : List (It Int)} (h : QR age n k rk R) (ha : 1 ≤ age) {r : It Int} (hr : IsMin r R) : ∀ a ∈ _root_.Go.Proofs.Ytblhphnnnihkmaa.rest R r, r.rank ≤ a.rank ∧ (a.rank = r.rank → r.v < a.v) := fun a hm => by
  obtain ⟨hm, hne⟩ := List.mem_filter.1 hm
  have hne : a.no ≠ r.no := by simpa using hne
  have hlt := hr.2 a hm
  rw [It.not_iff] at hlt
  obtain ⟨_, h2, h3, _⟩ := h.all a hm
  obtain ⟨_, h2', h3', _⟩ := h.all r hr.1
  have hle : r.rank ≤ a.rank := by
    rcases Int.lt_or_le a.rank r.rank with hc | hc
    · have : age * (a.rank + 1) ≤ age * r.rank := Int.mul_le_mul_of_nonneg_left hc (by omega)
      rw [Int.mul_add, Int.mul_one] at this
      omega
    · exact hc
  refine ⟨hle, fun he => ?_⟩
  rw [he] at h2
  have hno : r.no < a.no := by omega
  obtain ⟨i, hi⟩ := List.mem_iff_getElem?.1 hr.1
  obtain ⟨j, hj⟩ := List.mem_iff_getElem?.1 hm
  have hil := (List.getElem?_eq_some_iff.1 hi).1
  have hjl := (List.getElem?_eq_some_iff.1 hj).1
  rw [List.getElem?_eq_getElem hil] at hi
  rw [List.getElem?_eq_getElem hjl] at hj
  have hp := List.pairwise_iff_getElem.1 h.asc
  rcases Nat.lt_trichotomy i j with hl | rfl | hl
  · have := hp i j hil hjl hl
    rw [Option.some.inj hi, Option.some.inj hj] at this
    exact this.2
  · rw [← Option.some.inj hi, ← Option.some.inj hj] at hno; omega
  · have := hp j i hjl hil hl
    rw [Option.some.inj hi, Option.some.inj hj] at this
    omega
end Go.Proofs.Ytblhphnnnihkmaa
