/-
  The reference's contracts, by what it has.
-/
import Derived.Test.YtblhphnnnihkmaaWalkR

namespace Go.Proofs.Ytblhphnnnihkmaa
open Go.Eng
theorem first_isMin {age n : Int} {R : List (It Int)} (hq : QOk age n R) {k : Nat} {x : It Int} (hk : FirstTo age R R.length k) (hx : R[k]? = some x) : IsMin x R := by
  obtain ⟨x', hx', hkl, h⟩ := hk
  obtain rfl : x' = x := Option.some.inj (hx'.symm.trans hx)
  refine ⟨List.mem_of_getElem? hx, fun a ha => ?_⟩
  obtain ⟨j, hj⟩ := List.mem_iff_getElem?.1 ha
  have hjl := (List.getElem?_eq_some_iff.1 hj).1
  obtain ⟨h1, h2⟩ := h j a hjl hj
  rw [It.not_iff, (hq.all x' (List.mem_of_getElem? hx)).2.2.2.2.1, (hq.all a ha).2.2.2.2.1]
  have hxe : R[k] = x' := by rw [List.getElem?_eq_getElem hkl] at hx; exact Option.some.inj hx
  have hae : R[j] = a := by rw [List.getElem?_eq_getElem hjl] at hj; exact Option.some.inj hj
  unfold key at h1 h2
  have hp := List.pairwise_iff_getElem.1 hq.asc
  rcases Nat.lt_trichotomy j k with hl | rfl | hl
  · have := h2 hl; omega
  · rw [hxe] at hae; subst hae; omega
  · have := hp k j hkl hjl hl
    rw [hxe, hae] at this
    omega
theorem QOk.four {age n : Int} {R : List (It Int)} (h : QOk age n R) : ∀ x ∈ R, 0 ≤ x.rank ∧ x.rank ≤ 9 ∧ 0 ≤ x.tm ∧ x.tm ≤ 1000000000 := fun x hx => let ⟨a, b, c, d, _⟩ := h.all x hx; ⟨a, b, c, d⟩
theorem rpush_ok (b : Nat) (age n : Int) (R : List (It Int)) (v rank tm : Int) (hr : 0 ≤ rank ∧ rank ≤ 9) (ht : 0 ≤ tm ∧ tm ≤ 1000000000) (hl : R.length ≤ 1000000) :
    Ctr Try.prog 12 #[ptr b, vI v, vI rank, vI tm] [] [refA b age R] (fun _ : Unit => True) (fun _ => vI 0) (fun _ => [refA b age (R ++ [(⟨v, rank, tm, tm + age * rank, n + 1⟩ : It Int)])]) :=
  Ctr.open fun oc _ => (rpush_raw b age R oc v rank tm n hr ht hl).post (fun _ => ()) fun y _ => ⟨trivial, rfl, fun _ _ _ h => exA_shut y trivial h⟩
theorem rpush_no (b : Nat) (age : Int) (R : List (It Int)) (v rank tm : Int) (hb : rank < 0 ∨ 9 < rank ∨ tm < 0 ∨ 1000000000 < tm) :
    Ctr Try.prog 12 #[ptr b, vI v, vI rank, vI tm] [] [refA b age R] (fun _ : Unit => True) (fun _ => vI 1) (fun _ => [refA b age R]) :=
  Ctr.open fun oc _ => (rpush_bad b age R oc v rank tm hb).post (fun _ => ()) fun _ _ => ⟨trivial, rfl, fun _ _ _ h => exA_shut oc trivial h⟩
theorem rpeek_ok (b : Nat) (age n : Int) (R : List (It Int)) (ha : 0 ≤ age ∧ age ≤ 1000000) (hl : R.length ≤ 1000000) (hq : QOk age n R) (hne : R ≠ []) :
    Ctr Try.prog 16 #[ptr b] [] [refA b age R] (fun r : It Int => IsMin r R) (fun r => .tuple #[vI r.v, vI r.rank, vI r.tm, .bool true]) (fun _ => [refA b age R]) :=
  Ctr.open fun oc _ => (rpeek_raw b age R oc ha hl hq.four (List.length_pos_iff.2 hne)).post (fun y => y.2) fun y hy => ⟨first_isMin hq hy.1 hy.2, rfl, fun _ _ _ h => exA_shut oc trivial h⟩
theorem rpeek_em (b : Nat) (age : Int) : Ctr Try.prog 16 #[ptr b] [] [refA b age []] (fun _ : Unit => True) (fun _ => .tuple #[vI 0, vI 0, vI 0, .bool false]) (fun _ => [refA b age []]) :=
  Ctr.open fun oc _ => (rpeek_no b age oc).post (fun _ => ()) fun _ _ => ⟨trivial, rfl, fun _ _ _ h => exA_shut oc trivial h⟩
theorem rpop_em (b : Nat) (age : Int) : Ctr Try.prog 14 #[ptr b] [] [refA b age []] (fun _ : Unit => True) (fun _ => .tuple #[vI 0, .bool false]) (fun _ => [refA b age []]) :=
  Ctr.open fun oc _ => (rpop_no b age oc).post (fun _ => ()) fun _ _ => ⟨trivial, rfl, fun _ _ _ h => exA_shut oc trivial h⟩
theorem rpop_ok (b : Nat) (age n : Int) (R : List (It Int)) (ha : 0 ≤ age ∧ age ≤ 1000000) (hl : R.length ≤ 1000000) (hq : QOk age n R) (hne : R ≠ []) :
    Ctr Try.prog 14 #[ptr b] [] [refA b age R] (fun r : It Int => IsMin r R) (fun r => .tuple #[vI r.v, .bool true]) (fun r => [refA b age (rest R r)]) :=
  Ctr.open fun oc _ => (rpop_raw b age R oc ha hl hq.four (List.length_pos_iff.2 hne)).post (fun y => y.1.2) fun y hy => ⟨first_isMin hq hy.1 hy.2, rfl, fun _ _ _ h => exA_shut y.2 trivial (by rw [rest_erase hq hy.2]; exact h)⟩
def encOp (x : Bool × Int × Int) : List Value := [.bool x.1, vI x.2.1, vI x.2.2]
theorem encOp_len (x : Bool × Int × Int) : (encOp x).length = 3 := rfl
theorem encOp_one (x : Bool × Int × Int) : ∀ v ∈ encOp x, v.oneCell' = true := by simp [encOp, Value.oneCell']
end Go.Proofs.Ytblhphnnnihkmaa
