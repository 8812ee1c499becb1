/-
  Plain laws: what is pushed is popped once.
-/
import Derived.Test.YtblhphnnnihkmaaRefAbs
import Derived.Test.YtblhphnnnihkmaaEngMap
import Derived.Test.YtblhphnnnihkmaaRankLaw
namespace Go.Proofs.Ytblhphnnnihkmaa
open Go.Eng
abbrev vB (b : Bool) : Value := .bool b
theorem rest_perm2 {α : Type} {R : List (It α)} {r : It α} (hr : r ∈ R) (hd : R.Pairwise fun x y => x.no ≠ y.no) : (r :: rest R r).Perm R := by
  obtain ⟨s, t, rfl⟩ := List.append_of_mem hr
  rw [List.pairwise_append, List.pairwise_cons] at hd
  obtain ⟨_, ⟨h2, _⟩, h3⟩ := hd
  have e : rest (s ++ r :: t) r = s ++ t := by
    rw [rest, List.filter_append, List.filter_cons_of_neg (by simp)]
    congr 1
    · exact List.filter_eq_self.2 fun a ha => by simpa using h3 a ha r (by simp)
    · exact List.filter_eq_self.2 fun a ha => by simpa using Ne.symm (h2 a ha)
  rw [e]
  exact List.perm_middle.symm
theorem rest_len1 {α : Type} {R : List (It α)} {r : It α} (hr : r ∈ R) (hd : R.Pairwise fun x y => x.no ≠ y.no) : (rest R r).length + 1 = R.length := by
  have := (rest_perm2 hr hd).length_eq
  simpa using this
theorem mem_rest {α : Type} {R : List (It α)} {r x : It α} : x ∈ rest R r ↔ x ∈ R ∧ x.no ≠ r.no := by simp [rest]
structure QO (age n : Int) (k : Nat) (R : List (It Int)) : Prop where
  ok : QOk age n R
  vs : ∀ x ∈ R, ∀ y ∈ R, x.v = y.v → x.no = y.no
  low : ∀ x ∈ R, x.v < k
theorem QO.push {age n : Int} {k : Nat} {R : List (It Int)} (h : QO age n k R) {rank tm : Int} (h1 : 0 ≤ rank ∧ rank ≤ 9) (h2 : 0 ≤ tm ∧ tm ≤ 1000000000) : QO age (n + 1) (k + 1) (R ++ [⟨k, rank, tm, tm + age * rank, n + 1⟩]) := by
  refine ⟨h.ok.push h1 h2, fun x hx y hy he => ?_, fun x hx => ?_⟩
  · rcases List.mem_append.1 hx with hx | hx <;> rcases List.mem_append.1 hy with hy | hy
    · exact h.vs x hx y hy he
    · obtain rfl := List.mem_singleton.1 hy
      have := h.low x hx
      simp only at he; omega
    · obtain rfl := List.mem_singleton.1 hx
      have := h.low y hy
      simp only at he; omega
    · rw [List.mem_singleton.1 hx, List.mem_singleton.1 hy]
  · rcases List.mem_append.1 hx with hx | hx
    · have := h.low x hx; omega
    · rw [List.mem_singleton.1 hx]; simp only; omega
theorem QO.more {age n : Int} {k : Nat} {R : List (It Int)} (h : QO age n k R) : QO age n (k + 1) R := ⟨h.ok, h.vs, fun x hx => by have := h.low x hx; omega⟩
theorem QO.rest {age n : Int} {k : Nat} {R : List (It Int)} (h : QO age n k R) (r : It Int) : QO age n k (rest R r) := ⟨h.ok.rest r, fun x hx y hy => h.vs x (mem_rest.1 hx).1 y (mem_rest.1 hy).1, fun x hx => h.low x (mem_rest.1 hx).1⟩
/-- What the map of those that are in says. -/
def InM (M : List (Int × Bool)) (R : List (It Int)) : Prop := ∀ i, mget M i = some true ↔ ∃ x ∈ R, x.v = i
theorem InM.push {M : List (Int × Bool)} {R : List (It Int)} (h : InM M R) (x : It Int) : InM (mput M x.v true) (R ++ [x]) := fun i => by
  rw [mget_put]
  split
  · rename_i he; exact ⟨fun _ => ⟨x, by simp, he.symm⟩, fun _ => rfl⟩
  · rename_i he
    rw [h i]
    constructor
    · rintro ⟨y, hy, hv⟩; exact ⟨y, by simp [hy], hv⟩
    · rintro ⟨y, hy, hv⟩
      rcases List.mem_append.1 hy with hy | hy
      · exact ⟨y, hy, hv⟩
      · rw [List.mem_singleton.1 hy] at hv; exact absurd hv.symm he
theorem InM.pop {age n : Int} {k : Nat} {M : List (Int × Bool)} {R : List (It Int)} (h : InM M R) (hq : QO age n k R) {x : It Int} (hx : x ∈ R) : InM (mput M x.v false) (rest R x) := fun i => by
  rw [mget_put]
  split
  · rename_i he
    constructor
    · intro h; cases h
    · rintro ⟨y, hy, hv⟩
      obtain ⟨h1, h2⟩ := mem_rest.1 hy
      exact absurd (hq.vs y h1 x hx (hv.trans he)) h2
  · rename_i he
    rw [h i]
    constructor
    · rintro ⟨y, hy, hv⟩
      refine ⟨y, mem_rest.2 ⟨hy, fun e => he ?_⟩, hv⟩
      have := hq.ok.asc
      obtain ⟨a, ha⟩ := List.mem_iff_getElem?.1 hy
      obtain ⟨b, hb⟩ := List.mem_iff_getElem?.1 hx
      have hal := (List.getElem?_eq_some_iff.1 ha).1
      have hbl := (List.getElem?_eq_some_iff.1 hb).1
      rw [List.getElem?_eq_getElem hal] at ha
      rw [List.getElem?_eq_getElem hbl] at hb
      have hp := List.pairwise_iff_getElem.1 hq.ok.asc
      rcases Nat.lt_trichotomy a b with hl | rfl | hl
      · have := hp a b hal hbl hl
        rw [Option.some.inj ha, Option.some.inj hb] at this; omega
      · rw [ha] at hb; rw [← hv, Option.some.inj hb]
      · have := hp b a hbl hal hl
        rw [Option.some.inj ha, Option.some.inj hb] at this; omega
    · rintro ⟨y, hy, hv⟩
      exact ⟨y, (mem_rest.1 hy).1, hv⟩
theorem lookB (M : List (Int × Bool)) (i : Int) : lookV false vB (vB false) (mget M i) = .bool ((mget M i).getD false) := by cases mget M i <;> rfl
theorem InM.off {M : List (Int × Bool)} (h : InM M []) (i : Int) : (mget M i).getD false = false := by
  have := (h i).1
  cases hm : mget M i with
  | none => rfl
  | some b =>
    cases b
    · rfl
    · obtain ⟨_, hx, _⟩ := this hm; cases hx
/-- What the map of times says. -/
def WhenM (M : List (Int × Int)) (R : List (It Int)) : Prop := ∀ i t, mget M i = some t ↔ ∃ x ∈ R, x.v = i ∧ x.tm = t
theorem WhenM.nil {M : List (Int × Int)} (h : WhenM M []) : M = [] := mget_eq_nil fun k => by
  cases hm : mget M k with
  | none => rfl
  | some t => obtain ⟨_, hx, _⟩ := (h k t).1 hm; cases hx
theorem WhenM.push {M : List (Int × Int)} {R : List (It Int)} (h : WhenM M R) (x : It Int) (hf : ∀ y ∈ R, y.v ≠ x.v) : WhenM (mput M x.v x.tm) (R ++ [x]) := fun i t => by
  rw [mget_put]
  split
  · rename_i he
    constructor
    · intro ht; exact ⟨x, by simp, he.symm, Option.some.inj ht⟩
    · rintro ⟨y, hy, hv, ht⟩
      rcases List.mem_append.1 hy with hy | hy
      · exact absurd (hv.trans he) (hf y hy)
      · rw [List.mem_singleton.1 hy] at ht; rw [ht]
  · rename_i he
    rw [h i t]
    constructor
    · rintro ⟨y, hy, hv⟩; exact ⟨y, by simp [hy], hv⟩
    · rintro ⟨y, hy, hv, ht⟩
      rcases List.mem_append.1 hy with hy | hy
      · exact ⟨y, hy, hv, ht⟩
      · rw [List.mem_singleton.1 hy] at hv; exact absurd hv.symm he
theorem QOk.same {age n : Int} {R : List (It Int)} (h : QOk age n R) {x y : It Int} (hx : x ∈ R) (hy : y ∈ R) (he : x.no = y.no) : x = y := by
  obtain ⟨a, ha⟩ := List.mem_iff_getElem?.1 hx
  obtain ⟨b, hb⟩ := List.mem_iff_getElem?.1 hy
  have hal := (List.getElem?_eq_some_iff.1 ha).1
  have hbl := (List.getElem?_eq_some_iff.1 hb).1
  rw [List.getElem?_eq_getElem hal] at ha
  rw [List.getElem?_eq_getElem hbl] at hb
  have hp := List.pairwise_iff_getElem.1 h.asc
  rcases Nat.lt_trichotomy a b with hl | rfl | hl
  · have := hp a b hal hbl hl
    rw [Option.some.inj ha, Option.some.inj hb] at this; omega
  · exact (Option.some.inj ha).symm.trans (Option.some.inj hb)
  · have := hp b a hbl hal hl
    rw [Option.some.inj ha, Option.some.inj hb] at this; omega
theorem WhenM.pop {age n : Int} {k : Nat} {M : List (Int × Int)} {R : List (It Int)} (h : WhenM M R) (hk : Keyed1 M) (hq : QO age n k R) {x : It Int} (hx : x ∈ R) : WhenM (mdel M x.v) (rest R x) := fun i t => by
  rw [mget_del hk]
  split
  · rename_i he
    constructor
    · intro h; cases h
    · rintro ⟨y, hy, hv, _⟩
      obtain ⟨h1, h2⟩ := mem_rest.1 hy
      exact absurd (hq.vs y h1 x hx (hv.trans he)) h2
  · rename_i he
    rw [h i t]
    constructor
    · rintro ⟨y, hy, hv, ht⟩
      exact ⟨y, mem_rest.2 ⟨hy, fun e => he (by rw [← hv, hq.ok.same hy hx e])⟩, hv, ht⟩
    · rintro ⟨y, hy, hv⟩
      exact ⟨y, (mem_rest.1 hy).1, hv⟩
theorem fair {age n : Int} {R : List (It Int)} (hq : QOk age n R) (h1 : 1 ≤ age) {x y : It Int} (hx : IsMin x R) (hy : y ∈ R) : x.tm ≤ y.tm + 9 * age ∧ x.turn ≤ y.turn := by
  have hm := hx.2 y hy
  obtain ⟨a1, a2, a3, a4, a5, a6⟩ := hq.all x hx.1
  obtain ⟨b1, b2, b3, b4, b5, b6⟩ := hq.all y hy
  rw [It.not_iff] at hm
  have m1 : 0 ≤ age * x.rank := Int.mul_nonneg (by omega) a1
  have m2 : age * y.rank ≤ age * 9 := Int.mul_le_mul_of_nonneg_left b2 (by omega)
  omega
end Go.Proofs.Ytblhphnnnihkmaa
