/-
  The reference's table: its leases by rising key.
-/
import Derived.Test.YtjcegolhokfkoaaWalkG
namespace Go.Proofs.Ytjcegolhokfkoaa
open Go.Eng


theorem encL_one (x : Ls) : ∀ v ∈ encL x, v.oneCell' = true := by simp [encL, Value.oneCell']
theorem encJ_one (x : Jb) : ∀ v ∈ encJ x, v.oneCell' = true := by simp [encJ, Value.oneCell']
theorem E28 (x y : Jb) : EQ Try.prog 28 (encJ x) (encJ y) (decide (x = y)) :=
  eq_of (k := 2) (by kernel_rfl) rfl (ceq_struct Try.underlying28 (by kernel_rfl) (feq_one (by decide) NA9 rfl rfl (ceq_str Try.underlying9) (feq_one (by decide) NA3 rfl rfl (ceq_int Try.underlying3) (feq_one (by decide) NA3 rfl rfl (ceq_int Try.underlying3) feq_nil)))) (by
    obtain ⟨a, b, c⟩ := x
    obtain ⟨a', b', c'⟩ := y
    rw [Bool.eq_iff_iff]; simp)
theorem E30 (x y : Ls) : EQ Try.prog 30 (encL x) (encL y) (decide (x = y)) :=
  eq_of (k := 3) (by kernel_rfl) rfl (ceq_struct Try.underlying30 (by kernel_rfl) (feq_agg (lu := encJ x.job) (mv := encJ y.job) (by decide) AG28 rfl rfl (ceq_struct Try.underlying28 (by kernel_rfl) (feq_one (by decide) NA9 rfl rfl (ceq_str Try.underlying9) (feq_one (by decide) NA3 rfl rfl (ceq_int Try.underlying3) (feq_one (by decide) NA3 rfl rfl (ceq_int Try.underlying3) feq_nil))))
    (feq_one (by decide) NA9 rfl rfl (ceq_str Try.underlying9) (feq_one (by decide) NA3 rfl rfl (ceq_int Try.underlying3) (feq_one (by decide) NA3 rfl rfl (ceq_int Try.underlying3) feq_nil))))) (by
    obtain ⟨⟨a, b, c⟩, d, e, f⟩ := x
    obtain ⟨⟨a', b', c'⟩, d', e', f'⟩ := y
    rw [Bool.eq_iff_iff]; simp)
theorem take_same {α : Type} {l m : List α} {i : Nat} {x y : α} (h : l.take i = m.take i) (hx : l[i]? = some x) (hy : m[i]? = some y) (he : x = y) : l.take (i + 1) = m.take (i + 1) := by
  rw [List.take_add_one, List.take_add_one, h, hx, hy, he]
theorem step_of {α : Type} {p : α → Prop} {l : List α} {i : Nat} {x : α} (hall : ∀ j z, j < i → l[j]? = some z → p z) (hx : l[i]? = some x) (hp : p x) : ∀ j z, j < i + 1 → l[j]? = some z → p z := fun j z hj hz => by
  rcases Nat.lt_or_ge j i with h | h
  · exact hall j z h hz
  · obtain rfl : j = i := by omega
    rw [hx] at hz; cases hz; exact hp

structure Rt where
  l : List Ls
  ttl : Int
  epoch : Int
abbrev rtCells (r : Rt) (oc : Option Addr × Nat) : List Value := [.slice oc.1 r.l.length oc.2, vI r.ttl, vI r.epoch]
abbrev rtAs (b : Nat) (r : Rt) (oc : Option Addr × Nat) : List Atom := [blk b (.cells (rtCells r oc).toArray 50 (0, 0)), slc 30 6 oc.1 r.l.length oc.2 (r.l.flatMap encL)]
def rtA (b : Nat) (r : Rt) : Atom := fun h => ∃ oc, Own (rtAs b r oc) h
theorem rt_open {w0 : World} {O : Nat → Prop} {b : Nat} {r : Rt} {As : List Atom} : ∀ w, Hp w0 O (rtA b r :: As) w → ∃ oc, Hp w0 O (rtAs b r oc ++ As) w := ex_open (f := rtAs b r)
theorem rt_shut {w0 : World} {O : Nat → Prop} {b : Nat} {r : Rt} {As : List Atom} {w : World} (oc : Option Addr × Nat) (h : Hp w0 O (rtAs b r oc ++ As) w) : Hp w0 O (rtA b r :: As) w := ex_shut (f := rtAs b r) oc h
def Rt.ok (r : Rt) : Prop := 1 ≤ r.ttl ∧ r.ttl ≤ 1000000 ∧ 0 ≤ r.epoch ∧ r.epoch ≤ 1000000000 ∧ r.l.length ≤ 1000
/-- Is it not ahead of the key? -/
def geK (key : Str) (x : Ls) : Bool := !Op.bytesLess x.job.key key
def Rt.at (r : Rt) (key : Str) : Nat := r.l.findIdx (geK key)
def Rt.has (r : Rt) (key : Str) : Bool := match r.l[r.at key]? with
  | some x => decide (x.job.key = key)
  | none => false
theorem at_hit {r : Rt} {key : Str} {i : Nat} {x : Ls} (hx : r.l[i]? = some x) (hp : geK key x = true) (hall : ∀ j z, j < i → r.l[j]? = some z → geK key z = false) : r.at key = i ∧ r.has key = decide (x.job.key = key) := by
  have e : r.at key = i := by
    unfold Rt.at
    obtain ⟨hl, hxe⟩ := List.getElem?_eq_some_iff.1 hx
    refine (List.findIdx_eq hl).2 ⟨by rw [hxe]; exact hp, fun j hj => ?_⟩
    have := hall j _ hj (List.getElem?_eq_getElem (by omega))
    rw [this]
  exact ⟨e, by rw [Rt.has, e, hx]⟩
theorem at_miss {r : Rt} {key : Str} {i : Nat} (hi : r.l.length ≤ i) (hall : ∀ j z, j < i → r.l[j]? = some z → geK key z = false) : r.at key = r.l.length ∧ r.has key = false := by
  have e : r.at key = r.l.length := by
    unfold Rt.at
    rw [List.findIdx_eq_length]
    intro x hx
    obtain ⟨j, hj⟩ := List.mem_iff_getElem?.1 hx
    exact hall j x (by have := (List.getElem?_eq_some_iff.1 hj).1; omega) hj
  exact ⟨e, by rw [Rt.has, e, List.getElem?_eq_none (Nat.le_refl _)]⟩
theorem at_le (r : Rt) (key : Str) : r.at key ≤ r.l.length := List.findIdx_le_length
theorem has_get {r : Rt} {key : Str} (h : r.has key = true) : ∃ x, r.l[r.at key]? = some x ∧ x.job.key = key := by
  unfold Rt.has at h
  split at h
  · rename_i x hx; exact ⟨x, hx, by simpa using h⟩
  · cases h
def Rt.lease (r : Rt) (j : Jb) (w : Str) (now : Int) : Ls := ⟨j, w, r.epoch + 1, now + r.ttl⟩
def Rt.grant (r : Rt) (j : Jb) (w : Str) (now : Int) : Rt × Ls × Int :=
  if nameE w = 0 then
    if timeB now = true then
      if r.has j.key = true then (r, noL, 16)
      else ({ r with epoch := r.epoch + 1, l := r.l.take (r.at j.key) ++ [r.lease j w now] ++ r.l.drop (r.at j.key) }, r.lease j w now, 0)
    else (r, noL, 1)
  else (r, noL, 14)
def Rt.get (r : Rt) (key : Str) : Ls := (r.l[r.at key]?).getD noL
def Rt.renew (r : Rt) (key : Str) (epoch now : Int) : Rt × Int :=
  if timeB now = true then
    if r.has key = true then
      if (r.get key).epoch = epoch ∧ ¬ (r.get key).upto < now then ({ r with l := r.l.set (r.at key) { r.get key with upto := now + r.ttl } }, 0) else (r, 44)
    else (r, 17)
  else (r, 1)
def Rt.finish (r : Rt) (key : Str) (epoch : Int) : Rt × Int :=
  if r.has key = true then
    if (r.get key).epoch = epoch then ({ r with l := r.l.eraseIdx (r.at key) }, 0) else (r, 44)
  else (r, 17)
def Rt.take (r : Rt) (p : Ls → Bool) : Rt × List Jb := ({ r with l := r.l.filter (fun x => !p x) }, (r.l.filter p).map (·.job))
end Go.Proofs.Ytjcegolhokfkoaa
