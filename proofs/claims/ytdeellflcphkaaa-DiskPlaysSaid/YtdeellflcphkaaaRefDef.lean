/-
  The reference's disk: its files by rising name.
-/
import Derived.Test.YtdeellflcphkaaaGood
namespace Go.Proofs.Ytdeellflcphkaaa
open Go.Eng


structure Gf where
  name : Str
  data : Str
  firm : Int
deriving DecidableEq
abbrev encG (x : Gf) : List Value := [vS x.name, vS x.data, vI x.firm]
abbrev agG (x : Gf) : Value := .agg (encG x).toArray
theorem encG_len (x : Gf) : (encG x).length = 3 := rfl
theorem encG_one (x : Gf) : ∀ v ∈ encG x, v.oneCell' = true := by simp [encG, Value.oneCell']
abbrev noG : Gf := ⟨[], [], 0⟩
structure Rk where
  l : List Gf
  limit : Int
  armed : Int
  dead : Bool
abbrev rkCells (r : Rk) (oc : Option Addr × Nat) : List Value := [.slice oc.1 r.l.length oc.2, vI r.limit, vI r.armed, vB r.dead]
abbrev rkAs (b : Nat) (r : Rk) (oc : Option Addr × Nat) : List Atom := [blk b (.cells (rkCells r oc).toArray 69 (0, 0)), slc 71 3 oc.1 r.l.length oc.2 (r.l.flatMap encG)]
def rkA (b : Nat) (r : Rk) : Atom := fun h => ∃ oc, Own (rkAs b r oc) h
theorem rk_open {w0 : World} {O : Nat → Prop} {b : Nat} {r : Rk} {As : List Atom} : ∀ w, Hp w0 O (rkA b r :: As) w → ∃ oc, Hp w0 O (rkAs b r oc ++ As) w := ex_open (f := rkAs b r)
theorem rk_shut {w0 : World} {O : Nat → Prop} {b : Nat} {r : Rk} {As : List Atom} {w : World} (oc : Option Addr × Nat) (h : Hp w0 O (rkAs b r oc ++ As) w) : Hp w0 O (rkA b r :: As) w := ex_shut (f := rkAs b r) oc h
def geN (key : Str) (x : Gf) : Bool := !Op.bytesLess x.name key
def Rk.at (r : Rk) (key : Str) : Nat := r.l.findIdx (geN key)
def Rk.has (r : Rk) (key : Str) : Bool := match r.l[r.at key]? with
  | some x => decide (x.name = key)
  | none => false
theorem at_hit {r : Rk} {key : Str} {i : Nat} {x : Gf} (hx : r.l[i]? = some x) (hp : geN key x = true) (hall : ∀ j z, j < i → r.l[j]? = some z → geN key z = false) : r.at key = i ∧ r.has key = decide (x.name = key) := by
  have e : r.at key = i := by
    unfold Rk.at
    obtain ⟨hl, hxe⟩ := List.getElem?_eq_some_iff.1 hx
    refine (List.findIdx_eq hl).2 ⟨by rw [hxe]; exact hp, fun j hj => ?_⟩
    have := hall j _ hj (List.getElem?_eq_getElem (by omega))
    rw [this]
  exact ⟨e, by rw [Rk.has, e, hx]⟩
theorem at_miss {r : Rk} {key : Str} {i : Nat} (hi : r.l.length ≤ i) (hall : ∀ j z, j < i → r.l[j]? = some z → geN key z = false) : r.at key = r.l.length ∧ r.has key = false := by
  have e : r.at key = r.l.length := by
    unfold Rk.at
    rw [List.findIdx_eq_length]
    intro x hx
    obtain ⟨j, hj⟩ := List.mem_iff_getElem?.1 hx
    exact hall j x (by have := (List.getElem?_eq_some_iff.1 hj).1; omega) hj
  exact ⟨e, by rw [Rk.has, e, List.getElem?_eq_none (Nat.le_refl _)]⟩
theorem at_le (r : Rk) (key : Str) : r.at key ≤ r.l.length := List.findIdx_le_length
theorem has_get {r : Rk} {key : Str} (h : r.has key = true) : ∃ x, r.l[r.at key]? = some x ∧ x.name = key := by
  unfold Rk.has at h
  split at h
  · rename_i x hx; exact ⟨x, hx, by simpa using h⟩
  · cases h
def Rk.wrong (r : Rk) (s : Str) : Int := if r.dead = true then 40 else if badN s = true then 1 else 0
theorem lenZ (s : Str) : (decide ((s.length : Int) < 1)) = decide (s = []) := by
  cases s with
  | nil => rfl
  | cons a l => simp; omega
def Rk.act (r : Rk) : Rk := if 0 < r.armed then { r with armed := r.armed - 1, dead := decide (r.armed - 1 = 0) } else r
def sizeL (l : List Gf) : Int := (l.map fun x => (x.data.length : Int)).sum
end Go.Proofs.Ytdeellflcphkaaa
