/-
  Files, disks of them, and what a disk's calls do.
-/
import Derived.Test.YtdeellflcphkaaaTy
namespace Go.Proofs.Ytdeellflcphkaaa
open Go.Eng


abbrev vI (n : Int) : Value := .int .i64 n
abbrev vS (l : Str) : Value := .string (bs l)
abbrev vB (b : Bool) : Value := .bool b
abbrev ptr (b : Nat) : Value := .pointer (some ⟨b, 0, none⟩)
theorem ex_open {α : Type} {f : α → List Atom} {w0 : World} {O : Nat → Prop} {As : List Atom} : ∀ w, Hp w0 O ((fun h => ∃ x, Own (f x) h) :: As) w → ∃ x, Hp w0 O (f x ++ As) w := fun w h => by
  obtain ⟨g, ⟨h1, h2, ⟨oc, ha⟩, ho, rfl⟩, hf⟩ := h
  exact ⟨oc, h1 ++ h2, own_append.2 ⟨h1, h2, ha, ho, rfl⟩, hf⟩
theorem ex_shut {α : Type} {f : α → List Atom} {w0 : World} {O : Nat → Prop} {As : List Atom} {w : World} (x : α) (h : Hp w0 O (f x ++ As) w) : Hp w0 O ((fun h => ∃ x, Own (f x) h) :: As) w := by
  obtain ⟨g, ho, hf⟩ := h
  obtain ⟨h1, h2, h1o, h2o, rfl⟩ := own_append.1 ho
  exact ⟨_, ⟨h1, h2, ⟨x, h1o⟩, h2o, rfl⟩, hf⟩
theorem take_same {α : Type} {l m : List α} {i : Nat} {x y : α} (h : l.take i = m.take i) (hx : l[i]? = some x) (hy : m[i]? = some y) (he : x = y) : l.take (i + 1) = m.take (i + 1) := by
  rw [List.take_add_one, List.take_add_one, h, hx, hy, he]
theorem step_of {α : Type} {p : α → Prop} {l : List α} {i : Nat} {x : α} (hall : ∀ j z, j < i → l[j]? = some z → p z) (hx : l[i]? = some x) (hp : p x) : ∀ j z, j < i + 1 → l[j]? = some z → p z := fun j z hj hz => by
  rcases Nat.lt_or_ge j i with h | h
  · exact hall j z h hz
  · obtain rfl : j = i := by omega
    rw [hx] at hz; cases hz; exact hp
theorem vS_len (l : List Str) : (l.map vS).length = l.length * 1 := by simp

structure Fi where
  data : Str
  firm : Int
deriving DecidableEq
abbrev encFi (f : Fi) : List Value := [vS f.data, vI f.firm]
abbrev agFi (f : Fi) : Value := .agg (encFi f).toArray
theorem encFi_len (f : Fi) : (encFi f).length = 2 := rfl
abbrev noF : Fi := ⟨[], 0⟩
/-- A disk: its files in the order in which the map bears them. -/
structure Dk where
  limit : Int
  m : List (Str × Fi)
  size : Int
  armed : Int
  dead : Bool
deriving DecidableEq
abbrev dkCells (d : Dk) (mb : Nat) : List Value := [vI d.limit, .map (some mb), vI d.size, vI d.armed, vB d.dead]
abbrev dkAs (b : Nat) (d : Dk) (mb : Nat) : List Atom := [blk b (.cells (dkCells d mb).toArray 54 (0, 0)), mapA vS agFi mb d.m]
def dkA (b : Nat) (d : Dk) : Atom := fun h => ∃ mb, Own (dkAs b d mb) h
theorem dk_open {w0 : World} {O : Nat → Prop} {b : Nat} {d : Dk} {As : List Atom} : ∀ w, Hp w0 O (dkA b d :: As) w → ∃ mb, Hp w0 O (dkAs b d mb ++ As) w := ex_open (f := dkAs b d)
theorem dk_shut {w0 : World} {O : Nat → Prop} {b : Nat} {d : Dk} {As : List Atom} {w : World} (mb : Nat) (h : Hp w0 O (dkAs b d mb ++ As) w) : Hp w0 O (dkA b d :: As) w := ex_shut (f := dkAs b d) mb h

def badN (s : Str) : Bool := decide (s = []) || decide ((32 : Int) < (s.length : Nat))
def wrongE (dead : Bool) (l : List Str) : Int := if dead = true then 40 else if l.any badN = true then 1 else 0
def Dk.get (d : Dk) (s : Str) : Fi := (mget d.m s).getD noF
def Dk.act (d : Dk) : Dk := if 0 < d.armed then { d with armed := d.armed - 1, dead := decide (d.armed - 1 = 0) } else d
def deadE (b : Bool) : Int := if b = true then 40 else 0
def Dk.lay (d : Dk) (s : Str) (f : Fi) : Dk := { d with size := d.size + ((f.data.length : Int) - ((d.get s).data.length : Int)), m := mput d.m s f }
def Dk.take (d : Dk) (s : Str) : Dk := { d with size := d.size - ((d.get s).data.length : Int), m := mdel d.m s }
def Dk.find (d : Dk) (s : Str) : Fi × Int := if wrongE d.dead [s] = 0 then match mget d.m s with
    | some f => (f, 0)
    | none => (noF, 17)
  else (noF, wrongE d.dead [s])
def ixF (p : Str → Bool) (l : List Str) : Int := if l.any p = true then (l.findIdx p : Nat) else -1
theorem ixF_hit {p : Str → Bool} {l : List Str} {i : Nat} {x : Str} (hx : l[i]? = some x) (hp : p x = true) (hall : ∀ j z, j < i → l[j]? = some z → p z = false) : ixF p l = i := by
  obtain ⟨hl, hxe⟩ := List.getElem?_eq_some_iff.1 hx
  have e : l.findIdx p = i := (List.findIdx_eq hl).2 ⟨by rw [hxe]; exact hp, fun j hj => hall j _ hj (List.getElem?_eq_getElem (by omega))⟩
  rw [ixF, if_pos (List.any_eq_true.2 ⟨x, List.mem_of_getElem? hx, hp⟩), e]
theorem ixF_miss {p : Str → Bool} {l : List Str} {i : Nat} (hi : l.length ≤ i) (hall : ∀ j z, j < i → l[j]? = some z → p z = false) : ixF p l = -1 := by
  rw [ixF, if_neg]
  intro h
  obtain ⟨x, hx, hp⟩ := List.any_eq_true.1 h
  obtain ⟨j, hj⟩ := List.mem_iff_getElem?.1 hx
  rw [hall j x (by have := (List.getElem?_eq_some_iff.1 hj).1; omega) hj] at hp; cases hp
theorem ixF_ge (p : Str → Bool) (l : List Str) : decide (0 ≤ ixF p l) = l.any p := by
  unfold ixF
  split
  · rename_i h; rw [h]; exact decide_eq_true (by omega)
  · rename_i h; rw [Bool.not_eq_true] at h; rw [h]; decide
end Go.Proofs.Ytdeellflcphkaaa
