/-
  Leases, tables of them, and what a table's calls do.
-/
import Derived.Test.YtjcegolhokfkoaaTy
namespace Go.Proofs.Ytjcegolhokfkoaa
open Go.Eng


abbrev vI (n : Int) : Value := .int .i64 n
abbrev vS (l : Str) : Value := .string (bs l)
abbrev vB (b : Bool) : Value := .bool b
abbrev ptr (b : Nat) : Value := .pointer (some ⟨b, 0, none⟩)
def nameC (c : UInt8) : Bool := decide ((c.toNat : Int) = 45) || decide ((c.toNat : Int) = 95) || (decide ((48 : Int) ≤ c.toNat) && decide ((c.toNat : Int) ≤ 57)) || (decide ((97 : Int) ≤ c.toNat) && decide ((c.toNat : Int) ≤ 122))
def isName (s : Str) : Bool := !(decide (s = []) || decide ((16 : Int) < (s.length : Nat))) && s.all nameC
def nameE (s : Str) : Int := if isName s then 0 else 14
theorem badN1 (c : UInt8) : ((((!decide ((c.toNat : Int) = 45)) && (!decide ((c.toNat : Int) = 95))) && (decide ((c.toNat : Int) < 48) || decide ((57 : Int) < c.toNat))) && (decide ((c.toNat : Int) < 97) || decide ((122 : Int) < c.toNat))) = !nameC c := by
  rw [Bool.eq_iff_iff]; simp only [nameC, Bool.and_eq_true, Bool.or_eq_true, Bool.not_eq_true', Bool.or_eq_false_iff, Bool.and_eq_false_iff, decide_eq_true_eq, decide_eq_false_iff_not]; omega
theorem badN2 (c : UInt8) : (!((((decide ((97 : Int) ≤ c.toNat) && decide ((c.toNat : Int) ≤ 122)) || (decide ((48 : Int) ≤ c.toNat) && decide ((c.toNat : Int) ≤ 57))) || decide ((c.toNat : Int) = 45)) || decide ((c.toNat : Int) = 95))) = !nameC c := by
  rw [Bool.eq_iff_iff]; simp only [nameC, Bool.and_eq_true, Bool.or_eq_true, Bool.not_eq_true', Bool.or_eq_false_iff, Bool.and_eq_false_iff, decide_eq_true_eq, decide_eq_false_iff_not]; omega
theorem all_snoc {p : Str} {j : Nat} {ch : UInt8} (f : UInt8 → Bool) (h : p[j]? = some ch) : (p.take (j + 1)).all f = ((p.take j).all f && f ch) := by
  rw [List.take_add_one, h]; simp
theorem not_all {p : Str} {j : Nat} {ch : UInt8} {f : UInt8 → Bool} (h : p[j]? = some ch) (hf : f ch = false) : p.all f = false := by
  cases hp : p.all f
  · rfl
  · rw [List.all_eq_true] at hp; have := hp ch (List.mem_of_getElem? h); rw [hf] at this; cases this
theorem lenZ (s : Str) : (decide ((s.length : Int) < 1)) = decide (s = []) := by
  cases s with
  | nil => rfl
  | cons a l => simp; omega

theorem ex_open {α : Type} {f : α → List Atom} {w0 : World} {O : Nat → Prop} {As : List Atom} : ∀ w, Hp w0 O ((fun h => ∃ x, Own (f x) h) :: As) w → ∃ x, Hp w0 O (f x ++ As) w := fun w h => by
  obtain ⟨g, ⟨h1, h2, ⟨oc, ha⟩, ho, rfl⟩, hf⟩ := h
  exact ⟨oc, h1 ++ h2, own_append.2 ⟨h1, h2, ha, ho, rfl⟩, hf⟩
theorem ex_shut {α : Type} {f : α → List Atom} {w0 : World} {O : Nat → Prop} {As : List Atom} {w : World} (x : α) (h : Hp w0 O (f x ++ As) w) : Hp w0 O ((fun h => ∃ x, Own (f x) h) :: As) w := by
  obtain ⟨g, ho, hf⟩ := h
  obtain ⟨h1, h2, h1o, h2o, rfl⟩ := own_append.1 ho
  exact ⟨_, ⟨h1, h2, ⟨x, h1o⟩, h2o, rfl⟩, hf⟩

structure Jb where
  key : Str
  rank : Int
  since : Int
deriving DecidableEq
structure Ls where
  job : Jb
  worker : Str
  epoch : Int
  upto : Int
deriving DecidableEq
abbrev encJ (j : Jb) : List Value := [vS j.key, vI j.rank, vI j.since]
abbrev encL (x : Ls) : List Value := [vS x.job.key, vI x.job.rank, vI x.job.since, vS x.worker, vI x.epoch, vI x.upto]
abbrev agJ (j : Jb) : Value := .agg (encJ j).toArray
abbrev agL (x : Ls) : Value := .agg (encL x).toArray
theorem encJ_len (j : Jb) : (encJ j).length = 3 := rfl
theorem encL_len (x : Ls) : (encL x).length = 6 := rfl
abbrev noL : Ls := ⟨⟨[], 0, 0⟩, [], 0, 0⟩

/-- A table: its leases in the order in which the map bears them. -/
structure Tb where
  ttl : Int
  epoch : Int
  m : List (Str × Ls)
abbrev tbCells (t : Tb) (mb : Nat) : List Value := [vI t.ttl, vI t.epoch, .map (some mb)]
abbrev tbAs (b : Nat) (t : Tb) (mb : Nat) : List Atom := [blk b (.cells (tbCells t mb).toArray 56 (0, 0)), mapA vS agL mb t.m]
def tbA (b : Nat) (t : Tb) : Atom := fun h => ∃ mb, Own (tbAs b t mb) h
theorem tb_open {w0 : World} {O : Nat → Prop} {b : Nat} {t : Tb} {As : List Atom} : ∀ w, Hp w0 O (tbA b t :: As) w → ∃ mb, Hp w0 O (tbAs b t mb ++ As) w := ex_open (f := tbAs b t)
theorem tb_shut {w0 : World} {O : Nat → Prop} {b : Nat} {t : Tb} {As : List Atom} {w : World} (mb : Nat) (h : Hp w0 O (tbAs b t mb ++ As) w) : Hp w0 O (tbA b t :: As) w := ex_shut (f := tbAs b t) mb h

def timeB (n : Int) : Bool := decide (0 ≤ n) && decide (n ≤ 1000000000)
/-- Bounds that keep the sums small. -/
def Tb.ok (t : Tb) : Prop := 1 ≤ t.ttl ∧ t.ttl ≤ 1000000 ∧ 0 ≤ t.epoch ∧ t.epoch ≤ 1000000000
def Tb.find (t : Tb) (key : Str) (epoch : Int) : Ls × Int := match mget t.m key with
  | none => (noL, 17)
  | some x => if x.epoch = epoch then (x, 0) else (noL, 44)
def Tb.lease (t : Tb) (j : Jb) (w : Str) (now : Int) : Ls := ⟨j, w, t.epoch + 1, now + t.ttl⟩
def Tb.grant (t : Tb) (j : Jb) (w : Str) (now : Int) : Tb × Ls × Int :=
  if nameE w = 0 then
    if timeB now = true then match mget t.m j.key with
      | some _ => (t, noL, 16)
      | none => ({ t with epoch := t.epoch + 1, m := mput t.m j.key (t.lease j w now) }, t.lease j w now, 0)
    else (t, noL, 1)
  else (t, noL, nameE w)
def Tb.renew (t : Tb) (key : Str) (epoch now : Int) : Tb × Int :=
  if timeB now = true then
    if (t.find key epoch).2 = 0 then
      if (t.find key epoch).1.upto < now then (t, 44) else ({ t with m := mput t.m key { (t.find key epoch).1 with upto := now + t.ttl } }, 0)
    else (t, (t.find key epoch).2)
  else (t, 1)
def Tb.finish (t : Tb) (key : Str) (epoch : Int) : Tb × Int :=
  if (t.find key epoch).2 = 0 then ({ t with m := mdel t.m key }, 0) else (t, (t.find key epoch).2)
end Go.Proofs.Ytjcegolhokfkoaa
