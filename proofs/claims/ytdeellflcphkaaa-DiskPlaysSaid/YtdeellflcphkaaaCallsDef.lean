/-
  What a disk's calls do.
-/
import Derived.Test.YtdeellflcphkaaaWalkC
namespace Go.Proofs.Ytdeellflcphkaaa
open Go.Eng


theorem act_m (d : Dk) : d.act.m = d.m := by unfold Dk.act; split <;> rfl
theorem act_size (d : Dk) : d.act.size = d.size := by unfold Dk.act; split <;> rfl
theorem act_limit (d : Dk) : d.act.limit = d.limit := by unfold Dk.act; split <;> rfl
theorem act_get (d : Dk) (s : Str) : d.act.get s = d.get s := by rw [Dk.get, act_m]; rfl
/-- Bounds that keep the sums small. -/
structure Dk.ok (d : Dk) : Prop where
  keyed : Keyed1 d.m
  a0 : 0 ≤ d.armed
  a1 : d.armed ≤ 9223372036854775807
  l0 : 1 ≤ d.limit
  l1 : d.limit ≤ 16777216
  s0 : 0 ≤ d.size
  s1 : d.size ≤ 16777216
  g : ∀ s, ((d.get s).data.length : Int) ≤ d.size
def Dk.dat (d : Dk) (data : Str) : Str := if d.act.dead = true then data.take (data.length / 2) else data
theorem dat_len (d : Dk) (data : Str) : (d.dat data).length ≤ data.length := by unfold Dk.dat; split; rw [List.length_take]; omega; exact Nat.le_refl _
def Dk.append (d : Dk) (s data : Str) : Dk × Int :=
  if wrongE d.dead [s] = 0 then
    if d.limit - d.size < (data.length : Nat) then (d, 41)
    else (d.act.lay s ⟨(d.get s).data ++ d.dat data, (d.get s).firm⟩, deadE d.act.dead)
  else (d, wrongE d.dead [s])
def Dk.sync (d : Dk) (s : Str) : Dk × Int :=
  if (d.find s).2 = 0 then
    if d.act.dead = true then (d.act, 40) else (d.act.lay s ⟨(d.find s).1.data, ((d.find s).1.data.length : Nat)⟩, 0)
  else (d, (d.find s).2)
def Dk.rename (d : Dk) (a c : Str) : Dk × Int :=
  if wrongE d.dead [a, c] = 0 then
    if a = c then (d, 1)
    else if (d.find a).2 = 0 then
      if d.act.dead = true then (d.act, 40) else ((d.act.take a).lay c (d.find a).1, 0)
    else (d, (d.find a).2)
  else (d, wrongE d.dead [a, c])
def Dk.remove (d : Dk) (s : Str) : Dk × Int :=
  if (d.find s).2 = 0 then
    if d.act.dead = true then (d.act, 40) else (d.act.take s, 0)
  else (d, (d.find s).2)
theorem deadE_zero {b : Bool} : deadE b = 0 ↔ b = false := by cases b <;> simp [deadE]
theorem find_len {d : Dk} (h : d.ok) (s : Str) : ((d.find s).1.data.length : Int) ≤ d.size := by
  unfold Dk.find
  split
  · have := h.g s
    unfold Dk.get at this
    split
    · rename_i f hf; rw [hf] at this; exact this
    · have := h.s0; simpa using this
  · have := h.s0; simpa using this
theorem del_get {d : Dk} (h : Keyed1 d.m) (a c : Str) : ((d.take a).get c).data.length ≤ (d.get c).data.length := by
  unfold Dk.get Dk.take
  simp only [mget_del h]
  split
  · simp
  · exact Nat.le_refl _
end Go.Proofs.Ytdeellflcphkaaa
