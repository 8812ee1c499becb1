/-
  The layer's data and what its functions compute, in plain Lean; how they lie in memory.
-/
import Derived.Test.YtodcciahagefnaaTy

namespace Go.Proofs.Ytodcciahagefnaa
open Go.Eng

abbrev vI (n : Int) : Value := .int .i64 n
abbrev vS (l : Str) : Value := .string (bs l)
abbrev ptr (b : Nat) : Value := .pointer (some ⟨b, 0, none⟩)

structure Pk where
  seq : Int
  ack : Int
  data : Str
  deriving DecidableEq
def encP (p : Pk) : List Value := [vI p.seq, vI p.ack, vS p.data]
theorem encP_len (p : Pk) : (encP p).length = 3 := rfl
abbrev vP (p : Pk) : Value := .agg (encP p).toArray

/-- The program's end: its window, what is open, up to which number that is known to have come, and to which it has come. -/
structure LE where
  window : Nat
  opens : List Str
  known : Nat
  came : Nat
def LE.ok (s : LE) : Prop := s.window ≤ 1000 ∧ s.opens.length ≤ s.window ∧ s.known ≤ 1000000 ∧ s.came ≤ 1000000
def LE.send (s : LE) (d : Str) : LE × Int := if s.window ≤ s.opens.length then (s, 41) else ({ s with opens := s.opens ++ [d] }, 0)
def LE.pks (s : LE) : List Pk := s.opens.mapIdx fun i d => ⟨s.known + i + 1, s.came, d⟩
def LE.out (s : LE) : List Pk := if s.opens.length = 0 then [⟨0, s.came, []⟩] else s.pks
def LE.acked (s : LE) (ack : Int) : LE := if (s.known : Int) < ack ∧ ack - s.known ≤ s.opens.length then { s with opens := s.opens.drop (ack - s.known).toNat, known := ack.toNat } else s
def LE.took (s : LE) (p : Pk) : LE × Str × Bool := if p.seq = s.came + 1 then ({ s with came := s.came + 1 }, p.data, true) else (s, [], false)
def LE.take (s : LE) (p : Pk) : LE × Str × Bool := (s.acked p.ack).took p

def endCells (s : LE) (o : Option Addr) (cap : Nat) : List Value := [vI s.window, .slice o s.opens.length cap, vI s.known, vI s.came]
def endAs (b : Nat) (s : LE) (oc : Option Addr × Nat) : List Atom := [blk b (.cells (endCells s oc.1 oc.2).toArray 55 (0, 0)), slc 9 1 oc.1 s.opens.length oc.2 (s.opens.map vS)]
def endA (b : Nat) (s : LE) : Atom := fun h => ∃ oc, Own (endAs b s oc) h

theorem ex_open {α : Type} {f : α → List Atom} {w0 : World} {O : Nat → Prop} {As : List Atom} : ∀ w, Hp w0 O ((fun h => ∃ x, Own (f x) h) :: As) w → ∃ x, Hp w0 O (f x ++ As) w := fun w h => by
  obtain ⟨g, ⟨h1, h2, ⟨oc, ha⟩, ho, rfl⟩, hf⟩ := h
  exact ⟨oc, h1 ++ h2, own_append.2 ⟨h1, h2, ha, ho, rfl⟩, hf⟩
theorem ex_shut {α : Type} {f : α → List Atom} {w0 : World} {O : Nat → Prop} {As : List Atom} {w : World} (x : α) (h : Hp w0 O (f x ++ As) w) : Hp w0 O ((fun h => ∃ x, Own (f x) h) :: As) w := by
  obtain ⟨g, ho, hf⟩ := h
  obtain ⟨h1, h2, h1o, h2o, rfl⟩ := own_append.1 ho
  exact ⟨_, ⟨h1, h2, ⟨x, h1o⟩, h2o, rfl⟩, hf⟩

theorem end_open {w0 : World} {O : Nat → Prop} {b : Nat} {s : LE} {As : List Atom} : ∀ w, Hp w0 O (endA b s :: As) w → ∃ oc, Hp w0 O (endAs b s oc ++ As) w := ex_open (f := endAs b s)
theorem end_shut {w0 : World} {O : Nat → Prop} {b : Nat} {s : LE} {As : List Atom} {w : World} (oc : Option Addr × Nat) (h : Hp w0 O (endAs b s oc ++ As) w) : Hp w0 O (endA b s :: As) w := ex_shut (f := endAs b s) oc h

/-- The reference's end. -/
structure RE where
  window : Nat
  sent : List Str
  known : Nat
  came : Nat
def RE.ok (s : RE) : Prop := s.window ≤ 1000 ∧ s.known ≤ s.sent.length ∧ s.sent.length ≤ 1000000 ∧ s.came ≤ 1000000
def RE.send (s : RE) (d : Str) : RE × Int := if s.window ≤ s.sent.length - s.known then (s, 41) else ({ s with sent := s.sent ++ [d] }, 0)
def RE.pk (s : RE) (i : Nat) : Pk := ⟨i + 1, s.came, s.sent.getD i []⟩
/-- The packets of the numbers from known to k. -/
def RE.upto (s : RE) (k : Nat) : List Pk := (List.range' s.known (k - s.known)).map s.pk
def RE.out (s : RE) : List Pk := if s.sent.length = s.known then [⟨0, s.came, []⟩] else s.upto s.sent.length
def RE.acked (s : RE) (ack : Int) : RE := if ack ≤ s.sent.length then { s with known := max s.known ack.toNat } else s
def RE.took (s : RE) (p : Pk) : RE × Str × Bool := if p.seq = s.came + 1 then ({ s with came := s.came + 1 }, p.data, true) else (s, [], false)
def RE.take (s : RE) (p : Pk) : RE × Str × Bool := (s.acked p.ack).took p
def refCells (s : RE) (o : Option Addr) (cap : Nat) : List Value := [vI s.window, .slice o s.sent.length cap, vI s.known, vI s.came]
def refAs (b : Nat) (s : RE) (oc : Option Addr × Nat) : List Atom := [blk b (.cells (refCells s oc.1 oc.2).toArray 57 (0, 0)), slc 9 1 oc.1 s.sent.length oc.2 (s.sent.map vS)]
def refA (b : Nat) (s : RE) : Atom := fun h => ∃ oc, Own (refAs b s oc) h
theorem ref_open {w0 : World} {O : Nat → Prop} {b : Nat} {s : RE} {As : List Atom} : ∀ w, Hp w0 O (refA b s :: As) w → ∃ oc, Hp w0 O (refAs b s oc ++ As) w := ex_open (f := refAs b s)
theorem ref_shut {w0 : World} {O : Nat → Prop} {b : Nat} {s : RE} {As : List Atom} {w : World} (oc : Option Addr × Nat) (h : Hp w0 O (refAs b s oc ++ As) w) : Hp w0 O (refA b s :: As) w := ex_shut (f := refAs b s) oc h

/-- A slice of packets. -/
abbrev pksA (o : Option Addr) (cap : Nat) (l : List Pk) : Atom := slc 32 3 o l.length cap (l.flatMap encP)

theorem pks_get {s : LE} {k : Nat} {d : Str} (h : s.opens[k]? = some d) : s.pks[k]? = some ⟨s.known + k + 1, s.came, d⟩ := by simp [LE.pks, h]
theorem pks_length (s : LE) : s.pks.length = s.opens.length := by simp [LE.pks]
theorem upto_succ {s : RE} {k : Nat} (h : s.known ≤ k) : s.upto k ++ [s.pk k] = s.upto (k + 1) := by
  rw [RE.upto, RE.upto, show k + 1 - s.known = (k - s.known) + 1 by omega, List.range'_concat, List.map_append]
  simp [Nat.add_sub_cancel' h]
theorem upto_length (s : RE) (k : Nat) : (s.upto k).length = k - s.known := by simp [RE.upto]

theorem end_acked {w0 : World} {O : Nat → Prop} {b : Nat} {s : LE} {o : Option Addr} {cap i : Nat} {ack : Int} {X : Atom} {w : World} (h1 : (s.known : Int) < ack) (h2 : ack - s.known ≤ s.opens.length) (hi : i = (ack - s.known).toNat)
    (h : Hp w0 O [X, blk b (.cells [vI s.window, .slice (cutAt o i cap 1) (s.opens.length - i) (cap - i), vI ack, vI s.came].toArray 55 (0, 0)), slc 9 1 o s.opens.length cap (s.opens.map vS)] w) :
    Hp w0 O (X :: endAs b (s.acked ack) (cutAt o i cap 1, cap - i)) w := by
  have h3 := Hp.mono_at [X, _] h (fun g hg => slc_cut i hg (by omega))
  rw [LE.acked, if_pos ⟨h1, h2⟩, ← hi]
  simp only [endAs, endCells, List.length_drop, show ((ack.toNat : Nat) : Int) = ack by omega]
  simpa using h3

theorem E32 (p q : Pk) : EQ Try.prog 32 (encP p) (encP q) (decide (p = q)) := by
  refine eq_of (by kernel_rfl) rfl (ceq_struct (k := 1) Try.underlying32 (by kernel_rfl) (feq_one (by decide) NA3 rfl rfl (ceq_int Try.underlying3) (feq_one (by decide) NA3 rfl rfl (ceq_int Try.underlying3) (feq_one (by decide) NA9 rfl rfl (ceq_str Try.underlying9) feq_nil)))) ?_
  obtain ⟨a, b, c⟩ := p
  obtain ⟨a', b', c'⟩ := q
  by_cases h1 : a = a' <;> by_cases h2 : b = b' <;> by_cases h3 : c = c' <;> simp [h1, h2, h3]
end Go.Proofs.Ytodcciahagefnaa
