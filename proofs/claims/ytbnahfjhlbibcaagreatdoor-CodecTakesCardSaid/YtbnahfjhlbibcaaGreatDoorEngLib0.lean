/-
  What a walk says of the library: its tables.
-/
import Derived.Test.YtbnahfjhlbibcaaGreatDoorEngConv
import Derived.Lib.ItoaNum
namespace Go.Eng
open Go.RowKit (Below)
open Go.Lib (pow10Tab)

theorem below_hp {w w' : World} {K : Nat → Prop} (h : Below w.heap.size w w') : Hp w K [] w' :=
  ⟨[], rfl, ⟨by simp, by simp, by simp, h.size, fun b hb _ => h.block b hb, h.os, h.tape, h.output⟩⟩
/-! ### The library's tables -/

/-- The powers of ten, and the two errors of reading a number, at the blocks where they lie. -/
def libA (g1 g2 g3 : Nat) : Atom := fun h => ∃ t1 f1 c2 t2 f2 e2 c3 t3 f3 e3,
  h = [(g1, .cells (pow10Tab.map fun z => Value.int .u64 z).toArray t1 f1), (g2, .cells c2 t2 f2), (g3, .cells c3 t3 f3)] ∧
  c2[0]? = some e2 ∧ (e2 = .nilIface ∨ ∃ te pe, e2 = .iface te pe) ∧ c3[0]? = some e3 ∧ (e3 = .nilIface ∨ ∃ te pe, e3 = .iface te pe)

end Go.Eng
