/-
  The witness world of the tied cards, and the seat's closed facts.
-/
import Derived.Test.YtbnahfjhlbibcaaGreatDoorCards
import Derived.Test.YtbnahfjhlbibcaaGreatDoorTie
import Derived.Test.YtbnahfjhlbibcaaGreatDoorEngLift
import Derived.Test.YtbnahfjhlbibcaaGreatDoorLib
import Derived.Test.YtbnahfjhlbibcaaGreatDoorEngLaid
import Derived.WalkKit
import Derived.ProofKit
import Derived.OpenShut
import Derived.ShutString
import Derived.ChangeOld
import Derived.Below
import Derived.Deep.DeepHandedRow
import Derived.Lay
namespace Go.Proofs.YtbnahfjhlbibcaaGreatDoor
open Go.Eng
theorem own : ownKnob Tryz.prog.godebug = none := by kernel_rfl
theorem laidOut : laidOutB Tryz.prog = true := by kernel_rfl
/-- What every card of the seat lists. -/
abbrev laidL : List (String × DataW Unit) := [("math/bits.deBruijn32tab", Rows.laid_math_bits_deBruijn32tab), ("math/bits.deBruijn64tab", Rows.laid_math_bits_deBruijn64tab), ("internal/strconv.uint64pow10", Rows.laid_internal_strconv_uint64pow10), ("strconv.ErrRange", Rows.laid_strconv_ErrRange), ("strconv.ErrSyntax", Rows.laid_strconv_ErrSyntax)]
noncomputable def laidW (os : Os) : World := World.laidAll Tryz.prog os laidL
theorem laidW_fits (os : Os) : (World.holding Tryz.prog os ⟨#[], #[], []⟩).layFits Tryz.prog laidL [] = true := by kernel_rfl
theorem laidW_ifaces (os : Os) : (World.holding Tryz.prog os ⟨#[], #[], []⟩).layIfaces Tryz.prog laidL (World.laidAll Tryz.prog os laidL) = true := by kernel_rfl
theorem laidW_met (os : Os) (args : Array Value) : laidMet Tryz.prog laidL ((laidW os).forCall (fun _ _ => 0) ⟨#[], args, []⟩).memory := laidMet_laidAll _ (laidW_fits os) (laidW_ifaces os)
theorem laidW_shaped (os : Os) : (laidW os).Shaped Tryz.prog := World.shaped_of_ZipB (by kernel_rfl) (by kernel_rfl)
/-- What the row lists of the library's variables. -/
theorem lib_ok {W : World} (h : laidMetH Tryz.prog laidL W) : Ro W (fun _ => False) libS := by
  have h : laidMet Tryz.prog laidL W := h
  have ht := Lib.tabIs_of_head (P := Tryz.prog) (k := .u64) (zs := Lib.pow10Tab) (show Tryz.prog.globalNamed "internal/strconv.uint64pow10" = some 2 by kernel_rfl) (by kernel_rfl) Tryz.underlying160 Tryz.underlying136 (by kernel_rfl) (by kernel_rfl) (show laidMet Tryz.prog (("internal/strconv.uint64pow10", Lib.tabData .u64 Lib.pow10Tab) :: _) W from h.tail.tail)
  obtain ⟨v3, hr, hv3⟩ := laid_iface (P := Tryz.prog) h.tail.tail.tail (show Tryz.prog.globalNamed "strconv.ErrRange" = some 1 by kernel_rfl) (by kernel_rfl) Tryz.underlying94
  obtain ⟨v2, hs, hv2⟩ := laid_iface (P := Tryz.prog) h.tail.tail.tail.tail (show Tryz.prog.globalNamed "strconv.ErrSyntax" = some 0 by kernel_rfl) (by kernel_rfl) Tryz.underlying94
  exact lib_ro (show Tryz.prog.globalNamed "internal/strconv.uint64pow10" = some 2 by kernel_rfl) (by kernel_rfl) (by kernel_rfl) ht hs hv2 hr hv3
end Go.Proofs.YtbnahfjhlbibcaaGreatDoor
