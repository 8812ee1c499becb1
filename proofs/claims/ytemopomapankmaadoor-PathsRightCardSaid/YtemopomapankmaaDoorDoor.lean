/-
  The witness world of the tied cards, and the seat's closed facts.
-/
import Derived.Test.YtemopomapankmaaDoorCards
import Derived.Test.YtemopomapankmaaDoorTie
import Derived.Test.YtemopomapankmaaDoorEngLift
import Derived.Test.YtemopomapankmaaDoorFDef
import Derived.WalkKit
import Derived.ProofKit
import Derived.OpenShut
import Derived.ShutString
import Derived.ChangeOld
import Derived.Below
import Derived.Deep.DeepHandedRow
import Derived.Lay
namespace Go.Proofs.YtemopomapankmaaDoor
open Go.Eng
theorem own : ownKnob Tryd.prog.godebug = none := by kernel_rfl
theorem laidOut : laidOutB Tryd.prog = true := by kernel_rfl
/-- What every card of the seat lists. -/
abbrev laidL : List (String × DataW Unit) := [("unicode/utf8.acceptRanges", Rows.laid_unicode_utf8_acceptRanges), ("unicode/utf8.first", Rows.laid_unicode_utf8_first)]
noncomputable def laidW (os : Os) : World := World.laidAll Tryd.prog os laidL
theorem laidW_fits (os : Os) : (World.holding Tryd.prog os ⟨#[], #[], []⟩).layFits Tryd.prog laidL [] = true := by kernel_rfl
theorem laidW_ifaces (os : Os) : (World.holding Tryd.prog os ⟨#[], #[], []⟩).layIfaces Tryd.prog laidL (World.laidAll Tryd.prog os laidL) = true := by kernel_rfl
theorem laidW_met (os : Os) (args : Array Value) : laidMet Tryd.prog laidL ((laidW os).forCall (fun _ _ => 0) ⟨#[], args, []⟩).memory := laidMet_laidAll _ (laidW_fits os) (laidW_ifaces os)
theorem laidW_shaped (os : Os) : (laidW os).Shaped Tryd.prog := World.shaped_of_ZipB (by kernel_rfl) (by kernel_rfl)
end Go.Proofs.YtemopomapankmaaDoor
