/-
  How what comes in reads.
-/
import Derived.Test.YtodcciahagefnaaDef
import Derived.Test.YtodcciahagefnaaEngLift
namespace Go.Proofs.Ytodcciahagefnaa
open Go.Eng
def goodP (p : Pk) : Prop := fits64 p.seq ∧ fits64 p.ack
theorem rd32 {W : World} : Rdr Try.prog W 32 encP goodP :=
  (rd_struct Try.underlying32 (by kernel_rfl) (rdf_cons (sz := 1) rfl (by kernel_rfl) (rd_int Try.underlying3) (rdf_cons (sz := 1) rfl (by kernel_rfl) (rd_int Try.underlying3) (rdf_cons (sz := 1) rfl (by kernel_rfl) (rd_str Try.underlying9) rdf_nil)))).map
    (fun x => ⟨x.1, x.2.1, x.2.2.1⟩) (fun _ => rfl) (fun _ h => ⟨h.1, h.2.1⟩)
end Go.Proofs.Ytodcciahagefnaa
