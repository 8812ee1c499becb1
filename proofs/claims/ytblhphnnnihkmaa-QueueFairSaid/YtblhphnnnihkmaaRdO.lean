/-
  How what comes in reads: calls.
-/
import Derived.Test.YtblhphnnnihkmaaRefAbs
import Derived.Test.YtblhphnnnihkmaaEngLift
namespace Go.Proofs.Ytblhphnnnihkmaa
open Go.Eng
def goodOp (x : Bool × Int × Int) : Prop := fits64 x.2.1 ∧ fits64 x.2.2
theorem rd32 {W : World} : Rdr Try.prog W 32 encOp goodOp :=
  (rd_struct Try.underlying32 (by kernel_rfl) (rdf_cons (sz := 1) rfl (by kernel_rfl) (rd_bool Try.underlying4) (rdf_cons (sz := 1) rfl (by kernel_rfl) (rd_int Try.underlying3) (rdf_cons (sz := 1) rfl (by kernel_rfl) (rd_int Try.underlying3) rdf_nil)))).map
    (fun x => (x.1, x.2.1, x.2.2.1)) (fun _ => rfl) (fun _ h => ⟨h.2.1, h.2.2.1⟩)
theorem rd22 {W : World} : Rdr Try.prog W 22 encSl (goodSl W 3 encOp goodOp) := rd_slice Try.underlying22 (by kernel_rfl) (by decide) encOp_len rd32
end Go.Proofs.Ytblhphnnnihkmaa
