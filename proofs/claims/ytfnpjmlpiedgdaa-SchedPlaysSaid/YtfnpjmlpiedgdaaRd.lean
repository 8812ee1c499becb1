/-
  What came in, read as calls.
-/
import Derived.Test.YtfnpjmlpiedgdaaSK
import Derived.Test.YtfnpjmlpiedgdaaEngLift
namespace Go.Proofs.Ytfnpjmlpiedgdaa
open Go.Eng

theorem rdJ {W : World} : Rdr Try.prog W 30 encJ (fun j => j.key.length ≤ maxLen) :=
  (rd_struct Try.underlying30 (by kernel_rfl) (rdf_cons (sz := 1) rfl (by kernel_rfl) (rd_str Try.underlying9) (rdf_cons (sz := 1) rfl (by kernel_rfl) (rd_int Try.underlying3) (rdf_cons (sz := 1) rfl (by kernel_rfl) (rd_int Try.underlying3) rdf_nil)))).map
    (fun x => (⟨x.1, x.2.1, x.2.2.1⟩ : Jb)) (fun _ => rfl) (fun _ h => h.1)
theorem rdO {W : World} : Rdr Try.prog W 32 encO (fun x => x.job.key.length ≤ maxLen) :=
  (rd_struct Try.underlying32 (by kernel_rfl) (rdf_cons (sz := 1) rfl (by kernel_rfl) (rd_int Try.underlying3) (rdf_cons (sz := 3) rfl (by kernel_rfl) rdJ (rdf_cons (sz := 1) rfl (by kernel_rfl) (rd_str Try.underlying9) (rdf_cons (sz := 1) rfl (by kernel_rfl) (rd_int Try.underlying3) (rdf_cons (sz := 1) rfl (by kernel_rfl) (rd_int Try.underlying3) rdf_nil)))))).map
    (fun x => (⟨x.1, x.2.1, x.2.2.1, x.2.2.2.1, x.2.2.2.2.1⟩ : SOp)) (fun _ => rfl) (fun _ h => h.2.1)
theorem rdOs {W : World} : Rdr Try.prog W 22 encSl (goodSl W 7 encO (fun x => x.job.key.length ≤ maxLen)) := rd_slice Try.underlying22 (by kernel_rfl) (by decide) encO_len rdO
end Go.Proofs.Ytfnpjmlpiedgdaa
