/-
  What came in, read as calls.
-/
import Derived.Test.YtjcegolhokfkoaaPlaysDef
import Derived.Test.YtjcegolhokfkoaaEngLift
namespace Go.Proofs.Ytjcegolhokfkoaa
open Go.Eng

theorem rd28 {W : World} : Rdr Try.prog W 28 encJ (fun j => j.key.length ≤ maxLen) :=
  (rd_struct Try.underlying28 (by kernel_rfl) (rdf_cons (sz := 1) rfl (by kernel_rfl) (rd_str Try.underlying9) (rdf_cons (sz := 1) rfl (by kernel_rfl) (rd_int Try.underlying3) (rdf_cons (sz := 1) rfl (by kernel_rfl) (rd_int Try.underlying3) rdf_nil)))).map
    (fun x => (⟨x.1, x.2.1, x.2.2.1⟩ : Jb)) (fun _ => rfl) (fun _ h => h.1)
theorem rd44 {W : World} : Rdr Try.prog W 44 encO (fun x => x.job.key.length ≤ maxLen) :=
  (rd_struct Try.underlying44 (by kernel_rfl) (rdf_cons (sz := 1) rfl (by kernel_rfl) (rd_int Try.underlying3) (rdf_cons (sz := 3) rfl (by kernel_rfl) rd28 (rdf_cons (sz := 1) rfl (by kernel_rfl) (rd_str Try.underlying9) (rdf_cons (sz := 1) rfl (by kernel_rfl) (rd_int Try.underlying3) (rdf_cons (sz := 1) rfl (by kernel_rfl) (rd_int Try.underlying3) rdf_nil)))))).map
    (fun x => (⟨x.1, x.2.1, x.2.2.1, x.2.2.2.1, x.2.2.2.2.1⟩ : Op)) (fun _ => rfl) (fun _ h => h.2.1)
theorem rd39 {W : World} : Rdr Try.prog W 39 encSl (goodSl W 7 encO (fun x => x.job.key.length ≤ maxLen)) := rd_slice Try.underlying39 (by kernel_rfl) (by decide) encO_len rd44
end Go.Proofs.Ytjcegolhokfkoaa
