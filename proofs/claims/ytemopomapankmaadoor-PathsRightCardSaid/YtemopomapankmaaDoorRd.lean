/-
  What came in, read as files.
-/
import Derived.Test.YtemopomapankmaaDoorDoor
namespace Go.Proofs.YtemopomapankmaaDoor
open Go.Eng
theorem rd24 {W : World} : Rdr Tryd.prog W 24 encF (fun _ => True) :=
  (rd_struct Tryd.underlying24 (by kernel_rfl) (rdf_cons (sz := 1) rfl (by kernel_rfl) (rd_str Tryd.underlying9) (rdf_cons (sz := 1) rfl (by kernel_rfl) (rd_str Tryd.underlying9) rdf_nil))).map
    (fun x => ((x.1, x.2.1) : Fl)) (fun _ => rfl) (fun _ _ => trivial)
theorem rd22 {W : World} : Rdr Tryd.prog W 22 encSl (goodSl W 2 encF (fun _ => True)) := rd_slice Tryd.underlying22 (by kernel_rfl) (by decide) encF_len rd24
end Go.Proofs.YtemopomapankmaaDoor
