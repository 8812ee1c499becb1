/-
  The calls of law LinkPlays.
-/
import Derived.Test.YtodcciahagefnaaRd

namespace Go.Proofs.Ytodcciahagefnaa
open Go.Eng
structure OpL where
  take : Bool
  data : Str
  p : Pk
def encO (o : OpL) : List Value := [.bool o.take, vS o.data, vI o.p.seq, vI o.p.ack, vS o.p.data]
theorem encO_len (o : OpL) : (encO o).length = 5 := rfl
theorem rd34 {W : World} : Rdr Try.prog W 34 encO (fun o => goodP o.p) :=
  (rd_struct Try.underlying34 (by kernel_rfl) (rdf_cons (sz := 1) rfl (by kernel_rfl) (rd_bool Try.underlying4) (rdf_cons (sz := 1) rfl (by kernel_rfl) (rd_str Try.underlying9) (rdf_cons (sz := 3) rfl (by kernel_rfl) (rd32 (W := W)) rdf_nil)))).map
    (fun x => ⟨x.1, x.2.1, x.2.2.1⟩) (fun _ => rfl) (fun _ h => h.2.2.1)
theorem rd22 {W : World} : Rdr Try.prog W 22 encSl (goodSl W 5 encO fun o => goodP o.p) := rd_slice Try.underlying22 (by kernel_rfl) (by decide) encO_len rd34
end Go.Proofs.Ytodcciahagefnaa
