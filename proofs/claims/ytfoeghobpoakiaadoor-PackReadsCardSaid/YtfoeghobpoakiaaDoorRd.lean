/-
  What came in, read as texts and as numbers.
-/
import Derived.Test.YtfoeghobpoakiaaDoorDoor
namespace Go.Proofs.YtfoeghobpoakiaaDoor
open Go.Eng
theorem rd27 {W : World} : Rdr Tryd.prog W 27 encSl (goodSl W 1 (fun s : Str => [vS s]) (fun l => l.length ≤ maxLen)) := rd_slice Tryd.underlying27 (by kernel_rfl) (by decide) (fun _ => rfl) (rd_str Tryd.underlying9)
theorem rd38 {W : World} : Rdr Tryd.prog W 38 encSl (goodSl W 1 (fun n : Int => [vI n]) fits64) := rd_slice Tryd.underlying38 (by kernel_rfl) (by decide) (fun _ => rfl) (rd_int Tryd.underlying3)
end Go.Proofs.YtfoeghobpoakiaaDoor
