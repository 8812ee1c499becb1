/-
  How what comes in reads.
-/
import Derived.Test.YtblhphnnnihkmaaTy
import Derived.Test.YtblhphnnnihkmaaEngLift
namespace Go.Proofs.Ytblhphnnnihkmaa
open Go.Eng
theorem rd46 {W : World} : Rdr Try.prog W 46 encSl (goodSl W 1 (fun n : Int => [.int .i64 n]) fits64) := rd_slice Try.underlying46 (by kernel_rfl) (by decide) (fun _ => rfl) (rd_int Try.underlying3)
end Go.Proofs.Ytblhphnnnihkmaa
