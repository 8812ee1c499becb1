/-
  The leases of a table, sorted.
-/
import Derived.Test.YtjcegolhokfkoaaWalkD
import Derived.Test.YtjcegolhokfkoaaEngKeys
namespace Go.Proofs.Ytjcegolhokfkoaa
open Go.Eng


/-- The leases, by rising key. -/
def Tb.srt (t : Tb) : List Ls := (srtK t.m).map (fun k => (mget t.m k).getD noL)
theorem Tb.srt_len (t : Tb) : t.srt.length = t.m.length := by rw [Tb.srt, List.length_map, srtK_len]
theorem Tb.srt_get {t : Tb} {i : Nat} {k : Str} (h : (srtK t.m)[i]? = some k) : t.srt[i]? = some ((mget t.m k).getD noL) := by simp [Tb.srt, h]
theorem look_get (m : List (Str × Ls)) (k : Str) : lookV false agL (agL noL) (mget m k) = agL ((mget m k).getD noL) := by cases mget m k <;> rfl
/-- Sizes that are asked of a table. -/
def Tb.fits (t : Tb) : Prop := t.m.length ≤ 1000 ∧ ∀ p ∈ t.m, p.1.length ≤ maxLen
end Go.Proofs.Ytjcegolhokfkoaa
