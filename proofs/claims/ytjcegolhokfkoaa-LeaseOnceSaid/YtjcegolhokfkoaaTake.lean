/-
  What is taken back of a table.
-/
import Derived.Test.YtjcegolhokfkoaaWalkE
namespace Go.Proofs.Ytjcegolhokfkoaa
open Go.Eng


def Tb.tk (t : Tb) (p : Ls → Bool) (i : Nat) : List Ls := (t.srt.take i).filter p
def delAll (m : List (Str × Ls)) (l : List Ls) : List (Str × Ls) := l.foldl (fun m x => mdel m x.job.key) m
def Tb.dl (t : Tb) (p : Ls → Bool) (i : Nat) : Tb := { t with m := delAll t.m (t.tk p i) }
/-- What is taken back, and what is left. -/
def Tb.take (t : Tb) (p : Ls → Bool) : Tb × List Jb := ({ t with m := delAll t.m (t.srt.filter p) }, (t.srt.filter p).map (·.job))
theorem tk_hit {t : Tb} {p : Ls → Bool} {i : Nat} {x : Ls} (hx : t.srt[i]? = some x) (hp : p x = true) : t.tk p (i + 1) = t.tk p i ++ [x] := by
  rw [Tb.tk, List.take_add_one, hx, List.filter_append]; simp [Tb.tk, hp]
theorem tk_miss {t : Tb} {p : Ls → Bool} {i : Nat} {x : Ls} (hx : t.srt[i]? = some x) (hp : p x = false) : t.tk p (i + 1) = t.tk p i := by
  rw [Tb.tk, List.take_add_one, hx, List.filter_append]; simp [Tb.tk, hp]
theorem delAll_snoc (m : List (Str × Ls)) (l : List Ls) (x : Ls) : delAll m (l ++ [x]) = mdel (delAll m l) x.job.key := by simp [delAll]
theorem tk_len (t : Tb) (p : Ls → Bool) (i : Nat) : (t.tk p i).length ≤ t.m.length := by
  have h1 := List.length_filter_le p (t.srt.take i)
  rw [List.length_take, Tb.srt_len] at h1
  rw [Tb.tk]; omega
theorem tk_all (t : Tb) (p : Ls → Bool) : t.tk p t.m.length = t.srt.filter p := by rw [Tb.tk, List.take_of_length_le (by rw [Tb.srt_len]; exact Nat.le_refl _)]
end Go.Proofs.Ytjcegolhokfkoaa
