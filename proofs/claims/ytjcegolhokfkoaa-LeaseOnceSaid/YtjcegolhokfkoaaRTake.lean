/-
  What the reference takes back.
-/
import Derived.Test.YtjcegolhokfkoaaWalkL
namespace Go.Proofs.Ytjcegolhokfkoaa
open Go.Eng


theorem fil_hit {l : List Ls} {p : Ls → Bool} {i : Nat} {x : Ls} (hx : l[i]? = some x) (hp : p x = true) : (l.take (i + 1)).filter p = (l.take i).filter p ++ [x] := by
  rw [List.take_add_one, hx, List.filter_append]; simp [hp]
theorem fil_miss {l : List Ls} {p : Ls → Bool} {i : Nat} {x : Ls} (hx : l[i]? = some x) (hp : p x = false) : (l.take (i + 1)).filter p = (l.take i).filter p := by
  rw [List.take_add_one, hx, List.filter_append]; simp [hp]
theorem fil_len (l : List Ls) (p : Ls → Bool) (i : Nat) : ((l.take i).filter p).length ≤ l.length := by
  have h1 := List.length_filter_le p (l.take i)
  rw [List.length_take] at h1
  omega
def rp (now : Int) (wk : Str) (x : Ls) : Bool := (decide (wk = []) && decide (x.upto < now)) || ((!decide (wk = [])) && decide (x.worker = wk))
end Go.Proofs.Ytjcegolhokfkoaa
