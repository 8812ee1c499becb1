/-
  What the reference's Append does.
-/
import Derived.Test.YtdeellflcphkaaaWalkN
namespace Go.Proofs.Ytdeellflcphkaaa
open Go.Eng

def Rk.dat (r : Rk) (data : Str) : Str := if r.act.dead = true then data.take (data.length / 2) else data
def Rk.append (r : Rk) (s data : Str) : Rk × Int :=
  if r.wrong s = 0 then
    if r.limit < sizeL r.l + (data.length : Nat) then (r, 41)
    else (r.act.set ⟨s, (if r.has s = true then (r.get s).data else []) ++ r.dat data, if r.has s = true then (r.get s).firm else 0⟩, deadE r.act.dead)
  else (r, r.wrong s)
end Go.Proofs.Ytdeellflcphkaaa
