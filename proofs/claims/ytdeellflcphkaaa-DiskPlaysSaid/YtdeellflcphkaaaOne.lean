/-
  Disks of one file.
-/
import Derived.Test.YtdeellflcphkaaaWalkG
namespace Go.Proofs.Ytdeellflcphkaaa
open Go.Eng


theorem names_none {d : Dk} (h : d.m = []) : d.names = [] := by simp [Dk.names, srtK, h]
theorem names_one {d : Dk} {k : Str} {f : Fi} (h : d.m = [(k, f)]) : d.names = [k] := by simp [Dk.names, srtK, h]
theorem good_new {n : Int} (h1 : 1 ≤ n) (h2 : n ≤ 16777216) : (⟨n, [], 0, 0, false⟩ : Dk).good := ⟨keyed1_nil, Int.le_refl _, by simp, h1, h2, rfl, by simp only; omega, by simp, by simp⟩
section
variable {b : Nat} {d d' : Dk} {e : Int}
theorem append_at {s data : Str} (hg : d.good) (h : d.append s data = (d', e)) : Ctr Try.prog 9 #[ptr b, vS s, vS data] [] [dkA b d] (fun _ : Unit => True) (fun _ => vI e) (fun _ => [dkA b d']) := by have := append_c b d s data hg.ok; rw [h] at this; exact this
theorem sync_at {s : Str} (hg : d.good) (h : d.sync s = (d', e)) : Ctr Try.prog 11 #[ptr b, vS s] [] [dkA b d] (fun _ : Unit => True) (fun _ => vI e) (fun _ => [dkA b d']) := by have := sync_c b d s hg.ok; rw [h] at this; exact this
theorem read_at {s : Str} {f : Fi} (h : d.find s = (f, e)) : Ctr Try.prog 15 #[ptr b, vS s] [] [dkA b d] (fun _ : Unit => True) (fun _ => .tuple #[vS f.data, vI e]) (fun _ => [dkA b d]) := by have := read_c b d s; rw [h] at this; exact this
theorem crash_at {ks : List Int} {ko : Option Addr} {kc : Nat} (hg : d.good) (hf : d.m.length ≤ 1000) (hk : ks.length ≤ kc) (h : d.crash ks = d') : Ctr Try.prog 12 #[ptr b, .slice ko ks.length kc] [rsl ko ks.length 1 (ks.map vI)] [dkA b d] (fun _ : Unit => True) (fun _ => .tuple #[]) (fun _ => [dkA b d']) := by have := crash_c b d hg hf ks ko kc hk; rw [h] at this; exact this
end
/-- The example's disk: its file's bytes, how many of them are firm, and what is to come. -/
abbrev xD (data : Str) (firm armed : Int) (dead : Bool) : Dk := ⟨10, [([97], ⟨data, firm⟩)], data.length, armed, dead⟩
theorem xg0 : (⟨10, [], 0, 0, false⟩ : Dk).good := good_new (by omega) (by omega)
theorem x1 : (⟨10, [], 0, 0, false⟩ : Dk).append [97] [97, 98, 99] = (xD [97, 98, 99] 0 0 false, 0) := by decide +kernel
theorem xg1 : (xD [97, 98, 99] 0 0 false).good := by have := good_append xg0 [97] [97, 98, 99]; rw [x1] at this; exact this
theorem x2 : (xD [97, 98, 99] 0 0 false).sync [97] = (xD [97, 98, 99] 3 0 false, 0) := by decide +kernel
theorem xg2 : (xD [97, 98, 99] 3 0 false).good := by have := good_sync xg1 [97]; rw [x2] at this; exact this
theorem x3 : (xD [97, 98, 99] 3 0 false).append [97] [100, 101, 102] = (xD [97, 98, 99, 100, 101, 102] 3 0 false, 0) := by decide +kernel
theorem xg3 : (xD [97, 98, 99, 100, 101, 102] 3 0 false).good := by have := good_append xg2 [97] [100, 101, 102]; rw [x3] at this; exact this
theorem x4 : (xD [97, 98, 99, 100, 101, 102] 3 0 false).crash [2] = xD [97, 98, 99, 100, 101] 5 0 false := by rw [Dk.crash, names_one rfl]; decide +kernel
theorem xg5 : (xD [97, 98, 99, 100, 101] 5 (max 1 0) false).good := ⟨by simp [Keyed1], by decide, by decide, by decide, by decide, by decide, by decide, by simp [Fi.fine], by simp [badN]⟩
theorem x6 : (xD [97, 98, 99, 100, 101] 5 (max 1 0) false).append [97] [49, 50, 51, 52] = (xD [97, 98, 99, 100, 101, 49, 50] 5 0 true, 40) := by decide +kernel
theorem xg6 : (xD [97, 98, 99, 100, 101, 49, 50] 5 0 true).good := by have := good_append xg5 [97] [49, 50, 51, 52]; rw [x6] at this; exact this
theorem x7 : (xD [97, 98, 99, 100, 101, 49, 50] 5 0 true).crash [9] = xD [97, 98, 99, 100, 101] 5 0 false := by rw [Dk.crash, names_one rfl]; decide +kernel
theorem x8 : (xD [97, 98, 99, 100, 101] 5 0 false).find [97] = (⟨[97, 98, 99, 100, 101], 5⟩, 0) := by decide +kernel
end Go.Proofs.Ytdeellflcphkaaa
