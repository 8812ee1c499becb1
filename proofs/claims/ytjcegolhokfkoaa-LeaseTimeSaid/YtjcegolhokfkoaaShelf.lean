/-
  The library's sorted keys at this program: instances of the shelf's contracts, written out by program.
-/
import Derived.Test.YtjcegolhokfkoaaWalkB
import Derived.Test.YtjcegolhokfkoaaEngKeys
import Derived.KernelRfl
namespace Go.Proofs.Ytjcegolhokfkoaa
open Go.Eng

open Go.Proofs Go.RowKit Go.Maps Go.Sort Go.Shelf
def keys29_ren : Go.Shelf.Ren := ⟨fun | 7 => 29 | 10 => 37 | n => n, fun | 23 => 54 | 26 => 9 | 3 => 30 | 28 => 66 | 0 => 0 | 27 => 65 | 33 => 72 | 4 => 4 | n => n, fun | n => n⟩
theorem keys29 : Go.Proofs.SlLaysZ.n7 Try.prog keys29_ren where
  mixed := by kernel_rfl
  f7 := ⟨Try.f29.name, by decide, Try.func29.trans (congrArg some (by kernel_rfl))⟩
  f10 := ⟨Try.f37.name, by decide, Try.func37.trans (congrArg some (by kernel_rfl))⟩
  t0 := Try.underlying0
  a0 := Try.isAgg0
  z0 := Try.sizeOf0
  v0 := Try.zeroValue0
  t4 := Try.underlying4
  a4 := Try.isAgg4
  z4 := Try.sizeOf4
  v4 := Try.zeroValue4
  t23 := Try.underlying54
  a23 := Try.isAgg54
  z23 := Try.sizeOf54
  v23 := Try.zeroValue54
  t26 := Try.underlying9
  a26 := Try.isAgg9
  z26 := Try.sizeOf9
  v26 := Try.zeroValue9
  t27 := Try.underlying65
  a27 := Try.isAgg65
  z27 := Try.sizeOf65
  v27 := Try.zeroValue65
  t28 := Try.underlying66
  a28 := Try.isAgg66
  z28 := Try.sizeOf66
  v28 := Try.zeroValue66
  t33 := Try.underlying72
  a33 := Try.isAgg72
  z33 := Try.sizeOf72
  v33 := Try.zeroValue72

def sorted28_ren : Go.Shelf.Ren := ⟨fun | 6 => 28 | 8 => 35 | 9 => 36 | 11 => 38 | 13 => 40 | 12 => 39 | 23 => 50 | 24 => 51 | 14 => 41 | 15 => 42 | 16 => 43 | 17 => 44 | 18 => 45 | 19 => 46 | 20 => 47 | 21 => 48 | 22 => 49 | 25 => 52 | 26 => 53 | 27 => 54 | 28 => 55 | 29 => 56 | 30 => 57 | 31 => 58 | n => n, fun | 26 => 9 | 28 => 66 | 24 => 63 | 0 => 0 | 3 => 3 | 37 => 76 | 48 => 86 | 50 => 88 | 4 => 4 | 40 => 79 | 39 => 78 | 45 => 68 | 5 => 5 | 9 => 9 | 51 => 89 | 55 => 93 | 57 => 95 | 58 => 96 | 33 => 72 | n => n, fun | n => n⟩
theorem sorted28 : Go.Proofs.SlLaysZ.n6 Try.prog sorted28_ren where
  mixed := by kernel_rfl
  f6 := ⟨Try.f28.name, by decide, Try.func28.trans (congrArg some (by kernel_rfl))⟩
  f8 := ⟨Try.f35.name, by decide, Try.func35.trans (congrArg some (by kernel_rfl))⟩
  f11 := ⟨Try.f38.name, by decide, Try.func38.trans (congrArg some (by kernel_rfl))⟩
  t0 := Try.underlying0
  a0 := Try.isAgg0
  z0 := Try.sizeOf0
  v0 := Try.zeroValue0
  t24 := Try.underlying63
  a24 := Try.isAgg63
  z24 := Try.sizeOf63
  v24 := Try.zeroValue63
  t26 := Try.underlying9
  a26 := Try.isAgg9
  z26 := Try.sizeOf9
  v26 := Try.zeroValue9
  t28 := Try.underlying66
  a28 := Try.isAgg66
  z28 := Try.sizeOf66
  v28 := Try.zeroValue66
  i26 := by kernel_rfl

def sort36_ren : Go.Shelf.Ren := ⟨fun | 6 => 36 | 8 => 40 | 9 => 39 | 19 => 50 | 20 => 51 | 21 => 41 | 22 => 42 | 23 => 43 | 24 => 44 | 25 => 45 | 26 => 46 | 27 => 47 | 28 => 48 | 29 => 49 | 36 => 52 | 31 => 53 | 32 => 54 | 37 => 55 | 38 => 56 | 39 => 57 | 41 => 58 | n => n, fun | 27 => 63 | 29 => 9 | 3 => 3 | 32 => 76 | 26 => 63 | 0 => 0 | 44 => 86 | 46 => 88 | 4 => 4 | 36 => 79 | 35 => 78 | 41 => 68 | 5 => 5 | 9 => 9 | 53 => 89 | 57 => 93 | 63 => 95 | 64 => 96 | n => n, fun | n => n⟩
theorem sort36 : Go.Proofs.SlLaysM.n6 Try.prog sort36_ren where
  mixed := by kernel_rfl
  f6 := ⟨Try.f36.name, by decide, Try.func36.trans (congrArg some (by kernel_rfl))⟩
  f8 := Try.func40.trans (congrArg some (by kernel_rfl))
  f9 := ⟨Try.f39.name, by decide, Try.func39.trans (congrArg some (by kernel_rfl))⟩
  f19 := Try.func50.trans (congrArg some (by kernel_rfl))
  f20 := Try.func51.trans (congrArg some (by kernel_rfl))
  f21 := ⟨Try.f41.name, by decide, Try.func41.trans (congrArg some (by kernel_rfl))⟩
  f22 := ⟨Try.f42.name, by decide, Try.func42.trans (congrArg some (by kernel_rfl))⟩
  f23 := ⟨Try.f43.name, by decide, Try.func43.trans (congrArg some (by kernel_rfl))⟩
  f24 := ⟨Try.f44.name, by decide, Try.func44.trans (congrArg some (by kernel_rfl))⟩
  f25 := ⟨Try.f45.name, by decide, Try.func45.trans (congrArg some (by kernel_rfl))⟩
  f26 := ⟨Try.f46.name, by decide, Try.func46.trans (congrArg some (by kernel_rfl))⟩
  f27 := ⟨Try.f47.name, by decide, Try.func47.trans (congrArg some (by kernel_rfl))⟩
  f28 := ⟨Try.f48.name, by decide, Try.func48.trans (congrArg some (by kernel_rfl))⟩
  f29 := ⟨Try.f49.name, by decide, Try.func49.trans (congrArg some (by kernel_rfl))⟩
  f31 := Try.func53.trans (congrArg some (by kernel_rfl))
  f32 := Try.func54.trans (congrArg some (by kernel_rfl))
  f36 := ⟨Try.f52.name, by decide, Try.func52.trans (congrArg some (by kernel_rfl))⟩
  f37 := ⟨Try.f55.name, by decide, Try.func55.trans (congrArg some (by kernel_rfl))⟩
  f38 := ⟨Try.f56.name, by decide, Try.func56.trans (congrArg some (by kernel_rfl))⟩
  f39 := ⟨Try.f57.name, by decide, Try.func57.trans (congrArg some (by kernel_rfl))⟩
  f41 := ⟨Try.f58.name, by decide, Try.func58.trans (congrArg some (by kernel_rfl))⟩
  t0 := Try.underlying0
  a0 := Try.isAgg0
  z0 := Try.sizeOf0
  v0 := Try.zeroValue0
  t3 := Try.underlying3
  a3 := Try.isAgg3
  z3 := Try.sizeOf3
  v3 := Try.zeroValue3
  t4 := Try.underlying4
  a4 := Try.isAgg4
  z4 := Try.sizeOf4
  v4 := Try.zeroValue4
  t5 := Try.underlying5
  a5 := Try.isAgg5
  z5 := Try.sizeOf5
  v5 := Try.zeroValue5
  t9 := Try.underlying9
  a9 := Try.isAgg9
  z9 := Try.sizeOf9
  v9 := Try.zeroValue9
  t26 := Try.underlying63
  a26 := Try.isAgg63
  z26 := Try.sizeOf63
  v26 := Try.zeroValue63
  t27 := Try.underlying63
  a27 := Try.isAgg63
  z27 := Try.sizeOf63
  v27 := Try.zeroValue63
  t29 := Try.underlying9
  a29 := Try.isAgg9
  z29 := Try.sizeOf9
  v29 := Try.zeroValue9
  t32 := Try.underlying76
  a32 := Try.isAgg76
  z32 := Try.sizeOf76
  v32 := Try.zeroValue76
  t35 := Try.underlying78
  a35 := Try.isAgg78
  z35 := Try.sizeOf78
  v35 := Try.zeroValue78
  t36 := Try.underlying79
  a36 := Try.isAgg79
  z36 := Try.sizeOf79
  v36 := Try.zeroValue79
  t41 := Try.underlying68
  a41 := Try.isAgg68
  z41 := Try.sizeOf68
  v41 := Try.zeroValue68
  t44 := Try.underlying86
  a44 := Try.isAgg86
  z44 := Try.sizeOf86
  v44 := Try.zeroValue86
  t46 := Try.underlying88
  a46 := Try.isAgg88
  z46 := Try.sizeOf88
  v46 := Try.zeroValue88
  t53 := Try.underlying89
  a53 := Try.isAgg89
  z53 := Try.sizeOf89
  v53 := Try.zeroValue89
  t57 := Try.underlying93
  a57 := Try.isAgg93
  z57 := Try.sizeOf93
  v57 := Try.zeroValue93
  t63 := Try.underlying95
  a63 := Try.isAgg95
  z63 := Try.sizeOf95
  v63 := Try.zeroValue95
  t64 := Try.underlying96
  a64 := Try.isAgg96
  z64 := Try.sizeOf96
  v64 := Try.zeroValue96

theorem sorts28 (m : Nat) : AnyZ.SortsIn Try.prog sorted28_ren Fence.wide m :=
  ⟨fun blk off cap ss W hH hblk hsz => callsIn_wide.2 (AnyM.slices_Sort_string sort36 blk off cap ss W hH hblk hsz),
   fun p cap W => callsIn_wide.2 (AnyM.slices_Sort_string_none sort36 p cap W)⟩
theorem keys_c (mb : Nat) : Ctr Try.prog 29 #[.map (some mb)] [] [] (fun _ : Nat => True) (fun g => .func (.func 37) #[] #[ptr g]) (fun g => [blk g (.cells #[.map (some mb)] 54 (0, 0))]) := fun w K _ hw =>
  (callsIn_wide.1 (AnyZ.keys_in keys29 Fence.wide 5 trivial rfl (some mb) w)).mono fun e w' ⟨he, hw'⟩ => ⟨w.heap.size, trivial, he, by subst hw'; exact hw.alloc _⟩
set_option maxHeartbeats 1000000 in
theorem sorted_c (mb g : Nat) (l : List (Str × Ls)) (hl : l.length * 16 ≤ 140737488355328) (hk : ∀ p ∈ l, p.1.length ≤ maxLen) :
    Ctr Try.prog 28 #[.func (.func 37) #[] #[ptr g]] [blk g (.cells #[.map (some mb)] 54 (0, 0)), mapA vS agL mb l] [] (fun _ : Option Addr × Nat => True) (fun x => .slice x.1 l.length x.2) (fun x => [slc 9 1 x.1 l.length x.2 ((srtK l).map vS)]) := fun w K hR _ => by
  have hmx : l.length ≤ maxLen := by unfold maxLen; omega
  obtain ⟨h, rfl, hh⟩ := hR (blk g (.cells #[.map (some mb)] 54 (0, 0))) (by simp)
  have hg : w.heap[g]? = some (.cells #[.map (some mb)] 54 (0, 0)) := (hh (g, _) (by simp)).1
  have hm : Seen (mapA vS agL mb l) w := by
    obtain ⟨h2, h3, h4⟩ := hR (mapA vS agL mb l) (by simp)
    exact ⟨h2, h3, fun p hp => (h4 p hp).1⟩
  obtain ⟨D0, hown, hperm, hsize⟩ := keys_owns Try.underlying9 hm hmx hk
  have hseq : SeqGives Fence.wide 2 Try.prog 37 #[.pointer (some ⟨g, 0, none⟩)] encStr (fun ss => ss.Perm (strKeys D0)) (Maps.size D0) w :=
    AnyZ.keys_gives (ρ := keys29_ren) { keys29 with } Fence.wide _ trivial rfl (by omega) g mb l.length D0 _ (lt_of_heap hg) (by simp [World.cell?, hg]) hown
  refine (callsIn_wide.1 (AnyZ.sorted_in sorted28 Fence.wide 5 trivial trivial trivial trivial rfl (by omega) (sorts28 _) (enters_of Try.func36 (by kernel_rfl) rfl) 37 #[.pointer (some ⟨g, 0, none⟩)] trivial (enters_of Try.func37 (by kernel_rfl) rfl) _ _ (by rw [hsize]; exact hmx) (by rw [hsize]; exact hl) _ hseq)).mono ?_
  rintro e w' ⟨v, ss, rfl, hS, hrow, _, hb⟩
  have hp := hS.trans hperm
  obtain ⟨x, rfl, hx⟩ := Hp.row (K := K) hb hrow
  have hln : ss.length = l.length := by rw [hp.length_eq, List.length_map]
  rw [hln] at hx
  refine ⟨x, trivial, by rw [hln], ?_⟩
  rw [srtK, ← mergeSort_of_perm hp]
  exact hx
end Go.Proofs.Ytjcegolhokfkoaa
