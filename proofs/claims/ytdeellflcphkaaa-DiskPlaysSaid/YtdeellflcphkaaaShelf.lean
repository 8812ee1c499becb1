/-
  The library's sorted keys at this program: instances of the shelf's contracts, written out by program.
-/
import Derived.Test.YtdeellflcphkaaaWalkE
import Derived.Test.YtdeellflcphkaaaEngKeys
import Derived.KernelRfl
namespace Go.Proofs.Ytdeellflcphkaaa
open Go.Eng

open Go.Proofs Go.RowKit Go.Maps Go.Sort Go.Shelf
def keys38_ren : Go.Shelf.Ren := ⟨fun | 7 => 38 | 10 => 48 | n => n, fun | 23 => 52 | 26 => 9 | 3 => 58 | 28 => 65 | 0 => 0 | 27 => 64 | 33 => 51 | 4 => 4 | n => n, fun | n => n⟩
theorem keys38 : Go.Proofs.SlLaysZ.n7 Try.prog keys38_ren where
  mixed := by kernel_rfl
  f7 := ⟨Try.f38.name, by decide, Try.func38.trans (congrArg some (by kernel_rfl))⟩
  f10 := ⟨Try.f48.name, by decide, Try.func48.trans (congrArg some (by kernel_rfl))⟩
  t0 := Try.underlying0
  a0 := Try.isAgg0
  z0 := Try.sizeOf0
  v0 := Try.zeroValue0
  t4 := Try.underlying4
  a4 := Try.isAgg4
  z4 := Try.sizeOf4
  v4 := Try.zeroValue4
  t23 := Try.underlying52
  a23 := Try.isAgg52
  z23 := Try.sizeOf52
  v23 := Try.zeroValue52
  t26 := Try.underlying9
  a26 := Try.isAgg9
  z26 := Try.sizeOf9
  v26 := Try.zeroValue9
  t27 := Try.underlying64
  a27 := Try.isAgg64
  z27 := Try.sizeOf64
  v27 := Try.zeroValue64
  t28 := Try.underlying65
  a28 := Try.isAgg65
  z28 := Try.sizeOf65
  v28 := Try.zeroValue65
  t33 := Try.underlying51
  a33 := Try.isAgg51
  z33 := Try.sizeOf51
  v33 := Try.zeroValue51

def sorted37_ren : Go.Shelf.Ren := ⟨fun | 6 => 37 | 8 => 46 | 9 => 47 | 11 => 50 | 13 => 52 | 12 => 51 | 23 => 62 | 24 => 63 | 14 => 53 | 15 => 54 | 16 => 55 | 17 => 56 | 18 => 57 | 19 => 58 | 20 => 59 | 21 => 60 | 22 => 61 | 25 => 64 | 26 => 65 | 27 => 66 | 28 => 67 | 29 => 68 | 30 => 69 | 31 => 70 | n => n, fun | 26 => 9 | 28 => 65 | 24 => 32 | 0 => 0 | 3 => 3 | 37 => 82 | 48 => 92 | 50 => 94 | 4 => 4 | 40 => 85 | 39 => 84 | 45 => 72 | 5 => 5 | 9 => 9 | 51 => 95 | 55 => 99 | 57 => 101 | 58 => 102 | 33 => 51 | n => n, fun | n => n⟩
theorem sorted37 : Go.Proofs.SlLaysZ.n6 Try.prog sorted37_ren where
  mixed := by kernel_rfl
  f6 := ⟨Try.f37.name, by decide, Try.func37.trans (congrArg some (by kernel_rfl))⟩
  f8 := ⟨Try.f46.name, by decide, Try.func46.trans (congrArg some (by kernel_rfl))⟩
  f11 := ⟨Try.f50.name, by decide, Try.func50.trans (congrArg some (by kernel_rfl))⟩
  t0 := Try.underlying0
  a0 := Try.isAgg0
  z0 := Try.sizeOf0
  v0 := Try.zeroValue0
  t24 := Try.underlying32
  a24 := Try.isAgg32
  z24 := Try.sizeOf32
  v24 := Try.zeroValue32
  t26 := Try.underlying9
  a26 := Try.isAgg9
  z26 := Try.sizeOf9
  v26 := Try.zeroValue9
  t28 := Try.underlying65
  a28 := Try.isAgg65
  z28 := Try.sizeOf65
  v28 := Try.zeroValue65
  i26 := by kernel_rfl

def sort47_ren : Go.Shelf.Ren := ⟨fun | 6 => 47 | 8 => 52 | 9 => 51 | 19 => 62 | 20 => 63 | 21 => 53 | 22 => 54 | 23 => 55 | 24 => 56 | 25 => 57 | 26 => 58 | 27 => 59 | 28 => 60 | 29 => 61 | 36 => 64 | 31 => 65 | 32 => 66 | 37 => 67 | 38 => 68 | 39 => 69 | 41 => 70 | n => n, fun | 27 => 32 | 29 => 9 | 3 => 3 | 32 => 82 | 26 => 32 | 0 => 0 | 44 => 92 | 46 => 94 | 4 => 4 | 36 => 85 | 35 => 84 | 41 => 72 | 5 => 5 | 9 => 9 | 53 => 95 | 57 => 99 | 63 => 101 | 64 => 102 | n => n, fun | n => n⟩
theorem sort47 : Go.Proofs.SlLaysM.n6 Try.prog sort47_ren where
  mixed := by kernel_rfl
  f6 := ⟨Try.f47.name, by decide, Try.func47.trans (congrArg some (by kernel_rfl))⟩
  f8 := Try.func52.trans (congrArg some (by kernel_rfl))
  f9 := ⟨Try.f51.name, by decide, Try.func51.trans (congrArg some (by kernel_rfl))⟩
  f19 := Try.func62.trans (congrArg some (by kernel_rfl))
  f20 := Try.func63.trans (congrArg some (by kernel_rfl))
  f21 := ⟨Try.f53.name, by decide, Try.func53.trans (congrArg some (by kernel_rfl))⟩
  f22 := ⟨Try.f54.name, by decide, Try.func54.trans (congrArg some (by kernel_rfl))⟩
  f23 := ⟨Try.f55.name, by decide, Try.func55.trans (congrArg some (by kernel_rfl))⟩
  f24 := ⟨Try.f56.name, by decide, Try.func56.trans (congrArg some (by kernel_rfl))⟩
  f25 := ⟨Try.f57.name, by decide, Try.func57.trans (congrArg some (by kernel_rfl))⟩
  f26 := ⟨Try.f58.name, by decide, Try.func58.trans (congrArg some (by kernel_rfl))⟩
  f27 := ⟨Try.f59.name, by decide, Try.func59.trans (congrArg some (by kernel_rfl))⟩
  f28 := ⟨Try.f60.name, by decide, Try.func60.trans (congrArg some (by kernel_rfl))⟩
  f29 := ⟨Try.f61.name, by decide, Try.func61.trans (congrArg some (by kernel_rfl))⟩
  f31 := Try.func65.trans (congrArg some (by kernel_rfl))
  f32 := Try.func66.trans (congrArg some (by kernel_rfl))
  f36 := ⟨Try.f64.name, by decide, Try.func64.trans (congrArg some (by kernel_rfl))⟩
  f37 := ⟨Try.f67.name, by decide, Try.func67.trans (congrArg some (by kernel_rfl))⟩
  f38 := ⟨Try.f68.name, by decide, Try.func68.trans (congrArg some (by kernel_rfl))⟩
  f39 := ⟨Try.f69.name, by decide, Try.func69.trans (congrArg some (by kernel_rfl))⟩
  f41 := ⟨Try.f70.name, by decide, Try.func70.trans (congrArg some (by kernel_rfl))⟩
  t0 := Try.underlying0
  a0 := Try.isAgg0
  z0 := Try.sizeOf0
  v0 := Try.zeroValue0
  t3 := Try.underlying3
  a3 := Try.isAgg3
  z3 := Try.sizeOf3
  v3 := Try.zeroValue3
  t4 := Try.underlying4
  a4 := Try.isAgg4
  z4 := Try.sizeOf4
  v4 := Try.zeroValue4
  t5 := Try.underlying5
  a5 := Try.isAgg5
  z5 := Try.sizeOf5
  v5 := Try.zeroValue5
  t9 := Try.underlying9
  a9 := Try.isAgg9
  z9 := Try.sizeOf9
  v9 := Try.zeroValue9
  t26 := Try.underlying32
  a26 := Try.isAgg32
  z26 := Try.sizeOf32
  v26 := Try.zeroValue32
  t27 := Try.underlying32
  a27 := Try.isAgg32
  z27 := Try.sizeOf32
  v27 := Try.zeroValue32
  t29 := Try.underlying9
  a29 := Try.isAgg9
  z29 := Try.sizeOf9
  v29 := Try.zeroValue9
  t32 := Try.underlying82
  a32 := Try.isAgg82
  z32 := Try.sizeOf82
  v32 := Try.zeroValue82
  t35 := Try.underlying84
  a35 := Try.isAgg84
  z35 := Try.sizeOf84
  v35 := Try.zeroValue84
  t36 := Try.underlying85
  a36 := Try.isAgg85
  z36 := Try.sizeOf85
  v36 := Try.zeroValue85
  t41 := Try.underlying72
  a41 := Try.isAgg72
  z41 := Try.sizeOf72
  v41 := Try.zeroValue72
  t44 := Try.underlying92
  a44 := Try.isAgg92
  z44 := Try.sizeOf92
  v44 := Try.zeroValue92
  t46 := Try.underlying94
  a46 := Try.isAgg94
  z46 := Try.sizeOf94
  v46 := Try.zeroValue94
  t53 := Try.underlying95
  a53 := Try.isAgg95
  z53 := Try.sizeOf95
  v53 := Try.zeroValue95
  t57 := Try.underlying99
  a57 := Try.isAgg99
  z57 := Try.sizeOf99
  v57 := Try.zeroValue99
  t63 := Try.underlying101
  a63 := Try.isAgg101
  z63 := Try.sizeOf101
  v63 := Try.zeroValue101
  t64 := Try.underlying102
  a64 := Try.isAgg102
  z64 := Try.sizeOf102
  v64 := Try.zeroValue102

theorem sorts37 (m : Nat) : AnyZ.SortsIn Try.prog sorted37_ren Fence.wide m :=
  ⟨fun blk off cap ss W hH hblk hsz => callsIn_wide.2 (AnyM.slices_Sort_string sort47 blk off cap ss W hH hblk hsz),
   fun p cap W => callsIn_wide.2 (AnyM.slices_Sort_string_none sort47 p cap W)⟩
theorem keys_c (mb : Nat) : Ctr Try.prog 38 #[.map (some mb)] [] [] (fun _ : Nat => True) (fun g => .func (.func 48) #[] #[ptr g]) (fun g => [blk g (.cells #[.map (some mb)] 52 (0, 0))]) := fun w K _ hw =>
  (callsIn_wide.1 (AnyZ.keys_in keys38 Fence.wide 5 trivial rfl (some mb) w)).mono fun e w' ⟨he, hw'⟩ => ⟨w.heap.size, trivial, he, by subst hw'; exact hw.alloc _⟩
set_option maxHeartbeats 1000000 in
theorem sorted_c (mb g : Nat) (l : List (Str × Fi)) (hl : l.length * 16 ≤ 140737488355328) (hk : ∀ p ∈ l, p.1.length ≤ maxLen) :
    Ctr Try.prog 37 #[.func (.func 48) #[] #[ptr g]] [blk g (.cells #[.map (some mb)] 52 (0, 0)), mapA vS agFi mb l] [] (fun _ : Option Addr × Nat => True) (fun x => .slice x.1 l.length x.2) (fun x => [slc 9 1 x.1 l.length x.2 ((srtK l).map vS)]) := fun w K hR _ => by
  have hmx : l.length ≤ maxLen := by unfold maxLen; omega
  obtain ⟨h, rfl, hh⟩ := hR (blk g (.cells #[.map (some mb)] 52 (0, 0))) (by simp)
  have hg : w.heap[g]? = some (.cells #[.map (some mb)] 52 (0, 0)) := (hh (g, _) (by simp)).1
  have hm : Seen (mapA vS agFi mb l) w := by
    obtain ⟨h2, h3, h4⟩ := hR (mapA vS agFi mb l) (by simp)
    exact ⟨h2, h3, fun p hp => (h4 p hp).1⟩
  obtain ⟨D0, hown, hperm, hsize⟩ := keys_owns Try.underlying9 hm hmx hk
  have hseq : SeqGives Fence.wide 2 Try.prog 48 #[.pointer (some ⟨g, 0, none⟩)] encStr (fun ss => ss.Perm (strKeys D0)) (Maps.size D0) w :=
    AnyZ.keys_gives (ρ := keys38_ren) { keys38 with } Fence.wide _ trivial rfl (by omega) g mb l.length D0 _ (lt_of_heap hg) (by simp [World.cell?, hg]) hown
  refine (callsIn_wide.1 (AnyZ.sorted_in sorted37 Fence.wide 5 trivial trivial trivial trivial rfl (by omega) (sorts37 _) (enters_of Try.func47 (by kernel_rfl) rfl) 48 #[.pointer (some ⟨g, 0, none⟩)] trivial (enters_of Try.func48 (by kernel_rfl) rfl) _ _ (by rw [hsize]; exact hmx) (by rw [hsize]; exact hl) _ hseq)).mono ?_
  rintro e w' ⟨v, ss, rfl, hS, hrow, _, hb⟩
  have hp := hS.trans hperm
  obtain ⟨x, rfl, hx⟩ := Hp.row (K := K) hb hrow
  have hln : ss.length = l.length := by rw [hp.length_eq, List.length_map]
  rw [hln] at hx
  refine ⟨x, trivial, by rw [hln], ?_⟩
  rw [srtK, ← mergeSort_of_perm hp]
  exact hx
end Go.Proofs.Ytdeellflcphkaaa
