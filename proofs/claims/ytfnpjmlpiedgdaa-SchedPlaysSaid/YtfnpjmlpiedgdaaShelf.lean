/-
  The library's sorted keys at this program: instances of the shelf's contracts, written out by program.
-/
import Derived.Test.YtfnpjmlpiedgdaaLA
import Derived.Test.YtfnpjmlpiedgdaaEngKeys
import Derived.KernelRfl
namespace Go.Proofs.Ytfnpjmlpiedgdaa
open Go.Eng

open Go.Proofs Go.RowKit Go.Maps Go.Sort Go.Shelf
def keys29_ren : Go.Shelf.Ren := ⟨fun | 7 => 57 | 10 => 67 | n => n, fun | 23 => 93 | 26 => 9 | 3 => 36 | 28 => 109 | 0 => 0 | 27 => 108 | 33 => 79 | 4 => 4 | n => n, fun | n => n⟩
theorem keys29 : Go.Proofs.SlLaysZ.n7 Try.prog keys29_ren where
  mixed := by kernel_rfl
  f7 := ⟨Try.f57.name, by decide, Try.func57.trans (congrArg some (by kernel_rfl))⟩
  f10 := ⟨Try.f67.name, by decide, Try.func67.trans (congrArg some (by kernel_rfl))⟩
  t0 := Try.underlying0
  a0 := Try.isAgg0
  z0 := Try.sizeOf0
  v0 := Try.zeroValue0
  t4 := Try.underlying4
  a4 := Try.isAgg4
  z4 := Try.sizeOf4
  v4 := Try.zeroValue4
  t23 := Try.underlying93
  a23 := Try.isAgg93
  z23 := Try.sizeOf93
  v23 := Try.zeroValue93
  t26 := Try.underlying9
  a26 := Try.isAgg9
  z26 := Try.sizeOf9
  v26 := Try.zeroValue9
  t27 := Try.underlying108
  a27 := Try.isAgg108
  z27 := Try.sizeOf108
  v27 := Try.zeroValue108
  t28 := Try.underlying109
  a28 := Try.isAgg109
  z28 := Try.sizeOf109
  v28 := Try.zeroValue109
  t33 := Try.underlying79
  a33 := Try.isAgg79
  z33 := Try.sizeOf79
  v33 := Try.zeroValue79

def sorted28_ren : Go.Shelf.Ren := ⟨fun | 6 => 56 | 8 => 65 | 9 => 66 | 11 => 70 | 13 => 72 | 12 => 71 | 23 => 82 | 24 => 83 | 14 => 73 | 15 => 74 | 16 => 75 | 17 => 76 | 18 => 77 | 19 => 78 | 20 => 79 | 21 => 80 | 22 => 81 | 25 => 84 | 26 => 85 | 27 => 86 | 28 => 87 | 29 => 88 | 30 => 89 | 31 => 90 | n => n, fun | 26 => 9 | 28 => 109 | 24 => 106 | 0 => 0 | 3 => 3 | 37 => 123 | 48 => 133 | 50 => 135 | 4 => 4 | 40 => 126 | 39 => 125 | 45 => 80 | 5 => 5 | 9 => 9 | 51 => 136 | 55 => 140 | 57 => 142 | 58 => 143 | 33 => 79 | n => n, fun | n => n⟩
theorem sorted28 : Go.Proofs.SlLaysZ.n6 Try.prog sorted28_ren where
  mixed := by kernel_rfl
  f6 := ⟨Try.f56.name, by decide, Try.func56.trans (congrArg some (by kernel_rfl))⟩
  f8 := ⟨Try.f65.name, by decide, Try.func65.trans (congrArg some (by kernel_rfl))⟩
  f11 := ⟨Try.f70.name, by decide, Try.func70.trans (congrArg some (by kernel_rfl))⟩
  t0 := Try.underlying0
  a0 := Try.isAgg0
  z0 := Try.sizeOf0
  v0 := Try.zeroValue0
  t24 := Try.underlying106
  a24 := Try.isAgg106
  z24 := Try.sizeOf106
  v24 := Try.zeroValue106
  t26 := Try.underlying9
  a26 := Try.isAgg9
  z26 := Try.sizeOf9
  v26 := Try.zeroValue9
  t28 := Try.underlying109
  a28 := Try.isAgg109
  z28 := Try.sizeOf109
  v28 := Try.zeroValue109
  i26 := by kernel_rfl

def sort36_ren : Go.Shelf.Ren := ⟨fun | 6 => 66 | 8 => 72 | 9 => 71 | 19 => 82 | 20 => 83 | 21 => 73 | 22 => 74 | 23 => 75 | 24 => 76 | 25 => 77 | 26 => 78 | 27 => 79 | 28 => 80 | 29 => 81 | 36 => 84 | 31 => 85 | 32 => 86 | 37 => 87 | 38 => 88 | 39 => 89 | 41 => 90 | n => n, fun | 27 => 106 | 29 => 9 | 3 => 3 | 32 => 123 | 26 => 106 | 0 => 0 | 44 => 133 | 46 => 135 | 4 => 4 | 36 => 126 | 35 => 125 | 41 => 80 | 5 => 5 | 9 => 9 | 53 => 136 | 57 => 140 | 63 => 142 | 64 => 143 | n => n, fun | n => n⟩
theorem sort36 : Go.Proofs.SlLaysM.n6 Try.prog sort36_ren where
  mixed := by kernel_rfl
  f6 := ⟨Try.f66.name, by decide, Try.func66.trans (congrArg some (by kernel_rfl))⟩
  f8 := Try.func72.trans (congrArg some (by kernel_rfl))
  f9 := ⟨Try.f71.name, by decide, Try.func71.trans (congrArg some (by kernel_rfl))⟩
  f19 := Try.func82.trans (congrArg some (by kernel_rfl))
  f20 := Try.func83.trans (congrArg some (by kernel_rfl))
  f21 := ⟨Try.f73.name, by decide, Try.func73.trans (congrArg some (by kernel_rfl))⟩
  f22 := ⟨Try.f74.name, by decide, Try.func74.trans (congrArg some (by kernel_rfl))⟩
  f23 := ⟨Try.f75.name, by decide, Try.func75.trans (congrArg some (by kernel_rfl))⟩
  f24 := ⟨Try.f76.name, by decide, Try.func76.trans (congrArg some (by kernel_rfl))⟩
  f25 := ⟨Try.f77.name, by decide, Try.func77.trans (congrArg some (by kernel_rfl))⟩
  f26 := ⟨Try.f78.name, by decide, Try.func78.trans (congrArg some (by kernel_rfl))⟩
  f27 := ⟨Try.f79.name, by decide, Try.func79.trans (congrArg some (by kernel_rfl))⟩
  f28 := ⟨Try.f80.name, by decide, Try.func80.trans (congrArg some (by kernel_rfl))⟩
  f29 := ⟨Try.f81.name, by decide, Try.func81.trans (congrArg some (by kernel_rfl))⟩
  f31 := Try.func85.trans (congrArg some (by kernel_rfl))
  f32 := Try.func86.trans (congrArg some (by kernel_rfl))
  f36 := ⟨Try.f84.name, by decide, Try.func84.trans (congrArg some (by kernel_rfl))⟩
  f37 := ⟨Try.f87.name, by decide, Try.func87.trans (congrArg some (by kernel_rfl))⟩
  f38 := ⟨Try.f88.name, by decide, Try.func88.trans (congrArg some (by kernel_rfl))⟩
  f39 := ⟨Try.f89.name, by decide, Try.func89.trans (congrArg some (by kernel_rfl))⟩
  f41 := ⟨Try.f90.name, by decide, Try.func90.trans (congrArg some (by kernel_rfl))⟩
  t0 := Try.underlying0
  a0 := Try.isAgg0
  z0 := Try.sizeOf0
  v0 := Try.zeroValue0
  t3 := Try.underlying3
  a3 := Try.isAgg3
  z3 := Try.sizeOf3
  v3 := Try.zeroValue3
  t4 := Try.underlying4
  a4 := Try.isAgg4
  z4 := Try.sizeOf4
  v4 := Try.zeroValue4
  t5 := Try.underlying5
  a5 := Try.isAgg5
  z5 := Try.sizeOf5
  v5 := Try.zeroValue5
  t9 := Try.underlying9
  a9 := Try.isAgg9
  z9 := Try.sizeOf9
  v9 := Try.zeroValue9
  t26 := Try.underlying106
  a26 := Try.isAgg106
  z26 := Try.sizeOf106
  v26 := Try.zeroValue106
  t27 := Try.underlying106
  a27 := Try.isAgg106
  z27 := Try.sizeOf106
  v27 := Try.zeroValue106
  t29 := Try.underlying9
  a29 := Try.isAgg9
  z29 := Try.sizeOf9
  v29 := Try.zeroValue9
  t32 := Try.underlying123
  a32 := Try.isAgg123
  z32 := Try.sizeOf123
  v32 := Try.zeroValue123
  t35 := Try.underlying125
  a35 := Try.isAgg125
  z35 := Try.sizeOf125
  v35 := Try.zeroValue125
  t36 := Try.underlying126
  a36 := Try.isAgg126
  z36 := Try.sizeOf126
  v36 := Try.zeroValue126
  t41 := Try.underlying80
  a41 := Try.isAgg80
  z41 := Try.sizeOf80
  v41 := Try.zeroValue80
  t44 := Try.underlying133
  a44 := Try.isAgg133
  z44 := Try.sizeOf133
  v44 := Try.zeroValue133
  t46 := Try.underlying135
  a46 := Try.isAgg135
  z46 := Try.sizeOf135
  v46 := Try.zeroValue135
  t53 := Try.underlying136
  a53 := Try.isAgg136
  z53 := Try.sizeOf136
  v53 := Try.zeroValue136
  t57 := Try.underlying140
  a57 := Try.isAgg140
  z57 := Try.sizeOf140
  v57 := Try.zeroValue140
  t63 := Try.underlying142
  a63 := Try.isAgg142
  z63 := Try.sizeOf142
  v63 := Try.zeroValue142
  t64 := Try.underlying143
  a64 := Try.isAgg143
  z64 := Try.sizeOf143
  v64 := Try.zeroValue143

theorem sorts28 (m : Nat) : AnyZ.SortsIn Try.prog sorted28_ren Fence.wide m :=
  ⟨fun blk off cap ss W hH hblk hsz => callsIn_wide.2 (AnyM.slices_Sort_string sort36 blk off cap ss W hH hblk hsz),
   fun p cap W => callsIn_wide.2 (AnyM.slices_Sort_string_none sort36 p cap W)⟩
theorem keys_c (mb : Nat) : Ctr Try.prog 57 #[.map (some mb)] [] [] (fun _ : Nat => True) (fun g => .func (.func 67) #[] #[ptr g]) (fun g => [blk g (.cells #[.map (some mb)] 93 (0, 0))]) := fun w K _ hw =>
  (callsIn_wide.1 (AnyZ.keys_in keys29 Fence.wide 5 trivial rfl (some mb) w)).mono fun e w' ⟨he, hw'⟩ => ⟨w.heap.size, trivial, he, by subst hw'; exact hw.alloc _⟩
set_option maxHeartbeats 1000000 in
theorem sorted_c (mb g : Nat) (l : List (Str × Ls)) (hl : l.length * 16 ≤ 140737488355328) (hk : ∀ p ∈ l, p.1.length ≤ maxLen) :
    Ctr Try.prog 56 #[.func (.func 67) #[] #[ptr g]] [blk g (.cells #[.map (some mb)] 93 (0, 0)), mapA vS agL mb l] [] (fun _ : Option Addr × Nat => True) (fun x => .slice x.1 l.length x.2) (fun x => [slc 9 1 x.1 l.length x.2 ((srtK l).map vS)]) := fun w K hR _ => by
  have hmx : l.length ≤ maxLen := by unfold maxLen; omega
  obtain ⟨h, rfl, hh⟩ := hR (blk g (.cells #[.map (some mb)] 93 (0, 0))) (by simp)
  have hg : w.heap[g]? = some (.cells #[.map (some mb)] 93 (0, 0)) := (hh (g, _) (by simp)).1
  have hm : Seen (mapA vS agL mb l) w := by
    obtain ⟨h2, h3, h4⟩ := hR (mapA vS agL mb l) (by simp)
    exact ⟨h2, h3, fun p hp => (h4 p hp).1⟩
  obtain ⟨D0, hown, hperm, hsize⟩ := keys_owns Try.underlying9 hm hmx hk
  have hseq : SeqGives Fence.wide 2 Try.prog 67 #[.pointer (some ⟨g, 0, none⟩)] encStr (fun ss => ss.Perm (strKeys D0)) (Maps.size D0) w :=
    AnyZ.keys_gives (ρ := keys29_ren) { keys29 with } Fence.wide _ trivial rfl (by omega) g mb l.length D0 _ (lt_of_heap hg) (by simp [World.cell?, hg]) hown
  refine (callsIn_wide.1 (AnyZ.sorted_in sorted28 Fence.wide 5 trivial trivial trivial trivial rfl (by omega) (sorts28 _) (enters_of Try.func66 (by kernel_rfl) rfl) 67 #[.pointer (some ⟨g, 0, none⟩)] trivial (enters_of Try.func67 (by kernel_rfl) rfl) _ _ (by rw [hsize]; exact hmx) (by rw [hsize]; exact hl) _ hseq)).mono ?_
  rintro e w' ⟨v, ss, rfl, hS, hrow, _, hb⟩
  have hp := hS.trans hperm
  obtain ⟨x, rfl, hx⟩ := Hp.row (K := K) hb hrow
  have hln : ss.length = l.length := by rw [hp.length_eq, List.length_map]
  rw [hln] at hx
  refine ⟨x, trivial, by rw [hln], ?_⟩
  rw [srtK, ← mergeSort_of_perm hp]
  exact hx
end Go.Proofs.Ytfnpjmlpiedgdaa
