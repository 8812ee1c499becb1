/-
  Plain laws: calls, and what they do to what is there.
-/
import Derived.Test.YtfnpjmlpiedgdaaSJ
namespace Go.Proofs.Ytfnpjmlpiedgdaa
open Go.Eng

/-! ### Calls, and what they do to what is there -/
structure SOp where
  ask : Int
  job : Jb
  worker : Str
  num : Int
  now : Int
abbrev encO (x : SOp) : List Value := [vI x.ask, vS x.job.key, vI x.job.rank, vI x.job.since, vS x.worker, vI x.num, vI x.now]
theorem encO_len (x : SOp) : (encO x).length = 7 := rfl
theorem add_cases (s : Sc) (j : Jb) : ((s.add j).2 = 16 ∧ (mget s.th j.key).getD false = true ∧ (s.add j).1 = s) ∨ ((s.add j).2 = 0 ∧ (mget s.th j.key).getD false = false ∧ (s.add j).1.th = mput s.th j.key true) ∨ ((s.add j).2 = 1 ∧ (mget s.th j.key).getD false = false ∧ (s.add j).1 = s) := by
  unfold Sc.add
  by_cases h : (mget s.th j.key).getD false = true
  · rw [if_pos h]; exact .inl ⟨rfl, h, rfl⟩
  · rw [if_neg h]
    have hf : (mget s.th j.key).getD false = false := by simpa using h
    split
    · exact .inr (.inl ⟨rfl, hf, rfl⟩)
    · exact .inr (.inr ⟨rfl, hf, rfl⟩)
theorem join_th (s : Sc) (w : Str) : (s.join w).1.th = s.th := by
  unfold Sc.join
  split
  · split <;> rfl
  · rfl
theorem back_th (s : Sc) (p : Ls → Bool) : (s.back p).th = s.th := (again_rest _ _).2.2.2
theorem leave_th (s : Sc) (w : Str) : (s.leave w).1.th = s.th := by
  unfold Sc.leave
  split
  · rfl
  · show ((({ s with rows := mdel s.rows w } : Sc).again _).back _).th = _
    rw [back_th]; exact (again_rest _ _).2.2.2
theorem next_th {s : Sc} {n : Int} {i : Nat} (h : s.In n i) (hi : i ≤ 490) (w : Str) (now : Int) : (s.next w now).1.th = s.th := by
  unfold Sc.next
  cases hw : mget s.rows w with
  | none => rfl
  | some l =>
    simp only
    split
    · rcases pick_cases (h.qk hi) h.keyed (w := w) (by rw [hw]; rfl) with ⟨j, h1, hp⟩ | ⟨h1, h2, _⟩
      · rw [h1]; exact hp.th
      · rw [h1, h2]; exact (first_like (h.qk hi) (by rw [hw]; rfl)).th
    · rfl
theorem finish_hit {s : Sc} {n : Int} {i : Nat} (h : s.In n i) {l : Ls} (hl : l ∈ s.t.srt) :
    s.finish l.job.key l.epoch = ({ s with t := { s.t with m := mdel s.t.m l.job.key }, th := mdel s.th l.job.key }, 0) ∧
    (∀ e, ({ s with t := { s.t with m := mdel s.t.m l.job.key }, th := mdel s.th l.job.key } : Sc).finish l.job.key e = ({ s with t := { s.t with m := mdel s.t.m l.job.key }, th := mdel s.th l.job.key }, 17)) := by
  have hg := (mem_srt h.good l).1 hl
  have h1 : s.t.finish l.job.key l.epoch = ({ s.t with m := mdel s.t.m l.job.key }, 0) := by simp [Tb.finish, Tb.find, hg]
  refine ⟨by rw [Sc.finish, h1]; rfl, fun e => ?_⟩
  have h2 : mget (mdel s.t.m l.job.key) l.job.key = none := by rw [mget_del h.good.keyed, if_pos rfl]
  have h3 : ({ s.t with m := mdel s.t.m l.job.key } : Tb).finish l.job.key e = ({ s.t with m := mdel s.t.m l.job.key }, 17) := by simp [Tb.finish, Tb.find, h2]
  rw [Sc.finish]
  simp only [h3]
  rfl
theorem rem_idx (a : Int) {k : Nat} (h : 0 < k) : ∃ j : Nat, j < k ∧ (a.tmod k + k).tmod k = (j : Int) ∧ -(k : Int) < a.tmod k ∧ a.tmod k < k := by
  have h1 : a.tmod k < k := Int.tmod_lt_of_pos a (by omega)
  have h2 : -(k : Int) < a.tmod k := by
    have := Int.tmod_lt_of_pos (-a) (b := (k : Int)) (by omega)
    rw [Int.neg_tmod] at this
    omega
  have h3 := Int.tmod_lt_of_pos (a.tmod k + k) (b := (k : Int)) (by omega)
  have h4 : 0 ≤ (a.tmod k + k).tmod k := Int.tmod_nonneg _ (by omega)
  exact ⟨((a.tmod k + k).tmod k).toNat, by omega, by omega, h2, h1⟩
theorem srt_there {s : Sc} {n : Int} {i : Nat} (h : s.In n i) {l : Ls} (hl : l ∈ s.t.srt) : (mget s.th l.job.key).getD false = true :=
  (h.has _).2 ⟨l.job, by simp only [Sc.jobs, List.mem_append]; exact .inr (.inr (List.mem_map.2 ⟨l, hl, rfl⟩)), rfl⟩
theorem once_count {s : Sc} {n : Int} {i : Nat} (h : s.In n i) : (s.waiting : Int) + (s.t.srt.length : Nat) = (s.th.length : Nat) := by
  have h1 := waiting_len s
  rw [h.th_len, Tb.srt_len]; omega
end Go.Proofs.Ytfnpjmlpiedgdaa
