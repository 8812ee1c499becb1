/-
  Plain laws: all jobs come.
-/
import Derived.Test.YtfnpjmlpiedgdaaSK
namespace Go.Proofs.Ytfnpjmlpiedgdaa
open Go.Eng

/-! ### All jobs come -/
abbrev lastS : Str := [108, 97, 115, 116]
theorem name_last : nameE lastS = 0 := by decide +kernel
theorem add_rows (s : Sc) (j : Jb) : (s.add j).1.rows = s.rows := by
  unfold Sc.add
  split
  · rfl
  · split
    · exact (push_rest s j).2.2.1
    · rfl
theorem join_cases (s : Sc) (w : Str) : ((s.join w).2 ≠ 0 ∧ (s.join w).1 = s) ∨ ((s.join w).2 = 0 ∧ mget s.rows w = none ∧ (s.join w).1 = { s with rows := mput s.rows w [] }) := by
  unfold Sc.join
  split
  · split
    · exact .inl ⟨by show (16 : Int) ≠ 0; decide, rfl⟩
    · rename_i h; exact .inr ⟨rfl, by simpa using h, rfl⟩
  · rename_i h; exact .inl ⟨h, rfl⟩
structure P1 (s : Sc) (W : List (Str × Bool)) (n : Int) (i : Nat) : Prop where
  inn : s.In n i
  keys : W.map (·.1) = s.rows.map (·.1)
  len : W.length ≤ i
theorem P1.keyed {s : Sc} {W : List (Str × Bool)} {n : Int} {i : Nat} (h : P1 s W n i) : Keyed1 W := by
  unfold Keyed1; rw [h.keys]; exact h.inn.keyed
theorem P1.up {s : Sc} {W : List (Str × Bool)} {n : Int} {i : Nat} (h : P1 s W n i) : P1 s W n (i + 1) := ⟨h.inn.up (by omega), h.keys, by have := h.len; omega⟩
theorem P1.add {s : Sc} {W : List (Str × Bool)} {n : Int} {i : Nat} (h : P1 s W n i) (hi : i ≤ 490) (j : Jb) (hl : j.key.length ≤ maxLen) : P1 (s.add j).1 W n (i + 1) := ⟨in_add h.inn hi j hl, by rw [add_rows]; exact h.keys, by have := h.len; omega⟩
theorem P1.join {s : Sc} {W : List (Str × Bool)} {n : Int} {i : Nat} (h : P1 s W n i) {w : Str} (hj : (s.join w).1 = { s with rows := mput s.rows w [] }) : P1 (s.join w).1 (mput W w true) n (i + 1) := by
  refine ⟨in_join h.inn w, ?_, ?_⟩
  · rw [hj, mput_keys, mput_keys, h.keys]
  · rw [mput_len]; have := h.len; split <;> omega
theorem P1.next {s : Sc} {W : List (Str × Bool)} {n : Int} {i : Nat} (h : P1 s W n i) (hi : i ≤ 490) (w : Str) (now : Int) : P1 (s.next w now).1 W n (i + 1) := by
  refine ⟨(next_cases h.inn hi w now).1, ?_, by have := h.len; omega⟩
  rw [h.keys]
  unfold Sc.next
  cases hw : mget s.rows w with
  | none => rfl
  | some l =>
    simp only
    split
    · rcases pick_cases (h.inn.qk hi) h.inn.keyed (w := w) (by rw [hw]; rfl) with ⟨j, h1, hp⟩ | ⟨h1, h2, _⟩
      · rw [h1]; exact hp.keys.symm
      · rw [h1, h2]; exact (first_like (h.inn.qk hi) (by rw [hw]; rfl)).keys.symm
    · rfl
structure P2 (s : Sc) (W : List (Str × Bool)) (dn : List Str) (n : Int) (k : Nat) : Prop where
  inn : s.In n k
  rows : ∀ u, (mget s.rows u).isSome = true ↔ (u ∈ W.map (·.1) ∧ u ∉ dn)
  cnt : k + leftM W dn ≤ 200
  jobs : s.jobs.length ≤ 100
theorem P1.two {s : Sc} {W : List (Str × Bool)} {n : Int} {i : Nat} (h : P1 s W n i) (hi : i ≤ 100) : P2 s W [] n i := by
  refine ⟨h.inn, fun u => by rw [mget_some_iff, h.keys]; simp, ?_, by have := h.inn.cnt; omega⟩
  have h1 := h.len
  have h2 : leftM W [] ≤ W.length := List.length_filter_le _ _
  omega
theorem leave_rows {s : Sc} {w : Str} (h : (mget s.rows w).isSome = true) : (s.leave w).2 = 0 ∧ (s.leave w).1.rows = mdel s.rows w := by
  unfold Sc.leave
  cases hw : mget s.rows w with
  | none => rw [hw] at h; cases h
  | some l =>
    refine ⟨rfl, ?_⟩
    show ((({ s with rows := mdel s.rows w } : Sc).again l).back (isOf w)).rows = _
    rw [Sc.back, (again_rest _ _).2.2.1]
    exact (again_rest _ _).2.2.1
theorem leave_jobs {s : Sc} {n : Int} {k : Nat} (h : s.In n k) (hk : k ≤ 490) (w : Str) : (s.leave w).1.jobs.length = s.jobs.length := by
  rw [← (in_leave h hk w).th_len, leave_th, h.th_len]
theorem P2.leave {s : Sc} {W : List (Str × Bool)} {dn : List Str} {n : Int} {k : Nat} (h : P2 s W dn n k) {q : Str × Bool} (hq : q ∈ W ∧ q.1 ∉ dn) : (s.leave q.1).2 = 0 ∧ P2 (s.leave q.1).1 W (q.1 :: dn) n (k + 1) := by
  have hs : (mget s.rows q.1).isSome = true := (h.rows q.1).2 ⟨List.mem_map.2 ⟨q, hq.1, rfl⟩, hq.2⟩
  obtain ⟨h1, h2⟩ := leave_rows hs
  have hlt := leftM_lt hq
  have hc := h.cnt
  refine ⟨h1, in_leave h.inn (by omega) _, fun u => ?_, by omega, by rw [leave_jobs h.inn (by omega)]; exact h.jobs⟩
  rw [h2, mget_del h.inn.keyed, List.mem_cons]
  split
  · rename_i hu; subst hu; simp
  · rename_i hu; rw [h.rows]; simp [hu]
structure P3 (s : Sc) (n : Int) (k i N : Nat) : Prop where
  inn : s.In n k
  none : s.t.m = []
  last : (mget s.rows lastS).isSome = true
  cnt : k ≤ 201 + 2 * i
  left : s.th.length + i = N
theorem P2.end {s : Sc} {W : List (Str × Bool)} {dn : List Str} {n : Int} {k : Nat} (h : P2 s W dn n k) (hall : ∀ q ∈ W, q.1 ∈ dn) : s.rows = [] ∧ s.t.m = [] := by
  have hr : s.rows = [] := mget_eq_nil fun u => by
    cases hm : mget s.rows u with
    | none => rfl
    | some l =>
      obtain ⟨h1, h2⟩ := (h.rows u).1 (by rw [hm]; rfl)
      obtain ⟨q, hq, rfl⟩ := List.mem_map.1 h1
      exact absurd (hall q hq) h2
  refine ⟨hr, ?_⟩
  cases hm : s.t.m with
  | nil => rfl
  | cons p l =>
    have := h.inn.wk p (by rw [hm]; exact List.mem_cons_self ..)
    rw [hr] at this; cases this
theorem join_last {s : Sc} (h : s.rows = []) : (s.join lastS).2 = 0 ∧ (s.join lastS).1 = { s with rows := [(lastS, [])] } := by
  simp only [Sc.join, name_last, h, mget, mput, if_true]
  exact ⟨rfl, rfl⟩
theorem P2.three {s : Sc} {W : List (Str × Bool)} {dn : List Str} {n : Int} {k : Nat} (h : P2 s W dn n k) (hall : ∀ q ∈ W, q.1 ∈ dn) : P3 (s.join lastS).1 n (k + 1) 0 s.th.length := by
  obtain ⟨h1, h2⟩ := h.end hall
  obtain ⟨h3, h4⟩ := join_last h1
  have hc := h.cnt
  refine ⟨in_join h.inn _, by rw [h4]; exact h2, by rw [h4]; rfl, by omega, by rw [join_th]; rfl⟩
theorem P3.some {s : Sc} {n : Int} {k i N : Nat} (h : P3 s n k i N) (hi : i < N) (hN : N ≤ 100) : ∃ x, (s.next lastS 0).2 = (x, 0) ∧ s.Grants (s.next lastS 0).1 lastS 0 x := by
  have hc := h.cnt
  rcases (next_cases h.inn (by omega) lastS 0).2 with h1 | ⟨e, _, _, _, h2⟩
  · exact h1
  · obtain ⟨_, h3, h4⟩ := h2 h.last (by decide)
    have hl := h.left
    rw [h.inn.th_len] at hl
    have h5 : s.rows.flatMap (·.2) = [] := List.flatMap_eq_nil_iff.2 h4
    have h6 : s.jobs.length = 0 := by
      rw [Sc.jobs, h3, h5, List.length_append, List.length_append, List.length_map, List.length_map, Tb.srt_len, h.none]; rfl
    omega
theorem P3.busy {s : Sc} {n : Int} {k N : Nat} (h : P3 s n k N N) (hN : N ≤ 100) : (s.next lastS 0).2 = (noL, 45) := by
  have hc := h.cnt
  have hl := h.left
  have hz : s.jobs = [] := List.eq_nil_of_length_eq_zero (by rw [← h.inn.th_len]; omega)
  rcases (next_cases h.inn (by omega) lastS 0).2 with ⟨x, _, hG⟩ | ⟨e, _, h1, _, h2⟩
  · have := hG.mem; rw [hz] at this; cases this
  · rw [h1, (h2 h.last (by decide)).1]
abbrev offS (s : Sc) (x : Ls) : Sc := { s with t := { s.t with m := mdel s.t.m x.job.key }, th := mdel s.th x.job.key }
theorem P3.step {s : Sc} {n : Int} {k i N : Nat} (h : P3 s n k i N) (hi : i < N) (hN : N ≤ 100) {x : Ls} (hG : s.Grants (s.next lastS 0).1 lastS 0 x) :
    (s.next lastS 0).1.In n (k + 1) ∧ (s.next lastS 0).1.finish x.job.key x.epoch = (offS (s.next lastS 0).1 x, 0) ∧ P3 (offS (s.next lastS 0).1 x) n (k + 2) (i + 1) N := by
  have hc := h.cnt
  have hI := (next_cases h.inn (by omega) lastS 0).1
  have hth := next_th h.inn (by omega) lastS 0
  obtain ⟨s1, hp, he, _⟩ := hG.tab
  have hm := (mem_srt hI.good x).2 hG.has
  have hf := (finish_hit hI hm).1
  have hin := in_finish hI x.job.key x.epoch
  rw [hf] at hin
  refine ⟨hI, hf, hin.1, ?_, ?_, by omega, ?_⟩
  · show mdel (s.next lastS 0).1.t.m x.job.key = []
    rw [he]
    show mdel (mput s.t.m x.job.key x) x.job.key = []
    rw [mdel_mput, h.none]; rfl
  · show (mget (s.next lastS 0).1.rows lastS).isSome = true
    rw [he]
    show (mget s1.rows lastS).isSome = true
    rw [mget_some_iff, hp.keys, ← mget_some_iff]; exact h.last
  · have h1 : (s.next lastS 0).1.jobs.length = (offS (s.next lastS 0).1 x).jobs.length + 1 := hin.2 rfl
    have h2 : (offS (s.next lastS 0).1 x).th.length = (offS (s.next lastS 0).1 x).jobs.length := hin.1.th_len
    have h3 := hI.th_len
    rw [hth] at h3
    have h4 := h.left
    show (offS (s.next lastS 0).1 x).th.length + (i + 1) = N
    omega
end Go.Proofs.Ytfnpjmlpiedgdaa
