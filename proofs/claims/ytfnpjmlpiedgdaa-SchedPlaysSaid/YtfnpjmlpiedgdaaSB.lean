/-
  What holds behind calls.
-/
import Derived.Test.YtfnpjmlpiedgdaaSA
namespace Go.Proofs.Ytfnpjmlpiedgdaa
open Go.Eng

/-! ### Where jobs are -/
def Sc.jobs (s : Sc) : List Jb := s.R.map (·.v) ++ (s.rows.flatMap (·.2) ++ s.t.srt.map (·.job))
/-- k things may be pushed yet. -/
structure Sc.Qk (s : Sc) (k : Nat) : Prop where
  age : 1 ≤ s.age ∧ s.age ≤ 1000000
  q : QOk s.age s.n s.R
  n0 : 0 ≤ s.n
  n1 : s.n + k ≤ 1000000
  rl : s.R.length + k ≤ 1000000
theorem Sc.Qk.mono {s : Sc} {k j : Nat} (h : s.Qk k) (hj : j ≤ k) : s.Qk j := ⟨h.age, h.q, h.n0, by have := h.n1; omega, by have := h.rl; omega⟩
theorem Sc.Qk.of {s s' : Sc} {k : Nat} (h : s.Qk k) (h1 : s'.age = s.age) (h2 : s'.n = s.n) (h3 : s'.R = s.R) : s'.Qk k := ⟨by rw [h1]; exact h.age, by rw [h1, h2, h3]; exact h.q, by rw [h2]; exact h.n0, by rw [h2]; exact h.n1, by rw [h3]; exact h.rl⟩
theorem Sc.Qk.push {s : Sc} {k : Nat} (h : s.Qk (k + 1)) (j : Jb) : (s.push j).Qk k := by
  unfold Sc.push
  split
  · rename_i hv
    obtain ⟨h1, h2⟩ := valid_iff.1 hv
    exact ⟨h.age, h.q.push h1 h2, by have := h.n0; simp only; omega, by have := h.n1; simp only; omega, by have := h.rl; simp only [List.length_append, List.length_singleton]; omega⟩
  · exact h.mono (by omega)
theorem push_rest (s : Sc) (j : Jb) : (s.push j).age = s.age ∧ (s.push j).t = s.t ∧ (s.push j).rows = s.rows ∧ (s.push j).th = s.th := by unfold Sc.push; split <;> exact ⟨rfl, rfl, rfl, rfl⟩
theorem again_rest : ∀ (l : List Jb) (s : Sc), (s.again l).age = s.age ∧ (s.again l).t = s.t ∧ (s.again l).rows = s.rows ∧ (s.again l).th = s.th
  | [], s => ⟨rfl, rfl, rfl, rfl⟩
  | j :: l, s => by
    obtain ⟨a, b, c, d⟩ := again_rest l (s.push j)
    obtain ⟨a', b', c', d'⟩ := push_rest s j
    exact ⟨a.trans a', b.trans b', c.trans c', d.trans d'⟩
theorem again_snoc (s : Sc) (l : List Jb) (j : Jb) : s.again (l ++ [j]) = (s.again l).push j := by simp [Sc.again]
theorem Sc.Qk.again : ∀ {l : List Jb} {s : Sc} {k : Nat}, s.Qk (l.length + k) → (s.again l).Qk k
  | [], s, k, h => h.mono (by simp)
  | j :: l, s, k, h => Sc.Qk.again (l := l) (s := s.push j) (Sc.Qk.push (by rw [List.length_cons] at h; rw [show l.length + k + 1 = l.length + 1 + k by omega]; exact h) j)
theorem Sc.Qk.some {l : List Jb} {s : Sc} (h : s.Qk l.length) (i : Nat) (hi : i ≤ l.length) : (s.again (l.take i)).Qk (l.length - i) := Sc.Qk.again (l := l.take i) (by rw [List.length_take, Nat.min_eq_left hi]; exact h.mono (by omega))
theorem again_n : ∀ (l : List Jb) (s : Sc), s.n ≤ (s.again l).n ∧ (s.again l).n ≤ s.n + l.length
  | [], s => by simp [Sc.again]
  | j :: l, s => by
    have h := again_n l (s.push j)
    have e : s.n ≤ (s.push j).n ∧ (s.push j).n ≤ s.n + 1 := by unfold Sc.push; split <;> (try simp only) <;> omega
    rw [List.length_cons]
    show s.n ≤ ((s.push j).again l).n ∧ ((s.push j).again l).n ≤ _
    omega
theorem push_R {s : Sc} {j : Jb} (h : validB j = true) : (s.push j).R.map (·.v) = s.R.map (·.v) ++ [j] := by rw [Sc.push, if_pos h]; simp
theorem again_R : ∀ {l : List Jb} {s : Sc}, (∀ j ∈ l, validB j = true) → (s.again l).R.map (·.v) = s.R.map (·.v) ++ l
  | [], s, _ => by simp [Sc.again]
  | j :: l, s, h => by
    show ((s.push j).again l).R.map _ = _
    rw [again_R (l := l) (fun x hx => h x (by simp [hx])), push_R (h j (by simp))]; simp
/-! ### Rows -/
theorem rows_flat (rows : List (Str × List Jb)) (w : Str) : (rows.flatMap (·.2)).Perm ((mget rows w).getD [] ++ (mdel rows w).flatMap (·.2)) := by
  cases h : mget rows w with
  | none => rw [mdel_none h]; exact List.Perm.refl _
  | some l => exact (mget_perm h).flatMap_right _
theorem put_flat (rows : List (Str × List Jb)) (w : Str) (l : List Jb) : ((mput rows w l).flatMap (·.2)).Perm (l ++ (mdel rows w).flatMap (·.2)) := (mput_perm w l rows).flatMap_right _
theorem mput_has {β : Type} {rows : List (Str × β)} {w u : Str} {v : β} (h : (mget rows u).isSome = true) : (mget (mput rows w v) u).isSome = true := by
  rw [mget_put]; split
  · rfl
  · exact h
/-! ### Leases -/
theorem erase_perm {α : Type} {l : List α} {i : Nat} {x : α} (h : l[i]? = some x) : l.Perm (x :: l.eraseIdx i) := by
  obtain ⟨hl, hx⟩ := List.getElem?_eq_some_iff.1 h
  rw [List.eraseIdx_eq_take_drop_succ]
  have e : l = l.take i ++ x :: l.drop (i + 1) := by rw [← hx, ← List.drop_eq_getElem_cons hl, List.take_append_drop]
  conv => lhs; rw [e]
  exact List.perm_middle
theorem srt_perm {t : Tb} (h : t.good) : t.srt.Perm (t.m.map (·.2)) := by
  have e : t.m.map (·.2) = (t.m.map (·.1)).map (fun k => (mget t.m k).getD noL) := by
    rw [List.map_map]
    exact List.map_congr_left fun p hp => by simp only [Function.comp_apply, mget_of_mem h.keyed (k := p.1) (v := p.2) hp, Option.getD_some]
  rw [e]
  exact (srtK_perm t.m).map _
theorem take_perm {t : Tb} (h : t.good) (p : Ls → Bool) : ((t.take p).2 ++ (t.take p).1.srt.map (·.job)).Perm (t.srt.map (·.job)) := by
  rw [srt_take h]
  show ((t.srt.filter p).map (·.job) ++ (t.srt.filter (fun x => !p x)).map (·.job)).Perm _
  rw [← List.map_append]
  exact (List.filter_append_perm p t.srt).map _
theorem take_len2 (t : Tb) (p : Ls → Bool) : (t.take p).2.length ≤ t.m.length := by
  have h := List.length_filter_le p t.srt
  rw [Tb.srt_len] at h
  simp only [Tb.take, List.length_map]; exact h
theorem mem_take {t : Tb} (h : t.good) {p : Ls → Bool} {k : Str} {x : Ls} : mget (t.take p).1.m k = some x ↔ mget t.m k = some x ∧ p x = false := by
  have hg := take_good h p
  have e1 : mget (t.take p).1.m k = some x ↔ x ∈ (t.take p).1.srt ∧ x.job.key = k := by
    constructor
    · intro hx; have hk := hg.get hx; exact ⟨(mem_srt hg x).2 (by rw [hk]; exact hx), hk⟩
    · rintro ⟨h1, rfl⟩; exact (mem_srt hg x).1 h1
  have e2 : mget t.m k = some x ↔ x ∈ t.srt ∧ x.job.key = k := by
    constructor
    · intro hx; have hk := h.get hx; exact ⟨(mem_srt h x).2 (by rw [hk]; exact hx), hk⟩
    · rintro ⟨h1, rfl⟩; exact (mem_srt h x).1 h1
  rw [e1, e2, srt_take h, List.mem_filter]
  simp only [Bool.not_eq_true']
  constructor
  · rintro ⟨⟨a, b⟩, c⟩; exact ⟨⟨a, c⟩, b⟩
  · rintro ⟨⟨a, c⟩, b⟩; exact ⟨⟨a, b⟩, c⟩
/-! ### What holds behind i calls -/
structure Sc.In (s : Sc) (n : Int) (i : Nat) : Prop where
  age : 1 ≤ s.age ∧ s.age ≤ 1000000
  q : QOk s.age s.n s.R
  n0 : 0 ≤ s.n
  n1 : s.n ≤ 2000 * i
  good : s.t.good
  ttl : s.t.ttl = n
  e0 : 0 ≤ s.t.epoch
  e1 : s.t.epoch ≤ i
  keyed : Keyed1 s.rows
  names : ∀ p ∈ s.rows, nameE p.1 = 0
  ok : ∀ j ∈ s.jobs, validB j = true
  len : ∀ j ∈ s.jobs, j.key.length ≤ maxLen
  th : s.th.Perm (s.jobs.map fun j => (j.key, true))
  nd : Keyed1 s.th
  wk : ∀ p ∈ s.t.m, (mget s.rows p.2.worker).isSome = true
  cnt : s.jobs.length ≤ i
theorem Sc.In.lens {s : Sc} {n : Int} {i : Nat} (h : s.In n i) : s.R.length ≤ i ∧ (s.rows.flatMap (·.2)).length ≤ i ∧ s.t.m.length ≤ i := by
  have := h.cnt
  simp only [Sc.jobs, List.length_append, List.length_map, Tb.srt_len] at this
  omega
theorem Sc.In.row_len {s : Sc} {n : Int} {i : Nat} (h : s.In n i) (w : Str) : (s.row w).length ≤ i := by
  have h1 := (rows_flat s.rows w).length_eq
  have h2 := h.lens.2.1
  rw [List.length_append] at h1
  rw [Sc.row]; omega
theorem Sc.In.qk {s : Sc} {n : Int} {i : Nat} (h : s.In n i) (hi : i ≤ 490) : s.Qk 10000 := by
  have h1 := h.n1; have h2 := h.lens.1; have h0 := h.n0
  exact ⟨h.age, h.q, h0, by omega, by omega⟩
theorem Sc.In.qk' {s s' : Sc} {n : Int} {i k : Nat} (h : s.In n i) (hi : i ≤ 490) (h1 : s'.age = s.age) (h2 : s'.n = s.n) (h3 : s'.R = s.R) (hk : k ≤ 10000) : s'.Qk k := ((h.qk hi).of h1 h2 h3).mono hk
theorem Sc.In.tok {s : Sc} {n : Int} {i : Nat} (h : s.In n i) (h1 : 1 ≤ n) (h2 : n ≤ 1000000) (hi : i ≤ 490) : s.t.ok := by
  have a := h.ttl; have b := h.e0; have c := h.e1
  refine ⟨?_, ?_, ?_, ?_⟩ <;> omega
theorem Sc.In.fits {s : Sc} {n : Int} {i : Nat} (h : s.In n i) (hi : i ≤ 490) : s.t.fits := ⟨by have := h.lens.2.2; omega, h.good.len⟩
theorem Sc.In.rok {s : Sc} {n : Int} {i : Nat} (h : s.In n i) (h1 : 1 ≤ n) (h2 : n ≤ 1000000) (hi : i ≤ 490) : s.t.ref.ok := by
  have a := h.ttl; have b := h.e0; have c := h.e1; have d := h.lens.2.2
  refine ⟨?_, ?_, ?_, ?_, ?_⟩ <;> simp only [Tb.ref, Tb.srt_len] <;> omega
theorem Sc.In.up {s : Sc} {n : Int} {i j : Nat} (h : s.In n i) (hij : i ≤ j) : s.In n j :=
  ⟨h.age, h.q, h.n0, by have := h.n1; omega, h.good, h.ttl, h.e0, by have := h.e1; omega, h.keyed, h.names, h.ok, h.len, h.th, h.nd, h.wk, by have := h.cnt; omega⟩
/-- Jobs go from place to place. -/
theorem Sc.In.move {s s' : Sc} {n : Int} {i : Nat} (h : s.In n i) (hj : s'.jobs.Perm s.jobs) (ha : s'.age = s.age) (hq : QOk s'.age s'.n s'.R) (h0 : 0 ≤ s'.n) (h1 : s'.n ≤ s.n + 2000) (hg : s'.t.good) (ht : s'.t.ttl = n) (he0 : 0 ≤ s'.t.epoch) (he1 : s'.t.epoch ≤ s.t.epoch + 1)
    (hk : Keyed1 s'.rows) (hn : ∀ p ∈ s'.rows, nameE p.1 = 0) (hth : s'.th = s.th) (hw : ∀ p ∈ s'.t.m, (mget s'.rows p.2.worker).isSome = true) : s'.In n (i + 1) :=
  ⟨by rw [ha]; exact h.age, hq, h0, by have := h.n1; omega, hg, ht, he0, by have := h.e1; omega, hk, hn, fun j hm => h.ok j (hj.mem_iff.1 hm), fun j hm => h.len j (hj.mem_iff.1 hm), by rw [hth]; exact h.th.trans (hj.map _).symm, by rw [hth]; exact h.nd, hw, by rw [hj.length_eq]; have := h.cnt; omega⟩
/-- What is there, by its keys. -/
theorem Sc.In.has {s : Sc} {n : Int} {i : Nat} (h : s.In n i) (k : Str) : (mget s.th k).getD false = true ↔ ∃ j ∈ s.jobs, j.key = k := by
  constructor
  · intro hk
    cases hm : mget s.th k with
    | none => rw [hm] at hk; cases hk
    | some b =>
      have := h.th.mem_iff.1 (mem_of_mget hm)
      obtain ⟨j, hj, he⟩ := List.mem_map.1 this
      cases he; exact ⟨j, hj, rfl⟩
  · rintro ⟨j, hj, rfl⟩
    have := h.th.mem_iff.2 (List.mem_map.2 ⟨j, hj, rfl⟩)
    rw [mget_of_mem h.nd this]; rfl
theorem Sc.In.keys {s : Sc} {n : Int} {i : Nat} (h : s.In n i) : (s.jobs.map (·.key)).Nodup := by
  have h1 := (h.th.map (fun p : Str × Bool => p.1)).nodup_iff.1 h.nd
  rw [List.map_map] at h1; exact h1
theorem Sc.In.th_len {s : Sc} {n : Int} {i : Nat} (h : s.In n i) : s.th.length = s.jobs.length := by rw [h.th.length_eq, List.length_map]
theorem waiting_len (s : Sc) : s.waiting + s.t.m.length = s.jobs.length := by
  simp only [Sc.waiting, Sc.jobs, List.length_append, List.length_map, Tb.srt_len, List.length_flatMap]; omega
theorem in_new {age n : Int} (h1 : 1 ≤ age) (h2 : age ≤ 1000000) : (⟨age, 0, [], ⟨n, 0, []⟩, [], []⟩ : Sc).In n 0 := by
  have hs : (⟨n, 0, []⟩ : Tb).srt = [] := by simp [Tb.srt, srtK]
  have hj : (⟨age, 0, [], ⟨n, 0, []⟩, [], []⟩ : Sc).jobs = [] := by simp [Sc.jobs, hs]
  refine ⟨⟨h1, h2⟩, ⟨by simp, List.Pairwise.nil⟩, by simp, by simp, ⟨keyed1_nil, by simp, by simp, by simp⟩, rfl, by simp, by simp, keyed1_nil, by simp, ?_, ?_, ?_, keyed1_nil, by simp, ?_⟩
  · rw [hj]; simp
  · rw [hj]; simp
  · rw [hj]; exact List.Perm.refl _
  · rw [hj]; simp
theorem add_jobs {s : Sc} {j : Jb} (h : validB j = true) : (s.push j).jobs.Perm (j :: s.jobs) := by
  obtain ⟨_, b, c, _⟩ := push_rest s j
  rw [Sc.jobs, push_R h, b, c, Sc.jobs, List.append_assoc]
  exact List.perm_middle
theorem in_add {s : Sc} {n : Int} {i : Nat} (h : s.In n i) (hi : i ≤ 490) (j : Jb) (hl : j.key.length ≤ maxLen) : (s.add j).1.In n (i + 1) := by
  unfold Sc.add
  split
  · exact h.up (by omega)
  · rename_i hno
    split
    · rename_i hv
      have hj := add_jobs (s := s) hv
      obtain ⟨a, b, c, d⟩ := push_rest s j
      have hq := (h.qk hi).push (k := 9999) j
      have hn := again_n [j] s
      have hmg : mget s.th j.key = none := by
        cases hm : mget s.th j.key with
        | none => rfl
        | some b =>
          have := h.th.mem_iff.1 (mem_of_mget hm)
          obtain ⟨j', _, he⟩ := List.mem_map.1 this
          obtain ⟨_, rfl⟩ := Prod.mk.inj he
          rw [hm] at hno; exact absurd rfl hno
      have hj' : ({ s.push j with th := mput s.th j.key true } : Sc).jobs = (s.push j).jobs := rfl
      refine ⟨hq.age, hq.q, hq.n0, ?_, by rw [b]; exact h.good, by rw [b]; exact h.ttl, by rw [b]; exact h.e0, by have := h.e1; rw [b]; omega, by rw [c]; exact h.keyed, by rw [c]; exact h.names, ?_, ?_, ?_, h.nd.put _ _, by rw [b, c]; exact h.wk, ?_⟩
      · have h3 := h.n1
        have : (s.push j).n ≤ s.n + 1 := hn.2
        show (s.push j).n ≤ _
        omega
      · rw [hj']; intro x hx
        rcases List.mem_cons.1 (hj.mem_iff.1 hx) with rfl | hx
        · exact hv
        · exact h.ok x hx
      · rw [hj']; intro x hx
        rcases List.mem_cons.1 (hj.mem_iff.1 hx) with rfl | hx
        · exact hl
        · exact h.len x hx
      · rw [hj']
        refine (mput_perm j.key true s.th).trans ?_
        rw [mdel_none hmg]
        exact ((h.th.cons (j.key, true)).trans (hj.map fun j : Jb => (j.key, true)).symm)
      · rw [hj', hj.length_eq, List.length_cons]; have := h.cnt; omega
    · exact h.up (by omega)
theorem in_join {s : Sc} {n : Int} {i : Nat} (h : s.In n i) (w : Str) : (s.join w).1.In n (i + 1) := by
  unfold Sc.join
  split
  · rename_i hw
    split
    · exact h.up (by omega)
    · rename_i hno
      have hm : mget s.rows w = none := by simpa using hno
      have hf : (mput s.rows w []).flatMap (·.2) |>.Perm (s.rows.flatMap (·.2)) := by
        have := put_flat s.rows w []
        rwa [mdel_none hm, List.nil_append] at this
      refine h.move (s' := { s with rows := mput s.rows w [] }) ?_ rfl h.q h.n0 (by simp only; omega) h.good h.ttl h.e0 (by simp only; omega) (h.keyed.put _ _) (fun p hp => ?_) rfl (fun p hp => mput_has (h.wk p hp))
      · exact ((hf.append_right _).append_left _)
      · have := (mput_perm w [] s.rows).mem_iff.1 hp
        rcases List.mem_cons.1 this with rfl | hp
        · exact hw
        · exact h.names p ((mdel_sub _ _).subset hp)
  · exact h.up (by omega)
theorem back_jobs {s : Sc} (hg : s.t.good) (hv : ∀ j ∈ s.t.srt.map (·.job), validB j = true) (p : Ls → Bool) : (s.back p).jobs.Perm s.jobs := by
  have hp := take_perm hg p
  have hv2 : ∀ j ∈ (s.t.take p).2, validB j = true := fun j hj => hv j (hp.mem_iff.1 (List.mem_append_left _ hj))
  obtain ⟨_, b, c, _⟩ := again_rest (s.t.take p).2 { s with t := (s.t.take p).1 }
  rw [Sc.jobs, Sc.back, again_R hv2, b, c, Sc.jobs]
  simp only
  rw [List.append_assoc]
  refine List.Perm.append_left _ ?_
  refine (List.perm_append_comm_assoc ..).trans ?_
  exact List.Perm.append_left _ hp
theorem in_tick {s : Sc} {n : Int} {i : Nat} (h : s.In n i) (hi : i ≤ 490) (now : Int) : (s.tick now).1.In n (i + 1) := by
  have hb := back_jobs h.good (fun j hj => h.ok j (by simp only [Sc.jobs, List.mem_append]; exact .inr (.inr hj))) (isOver now)
  obtain ⟨a, b, c, d⟩ := again_rest (s.t.take (isOver now)).2 { s with t := (s.t.take (isOver now)).1 }
  have hl := take_len2 s.t (isOver now)
  have hl2 := h.lens.2.2
  have hq : (s.back (isOver now)).Qk 0 := Sc.Qk.again (l := (s.t.take (isOver now)).2) (s := { s with t := (s.t.take (isOver now)).1 }) (h.qk' hi rfl rfl rfl (by omega))
  have hn := again_n (s.t.take (isOver now)).2 { s with t := (s.t.take (isOver now)).1 }
  refine h.move (s' := s.back (isOver now)) hb a hq.q hq.n0 (by simp only at hn; unfold Sc.back; omega) (by unfold Sc.back; rw [b]; exact take_good h.good _) (by unfold Sc.back; rw [b]; exact h.ttl) (by unfold Sc.back; rw [b]; exact h.e0) (by unfold Sc.back; rw [b]; show s.t.epoch ≤ _; omega) (by unfold Sc.back; rw [c]; exact h.keyed) (by unfold Sc.back; rw [c]; exact h.names) (by unfold Sc.back; rw [d]) ?_
  unfold Sc.back; rw [b, c]
  exact fun p hp => h.wk p ((delAll_sub _ _).subset hp)
theorem in_leave {s : Sc} {n : Int} {i : Nat} (h : s.In n i) (hi : i ≤ 490) (w : Str) : (s.leave w).1.In n (i + 1) := by
  unfold Sc.leave
  cases hw : mget s.rows w with
  | none => exact h.up (by omega)
  | some l =>
    simp only
    have hf := rows_flat s.rows w
    rw [hw, Option.getD_some] at hf
    have hv : ∀ j ∈ l, validB j = true := fun j hj => h.ok j (by simp only [Sc.jobs, List.mem_append]; exact .inr (.inl (hf.mem_iff.2 (List.mem_append_left _ hj))))
    have hl0 := hf.length_eq
    rw [List.length_append] at hl0
    have hl1 := h.lens.2.1
    obtain ⟨a, b, c, d⟩ := again_rest l { s with rows := mdel s.rows w }
    have hq1 : (({ s with rows := mdel s.rows w } : Sc).again l).Qk 5000 := Sc.Qk.again (h.qk' hi rfl rfl rfl (by omega))
    have hn1 := again_n l { s with rows := mdel s.rows w }
    have hR1 := again_R (s := { s with rows := mdel s.rows w }) hv
    generalize hs1 : ({ s with rows := mdel s.rows w } : Sc).again l = s1 at a b c d hq1 hn1 hR1 ⊢
    simp only at a b c d hn1 hR1
    have hj1 : s1.jobs.Perm s.jobs := by
      rw [Sc.jobs, hR1, b, c, Sc.jobs, List.append_assoc]
      refine List.Perm.append_left _ ?_
      rw [← List.append_assoc]
      exact hf.symm.append_right _
    have hb := back_jobs (s := s1) (by rw [b]; exact h.good) (fun j hj => h.ok j (hj1.mem_iff.1 (by simp only [Sc.jobs, List.mem_append]; exact .inr (.inr hj)))) (isOf w)
    obtain ⟨a', b', c', d'⟩ := again_rest (s1.t.take (isOf w)).2 { s1 with t := (s1.t.take (isOf w)).1 }
    simp only at a' b' c' d'
    have hl := take_len2 s1.t (isOf w)
    have hl2 : s1.t.m.length ≤ i := by rw [b]; exact h.lens.2.2
    have hq : (s1.back (isOf w)).Qk 0 := Sc.Qk.again (l := (s1.t.take (isOf w)).2) (s := { s1 with t := (s1.t.take (isOf w)).1 }) (Sc.Qk.mono (Sc.Qk.of hq1 rfl rfl rfl) (by omega) : ({ s1 with t := (s1.t.take (isOf w)).1 } : Sc).Qk ((s1.t.take (isOf w)).2.length + 0))
    have hn := again_n (s1.t.take (isOf w)).2 { s1 with t := (s1.t.take (isOf w)).1 }
    simp only at hn
    refine h.move (s' := s1.back (isOf w)) (hb.trans hj1) (by unfold Sc.back; rw [a', a]) hq.q hq.n0 (by unfold Sc.back; omega) ?_ ?_ ?_ ?_ ?_ ?_ (by unfold Sc.back; rw [d', d]) ?_
    · unfold Sc.back; rw [b', b]; exact take_good h.good _
    · unfold Sc.back; rw [b', b]; exact h.ttl
    · unfold Sc.back; rw [b', b]; exact h.e0
    · unfold Sc.back; rw [b', b]; show s.t.epoch ≤ _; omega
    · unfold Sc.back; rw [c', c]; exact h.keyed.del _
    · unfold Sc.back; rw [c', c]; exact fun p hp => h.names p ((mdel_sub _ _).subset hp)
    · unfold Sc.back; rw [b', c', b, c]
      intro p hp
      have hg := take_good h.good (isOf w)
      have hm := (mem_take h.good).1 (mget_of_mem hg.keyed (k := p.1) (v := p.2) hp)
      have hne : p.2.worker ≠ w := by simpa using hm.2
      rw [mget_del h.keyed, if_neg hne]
      exact h.wk p (mem_of_mget hm.1)
theorem in_finish {s : Sc} {n : Int} {i : Nat} (h : s.In n i) (k : Str) (e : Int) : (s.finish k e).1.In n (i + 1) ∧ ((s.finish k e).2 = 0 → s.jobs.length = (s.finish k e).1.jobs.length + 1) := by
  unfold Sc.finish
  split
  · rename_i h0
    unfold Tb.finish at h0 ⊢
    split at h0
    · rename_i hf
      rw [if_pos hf]
      simp only
      unfold Tb.find at hf
      cases hm : mget s.t.m k with
      | none => rw [hm] at hf; simp at hf
      | some x =>
        obtain rfl := h.good.get hm
        have hsrt := srt_del h.good s.t.ttl s.t.epoch hm
        have hgx := (has_ref h.good x.job.key).2 x hm
        have hp : s.t.srt.Perm (x :: s.t.srt.eraseIdx (s.t.ref.at x.job.key)) := by
          exact erase_perm hgx
        have hj : s.jobs.Perm (x.job :: ({ s with t := { s.t with m := mdel s.t.m x.job.key }, th := mdel s.th x.job.key } : Sc).jobs) := by
          rw [Sc.jobs, Sc.jobs]
          simp only
          rw [hsrt]
          refine ((((hp.map (·.job)).append_left _).append_left _)).trans ?_
          rw [List.map_cons, ← List.append_assoc, ← List.append_assoc]
          exact List.perm_middle
        have hsub : ∀ j ∈ ({ s with t := { s.t with m := mdel s.t.m x.job.key }, th := mdel s.th x.job.key } : Sc).jobs, j ∈ s.jobs := fun j hj' => hj.mem_iff.2 (List.mem_cons_of_mem _ hj')
        have hthm : mget s.th x.job.key = some true := mget_of_mem h.nd (h.th.mem_iff.2 (List.mem_map.2 ⟨x.job, hj.mem_iff.2 (List.mem_cons_self ..), rfl⟩))
        refine ⟨⟨h.age, h.q, h.n0, by have := h.n1; simp only; omega, sub_good h.good _ _ (mdel_sub _ _), h.ttl, h.e0, by have := h.e1; simp only; omega, h.keyed, h.names, fun j hj' => h.ok j (hsub j hj'), fun j hj' => h.len j (hsub j hj'), ?_, h.nd.del _, fun p hp => h.wk p ((mdel_sub _ _).subset hp), ?_⟩, fun _ => ?_⟩
        · have h1 := (mget_perm hthm).symm.trans (h.th.trans (hj.map fun j : Jb => (j.key, true)))
          rw [List.map_cons] at h1
          exact (List.perm_cons _).1 h1
        · exact Nat.le_trans (Nat.le_succ _) (Nat.le_trans (Nat.le_of_eq hj.length_eq.symm) (Nat.le_trans h.cnt (Nat.le_succ _)))
        · have := hj.length_eq; rw [List.length_cons] at this; exact this
    · rename_i hf; exact absurd h0 hf
  · rename_i h0
    exact ⟨h.up (by omega), fun hc => absurd hc h0⟩
end Go.Proofs.Ytfnpjmlpiedgdaa
