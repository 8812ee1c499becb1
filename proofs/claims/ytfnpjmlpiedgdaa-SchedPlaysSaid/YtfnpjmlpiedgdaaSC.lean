/-
  Next, plain.
-/
import Derived.Test.YtfnpjmlpiedgdaaSB
namespace Go.Proofs.Ytfnpjmlpiedgdaa
open Go.Eng

/-! ### What goes first, and where the most wait -/
theorem It.lt_self (a : It Jb) : a.lt a = false := by rw [It.not_iff]; omega
theorem min_ex : ∀ {R : List (It Jb)}, R ≠ [] → ∃ r, IsMin r R
  | [], h => absurd rfl h
  | [a], _ => ⟨a, by simp, fun b hb => by rw [List.mem_singleton.1 hb]; exact It.lt_self a⟩
  | a :: b :: R, _ => by
    obtain ⟨r, hr, hm⟩ := min_ex (R := b :: R) (by simp)
    cases hl : a.lt r with
    | true =>
      refine ⟨a, by simp, fun c hc => ?_⟩
      rcases List.mem_cons.1 hc with rfl | hc
      · exact It.lt_self _
      · exact It.not_trans (hm c hc) (It.not_of_lt hl)
    | false =>
      refine ⟨r, List.mem_cons_of_mem _ hr, fun c hc => ?_⟩
      rcases List.mem_cons.1 hc with rfl | hc
      · exact hl
      · exact hm c hc
theorem the_isMin {R : List (It Jb)} (hne : R ≠ []) : IsMin (theMin R) R := by
  have h := min_ex hne
  rw [theMin, dif_pos h]
  exact h.choose_spec
theorem rest_cons {R : List (It Jb)} {r : It Jb} (hr : r ∈ R) (hd : R.Pairwise fun x y => x.no ≠ y.no) : R.Perm (r :: rest R r) := by
  obtain ⟨i, hi⟩ := List.mem_iff_getElem?.1 hr
  have h := erase_perm hi
  exact h.trans ((rest_perm h.symm hd).cons r)
theorem best_ex : ∀ {l : List (Str × List Jb)}, l ≠ [] → ∃ p ∈ l, ∀ q ∈ l, q.2.length < p.2.length ∨ (q.2.length = p.2.length ∧ p.1 ≤ q.1)
  | [], h => absurd rfl h
  | [a], _ => ⟨a, by simp, fun q hq => by rw [List.mem_singleton.1 hq]; exact .inr ⟨rfl, List.le_refl _⟩⟩
  | a :: b :: l, _ => by
    obtain ⟨p, hp, hm⟩ := best_ex (l := b :: l) (by simp)
    by_cases hc : p.2.length < a.2.length ∨ (p.2.length = a.2.length ∧ a.1 ≤ p.1)
    · refine ⟨a, by simp, fun q hq => ?_⟩
      rcases List.mem_cons.1 hq with rfl | hq
      · exact .inr ⟨rfl, List.le_refl _⟩
      · rcases hm q hq with h | ⟨h1, h2⟩ <;> rcases hc with h3 | ⟨h3, h4⟩
        · exact .inl (by omega)
        · exact .inl (by omega)
        · exact .inl (by omega)
        · exact .inr ⟨by omega, List.le_trans h4 h2⟩
    · refine ⟨p, List.mem_cons_of_mem _ hp, fun q hq => ?_⟩
      rcases List.mem_cons.1 hq with rfl | hq
      · rcases Nat.lt_trichotomy q.2.length p.2.length with h | h | h
        · exact .inl h
        · refine .inr ⟨h, ?_⟩
          rcases List.le_total p.1 q.1 with h1 | h1
          · exact h1
          · exact absurd (.inr ⟨h.symm, h1⟩) hc
        · exact absurd (.inl h) hc
      · exact hm q hq
theorem vic_ex {rows : List (Str × List Jb)} (hk : Keyed1 rows) : ∃ v, IsVic rows v := by
  by_cases hn : rows = []
  · exact ⟨[], .inl ⟨rfl, by simp [hn]⟩⟩
  · obtain ⟨p, hp, hm⟩ := best_ex hn
    by_cases h0 : p.2 = []
    · refine ⟨[], .inl ⟨rfl, fun q hq => ?_⟩⟩
      have := hm q hq
      rw [h0, List.length_nil] at this
      exact List.eq_nil_of_length_eq_zero (by omega)
    · exact ⟨p.1, .inr ⟨p.2, mget_of_mem hk (k := p.1) (v := p.2) hp, h0, hm⟩⟩
theorem vic_is {rows : List (Str × List Jb)} (hk : Keyed1 rows) : IsVic rows (vic rows) := by
  have h := vic_ex hk
  rw [vic, dif_pos h]
  exact h.choose_spec
/-! ### Jobs that wait go to a row -/
structure Sc.Like (s s' : Sc) : Prop where
  age : s'.age = s.age
  n : s'.n = s.n
  t : s'.t = s.t
  th : s'.th = s.th
  keys : s'.rows.map (·.1) = s.rows.map (·.1)
  jobs : (s'.R.map (·.v) ++ s'.rows.flatMap (·.2)).Perm (s.R.map (·.v) ++ s.rows.flatMap (·.2))
  q : ∀ k, s.Qk k → s'.Qk k
theorem Sc.Like.refl (s : Sc) : s.Like s := ⟨rfl, rfl, rfl, rfl, rfl, List.Perm.refl _, fun _ h => h⟩
theorem Sc.Like.trans {a b c : Sc} (h : a.Like b) (h' : b.Like c) : a.Like c := ⟨h'.age.trans h.age, h'.n.trans h.n, h'.t.trans h.t, h'.th.trans h.th, h'.keys.trans h.keys, h'.jobs.trans h.jobs, fun k hk => h'.q k (h.q k hk)⟩
theorem mget_some_iff {β : Type} {l : List (Str × β)} {k : Str} : (mget l k).isSome = true ↔ k ∈ l.map (·.1) := by
  rw [← Option.ne_none_iff_isSome, ne_eq, mget_none, Decidable.not_not]
theorem Sc.Like.has {s s' : Sc} (h : s.Like s') {w : Str} : (mget s'.rows w).isSome = true ↔ (mget s.rows w).isSome = true := by rw [mget_some_iff, mget_some_iff, h.keys]
theorem put_keys {β : Type} {l : List (Str × β)} {k : Str} {v : β} (h : (mget l k).isSome = true) : (mput l k v).map (·.1) = l.map (·.1) := by rw [mput_keys, if_pos (mget_some_iff.1 h)]
theorem pop_none {s : Sc} (h : s.R = []) : s.pop = (s, none) := if_pos h
theorem pop_some {s : Sc} (h : s.R ≠ []) : s.pop = ({ s with R := rest s.R (theMin s.R) }, some (theMin s.R).v) := if_neg h
theorem Sc.Qk.rest {s : Sc} {k : Nat} (h : s.Qk k) (r : It Jb) : ({ s with R := _root_.Go.Proofs.Ytfnpjmlpiedgdaa.rest s.R r } : Sc).Qk k := ⟨h.age, h.q.rest r, h.n0, h.n1, by have := h.rl; have h2 := List.length_filter_le (fun x => decide (x.no ≠ r.no)) s.R; simp only [_root_.Go.Proofs.Ytfnpjmlpiedgdaa.rest]; omega⟩
theorem take1_none {s : Sc} {w : Str} (h : s.R = []) : s.take1 w = s := by simp only [Sc.take1, pop_none h]
theorem take1_some {s : Sc} {w : Str} (h : s.R ≠ []) : s.take1 w = { s with R := rest s.R (theMin s.R), rows := mput s.rows w (s.row w ++ [(theMin s.R).v]) } := by simp only [Sc.take1, pop_some h]
theorem rows_add {s : Sc} {w : Str} (l : List Jb) (j : Jb) (hj : l = s.row w ++ [j]) : ((mput s.rows w l).flatMap (·.2)).Perm (j :: s.rows.flatMap (·.2)) := by
  subst hj
  refine (put_flat s.rows w _).trans ?_
  refine (List.perm_append_comm.append_right _).trans ?_
  exact (rows_flat s.rows w).symm.cons j
theorem take1_like {s : Sc} {k : Nat} (h : s.Qk k) {w : Str} (hw : (mget s.rows w).isSome = true) : s.Like (s.take1 w) := by
  by_cases hR : s.R = []
  · rw [take1_none hR]; exact .refl s
  · rw [take1_some hR]
    refine ⟨rfl, rfl, rfl, rfl, put_keys hw, ?_, fun k hk => (hk.rest _).of rfl rfl rfl⟩
    simp only
    have h1 := (rest_cons (the_isMin hR).1 h.q.dist).map (·.v)
    have h2 := rows_add (s := s) (w := w) (s.row w ++ [(theMin s.R).v]) (theMin s.R).v rfl
    refine (h2.append_left _).trans (List.perm_middle.trans ?_)
    exact (h1.symm.append_right _)
theorem fetch_like {s : Sc} {k : Nat} (h : s.Qk k) {w : Str} (hw : (mget s.rows w).isSome = true) : s.Like (s.fetch w) := by
  have h1 := take1_like h hw
  have h2 := take1_like (h1.q k h) (h1.has.2 hw)
  have h3 := take1_like (h2.q k (h1.q k h)) (h2.has.2 (h1.has.2 hw))
  exact h1.trans (h2.trans h3)
theorem first_like {s : Sc} {k : Nat} (h : s.Qk k) {w : Str} (hw : (mget s.rows w).isSome = true) : s.Like (s.first w) := by
  unfold Sc.first
  split
  · exact fetch_like h hw
  · exact .refl s
theorem row_put {s : Sc} {w u : Str} {l : List Jb} : ({ s with rows := mput s.rows w l } : Sc).row u = if u = w then l else s.row u := by
  simp only [Sc.row, mget_put]; split <;> rfl
theorem row_take1 {s : Sc} {w : Str} (h : s.R ≠ []) : (s.take1 w).row w ≠ [] := by
  rw [take1_some h]
  show (mget (mput s.rows w (s.row w ++ [(theMin s.R).v])) w).getD [] ≠ []
  rw [mget_put, if_pos rfl]; simp
theorem row_grow {s : Sc} {w : Str} (h : s.row w ≠ []) : (s.take1 w).row w ≠ [] := by
  by_cases hR : s.R = []
  · rw [take1_none hR]; exact h
  · exact row_take1 hR
theorem row_fetch {s : Sc} {w : Str} (h : s.R ≠ []) : (s.fetch w).row w ≠ [] := row_grow (row_grow (row_take1 h))
/-- What is picked. -/
structure Sc.Picks (s s' : Sc) (j : Jb) : Prop where
  age : s'.age = s.age
  n : s'.n = s.n
  t : s'.t = s.t
  th : s'.th = s.th
  keys : s'.rows.map (·.1) = s.rows.map (·.1)
  jobs : s.jobs.Perm (j :: s'.jobs)
  q : ∀ k, s.Qk k → s'.Qk k
theorem Sc.Like.jobs2 {s s' : Sc} (h : s.Like s') : s'.jobs.Perm s.jobs := by
  rw [Sc.jobs, Sc.jobs, ← List.append_assoc, ← List.append_assoc, h.t]
  exact h.jobs.append_right _
theorem rows_cut {s : Sc} {w : Str} {l : List Jb} {j : Jb} (hw : mget s.rows w = some (j :: l)) : (s.rows.flatMap (·.2)).Perm (j :: (mput s.rows w l).flatMap (·.2)) := by
  have h1 := rows_flat s.rows w
  rw [hw, Option.getD_some] at h1
  exact h1.trans ((put_flat s.rows w l).symm.cons j)
theorem rows_cut2 {s : Sc} {w : Str} {l : List Jb} {j : Jb} (hw : mget s.rows w = some (l ++ [j])) : (s.rows.flatMap (·.2)).Perm (j :: (mput s.rows w l).flatMap (·.2)) := by
  have h1 := rows_flat s.rows w
  rw [hw, Option.getD_some] at h1
  exact (h1.trans (List.perm_append_comm.append_right _)).trans ((put_flat s.rows w l).symm.cons j)
theorem jobs_cut {s : Sc} {rows : List (Str × List Jb)} {j : Jb} (h : (s.rows.flatMap (·.2)).Perm (j :: rows.flatMap (·.2))) : s.jobs.Perm (j :: ({ s with rows := rows } : Sc).jobs) := by
  rw [Sc.jobs, Sc.jobs]
  simp only
  exact ((h.append_right _).append_left _).trans List.perm_middle
theorem last_snoc {l : List Jb} {j : Jb} (h : l.getLast? = some j) : l = l.dropLast ++ [j] := by
  have hn : l ≠ [] := fun e => by rw [e] at h; cases h
  have h1 : l.getLast hn = j := by rw [List.getLast?_eq_some_getLast hn] at h; exact Option.some.inj h
  have h2 := List.dropLast_concat_getLast hn
  rw [h1] at h2; exact h2.symm
theorem row_some {s : Sc} {w : Str} (h : s.row w ≠ []) : mget s.rows w = some (s.row w) := by
  unfold Sc.row at h ⊢
  cases hm : mget s.rows w with
  | none => rw [hm] at h; exact absurd rfl h
  | some l => rfl
theorem pick_cases {s : Sc} {k : Nat} (h : s.Qk k) (hk : Keyed1 s.rows) {w : Str} (hw : (mget s.rows w).isSome = true) :
    (∃ j, (s.pick w).2 = some j ∧ s.Picks (s.pick w).1 j) ∨ ((s.pick w).2 = none ∧ (s.pick w).1 = s.first w ∧ s.R = [] ∧ ∀ p ∈ s.rows, p.2 = []) := by
  have hl := first_like h hw
  have hj := hl.jobs2
  have pk : ∀ {u : Str} {l : List Jb} {j : Jb}, (mget (s.first w).rows u).isSome = true → ((s.first w).rows.flatMap (·.2)).Perm (j :: (mput (s.first w).rows u l).flatMap (·.2)) → s.Picks { s.first w with rows := mput (s.first w).rows u l } j := fun hu hp =>
    ⟨hl.age, hl.n, hl.t, hl.th, (put_keys hu).trans hl.keys, hj.symm.trans (jobs_cut hp), fun k hk => (hl.q k hk).of rfl rfl rfl⟩
  unfold Sc.pick
  cases hr : (s.first w).row w with
  | cons j l =>
    have hm := row_some (s := s.first w) (w := w) (by rw [hr]; simp)
    rw [hr] at hm
    exact .inl ⟨j, rfl, pk (by rw [hm]; rfl) (rows_cut hm)⟩
  | nil =>
    simp only
    cases hv : ((s.first w).row (vic (s.first w).rows)).getLast? with
    | some j =>
      have hs := last_snoc hv
      have hm := row_some (s := s.first w) (w := vic (s.first w).rows) (fun e => by rw [e] at hv; cases hv)
      have hm2 := hm
      rw [hs] at hm2
      exact .inl ⟨j, rfl, pk (by rw [hm]; rfl) (rows_cut2 hm2)⟩
    | none =>
      refine .inr ⟨rfl, rfl, ?_⟩
      have hR : s.R = [] := by
        apply Decidable.not_not.1
        intro hR
        by_cases h0 : s.row w = []
        · have e : s.first w = s.fetch w := if_pos h0
          rw [e] at hr; exact row_fetch hR hr
        · have e : s.first w = s := if_neg h0
          rw [e] at hr; exact h0 hr
      have hs : s.first w = s := by
        unfold Sc.first
        split
        · rw [Sc.fetch, take1_none hR, take1_none hR, take1_none hR]
        · rfl
      rw [hs] at hv
      have hv0 : s.row (vic s.rows) = [] := List.getLast?_eq_none_iff.1 hv
      refine ⟨hR, fun p hp => ?_⟩
      rcases vic_is hk with ⟨_, h2⟩ | ⟨l, h2, h3, _⟩
      · exact h2 p hp
      · rw [Sc.row, h2] at hv0; exact absurd hv0 h3
/-! ### Next -/
theorem grant_new {t : Tb} {j : Jb} {w : Str} {now : Int} (hw : nameE w = 0) (hn : timeB now = true) (hk : mget t.m j.key = none) : t.grant j w now = ({ t with epoch := t.epoch + 1, m := mput t.m j.key (t.lease j w now) }, t.lease j w now, 0) := by
  simp [Tb.grant, hw, hn, hk]
/-- What Next does: nothing, or it grants a lease on a job that waited. -/
structure Sc.Grants (s s' : Sc) (w : Str) (now : Int) (x : Ls) : Prop where
  worker : x.worker = w
  job : s.jobs.Perm s'.jobs
  mem : x.job ∈ s.jobs
  has : mget s'.t.m x.job.key = some x
  tab : ∃ s1 : Sc, s.Picks s1 x.job ∧ s' = { s1 with t := { s.t with epoch := s.t.epoch + 1, m := mput s.t.m x.job.key x } } ∧ mget s.t.m x.job.key = none
theorem next_cases {s : Sc} {n : Int} {i : Nat} (h : s.In n i) (hi : i ≤ 490) (w : Str) (now : Int) : (s.next w now).1.In n (i + 1) ∧
    ((∃ x, (s.next w now).2 = (x, 0) ∧ s.Grants (s.next w now).1 w now x) ∨ (∃ e, e ≠ 0 ∧ (s.next w now).2 = (noL, e) ∧ (e = 45 ∨ e = 17 ∨ e = 1) ∧ ((mget s.rows w).isSome = true → timeB now = true → e = 45 ∧ s.R = [] ∧ ∀ p ∈ s.rows, p.2 = []))) := by
  unfold Sc.next
  cases hw : mget s.rows w with
  | none => exact ⟨h.up (by omega), .inr ⟨17, by decide, rfl, by simp, fun h => by cases h⟩⟩
  | some l =>
    have hws : (mget s.rows w).isSome = true := by rw [hw]; rfl
    simp only
    cases ht : timeB now with
    | false => exact ⟨h.up (by omega), .inr ⟨1, by decide, rfl, by simp, fun _ h => by cases h⟩⟩
    | true =>
      simp only [if_true]
      rcases pick_cases (h.qk hi) h.keyed hws with ⟨j, h1, hp⟩ | ⟨h1, h2, h3, h4⟩
      · rw [h1]
        simp only
        have hnw : nameE w = 0 := h.names (w, l) (mem_of_mget hw)
        have hjm : j ∈ s.jobs := hp.jobs.mem_iff.2 (List.mem_cons_self ..)
        have hnd := (hp.jobs.map (·.key)).nodup_iff.1 h.keys
        rw [List.map_cons, List.nodup_cons] at hnd
        have hkn : mget s.t.m j.key = none := by
          cases hm : mget s.t.m j.key with
          | none => rfl
          | some x =>
            have hxk := h.good.get hm
            have hxs := (mem_srt h.good x).2 (by rw [hxk]; exact hm)
            exact absurd (List.mem_map.2 ⟨x.job, by simp only [Sc.jobs, hp.t, List.mem_append]; exact .inr (.inr (List.mem_map.2 ⟨x, hxs, rfl⟩)), hxk⟩) hnd.1
        have hg := grant_new (t := s.t) (j := j) hnw ht hkn
        rw [hp.t, hg]
        simp only
        have hsrt := srt_put h.good s.t.ttl (s.t.epoch + 1) (x := s.t.lease j w now) hkn hnw (h.len j hjm)
        have hjobs : ({ (s.pick w).1 with t := { s.t with epoch := s.t.epoch + 1, m := mput s.t.m j.key (s.t.lease j w now) } } : Sc).jobs.Perm s.jobs := by
          refine List.Perm.trans ?_ hp.jobs.symm
          rw [Sc.jobs, Sc.jobs, hp.t]
          simp only
          rw [show (⟨s.t.ttl, s.t.epoch + 1, mput s.t.m j.key (s.t.lease j w now)⟩ : Tb).srt = _ from hsrt]
          have e1 : ((s.t.srt.take (s.t.ref.at j.key) ++ [s.t.lease j w now] ++ s.t.srt.drop (s.t.ref.at j.key)).map (·.job)).Perm (j :: s.t.srt.map (·.job)) := by
            have h9 : (s.t.srt.take (s.t.ref.at j.key) ++ [s.t.lease j w now] ++ s.t.srt.drop (s.t.ref.at j.key)).Perm (s.t.lease j w now :: s.t.srt) := by
              have := List.perm_middle (l₁ := s.t.srt.take (s.t.ref.at j.key)) (a := s.t.lease j w now) (l₂ := s.t.srt.drop (s.t.ref.at j.key))
              rw [List.take_append_drop] at this
              rw [List.append_assoc]; exact this
            exact h9.map (·.job)
          exact (((e1.append_left _).append_left _).trans ((List.perm_middle.append_left _).trans List.perm_middle))
        have hq := hp.q _ (h.qk hi)
        refine ⟨h.move hjobs hp.age (by have := hq.q; exact this) hq.n0 (by simp only [hp.n]; omega) (put_good h.good _ _ rfl hnw (h.len j hjm)) h.ttl (by have := h.e0; simp only; omega) (by simp only; omega) ?_ ?_ hp.th ?_, .inl ⟨_, rfl, rfl, hjobs.symm, hjm, ?_, (s.pick w).1, hp, rfl, hkn⟩⟩
        · simp only [Keyed1, hp.keys]; exact h.keyed
        · intro p hpm
          have : p.1 ∈ (s.pick w).1.rows.map (·.1) := List.mem_map.2 ⟨p, hpm, rfl⟩
          rw [hp.keys] at this
          obtain ⟨q, hq1, hq2⟩ := List.mem_map.1 this
          rw [← hq2]; exact h.names q hq1
        · intro p hpm
          have hs2 : ∀ u, (mget (s.pick w).1.rows u).isSome = true ↔ (mget s.rows u).isSome = true := fun u => by rw [mget_some_iff, mget_some_iff, hp.keys]
          show (mget (s.pick w).1.rows p.2.worker).isSome = true
          rw [hs2]
          have := (mput_perm j.key (s.t.lease j w now) s.t.m).mem_iff.1 hpm
          rcases List.mem_cons.1 this with rfl | hpm
          · exact hws
          · exact h.wk p ((mdel_sub _ _).subset hpm)
        · show mget (mput s.t.m j.key (s.t.lease j w now)) j.key = _
          rw [mget_put, if_pos rfl]
      · rw [h1]
        simp only
        have hl := first_like (h.qk hi) hws
        refine ⟨?_, .inr ⟨45, by decide, rfl, by simp, fun _ _ => ⟨rfl, h3, h4⟩⟩⟩
        rw [h2]
        have hq := hl.q _ (h.qk hi)
        refine h.move hl.jobs2 hl.age hq.q hq.n0 (by rw [hl.n]; omega) (by rw [hl.t]; exact h.good) (by rw [hl.t]; exact h.ttl) (by rw [hl.t]; exact h.e0) (by rw [hl.t]; omega) ?_ ?_ hl.th ?_
        · simp only [Keyed1, hl.keys]; exact h.keyed
        · intro p hpm
          have : p.1 ∈ (s.first w).rows.map (·.1) := List.mem_map.2 ⟨p, hpm, rfl⟩
          rw [hl.keys] at this
          obtain ⟨q, hq1, hq2⟩ := List.mem_map.1 this
          rw [← hq2]; exact h.names q hq1
        · rw [hl.t]; intro p hpm
          exact hl.has.2 (h.wk p hpm)
end Go.Proofs.Ytfnpjmlpiedgdaa
