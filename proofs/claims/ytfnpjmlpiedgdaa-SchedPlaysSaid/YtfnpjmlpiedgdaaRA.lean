/-
  The reference holds the same.
-/
import Derived.Test.YtfnpjmlpiedgdaaSK
namespace Go.Proofs.Ytfnpjmlpiedgdaa
open Go.Eng

/-! ### The reference holds the same: its queue is of numbers of jobs, its workers go by rising names -/
def cv (jobs : List Jb) (x : It Int) : It Jb := ⟨jobs.getD x.v.toNat noJ, x.rank, x.tm, x.turn, x.no⟩
def UpW (ws : List (Str × Sl Jb)) : Prop := ws.Pairwise fun p q => p.1 < q.1
structure RRel (s : Sc) (jobs : List Jb) (RI : List (It Int)) (ws : List (Str × Sl Jb)) : Prop where
  r : RI.map (cv jobs) = s.R
  b : ∀ x ∈ RI, 0 ≤ x.v ∧ x.v < (jobs.length : Nat)
  up : UpW ws
  p : (mval Sl.xs ws).Perm s.rows
  n : (jobs.length : Int) = s.n
theorem cv_lt {jobs : List Jb} {x y : It Int} : (cv jobs x).lt (cv jobs y) = x.lt y := rfl
theorem cv_min {jobs : List Jb} {RI : List (It Int)} {r : It Int} (h : IsMin r RI) : IsMin (cv jobs r) (RI.map (cv jobs)) :=
  ⟨List.mem_map.2 ⟨r, h.1, rfl⟩, fun a ha => by obtain ⟨x, hx, rfl⟩ := List.mem_map.1 ha; exact h.2 x hx⟩
theorem cv_rest (jobs : List Jb) (RI : List (It Int)) (r : It Int) : (rest RI r).map (cv jobs) = rest (RI.map (cv jobs)) (cv jobs r) := by
  rw [rest, rest, List.filter_map]; rfl
theorem cv_qok {age n : Int} {jobs : List Jb} {RI : List (It Int)} (h : QOk age n (RI.map (cv jobs))) : QOk age n RI :=
  ⟨fun x hx => h.all (cv jobs x) (List.mem_map.2 ⟨x, hx, rfl⟩), by have := h.asc; rw [List.pairwise_map] at this; exact this⟩
theorem RRel.qok {s : Sc} {jobs : List Jb} {RI : List (It Int)} {ws : List (Str × Sl Jb)} (h : RRel s jobs RI ws) (hq : QOk s.age s.n s.R) : QOk s.age s.n RI := by rw [← h.r] at hq; exact cv_qok hq
theorem RRel.len {s : Sc} {jobs : List Jb} {RI : List (It Int)} {ws : List (Str × Sl Jb)} (h : RRel s jobs RI ws) : RI.length = s.R.length := by rw [← h.r, List.length_map]
theorem cv_app {jobs : List Jb} (j : Jb) {x : It Int} (h : 0 ≤ x.v ∧ x.v < (jobs.length : Nat)) : cv (jobs ++ [j]) x = cv jobs x := by
  simp only [cv, List.getD_eq_getElem?_getD]
  rw [List.getElem?_append_left (by omega)]
theorem RRel.push {s : Sc} {jobs : List Jb} {RI : List (It Int)} {ws : List (Str × Sl Jb)} (h : RRel s jobs RI ws) {j : Jb} (hv : validB j = true) :
    RRel (s.push j) (jobs ++ [j]) (RI ++ [⟨(jobs.length : Nat), j.rank, j.since, j.since + s.age * j.rank, s.n + 1⟩]) ws := by
  rw [Sc.push, if_pos hv]
  refine ⟨?_, fun x hx => ?_, h.up, h.p, ?_⟩
  · rw [List.map_append, List.map_singleton, ← h.r]
    congr 1
    · exact List.map_congr_left fun x hx => cv_app j (h.b x hx)
    · simp [cv, mkIt]
  · rw [List.length_append, List.length_singleton]
    rcases List.mem_append.1 hx with hx | hx
    · have := h.b x hx; omega
    · rw [List.mem_singleton.1 hx]; simp only; omega
  · rw [List.length_append, List.length_singleton]; have := h.n; simp only; omega
/-- With rows, leases, keys turned. -/
theorem RRel.turn {s s' : Sc} {jobs : List Jb} {RI : List (It Int)} {ws ws' : List (Str × Sl Jb)} (h : RRel s jobs RI ws) (h1 : s'.R = s.R) (h2 : s'.n = s.n) (hu : UpW ws') (hp : (mval Sl.xs ws').Perm s'.rows) : RRel s' jobs RI ws' :=
  ⟨by rw [h1]; exact h.r, h.b, hu, hp, by rw [h2]; exact h.n⟩
/-! ### Workers by their names -/
def geW (k : Str) (p : Str × Sl Jb) : Bool := !Op.bytesLess p.1 k
def wAt (ws : List (Str × Sl Jb)) (k : Str) : Nat := ws.findIdx (geW k)
def wHas (ws : List (Str × Sl Jb)) (k : Str) : Bool := match ws[wAt ws k]? with
  | some p => decide (p.1 = k)
  | none => false
theorem geW_iff {k : Str} {p : Str × Sl Jb} : geW k p = true ↔ ¬ p.1 < k := by rw [geW, bytesLess_eq]; simp
theorem w_hit {ws : List (Str × Sl Jb)} {k : Str} {i : Nat} {p : Str × Sl Jb} (hx : ws[i]? = some p) (hp : geW k p = true) (hall : ∀ j z, j < i → ws[j]? = some z → geW k z = false) : wAt ws k = i ∧ wHas ws k = decide (p.1 = k) := by
  have e : wAt ws k = i := by
    obtain ⟨hl, hxe⟩ := List.getElem?_eq_some_iff.1 hx
    refine (List.findIdx_eq hl).2 ⟨by rw [hxe]; exact hp, fun j hj => ?_⟩
    have := hall j _ hj (List.getElem?_eq_getElem (by omega))
    rw [this]
  exact ⟨e, by rw [wHas, e, hx]⟩
theorem w_miss {ws : List (Str × Sl Jb)} {k : Str} {i : Nat} (hi : ws.length ≤ i) (hall : ∀ j z, j < i → ws[j]? = some z → geW k z = false) : wAt ws k = ws.length ∧ wHas ws k = false := by
  have e : wAt ws k = ws.length := by
    unfold wAt
    rw [List.findIdx_eq_length]
    intro x hx
    obtain ⟨j, hj⟩ := List.mem_iff_getElem?.1 hx
    exact hall j x (by have := (List.getElem?_eq_some_iff.1 hj).1; omega) hj
  exact ⟨e, by rw [wHas, e, List.getElem?_eq_none (Nat.le_refl _)]⟩
theorem wAt_le (ws : List (Str × Sl Jb)) (k : Str) : wAt ws k ≤ ws.length := List.findIdx_le_length
theorem wHas_get {ws : List (Str × Sl Jb)} {k : Str} (h : wHas ws k = true) : ∃ sl, ws[wAt ws k]? = some (k, sl) := by
  unfold wHas at h
  split at h
  · rename_i p hp
    obtain ⟨a, b⟩ := p
    obtain rfl : a = k := by simpa using h
    exact ⟨b, hp⟩
  · cases h
theorem UpW.keyed {ws : List (Str × Sl Jb)} (h : UpW ws) : Keyed1 ws := by
  unfold Keyed1
  exact (List.pairwise_map.2 (h.imp (S := fun p q : Str × Sl Jb => p.1 ≠ q.1) (fun {p q} hpq e => by rw [e] at hpq; exact List.lt_irrefl _ hpq)))
theorem w_before {ws : List (Str × Sl Jb)} {k : Str} : ∀ j z, j < wAt ws k → ws[j]? = some z → z.1 < k := fun j z hj hz => by
  have := List.not_of_lt_findIdx hj
  have hjl := (List.getElem?_eq_some_iff.1 hz).1
  rw [List.getElem?_eq_getElem hjl] at hz
  rw [Option.some.inj hz] at this
  cases hd : decide (z.1 < k) with
  | true => exact of_decide_eq_true hd
  | false => exact absurd (geW_iff.2 (of_decide_eq_false hd)) (by simpa using this)
theorem w_behind {ws : List (Str × Sl Jb)} (hu : UpW ws) {k : Str} : ∀ j z, wAt ws k ≤ j → ws[j]? = some z → ¬ z.1 < k := fun j z hj hz => by
  have hjl := (List.getElem?_eq_some_iff.1 hz).1
  have hil : wAt ws k < ws.length := by omega
  have h0 := geW_iff.1 (List.findIdx_getElem (w := hil))
  rcases Nat.eq_or_lt_of_le hj with rfl | hlt
  · rw [List.getElem?_eq_getElem hjl] at hz; rw [← Option.some.inj hz]; exact h0
  · have := List.pairwise_iff_getElem.1 hu _ _ hil hjl hlt
    rw [List.getElem?_eq_getElem hjl] at hz
    rw [Option.some.inj hz] at this
    exact fun hc => h0 (List.lt_trans this hc)
theorem wHas_iff {ws : List (Str × Sl Jb)} (hu : UpW ws) (k : Str) : wHas ws k = true ↔ k ∈ ws.map (·.1) := by
  constructor
  · intro h
    obtain ⟨sl, hs⟩ := wHas_get h
    exact List.mem_map.2 ⟨_, List.mem_of_getElem? hs, rfl⟩
  · intro h
    obtain ⟨p, hp, rfl⟩ := List.mem_map.1 h
    obtain ⟨j, hj⟩ := List.mem_iff_getElem?.1 hp
    obtain ⟨_, h2⟩ := w_hit (k := p.1) hj (geW_iff.2 (List.lt_irrefl _)) (fun i z hi hz => by
      obtain ⟨h1, e1⟩ := List.getElem?_eq_some_iff.1 hz
      obtain ⟨h2, e2⟩ := List.getElem?_eq_some_iff.1 hj
      have := List.pairwise_iff_getElem.1 hu i j h1 h2 hi
      rw [e1, e2] at this
      cases hg : geW p.1 z with
      | false => rfl
      | true => exact absurd this (geW_iff.1 hg))
    rw [h2]; simp
theorem RRel.has {s : Sc} {jobs : List Jb} {RI : List (It Int)} {ws : List (Str × Sl Jb)} (h : RRel s jobs RI ws) (k : Str) : wHas ws k = (mget s.rows k).isSome := by
  rw [Bool.eq_iff_iff, wHas_iff h.up, mget_some_iff, ← (h.p.map (·.1)).mem_iff, mval_keys]
theorem RRel.get {s : Sc} {jobs : List Jb} {RI : List (It Int)} {ws : List (Str × Sl Jb)} (h : RRel s jobs RI ws) (hk : Keyed1 s.rows) {k : Str} {i : Nat} {sl : Sl Jb} (hx : ws[i]? = some (k, sl)) : mget s.rows k = some sl.xs :=
  mget_of_mem hk (h.p.mem_iff.1 (List.mem_map.2 ⟨(k, sl), List.mem_of_getElem? hx, rfl⟩))
theorem RRel.row {s : Sc} {jobs : List Jb} {RI : List (It Int)} {ws : List (Str × Sl Jb)} (h : RRel s jobs RI ws) (hk : Keyed1 s.rows) {k : Str} {i : Nat} {sl : Sl Jb} (hx : ws[i]? = some (k, sl)) : s.row k = sl.xs := by rw [Sc.row, h.get hk hx]; rfl
theorem ins_up {ws : List (Str × Sl Jb)} (hu : UpW ws) {k : Str} (hn : wHas ws k = false) (sl : Sl Jb) : UpW (ws.take (wAt ws k) ++ [(k, sl)] ++ ws.drop (wAt ws k)) := by
  have hk : k ∉ ws.map (·.1) := fun h => by rw [(wHas_iff hu k).2 h] at hn; cases hn
  unfold UpW
  rw [List.append_assoc, List.pairwise_append]
  refine ⟨hu.sublist (List.take_sublist _ _), ?_, fun a ha b hb => ?_⟩
  · rw [List.singleton_append, List.pairwise_cons]
    refine ⟨fun b hb => ?_, hu.sublist (List.drop_sublist _ _)⟩
    obtain ⟨j, hj⟩ := List.mem_iff_getElem?.1 hb
    rw [List.getElem?_drop] at hj
    have h1 := w_behind hu (k := k) _ b (by omega) hj
    exact slt_of_not h1 (fun e => hk (by rw [← show b.1 = k from e]; exact List.mem_map.2 ⟨b, List.mem_of_getElem? hj, rfl⟩))
  · have h1 : a.1 < k := by
      obtain ⟨j, hj⟩ := List.mem_iff_getElem?.1 ha
      rw [List.getElem?_take] at hj
      split at hj
      · exact w_before _ _ ‹_› hj
      · cases hj
    rw [List.singleton_append] at hb
    rcases List.mem_cons.1 hb with rfl | hb
    · exact h1
    · obtain ⟨j, hj⟩ := List.mem_iff_getElem?.1 hb
      rw [List.getElem?_drop] at hj
      have h2 := w_behind hu (k := k) _ b (by omega) hj
      have h3 : k < b.1 := slt_of_not h2 (fun e => hk (by rw [← show b.1 = k from e]; exact List.mem_map.2 ⟨b, List.mem_of_getElem? hj, rfl⟩))
      exact List.lt_trans h1 h3
theorem ins_perm {α : Type} (l : List α) (i : Nat) (x : α) : (l.take i ++ [x] ++ l.drop i).Perm (x :: l) := by
  have := List.perm_middle (l₁ := l.take i) (a := x) (l₂ := l.drop i)
  rw [List.take_append_drop] at this
  rw [List.append_assoc]; exact this
theorem set_perm2 {α : Type} {l : List α} {i : Nat} {x y : α} (h : l[i]? = some x) : (l.set i y).Perm (y :: l.eraseIdx i) := by
  obtain ⟨hl, _⟩ := List.getElem?_eq_some_iff.1 h
  have h2 : (l.set i y)[i]? = some y := by simp [hl]
  have h3 := erase_perm h2
  rwa [List.eraseIdx_set_eq] at h3
theorem set_up {ws : List (Str × Sl Jb)} (hu : UpW ws) {i : Nat} {k : Str} {sl sl' : Sl Jb} (hx : ws[i]? = some (k, sl)) : UpW (ws.set i (k, sl')) := by
  have h1 : (ws.set i (k, sl')).map (·.1) = ws.map (·.1) := by
    rw [List.map_set]
    refine List.ext_getElem? fun j => ?_
    rw [List.getElem?_set]
    split
    · rename_i h; subst h
      obtain ⟨hl, hx⟩ := List.getElem?_eq_some_iff.1 hx
      simp [hl, hx]
    · rfl
  have h2 : (ws.map (·.1)).Pairwise (· < ·) := List.pairwise_map.2 hu
  rw [← h1] at h2
  exact List.pairwise_map.1 h2
theorem perm_mdel {rows : List (Str × List Jb)} (hk : Keyed1 rows) {l : List (Str × List Jb)} {k : Str} {v : List Jb} (h : ((k, v) :: l).Perm rows) : l.Perm (mdel rows k) :=
  (List.perm_cons (k, v)).1 (h.trans (mget_perm (mget_of_mem hk (h.mem_iff.1 (List.mem_cons_self ..)))))
theorem RRel.put {s : Sc} {jobs : List Jb} {RI : List (It Int)} {ws : List (Str × Sl Jb)} (h : RRel s jobs RI ws) (hk : Keyed1 s.rows) {i : Nat} {k : Str} {sl sl' : Sl Jb} (hx : ws[i]? = some (k, sl)) : (mval Sl.xs (ws.set i (k, sl'))).Perm (mput s.rows k sl'.xs) := by
  have h1 := (erase_perm hx).map (fun p : Str × Sl Jb => (p.1, p.2.xs))
  rw [List.map_cons] at h1
  have h2 := perm_mdel hk (h1.symm.trans h.p)
  have h3 := (set_perm2 (y := (k, sl')) hx).map (fun p : Str × Sl Jb => (p.1, p.2.xs))
  rw [List.map_cons] at h3
  exact h3.trans ((h2.cons _).trans (mput_perm k sl'.xs s.rows).symm)
theorem RRel.del {s : Sc} {jobs : List Jb} {RI : List (It Int)} {ws : List (Str × Sl Jb)} (h : RRel s jobs RI ws) (hk : Keyed1 s.rows) {i : Nat} {k : Str} {sl : Sl Jb} (hx : ws[i]? = some (k, sl)) : (mval Sl.xs (ws.eraseIdx i)).Perm (mdel s.rows k) := by
  have h1 := (erase_perm hx).map (fun p : Str × Sl Jb => (p.1, p.2.xs))
  rw [List.map_cons] at h1
  exact perm_mdel hk (h1.symm.trans h.p)
theorem RRel.ins {s : Sc} {jobs : List Jb} {RI : List (It Int)} {ws : List (Str × Sl Jb)} (h : RRel s jobs RI ws) {k : Str} (hn : mget s.rows k = none) (i : Nat) : (mval Sl.xs (ws.take i ++ [(k, nilJs)] ++ ws.drop i)).Perm (mput s.rows k []) := by
  have h1 := (ins_perm ws i (k, nilJs)).map (fun p : Str × Sl Jb => (p.1, p.2.xs))
  rw [List.map_cons] at h1
  have h2 := mput_perm k ([] : List Jb) s.rows
  rw [mdel_none hn] at h2
  exact h1.trans ((h.p.cons _).trans h2.symm)
/-! ### How it lies -/
abbrev encW (p : Str × Sl Jb) : List Value := [vS p.1, vJs p.2]
theorem encW_len (p : Str × Sl Jb) : (encW p).length = 2 := rfl
theorem encW_one (p : Str × Sl Jb) : ∀ v ∈ encW p, v.oneCell' = true := by simp [encW, Value.oneCell']
structure Rp where
  qb : Nat
  tb : Nat
  ja : Option Addr
  jc : Nat
  wa : Option Addr
  wc : Nat
  jobs : List Jb
  RI : List (It Int)
  ws : List (Str × Sl Jb)
abbrev rfC (x : Rp) : Array Value := #[.slice x.ja x.jobs.length x.jc, ptr x.qb, .slice x.wa x.ws.length x.wc, ptr x.tb]
abbrev rfAs (b : Nat) (s : Sc) (x : Rp) : List Atom := [blk b (.cells (rfC x) 54 (0, 0)), slc 30 3 x.ja x.jobs.length x.jc (x.jobs.flatMap encJ), refA x.qb s.age x.RI, slc 83 2 x.wa x.ws.length x.wc (x.ws.flatMap encW), rowsA x.ws, rtA x.tb s.t.ref]
def rfA (b : Nat) (s : Sc) : Atom := exA (fun x : Rp => RRel s x.jobs x.RI x.ws) (rfAs b s)
theorem rf_open {w0 : World} {O : Nat → Prop} {b : Nat} {s : Sc} {As : List Atom} : ∀ w, Hp w0 O (rfA b s :: As) w → ∃ x : {x : Rp // RRel s x.jobs x.RI x.ws}, Hp w0 O (rfAs b s x.1 ++ As) w := exA_open
theorem rf_shut {w0 : World} {O : Nat → Prop} {b : Nat} {s : Sc} {As : List Atom} {w : World} (x : Rp) (hx : RRel s x.jobs x.RI x.ws) (h : Hp w0 O (rfAs b s x ++ As) w) : Hp w0 O (rfA b s :: As) w := exA_shut x hx h
section
variable {w0 w : World} {O : Nat → Prop} {As : List Atom}
theorem rows_perm {ws ws' : List (Str × Sl Jb)} (hp : ws.Perm ws') (h : Hp w0 O (rowsA ws :: As) w) : Hp w0 O (rowsA ws' :: As) w := hp_shut ((hp_open h).perm ((hp.map rowA).append_right As))
theorem rows_outI {ws : List (Str × Sl Jb)} {i : Nat} {p : Str × Sl Jb} (hx : ws[i]? = some p) (h : Hp w0 O (rowsA ws :: As) w) : Hp w0 O (rowA p :: rowsA (ws.eraseIdx i) :: As) w := by
  have h1 := hp_open (rows_perm (erase_perm hx) h)
  have h2 := h1.perm (List.perm_middle (l₁ := (ws.eraseIdx i).map rowA) (l₂ := As) (a := rowA p)).symm
  exact Hp.perm (hp_shut h2) (List.Perm.swap _ _ _)
theorem rows_inI {ws : List (Str × Sl Jb)} {i : Nat} {p p' : Str × Sl Jb} (hx : ws[i]? = some p) (h : Hp w0 O (rowA p' :: rowsA (ws.eraseIdx i) :: As) w) : Hp w0 O (rowsA (ws.set i p') :: As) w := by
  refine rows_perm (set_perm2 hx).symm (hp_shut ?_)
  have h1 := hp_open (h.perm (List.Perm.swap _ _ _))
  exact Hp.perm (As := (ws.eraseIdx i).map rowA ++ rowA p' :: As) h1 List.perm_middle
theorem rows_ins {ws : List (Str × Sl Jb)} (i : Nat) (k : Str) (h : Hp w0 O (rowsA ws :: As) w) : Hp w0 O (rowsA (ws.take i ++ [(k, nilJs)] ++ ws.drop i) :: As) w := by
  refine rows_perm (ins_perm ws i (k, nilJs)).symm (hp_shut ?_)
  have h1 : Hp w0 O (ws.map rowA ++ As) w := hp_open h
  exact Hp.addNil (e := 30) (sz := 3) [] _ h1
end
end Go.Proofs.Ytfnpjmlpiedgdaa
