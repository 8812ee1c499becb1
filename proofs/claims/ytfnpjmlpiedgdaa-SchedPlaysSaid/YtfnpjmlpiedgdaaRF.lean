/-
  Plain laws: Next of the reference.
-/
import Derived.Test.YtfnpjmlpiedgdaaRE
namespace Go.Proofs.Ytfnpjmlpiedgdaa
open Go.Eng

/-! ### Next of the reference -/
theorem rf_shutW {s : Sc} {x : Rp} {RI : List (It Int)} {ws : List (Str × Sl Jb)} (hr : RRel s x.jobs RI ws) (hl : ws.length = x.ws.length) {age : Int} {r : Rt} (ha : s.age = age) (ht : s.t.ref = r) {w0 w : World} {O : Nat → Prop} {b : Nat} {As : List Atom}
    (hw : Hp w0 O ([blk b (.cells (rfC x) 54 (0, 0)), slc 30 3 x.ja x.jobs.length x.jc (x.jobs.flatMap encJ), refA x.qb age RI, slc 83 2 x.wa x.ws.length x.wc (ws.flatMap encW), rowsA ws, rtA x.tb r] ++ As) w) : Hp w0 O (rfA b s :: As) w := by
  refine rf_shut ⟨x.qb, x.tb, x.ja, x.jc, x.wa, x.wc, x.jobs, RI, ws⟩ hr ?_
  simp only [rfAs, rfC]
  rw [hl, ha, ht]
  exact hw
/-- The reference's rows are still at their places, this worker's among them. -/
structure NX (s : Sc) (x : Rp) (i : Nat) (wk : Str) (RI : List (It Int)) (ws : List (Str × Sl Jb)) : Prop where
  r : RRel s x.jobs RI ws
  l : ws.length = x.ws.length
  at_ : ∃ sl, ws[i]? = some (wk, sl)
theorem xpop_em2 (b : Nat) (age : Int) (R : List (It Int)) (h : R = []) : Ctr Try.prog 44 #[ptr b] [] [refA b age R] (fun _ : Unit => True) (fun _ => .tuple #[vI 0, .bool false]) (fun _ => [refA b age R]) := by
  subst h; exact xpop_em b age
theorem RRel.none {s : Sc} {jobs : List Jb} {RI : List (It Int)} {ws : List (Str × Sl Jb)} (h : RRel s jobs RI ws) : s.R = [] ↔ RI = [] := by rw [← h.r, List.map_eq_nil_iff]
theorem NX.none {s : Sc} {x : Rp} {i : Nat} {wk : Str} {RI : List (It Int)} {ws : List (Str × Sl Jb)} (h : NX s x i wk RI ws) (hR : RI = []) : NX (s.take1 wk) x i wk RI ws := by rw [take1_none (h.r.none.2 hR)]; exact h
theorem NX.take {s : Sc} {x : Rp} {i : Nat} {wk : Str} {RI : List (It Int)} {ws : List (Str × Sl Jb)} (h : NX s x i wk RI ws) (hk : Keyed1 s.rows) (hq : QOk s.age s.n s.R) {r : It Int} (hr : IsMin r RI) {sl : Sl Jb} (hp : ws[i]? = some (wk, sl)) {j : Jb} (hj : (cv x.jobs r).v = j) {sl' : Sl Jb} (hs : sl'.xs = sl.xs ++ [j]) : NX (s.take1 wk) x i wk (rest RI r) (ws.set i (wk, sl')) := by
  have hm : IsMin (cv x.jobs r) s.R := by rw [← h.r.r]; exact cv_min hr
  have hR : s.R ≠ [] := fun e => by rw [e] at hm; cases hm.1
  have hrow := h.r.row hk hp
  rw [take1_some hR, the_min hm hq.dist, hj, hrow, ← hs]
  refine ⟨⟨?_, fun y hy => h.r.b y ((List.mem_filter.1 hy).1), set_up h.r.up hp, h.r.put hk hp, h.r.n⟩, by rw [List.length_set]; exact h.l, sl', ?_⟩
  · rw [cv_rest, h.r.r]
  · have := (List.getElem?_eq_some_iff.1 hp).1
    simp [this]
theorem first_fetch {s : Sc} {wk : Str} (h : s.row wk = []) : s.first wk = s.tk wk 3 := by rw [Sc.first, if_pos h, tk_fetch]
theorem first_same {s : Sc} {wk : Str} (h : s.row wk ≠ []) : s.first wk = s := by rw [Sc.first, if_neg h]
theorem next_first {s : Sc} {wk : Str} {now : Int} {l0 l : List Jb} {j : Jb} (hg : mget s.rows wk = some l0) (ht : timeB now = true) (hq : s.Qk 0) (h : (s.first wk).row wk = j :: l) :
    s.next wk now = ({ s.first wk with rows := mput (s.first wk).rows wk l, t := (s.t.grant j wk now).1 }, (s.t.grant j wk now).2.1, (s.t.grant j wk now).2.2) := by
  have hp := pick_first h
  have htt := (first_like hq (w := wk) (by rw [hg]; rfl)).t
  rw [next_some hg ht (j := j) (by rw [hp]), hp]
  simp only [htt]
theorem next_vic {s : Sc} {wk v : Str} {now : Int} {l0 l : List Jb} {j : Jb} (hg : mget s.rows wk = some l0) (ht : timeB now = true) (hq : s.Qk 0) (h : (s.first wk).row wk = []) (hv : IsVic (s.first wk).rows v) (h2 : (s.first wk).row v = l ++ [j]) :
    s.next wk now = ({ s.first wk with rows := mput (s.first wk).rows v l, t := (s.t.grant j wk now).1 }, (s.t.grant j wk now).2.1, (s.t.grant j wk now).2.2) := by
  have hp := pick_vic h (the_vic hv) h2
  have htt := (first_like hq (w := wk) (by rw [hg]; rfl)).t
  rw [next_some hg ht (j := j) (by rw [hp]), hp]
  simp only [htt]
theorem next_empty {s : Sc} {wk : Str} {now : Int} {l0 : List Jb} (hg : mget s.rows wk = some l0) (ht : timeB now = true) (h : ∀ p ∈ (s.first wk).rows, p.2 = []) : s.next wk now = (s.first wk, noL, 45) := by
  have hr : ∀ u, (s.first wk).row u = [] := fun u => by
    unfold Sc.row
    cases hm : mget (s.first wk).rows u with
    | none => rfl
    | some l => exact h _ (mem_of_mget hm)
  have hp := pick_busy (hr wk) rfl (hr (vic (s.first wk).rows))
  rw [next_busy hg ht (by rw [hp]), hp]
theorem pick_mem {s : Sc} {n : Int} {q : Nat} (h : s.In n q) (hi : q ≤ 490) {wk : Str} {j : Jb} {s' : Sc} (hw : (mget s.rows wk).isSome = true) (hp : s.pick wk = (s', some j)) : j ∈ s.jobs := by
  rcases pick_cases (h.qk hi) h.keyed hw with ⟨j', h1, h2⟩ | ⟨h1, _⟩
  · rw [hp] at h1
    obtain rfl := Option.some.inj h1
    exact h2.jobs.mem_iff.2 (List.mem_cons_self ..)
  · rw [hp] at h1; cases h1
/-! ### Where the most wait: the first such in the order of names -/
def bst : Option Nat → Int
  | none => -1
  | some v => (v : Nat)
def BestW (ws : List (Str × Sl Jb)) (c : Nat) : Option Nat → Prop
  | none => ∀ m p, m < c → ws[m]? = some p → p.2.xs = []
  | some v => ∃ p, ws[v]? = some p ∧ v < c ∧ p.2.xs ≠ [] ∧ ∀ m r, m < c → ws[m]? = some r → r.2.xs.length < p.2.xs.length ∨ (r.2.xs.length = p.2.xs.length ∧ v ≤ m)
theorem bestW_one {ws : List (Str × Sl Jb)} {c : Nat} (h : BestW ws c none) {r : Str × Sl Jb} (hr : ws[c]? = some r) (h0 : 0 < r.2.xs.length) : BestW ws (c + 1) (some c) := by
  refine ⟨r, hr, by omega, List.length_pos_iff.1 h0, fun m y hm hy => ?_⟩
  rcases Nat.lt_or_ge m c with hc | hc
  · rw [h m y hc hy]; exact .inl h0
  · obtain rfl : m = c := by omega
    rw [hr] at hy; cases hy; exact .inr ⟨rfl, Nat.le_refl _⟩
theorem bestW_none {ws : List (Str × Sl Jb)} {c : Nat} (h : BestW ws c none) {r : Str × Sl Jb} (hr : ws[c]? = some r) (h0 : ¬ 0 < r.2.xs.length) : BestW ws (c + 1) none :=
  step_of h hr (List.eq_nil_of_length_eq_zero (by omega))
theorem bestW_up {ws : List (Str × Sl Jb)} {c v : Nat} (h : BestW ws c (some v)) {p r : Str × Sl Jb} (hp : ws[v]? = some p) (hr : ws[c]? = some r) (h0 : p.2.xs.length < r.2.xs.length) : BestW ws (c + 1) (some c) := by
  obtain ⟨p', hp', hv, _, hall⟩ := h
  rw [hp] at hp'; cases hp'
  refine ⟨r, hr, by omega, List.length_pos_iff.1 (by omega), fun m y hm hy => ?_⟩
  rcases Nat.lt_or_ge m c with hc | hc
  · have := hall m y hc hy; left; omega
  · obtain rfl : m = c := by omega
    rw [hr] at hy; cases hy; exact .inr ⟨rfl, Nat.le_refl _⟩
theorem bestW_stay {ws : List (Str × Sl Jb)} {c v : Nat} (h : BestW ws c (some v)) {p r : Str × Sl Jb} (hp : ws[v]? = some p) (hr : ws[c]? = some r) (h0 : r.2.xs.length ≤ p.2.xs.length) : BestW ws (c + 1) (some v) := by
  obtain ⟨p', hp', hv, hne, hall⟩ := h
  rw [hp] at hp'; cases hp'
  refine ⟨p, hp, by omega, hne, fun m y hm hy => ?_⟩
  rcases Nat.lt_or_ge m c with hc | hc
  · exact hall m y hc hy
  · obtain rfl : m = c := by omega
    rw [hr] at hy; cases hy; omega
theorem RRel.look {s : Sc} {jobs : List Jb} {RI : List (It Int)} {ws : List (Str × Sl Jb)} (h : RRel s jobs RI ws) {p : Str × List Jb} (hp : p ∈ s.rows) : ∃ (m : Nat) (r : Str × Sl Jb), ws[m]? = some r ∧ p = (r.1, r.2.xs) := by
  obtain ⟨r, hr, rfl⟩ := List.mem_map.1 (h.p.mem_iff.2 hp)
  obtain ⟨m, hm⟩ := List.mem_iff_getElem?.1 hr
  exact ⟨m, r, hm, rfl⟩
theorem bestW_vic {s : Sc} {jobs : List Jb} {RI : List (It Int)} {ws : List (Str × Sl Jb)} (h : RRel s jobs RI ws) (hk : Keyed1 s.rows) {c v : Nat} (hb : BestW ws c (some v)) (hc : ws.length ≤ c) {u : Str} {sl : Sl Jb} (hp : ws[v]? = some (u, sl)) : IsVic s.rows u ∧ sl.xs ≠ [] := by
  obtain ⟨p', hp', hv, hne, hall⟩ := hb
  rw [hp] at hp'; cases hp'
  refine ⟨.inr ⟨sl.xs, h.get hk hp, hne, fun p hpm => ?_⟩, hne⟩
  obtain ⟨m, r, hm, rfl⟩ := h.look hpm
  have hml := (List.getElem?_eq_some_iff.1 hm).1
  rcases hall m r (by omega) hm with h1 | ⟨h1, h2⟩
  · exact .inl h1
  · refine .inr ⟨h1, ?_⟩
    rcases Nat.eq_or_lt_of_le h2 with rfl | h3
    · rw [hp] at hm; cases hm; exact List.le_refl _
    · obtain ⟨a1, a2⟩ := List.getElem?_eq_some_iff.1 hp
      obtain ⟨b1, b2⟩ := List.getElem?_eq_some_iff.1 hm
      have := List.pairwise_iff_getElem.1 h.up v m a1 b1 h3
      rw [a2, b2] at this
      exact List.le_of_lt this
theorem bestW_all {s : Sc} {jobs : List Jb} {RI : List (It Int)} {ws : List (Str × Sl Jb)} (h : RRel s jobs RI ws) {c : Nat} (hb : BestW ws c none) (hc : ws.length ≤ c) : ∀ p ∈ s.rows, p.2 = [] := fun p hp => by
  obtain ⟨m, r, hm, rfl⟩ := h.look hp
  exact hb m r (by have := (List.getElem?_eq_some_iff.1 hm).1; omega) hm
end Go.Proofs.Ytfnpjmlpiedgdaa
