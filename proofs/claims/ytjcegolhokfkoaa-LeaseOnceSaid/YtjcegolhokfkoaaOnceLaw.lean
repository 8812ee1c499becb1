/-
  Plain laws: who holds which job.
-/
import Derived.Test.YtjcegolhokfkoaaPlaysDef
namespace Go.Proofs.Ytjcegolhokfkoaa
open Go.Eng


def eOf (t : Tb) (k : Str) : Int := match mget t.m k with
  | some x => x.epoch
  | none => 0
def look (hd : List (Str × Int)) (k : Str) : Int := (mget hd k).getD 0
structure Held (t : Tb) (hd : List (Str × Int)) : Prop where
  same : ∀ k, look hd k = eOf t k
  pos : ∀ q ∈ t.m, 1 ≤ q.2.epoch
theorem held_new (n : Int) : Held ⟨n, 0, []⟩ [] := ⟨fun k => rfl, by simp⟩
theorem look_int (hd : List (Str × Int)) (k : Str) : lookV false vI (vI 0) (mget hd k) = vI (look hd k) := by unfold look; cases mget hd k <;> rfl
theorem look_put (hd : List (Str × Int)) (k : Str) (v : Int) (k' : Str) : look (mput hd k v) k' = if k' = k then v else look hd k' := by
  unfold look; rw [mget_put]; split <;> rfl
theorem eOf_pos {t : Tb} {hd : List (Str × Int)} (h : Held t hd) {k : Str} {x : Ls} (hx : mget t.m k = some x) : eOf t k = x.epoch ∧ 1 ≤ x.epoch := ⟨by rw [eOf, hx], h.pos _ (mem_of_mget hx)⟩
theorem eOf_cases {t : Tb} {hd : List (Str × Int)} (h : Held t hd) (k : Str) : (mget t.m k = none ∧ eOf t k = 0) ∨ ∃ x, mget t.m k = some x ∧ eOf t k = x.epoch ∧ 1 ≤ x.epoch := by
  cases hg : mget t.m k with
  | none => exact .inl ⟨rfl, by rw [eOf, hg]⟩
  | some x => exact .inr ⟨x, rfl, eOf_pos h hg⟩

theorem grant_zero {t t' : Tb} {j : Jb} {w : Str} {now : Int} {x : Ls} (h : t.grant j w now = (t', x, 0)) : mget t.m j.key = none ∧ t' = { t with epoch := t.epoch + 1, m := mput t.m j.key (t.lease j w now) } ∧ x = t.lease j w now := by
  unfold Tb.grant at h
  split at h
  · split at h
    · split at h
      · simp at h
      · rename_i hg; simp only [Prod.mk.injEq, and_true] at h; exact ⟨hg, h.1.symm, h.2.symm⟩
    · simp at h
  · rename_i hn; simp only [Prod.mk.injEq] at h; exact absurd h.2.2 hn
theorem grant_bad {t t' : Tb} {j : Jb} {w : Str} {now : Int} {x : Ls} {e : Int} (h : t.grant j w now = (t', x, e)) (he : e ≠ 0) : t' = t ∧ (e = 16 → ∃ y, mget t.m j.key = some y) := by
  unfold Tb.grant at h
  split at h
  · split at h
    · split at h
      · rename_i y hg; simp only [Prod.mk.injEq] at h; exact ⟨h.1.symm, fun _ => ⟨y, hg⟩⟩
      · simp only [Prod.mk.injEq] at h; exact absurd h.2.2.symm he
    · simp only [Prod.mk.injEq] at h; exact ⟨h.1.symm, fun e16 => by have := h.2.2; omega⟩
  · simp only [Prod.mk.injEq] at h
    exact ⟨h.1.symm, fun e16 => by have := nameE_cases w; have := h.2.2; omega⟩
theorem held_grant {t : Tb} {hd : List (Str × Int)} (hg : t.good) (h : Held t hd) (h0 : 0 ≤ t.epoch) {j : Jb} {w : Str} {now : Int} : Held { t with epoch := t.epoch + 1, m := mput t.m j.key (t.lease j w now) } (mput hd j.key (t.epoch + 1)) := by
  refine ⟨fun k => ?_, fun q hq => ?_⟩
  · rw [look_put, h.same, eOf, eOf, mget_put]
    split <;> rfl
  · have hq' := mget_of_mem (hg.keyed.put j.key (t.lease j w now)) (k := q.1) (v := q.2) hq
    rw [mget_put] at hq'
    split at hq'
    · rw [← Option.some.inj hq']; simp only [Tb.lease]; omega
    · exact h.pos q (mem_of_mget hq')
theorem renew_zero {t : Tb} {k : Str} {e now : Int} (h : (t.renew k e now).2 = 0) : ∃ x, mget t.m k = some x ∧ x.epoch = e := by
  unfold Tb.renew Tb.find at h
  cases hg : mget t.m k with
  | none => simp [hg] at h; split at h <;> simp at h
  | some x =>
    refine ⟨x, rfl, ?_⟩
    by_cases he : x.epoch = e
    · exact he
    · simp [hg, he] at h; split at h <;> simp at h
theorem renew_ok {t : Tb} {hd : List (Str × Int)} (h : Held t hd) (k : Str) (e now : Int) : (decide ((t.renew k e now).2 = 0) && !decide (look hd k = e)) = false := by
  by_cases hz : (t.renew k e now).2 = 0
  · obtain ⟨x, hx, hxe⟩ := renew_zero hz
    rw [h.same, (eOf_pos h hx).1, hxe]; simp
  · simp [hz]
theorem held_renew {t : Tb} {hd : List (Str × Int)} (hg : t.good) (h : Held t hd) (k : Str) (e now : Int) : Held (t.renew k e now).1 hd := by
  have key : (t.renew k e now).1 = t ∨ ∃ x y, mget t.m k = some x ∧ y.epoch = x.epoch ∧ (t.renew k e now).1 = { t with m := mput t.m k y } := by
    unfold Tb.renew Tb.find
    cases hk : mget t.m k with
    | none => left; split <;> simp
    | some x =>
      by_cases he : x.epoch = e
      · split
        · by_cases hu : x.upto < now
          · left; simp [he, hu]
          · right; exact ⟨x, { x with upto := now + t.ttl }, rfl, rfl, by simp [he, hu]⟩
        · left; rfl
      · left; split <;> simp [he]
  rcases key with he | ⟨x, y, hx, hy, he⟩
  · rw [he]; exact h
  · rw [he]
    refine ⟨fun k' => ?_, fun q hq => ?_⟩
    · rw [h.same, eOf, eOf, mget_put]
      by_cases hk : k' = k
      · subst hk; rw [if_pos rfl, hx]; simp only [hy]
      · rw [if_neg hk]
    · have hq' := mget_of_mem (hg.keyed.put k y) (k := q.1) (v := q.2) hq
      rw [mget_put] at hq'
      split at hq'
      · rw [← Option.some.inj hq', hy]; exact h.pos _ (mem_of_mget hx)
      · exact h.pos q (mem_of_mget hq')
theorem finish_cases (t : Tb) (k : Str) (e : Int) : (mget t.m k = none ∧ t.finish k e = (t, 17)) ∨ ∃ x, mget t.m k = some x ∧ ((x.epoch = e ∧ t.finish k e = ({ t with m := mdel t.m k }, 0)) ∨ (x.epoch ≠ e ∧ t.finish k e = (t, 44))) := by
  unfold Tb.finish Tb.find
  cases hk : mget t.m k with
  | none => left; simp
  | some x =>
    right
    refine ⟨x, rfl, ?_⟩
    by_cases he : x.epoch = e
    · left; simp [he]
    · right; simp [he]
theorem held_finish {t : Tb} {hd : List (Str × Int)} (hg : t.good) (h : Held t hd) {k : Str} {e : Int} (hz : (t.finish k e).2 = 0) : Held (t.finish k e).1 (mput hd k 0) := by
  rcases finish_cases t k e with ⟨_, h2⟩ | ⟨x, hx, ⟨_, h2⟩ | ⟨_, h2⟩⟩
  · rw [h2] at hz; cases hz
  · rw [h2]
    refine ⟨fun k' => ?_, fun q hq => h.pos q ((mdel_sub _ _).subset hq)⟩
    rw [look_put, h.same, eOf, eOf, mget_del hg.keyed]
    split <;> rfl
  · rw [h2] at hz; cases hz
theorem finish_same {t : Tb} {k : Str} {e : Int} (hz : (t.finish k e).2 ≠ 0) : (t.finish k e).1 = t := by
  rcases finish_cases t k e with ⟨_, h2⟩ | ⟨x, hx, ⟨_, h2⟩ | ⟨_, h2⟩⟩
  · rw [h2]
  · rw [h2] at hz; exact absurd rfl hz
  · rw [h2]
theorem finish_ok {t : Tb} {hd : List (Str × Int)} (h : Held t hd) (k : Str) (e : Int) :
    (((t.finish k e).2 = 0) ↔ (0 < look hd k ∧ look hd k = e)) ∧ (((t.finish k e).2 = 17) ↔ look hd k = 0) := by
  rw [h.same]
  rcases finish_cases t k e with ⟨h1, h2⟩ | ⟨x, hx, ⟨h1, h2⟩ | ⟨h1, h2⟩⟩
  · rw [h2, show eOf t k = 0 by rw [eOf, h1]]; constructor <;> simp
  · obtain ⟨a, b⟩ := eOf_pos h hx
    rw [h2, a]; constructor <;> simp <;> omega
  · obtain ⟨a, b⟩ := eOf_pos h hx
    rw [h2, a]; constructor <;> simp <;> omega

/-- Behind the first i jobs that are taken back. -/
def HeldI (t : Tb) (L : List Jb) (i : Nat) (hd : List (Str × Int)) : Prop := ∀ k, look hd k = if k ∈ (L.take i).map (·.key) then 0 else eOf t k
theorem heldI_start {t : Tb} {hd : List (Str × Int)} (h : Held t hd) (L : List Jb) : HeldI t L 0 hd := fun k => by rw [h.same]; simp
theorem heldI_step {t : Tb} {L : List Jb} {i : Nat} {hd : List (Str × Int)} (h : HeldI t L i hd) {j : Jb} (hj : L[i]? = some j) : HeldI t L (i + 1) (mput hd j.key 0) := fun k => by
  rw [look_put, h k, List.take_add_one, hj]
  simp only [Option.toList_some, List.map_append, List.map_cons, List.map_nil, List.mem_append, List.mem_singleton]
  by_cases h1 : k = j.key
  · rw [if_pos h1, if_pos (.inr h1)]
  · rw [if_neg h1]
    by_cases h2 : k ∈ (L.take i).map (·.key)
    · rw [if_pos h2, if_pos (.inl h2)]
    · rw [if_neg h2, if_neg (by rintro (h | h); exact h2 h; exact h1 h)]
theorem take_keys (t : Tb) (p : Ls → Bool) : (t.take p).2.map (·.key) = (t.srt.filter p).map (·.job.key) := by simp [Tb.take, List.map_map]
theorem heldI_look {t : Tb} {hd hd0 : List (Str × Int)} (hg : t.good) (h0 : Held t hd0) (p : Ls → Bool) {i : Nat} (h : HeldI t (t.take p).2 i hd) {j : Jb} (hj : (t.take p).2[i]? = some j) : look hd j.key ≠ 0 := by
  have hnd : ((t.take p).2.map (·.key)).Nodup := by
    rw [take_keys]
    have := (srt_rising hg).sublist (List.filter_sublist (p := p))
    exact List.pairwise_map.2 (this.imp fun {a b} hab e => by rw [e] at hab; exact List.lt_irrefl _ hab)
  have hil := (List.getElem?_eq_some_iff.1 hj).1
  have hnot : j.key ∉ ((t.take p).2.take i).map (·.key) := fun hm => by
    rw [List.map_take] at hm
    obtain ⟨a, ha⟩ := List.mem_iff_getElem?.1 hm
    rw [List.getElem?_take] at ha
    split at ha
    · rename_i hlt
      have hji : ((t.take p).2.map (·.key))[i]? = some j.key := by simp [hj]
      have := (List.getElem?_inj (by rw [List.length_map]; omega) hnd).1 (ha.trans hji.symm)
      omega
    · cases ha
  rw [h j.key, if_neg hnot]
  have hm : j ∈ (t.take p).2 := List.mem_of_getElem? hj
  simp only [Tb.take, List.mem_map] at hm
  obtain ⟨x, hx, rfl⟩ := hm
  have := (mem_srt hg x).1 (List.mem_filter.1 hx).1
  have := eOf_pos h0 this
  omega
theorem heldI_end {t : Tb} {hd hd0 : List (Str × Int)} (hg : t.good) (h0 : Held t hd0) (p : Ls → Bool) {i : Nat} (hi : (t.take p).2.length ≤ i) (h : HeldI t (t.take p).2 i hd) : Held (t.take p).1 hd := by
  refine ⟨fun k => ?_, fun q hq => h0.pos q ((delAll_sub _ _).subset hq)⟩
  rw [h k, List.take_of_length_le hi, take_keys]
  show _ = match mget (delAll t.m (t.srt.filter p)) k with | some x => x.epoch | none => 0
  rw [mget_delAll _ _ _ hg.keyed]
  split <;> rfl

/-- How many of the jobs that were met are held. -/
def cntH (hd : List (Str × Int)) (dn : List Str) : Nat := (hd.filter (fun p => decide (p.1 ∈ dn) && decide (0 < p.2))).length
theorem cntH_nil (hd : List (Str × Int)) : cntH hd [] = 0 := by simp [cntH]
theorem cntH_le (hd : List (Str × Int)) (dn : List Str) : cntH hd dn ≤ hd.length := List.length_filter_le _ _
theorem cntH_step : ∀ {hd : List (Str × Int)} {dn : List Str} {q : Str × Int}, Keyed1 hd → q ∈ hd → q.1 ∉ dn → cntH hd (q.1 :: dn) = cntH hd dn + if 0 < q.2 then 1 else 0
  | p :: l, dn, q, hK, hq, hn => by
    obtain ⟨h1, h2⟩ := List.nodup_cons.1 (show (p.1 :: l.map (·.1)).Nodup from hK)
    unfold cntH
    rw [List.filter_cons, List.filter_cons]
    rcases List.mem_cons.1 hq with rfl | hq
    · have e : l.filter (fun p => decide (p.1 ∈ q.1 :: dn) && decide (0 < p.2)) = l.filter (fun p => decide (p.1 ∈ dn) && decide (0 < p.2)) := List.filter_congr fun y hy => by
        have hne : y.1 ≠ q.1 := fun e => h1 (by rw [← e]; exact List.mem_map.2 ⟨y, hy, rfl⟩)
        simp [hne]
      rw [e]
      by_cases h0 : 0 < q.2 <;> simp [hn, h0]
    · have hne : p.1 ≠ q.1 := fun e => h1 (by rw [e]; exact List.mem_map.2 ⟨q, hq, rfl⟩)
      have ih := cntH_step (dn := dn) (show Keyed1 l from h2) hq hn
      unfold cntH at ih
      simp only [List.mem_cons, hne, false_or] at ih ⊢
      by_cases hc : (decide (p.1 ∈ dn) && decide (0 < p.2)) = true
      · simp only [hc, if_true, List.length_cons, ih]; split <;> omega
      · simp only [hc, Bool.false_eq_true, if_false, ih]
theorem cntH_all {t : Tb} {hd : List (Str × Int)} (hg : t.good) (h : Held t hd) (hK : Keyed1 hd) {dn : List Str} (hall : ∀ q ∈ hd, q.1 ∈ dn) : cntH hd dn = t.m.length := by
  have e : hd.filter (fun p => decide (p.1 ∈ dn) && decide (0 < p.2)) = hd.filter (fun p => decide (0 < p.2)) := List.filter_congr fun y hy => by simp [hall y hy]
  unfold cntH
  rw [e]
  have h1 : ((hd.filter (fun p => decide (0 < p.2))).map (·.1)).Nodup := (show (hd.map (·.1)).Nodup from hK).sublist (List.filter_sublist.map _)
  have h2 : (t.m.map (·.1)).Nodup := hg.keyed
  have := ((List.perm_ext_iff_of_nodup h1 h2).2 fun k => by
    constructor
    · intro hk
      obtain ⟨q, hq, rfl⟩ := List.mem_map.1 hk
      obtain ⟨hq1, hq2⟩ := List.mem_filter.1 hq
      have hl : look hd q.1 = q.2 := by rw [look, mget_of_mem hK hq1]; rfl
      rw [h.same] at hl
      simp only [decide_eq_true_eq] at hq2
      rcases eOf_cases h q.1 with ⟨_, h0⟩ | ⟨x, hx, _⟩
      · omega
      · exact List.mem_map.2 ⟨_, mem_of_mget hx, rfl⟩
    · intro hk
      obtain ⟨q, hq, rfl⟩ := List.mem_map.1 hk
      have hx := mget_of_mem hg.keyed (k := q.1) (v := q.2) hq
      obtain ⟨a, b⟩ := eOf_pos h hx
      have hl := h.same q.1
      rw [a, look] at hl
      cases hm : mget hd q.1 with
      | none => rw [hm] at hl; simp at hl; omega
      | some v =>
        rw [hm] at hl
        simp only [Option.getD_some] at hl
        exact List.mem_map.2 ⟨(q.1, v), List.mem_filter.2 ⟨mem_of_mget hm, by simp; omega⟩, rfl⟩).length_eq
  rw [List.length_map, List.length_map] at this
  exact this
theorem cntH_bound {t : Tb} {hd : List (Str × Int)} (hg : t.good) (h : Held t hd) (hK : Keyed1 hd) (dn : List Str) : cntH hd dn ≤ t.m.length := by
  rw [← cntH_all hg h hK (dn := hd.map (·.1)) (fun q hq => List.mem_map.2 ⟨q, hq, rfl⟩), cntH, cntH, ← List.countP_eq_length_filter, ← List.countP_eq_length_filter]
  refine List.countP_mono_left fun q hq hp => ?_
  simp only [Bool.and_eq_true, decide_eq_true_eq] at hp ⊢
  exact ⟨List.mem_map.2 ⟨q, hq, rfl⟩, hp.2⟩
theorem renew_epoch (t : Tb) (k : Str) (e now : Int) : (t.renew k e now).1.epoch = t.epoch := by unfold Tb.renew; split <;> (try split) <;> (try split) <;> rfl
theorem finish_epoch (t : Tb) (k : Str) (e : Int) : (t.finish k e).1.epoch = t.epoch := by unfold Tb.finish; split <;> rfl
theorem take_jl (t : Tb) (p : Ls → Bool) : (t.take p).2.length ≤ t.m.length := by
  have h := List.length_filter_le p t.srt
  rw [Tb.srt_len] at h
  simp only [Tb.take, List.length_map]; exact h
theorem look_srt {t : Tb} {hd : List (Str × Int)} (hg : t.good) (h : Held t hd) {x : Ls} (hx : x ∈ t.srt) : look hd x.job.key = x.epoch := by
  rw [h.same, (eOf_pos h ((mem_srt hg x).1 hx)).1]
theorem once_grant {t : Tb} {hd : List (Str × Int)} (h : Held t hd) {k : Str} {ge : Int} (hg : ge = 16 → ∃ y, mget t.m k = some y) : (decide (ge = 16) && decide (look hd k = 0)) = false := by
  by_cases h16 : ge = 16
  · obtain ⟨y, hy⟩ := hg h16
    have := eOf_pos h hy
    have h3 := h.same k
    rw [show decide (look hd k = 0) = false from decide_eq_false (by omega), Bool.and_false]
  · simp [h16]
theorem once_finish {t : Tb} {hd : List (Str × Int)} (h : Held t hd) (k : Str) (e : Int) :
    ((!(decide ((t.finish k e).2 = 0) == (decide (0 < look hd k) && decide (look hd k = e)))) || (!(decide ((t.finish k e).2 = 17) == decide (look hd k = 0)))) = false := by
  obtain ⟨f1, f2⟩ := finish_ok h k e
  rw [show decide ((t.finish k e).2 = 17) = decide (look hd k = 0) from decide_eq_decide.2 f2, show decide ((t.finish k e).2 = 0) = (decide (0 < look hd k) && decide (look hd k = e)) by rw [← Bool.decide_and]; exact decide_eq_decide.2 f1]
  simp
theorem once_sorted {hd : List (Str × Int)} {y z : Ls} {k : Nat} (h : look hd y.job.key = y.epoch) (hs : 0 < k → Op.bytesLess z.job.key y.job.key = true) :
    ((!decide (look hd y.job.key = y.epoch)) || (decide ((0 : Int) < (k : Nat)) && !Op.bytesLess z.job.key y.job.key)) = false := by
  rw [h]
  by_cases h0 : 0 < k
  · rw [hs h0]; simp
  · simp [h0]
theorem srt_less {t : Tb} (hg : t.good) {k : Nat} {y x : Ls} (hk : 0 < k) (hy : t.srt[k - 1]? = some y) (hx : t.srt[k]? = some x) : Op.bytesLess y.job.key x.job.key = true := by
  obtain ⟨h1, e1⟩ := List.getElem?_eq_some_iff.1 hy
  obtain ⟨h2, e2⟩ := List.getElem?_eq_some_iff.1 hx
  have := List.pairwise_iff_getElem.1 (srt_rising hg) (k - 1) k h1 h2 (by omega)
  rw [e1, e2] at this
  rw [bytesLess_eq]; exact decide_eq_true this
end Go.Proofs.Ytjcegolhokfkoaa
