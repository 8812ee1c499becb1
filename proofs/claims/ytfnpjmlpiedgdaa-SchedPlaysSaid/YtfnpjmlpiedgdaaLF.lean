/-
  Plain laws: a table and the reference's do alike.
-/
import Derived.Test.YtfnpjmlpiedgdaaLE
import Derived.Sort.Walk0
namespace Go.Proofs.Ytfnpjmlpiedgdaa
open Go.Eng


theorem slt_of_not {a b : Str} (h1 : ¬ a < b) (h2 : a ≠ b) : b < a := by
  have h3 : b ≤ a := List.not_lt.1 h1
  rcases List.le_iff_lt_or_eq.1 h3 with h | h
  · exact h
  · exact absurd h.symm h2
theorem geK_iff {key : Str} {x : Ls} : geK key x = true ↔ ¬ x.job.key < key := by
  rw [geK, bytesLess_eq]; simp
def Rising (l : List Ls) : Prop := l.Pairwise (fun a b => a.job.key < b.job.key)
theorem Rising.nodup {l : List Ls} (h : Rising l) : l.Nodup := h.imp (fun {_ _} hab e => by subst e; exact List.lt_irrefl _ hab)
/-- A rising list is told by what stands in it. -/
theorem Rising.ext {l m : List Ls} (hl : Rising l) (hm : Rising m) (h : ∀ x, x ∈ l ↔ x ∈ m) : l = m :=
  List.Perm.eq_of_pairwise (le := fun a b : Ls => a.job.key < b.job.key) (fun a b _ _ h1 h2 => absurd (List.lt_trans h1 h2) (List.lt_irrefl _)) hl hm ((List.perm_ext_iff_of_nodup hl.nodup hm.nodup).2 h)

structure Tb.good (t : Tb) : Prop where
  keyed : Keyed1 t.m
  key : ∀ q ∈ t.m, q.2.job.key = q.1
  wk : ∀ q ∈ t.m, nameE q.2.worker = 0
  len : ∀ q ∈ t.m, q.1.length ≤ maxLen
theorem Tb.good.get {t : Tb} (h : t.good) {k : Str} {x : Ls} (hx : mget t.m k = some x) : x.job.key = k := h.key _ (mem_of_mget hx)
theorem mem_srt {t : Tb} (h : t.good) (x : Ls) : x ∈ t.srt ↔ mget t.m x.job.key = some x := by
  unfold Tb.srt
  rw [List.mem_map]
  constructor
  · rintro ⟨k, hk, rfl⟩
    have hk' := (srtK_perm t.m).mem_iff.1 hk
    cases hg : mget t.m k with
    | none => exact absurd hk' (mget_none.1 hg)
    | some y => simp only [Option.getD_some]; rw [h.get hg]; exact hg
  · intro hx
    refine ⟨x.job.key, (srtK_perm t.m).mem_iff.2 (List.mem_map.2 ⟨_, mem_of_mget hx, rfl⟩), by rw [hx]; rfl⟩
theorem srtK_rising {β : Type} {m : List (Str × β)} (h : Keyed1 m) : (srtK m).Pairwise (fun a b => a < b) := by
  have h1 : (srtK m).Pairwise (fun a b => leB a b = true) := List.pairwise_mergeSort (fun a b c h1 h2 => by simp only [leB, decide_eq_true_eq] at *; exact List.le_trans h1 h2) (fun a b => by simp only [leB, Bool.or_eq_true, decide_eq_true_eq]; exact List.le_total a b) _
  have h2 : (srtK m).Nodup := (srtK_perm m).nodup_iff.2 h
  refine (h1.and h2).imp fun {a b} ⟨hab, hne⟩ => ?_
  simp only [leB, decide_eq_true_eq] at hab
  rcases List.le_iff_lt_or_eq.1 hab with h | h
  · exact h
  · exact absurd h hne
theorem srt_rising {t : Tb} (h : t.good) : Rising t.srt := by
  unfold Rising Tb.srt
  rw [List.pairwise_map]
  refine (srtK_rising h.keyed).imp_of_mem fun {a b} ha hb hab => ?_
  have get : ∀ k ∈ srtK t.m, ((mget t.m k).getD noL).job.key = k := fun k hk => by
    have hk' := (srtK_perm t.m).mem_iff.1 hk
    cases hg : mget t.m k with
    | none => exact absurd hk' (mget_none.1 hg)
    | some y => exact h.get hg
  rw [get a ha, get b hb]; exact hab
theorem srt_is {t : Tb} (h : t.good) {l : List Ls} (hl : Rising l) (hm : ∀ x, x ∈ l ↔ mget t.m x.job.key = some x) : t.srt = l :=
  (srt_rising h).ext hl fun x => by rw [mem_srt h, hm]

/-- The reference's table of a table. -/
def Tb.ref (t : Tb) : Rt := ⟨t.srt, t.ttl, t.epoch⟩
theorem has_ref {t : Tb} (h : t.good) (key : Str) : t.ref.has key = (mget t.m key).isSome ∧ (∀ x, mget t.m key = some x → t.srt[t.ref.at key]? = some x) := by
  have key1 : ∀ x, mget t.m key = some x → t.srt[t.ref.at key]? = some x ∧ t.ref.has key = true := fun x hx => by
    have hk := h.get hx
    have hmem : x ∈ t.srt := (mem_srt h x).2 (by rw [hk]; exact hx)
    obtain ⟨i, hi⟩ := List.mem_iff_getElem?.1 hmem
    have hil := (List.getElem?_eq_some_iff.1 hi).1
    obtain ⟨e1, e2⟩ := at_hit (r := t.ref) (key := key) hi (geK_iff.2 (by rw [hk]; exact List.lt_irrefl _)) (fun j z hj hz => by
      cases hg : geK key z with
      | false => rfl
      | true =>
        have := geK_iff.1 hg
        have hlt := List.pairwise_iff_getElem.1 (srt_rising h) j i (by omega) hil hj
        have hz' : t.srt[j]? = some z := hz
        rw [List.getElem?_eq_getElem (by omega)] at hz'
        rw [List.getElem?_eq_getElem hil] at hi
        rw [Option.some.inj hz', Option.some.inj hi, hk] at hlt
        exact absurd hlt this)
    exact ⟨by rw [e1]; exact hi, by rw [e2, hk]; simp⟩
  refine ⟨?_, fun x hx => (key1 x hx).1⟩
  cases hg : mget t.m key with
  | some x => rw [(key1 x hg).2]; rfl
  | none =>
    cases hh : t.ref.has key with
    | false => rfl
    | true =>
      obtain ⟨x, hx, hxk⟩ := has_get hh
      have := (mem_srt h x).1 (List.mem_of_getElem? hx)
      rw [hxk, hg] at this; cases this

theorem ins_rising {l : List Ls} (hl : Rising l) {y : Ls} (hy : ∀ x ∈ l, x.job.key ≠ y.job.key) : Rising (l.take (l.findIdx (geK y.job.key)) ++ [y] ++ l.drop (l.findIdx (geK y.job.key))) := by
  have hn : ∀ x ∈ l.take (l.findIdx (geK y.job.key)), x.job.key < y.job.key := fun x hx => by
    obtain ⟨j, hj⟩ := List.mem_iff_getElem?.1 hx
    rw [List.getElem?_take] at hj
    split at hj
    · rename_i hlt
      have := List.not_of_lt_findIdx hlt
      have hjl := (List.getElem?_eq_some_iff.1 hj).1
      rw [List.getElem?_eq_getElem hjl] at hj
      rw [Option.some.inj hj] at this
      cases hd : decide (x.job.key < y.job.key) with
      | true => exact of_decide_eq_true hd
      | false => exact absurd (geK_iff.2 (of_decide_eq_false hd)) (by simpa using this)
    · cases hj
  have hd : ∀ x ∈ l.drop (l.findIdx (geK y.job.key)), y.job.key < x.job.key := fun x hx => by
    obtain ⟨j, hj⟩ := List.mem_iff_getElem?.1 hx
    rw [List.getElem?_drop] at hj
    have hjl := (List.getElem?_eq_some_iff.1 hj).1
    have hil : l.findIdx (geK y.job.key) < l.length := by omega
    have h0 := List.findIdx_getElem (w := hil)
    have hge := geK_iff.1 h0
    have hxm : x ∈ l := List.mem_of_getElem? hj
    have hle : ¬ x.job.key < y.job.key := by
      rcases Nat.eq_zero_or_pos j with rfl | hjp
      · rw [Nat.add_zero, List.getElem?_eq_getElem hil] at hj
        rw [← Option.some.inj hj]; exact hge
      · have hlt := List.pairwise_iff_getElem.1 hl (l.findIdx (geK y.job.key)) (l.findIdx (geK y.job.key) + j) hil hjl (by omega)
        rw [List.getElem?_eq_getElem hjl] at hj
        rw [Option.some.inj hj] at hlt
        intro hc
        exact hge (List.lt_trans hlt hc)
    exact slt_of_not hle (hy x hxm)
  unfold Rising
  rw [List.append_assoc, List.pairwise_append]
  refine ⟨hl.sublist (List.take_sublist _ _), ?_, fun a ha b hb => ?_⟩
  · rw [List.singleton_append, List.pairwise_cons]
    exact ⟨hd, hl.sublist (List.drop_sublist _ _)⟩
  · rw [List.singleton_append] at hb
    rcases List.mem_cons.1 hb with rfl | hb
    · exact hn a ha
    · exact List.lt_trans (hn a ha) (hd b hb)


theorem nameE_cases (s : Str) : nameE s = 0 ∨ nameE s = 14 := by unfold nameE; cases isName s <;> simp
theorem mem_of_good {t : Tb} (h : t.good) {q : Str × Ls} : q ∈ t.m ↔ mget t.m q.1 = some q.2 := ⟨fun hq => mget_of_mem h.keyed hq, fun hq => mem_of_mget hq⟩
theorem put_good {t : Tb} (h : t.good) (a e : Int) {k : Str} {x : Ls} (hk : x.job.key = k) (hw : nameE x.worker = 0) (hl : k.length ≤ maxLen) : (⟨a, e, mput t.m k x⟩ : Tb).good := by
  have hK : Keyed1 (mput t.m k x) := h.keyed.put k x
  have key : ∀ q ∈ mput t.m k x, (q.1 = k ∧ q.2 = x) ∨ q ∈ t.m := fun q hq => by
    have hg := mget_of_mem hK (k := q.1) (v := q.2) hq
    rw [mget_put] at hg
    split at hg
    · rename_i h1; exact .inl ⟨h1, (Option.some.inj hg).symm⟩
    · exact .inr (mem_of_mget hg)
  refine ⟨hK, fun q hq => ?_, fun q hq => ?_, fun q hq => ?_⟩ <;> rcases key q hq with ⟨h1, h2⟩ | h1
  · rw [h1, h2, hk]
  · exact h.key q h1
  · rw [h2, hw]
  · exact h.wk q h1
  · rw [h1]; exact hl
  · exact h.len q h1
theorem sub_good {t : Tb} (h : t.good) (a e : Int) {m : List (Str × Ls)} (hm : m.Sublist t.m) : (⟨a, e, m⟩ : Tb).good :=
  ⟨h.keyed.sublist (hm.map _), fun q hq => h.key q (hm.subset hq), fun q hq => h.wk q (hm.subset hq), fun q hq => h.len q (hm.subset hq)⟩
theorem good_of {t t' : Tb} (h : t.good) (he : t'.m = t.m) : t'.good := ⟨by rw [he]; exact h.keyed, by rw [he]; exact h.key, by rw [he]; exact h.wk, by rw [he]; exact h.len⟩
theorem srt_of {t t' : Tb} (he : t'.m = t.m) : t'.srt = t.srt := by rw [Tb.srt, Tb.srt, he]
theorem key_none {t : Tb} (h : t.good) {k : Str} (hg : mget t.m k = none) : ∀ x ∈ t.srt, x.job.key ≠ k := fun x hx e => by
  have := (mem_srt h x).1 hx
  rw [e, hg] at this; cases this

theorem srt_put {t : Tb} (h : t.good) (a e : Int) {x : Ls} (hg : mget t.m x.job.key = none) (hw : nameE x.worker = 0) (hl : x.job.key.length ≤ maxLen) :
    (⟨a, e, mput t.m x.job.key x⟩ : Tb).srt = t.srt.take (t.ref.at x.job.key) ++ [x] ++ t.srt.drop (t.ref.at x.job.key) := by
  refine srt_is (put_good h a e rfl hw hl) (ins_rising (srt_rising h) (key_none h hg)) fun y => ?_
  show _ ↔ mget (mput t.m x.job.key x) y.job.key = some y
  have hsp := List.take_append_drop (t.ref.at x.job.key) t.srt
  have hm : y ∈ t.srt ↔ y ∈ t.srt.take (t.ref.at x.job.key) ∨ y ∈ t.srt.drop (t.ref.at x.job.key) := by
    conv => lhs; rw [← hsp]
    exact List.mem_append
  have h1 : y ∈ t.srt.take (t.ref.at x.job.key) ++ [x] ++ t.srt.drop (t.ref.at x.job.key) ↔ y = x ∨ y ∈ t.srt := by
    rw [hm]
    simp only [List.mem_append, List.mem_singleton]
    constructor
    · rintro ((h | h) | h)
      · exact .inr (.inl h)
      · exact .inl h
      · exact .inr (.inr h)
    · rintro (h | h | h)
      · exact .inl (.inr h)
      · exact .inl (.inl h)
      · exact .inr h
  refine h1.trans ?_
  rw [mem_srt h, mget_put]
  constructor
  · rintro (rfl | hy)
    · rw [if_pos rfl]
    · rw [if_neg (fun e => by rw [e, hg] at hy; cases hy)]; exact hy
  · intro hy
    split at hy
    · exact .inl (Option.some.inj hy).symm
    · exact .inr hy
theorem srt_set {t : Tb} (h : t.good) (a e : Int) {x x' : Ls} (hg : mget t.m x.job.key = some x) : (⟨a, e, mput t.m x.job.key x'⟩ : Tb).srt = t.srt.set (t.ref.at x.job.key) x' := by
  have hks : srtK (mput t.m x.job.key x') = srtK t.m := by
    rw [srtK, srtK, mput_keys, if_pos (List.mem_map.2 ⟨_, mem_of_mget hg, rfl⟩)]
  have hi := (has_ref h x.job.key).2 x hg
  have hkn : (srtK t.m).Nodup := (srtK_perm t.m).nodup_iff.2 h.keyed
  have hki : (srtK t.m)[t.ref.at x.job.key]? = some x.job.key := by
    rw [Tb.srt, List.getElem?_map] at hi
    cases hk : (srtK t.m)[t.ref.at x.job.key]? with
    | none => rw [hk] at hi; cases hi
    | some k =>
      rw [hk] at hi
      have hm := (srtK_perm t.m).mem_iff.1 (List.mem_of_getElem? hk)
      cases hgk : mget t.m k with
      | none => exact absurd hm (mget_none.1 hgk)
      | some y =>
        simp only [Option.map_some, hgk, Option.getD_some, Option.some.injEq] at hi
        rw [← h.get hgk, hi]
  refine List.ext_getElem? fun j => ?_
  rw [Tb.srt, hks, List.getElem?_map, List.getElem?_set]
  have hil := (List.getElem?_eq_some_iff.1 hi).1
  by_cases hj : t.ref.at x.job.key = j
  · subst hj
    rw [if_pos rfl, if_pos hil, hki]
    simp [mget_put]
  · rw [if_neg hj, Tb.srt, List.getElem?_map]
    cases hk : (srtK t.m)[j]? with
    | none => rfl
    | some k =>
      have hne : k ≠ x.job.key := fun e => hj (by
        rw [e, ← hki] at hk
        exact (List.getElem?_inj (by rw [srtK_len]; rw [Tb.srt_len] at hil; exact hil) hkn).1 hk.symm)
      simp only [Option.map_some, mget_put, if_neg hne]
theorem srt_del {t : Tb} (h : t.good) (a e : Int) {x : Ls} (hg : mget t.m x.job.key = some x) : (⟨a, e, mdel t.m x.job.key⟩ : Tb).srt = t.srt.eraseIdx (t.ref.at x.job.key) := by
  have hi := (has_ref h x.job.key).2 x hg
  have hil := (List.getElem?_eq_some_iff.1 hi).1
  refine srt_is (sub_good h a e (mdel_sub _ _)) ((srt_rising h).sublist (List.eraseIdx_sublist _ _)) fun y => ?_
  show _ ↔ mget (mdel t.m x.job.key) y.job.key = some y
  rw [mget_del h.keyed, List.eraseIdx_eq_take_drop_succ]
  obtain ⟨i, hie⟩ : ∃ i, t.ref.at x.job.key = i := ⟨_, rfl⟩
  rw [hie] at hi hil ⊢
  have hsp : t.srt = t.srt.take i ++ x :: t.srt.drop (i + 1) := by
    rw [List.getElem?_eq_getElem hil] at hi
    have := List.drop_eq_getElem_cons hil
    rw [Option.some.inj hi] at this
    rw [← this, List.take_append_drop]
  have hnd := (srt_rising h).nodup
  rw [hsp, List.nodup_append] at hnd
  obtain ⟨_, hnd2, hnd3⟩ := hnd
  have hm : y ∈ t.srt ↔ y ∈ t.srt.take i ∨ y = x ∨ y ∈ t.srt.drop (i + 1) := by
    conv => lhs; rw [hsp]
    simp only [List.mem_append, List.mem_cons]
  rw [mem_srt h] at hm
  constructor
  · intro hy
    have hne : y ≠ x := by
      rintro rfl
      rcases List.mem_append.1 hy with hy | hy
      · exact hnd3 y hy y (List.mem_cons_self ..) rfl
      · exact (List.nodup_cons.1 hnd2).1 hy
    have hy' : mget t.m y.job.key = some y := hm.2 (by rcases List.mem_append.1 hy with hy | hy; exact .inl hy; exact .inr (.inr hy))
    rw [if_neg (fun e => hne (by rw [e, hg] at hy'; exact (Option.some.inj hy').symm))]; exact hy'
  · intro hy
    split at hy
    · cases hy
    · rename_i hne
      rcases hm.1 hy with h1 | h1 | h1
      · exact List.mem_append_left _ h1
      · exact absurd (by rw [h1]) hne
      · exact List.mem_append_right _ h1
theorem delAll_sub : ∀ (l : List Ls) (m : List (Str × Ls)), (delAll m l).Sublist m
  | [], m => List.Sublist.refl _
  | x :: l, m => (delAll_sub l (mdel m x.job.key)).trans (mdel_sub _ _)
theorem mget_delAll (k : Str) : ∀ (l : List Ls) (m : List (Str × Ls)), Keyed1 m → mget (delAll m l) k = if k ∈ l.map (·.job.key) then none else mget m k
  | [], m, _ => by simp [delAll]
  | x :: l, m, h => by
    have := mget_delAll k l (mdel m x.job.key) (h.del _)
    rw [show delAll m (x :: l) = delAll (mdel m x.job.key) l from rfl, this, mget_del h]
    by_cases h1 : k ∈ l.map (·.job.key) <;> by_cases h2 : k = x.job.key <;> simp [h1, h2]
theorem take_good {t : Tb} (h : t.good) (p : Ls → Bool) : (t.take p).1.good := sub_good h _ _ (delAll_sub _ _)
theorem srt_take {t : Tb} (h : t.good) (p : Ls → Bool) : (t.take p).1.srt = t.srt.filter (fun x => !p x) := by
  refine srt_is (take_good h p) ((srt_rising h).sublist List.filter_sublist) fun y => ?_
  show _ ↔ mget (delAll t.m (t.srt.filter p)) y.job.key = some y
  rw [mget_delAll _ _ _ h.keyed, List.mem_filter, mem_srt h]
  constructor
  · rintro ⟨h1, h2⟩
    rw [if_neg]
    · exact h1
    · rw [List.mem_map]
      rintro ⟨z, hz, hzk⟩
      obtain ⟨hz1, hz2⟩ := List.mem_filter.1 hz
      rw [mem_srt h, hzk, h1] at hz1
      rw [← Option.some.inj hz1] at hz2
      rw [hz2] at h2; cases h2
  · intro hy
    split at hy
    · cases hy
    · rename_i hn
      refine ⟨hy, ?_⟩
      cases hp : p y with
      | false => rfl
      | true => exact absurd (List.mem_map.2 ⟨y, List.mem_filter.2 ⟨(mem_srt h y).2 hy, hp⟩, rfl⟩) hn

theorem ref_grant {t : Tb} (h : t.good) (j : Jb) (w : Str) (now : Int) (hl : j.key.length ≤ maxLen) : t.ref.grant j w now = ((t.grant j w now).1.ref, (t.grant j w now).2) ∧ (t.grant j w now).1.good := by
  unfold Rt.grant Tb.grant
  rcases nameE_cases w with hw | hw
  · rw [if_pos hw, if_pos hw]
    cases ht : timeB now with
    | false => exact ⟨rfl, h⟩
    | true =>
      simp only [if_true]
      rw [(has_ref h j.key).1]
      cases hg : mget t.m j.key with
      | some x => exact ⟨rfl, h⟩
      | none =>
        have e := srt_put h t.ttl (t.epoch + 1) (x := t.lease j w now) hg hw hl
        refine ⟨?_, put_good h _ _ rfl hw hl⟩
        simp only [Option.isSome_none, Bool.false_eq_true, if_false, Tb.ref, Rt.lease, Prod.mk.injEq, Rt.mk.injEq, and_true]
        exact ⟨e.symm, rfl⟩
  · rw [if_neg (by omega), if_neg (by omega), hw]; exact ⟨rfl, h⟩
theorem get_ref {t : Tb} (h : t.good) {k : Str} {x : Ls} (hx : mget t.m k = some x) : t.ref.get k = x := by
  rw [Rt.get, show t.ref.l = t.srt from rfl, (has_ref h k).2 x hx]; rfl
theorem ref_renew {t : Tb} (h : t.good) (k : Str) (e now : Int) : t.ref.renew k e now = ((t.renew k e now).1.ref, (t.renew k e now).2) ∧ (t.renew k e now).1.good := by
  unfold Rt.renew Tb.renew
  cases ht : timeB now with
  | false => exact ⟨rfl, h⟩
  | true =>
    simp only [if_true]
    rw [(has_ref h k).1]
    cases hg : mget t.m k with
    | none => simp [Tb.find, hg]; exact h
    | some x =>
      have hk := h.get hg
      have hq := mem_of_mget hg
      simp only [Tb.find, hg, Option.isSome_some, if_true, get_ref h hg]
      by_cases he : x.epoch = e
      · subst he
        simp only [if_true, true_and]
        by_cases hu : x.upto < now
        · simp only [hu, not_true, if_false, if_true]; first | exact ⟨rfl, h⟩ | exact ⟨trivial, h⟩
        · simp only [hu, not_false_iff, if_true, if_false]
          subst hk
          exact ⟨congrArg (fun l => ((⟨l, t.ttl, t.epoch⟩ : Rt), (0 : Int))) (srt_set h t.ttl t.epoch (x' := { x with upto := now + t.ttl }) hg).symm, put_good h _ _ rfl (h.wk _ hq) (h.len _ hq)⟩
      · simp only [he, if_false, false_and]; exact ⟨rfl, h⟩
theorem ref_finish {t : Tb} (h : t.good) (k : Str) (e : Int) : t.ref.finish k e = ((t.finish k e).1.ref, (t.finish k e).2) ∧ (t.finish k e).1.good := by
  unfold Rt.finish Tb.finish
  rw [(has_ref h k).1]
  cases hg : mget t.m k with
  | none => simp [Tb.find, hg]; exact h
  | some x =>
    have hk := h.get hg
    simp only [Tb.find, hg, Option.isSome_some, if_true, get_ref h hg]
    by_cases he : x.epoch = e
    · simp only [he, if_true]
      subst hk
      exact ⟨congrArg (fun l => ((⟨l, t.ttl, t.epoch⟩ : Rt), (0 : Int))) (srt_del h t.ttl t.epoch hg).symm, sub_good h _ _ (mdel_sub _ _)⟩
    · simp only [he, if_false]; exact ⟨rfl, h⟩
theorem ref_take {t : Tb} (h : t.good) (p : Ls → Bool) : t.ref.take p = ((t.take p).1.ref, (t.take p).2) := by
  rw [Rt.take, Tb.ref, Tb.ref, srt_take h]; rfl
theorem take_len (t : Tb) (p : Ls → Bool) : (t.take p).1.m.length ≤ t.m.length := (delAll_sub _ _).length_le
theorem rp_now (now : Int) : rp now [] = fun x => decide (x.upto < now) := by funext x; simp [rp]
theorem rp_wk {wk : Str} (h : wk ≠ []) : rp 0 wk = fun x => decide (x.worker = wk) := by funext x; simp [rp, h]
/-- No lease is of no worker. -/
theorem take_noone {t : Tb} (h : t.good) : t.take (fun x => decide (x.worker = [])) = (t, []) := by
  have : t.srt.filter (fun x => decide (x.worker = [])) = [] := by
    rw [List.filter_eq_nil_iff]
    intro x hx
    have := h.wk _ (mem_of_mget ((mem_srt h x).1 hx))
    simp only [decide_eq_true_eq]
    intro e
    rw [show (x.job.key, x).2.worker = x.worker from rfl, e] at this
    exact absurd this (by decide)
  simp [Tb.take, this, delAll]
end Go.Proofs.Ytfnpjmlpiedgdaa
