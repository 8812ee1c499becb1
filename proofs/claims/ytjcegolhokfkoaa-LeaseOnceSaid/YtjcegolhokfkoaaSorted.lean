/-
  Leases by rising key.
-/
import Derived.Test.YtjcegolhokfkoaaRTake
import Derived.Sort.Walk0
namespace Go.Proofs.Ytjcegolhokfkoaa
open Go.Eng


theorem slt_of_not {a b : Str} (h1 : ¬ a < b) (h2 : a ≠ b) : b < a := by
  have h3 : b ≤ a := List.not_lt.1 h1
  rcases List.le_iff_lt_or_eq.1 h3 with h | h
  · exact h
  · exact absurd h.symm h2
theorem geK_iff {key : Str} {x : Ls} : geK key x = true ↔ ¬ x.job.key < key := by
  rw [geK, bytesLess_eq]; simp
def Rising (l : List Ls) : Prop := l.Pairwise (fun a b => a.job.key < b.job.key)
theorem Rising.nodup {l : List Ls} (h : Rising l) : l.Nodup := h.imp (fun {_ _} hab e => by subst e; exact List.lt_irrefl _ hab)
/-- A rising list is told by what stands in it. -/
theorem Rising.ext {l m : List Ls} (hl : Rising l) (hm : Rising m) (h : ∀ x, x ∈ l ↔ x ∈ m) : l = m :=
  List.Perm.eq_of_pairwise (le := fun a b : Ls => a.job.key < b.job.key) (fun a b _ _ h1 h2 => absurd (List.lt_trans h1 h2) (List.lt_irrefl _)) hl hm ((List.perm_ext_iff_of_nodup hl.nodup hm.nodup).2 h)

structure Tb.good (t : Tb) : Prop where
  keyed : Keyed1 t.m
  key : ∀ q ∈ t.m, q.2.job.key = q.1
  wk : ∀ q ∈ t.m, nameE q.2.worker = 0
  len : ∀ q ∈ t.m, q.1.length ≤ maxLen
theorem Tb.good.get {t : Tb} (h : t.good) {k : Str} {x : Ls} (hx : mget t.m k = some x) : x.job.key = k := h.key _ (mem_of_mget hx)
theorem mem_srt {t : Tb} (h : t.good) (x : Ls) : x ∈ t.srt ↔ mget t.m x.job.key = some x := by
  unfold Tb.srt
  rw [List.mem_map]
  constructor
  · rintro ⟨k, hk, rfl⟩
    have hk' := (srtK_perm t.m).mem_iff.1 hk
    cases hg : mget t.m k with
    | none => exact absurd hk' (mget_none.1 hg)
    | some y => simp only [Option.getD_some]; rw [h.get hg]; exact hg
  · intro hx
    refine ⟨x.job.key, (srtK_perm t.m).mem_iff.2 (List.mem_map.2 ⟨_, mem_of_mget hx, rfl⟩), by rw [hx]; rfl⟩
theorem srtK_rising {β : Type} {m : List (Str × β)} (h : Keyed1 m) : (srtK m).Pairwise (fun a b => a < b) := by
  have h1 : (srtK m).Pairwise (fun a b => leB a b = true) := List.pairwise_mergeSort (fun a b c h1 h2 => by simp only [leB, decide_eq_true_eq] at *; exact List.le_trans h1 h2) (fun a b => by simp only [leB, Bool.or_eq_true, decide_eq_true_eq]; exact List.le_total a b) _
  have h2 : (srtK m).Nodup := (srtK_perm m).nodup_iff.2 h
  refine (h1.and h2).imp fun {a b} ⟨hab, hne⟩ => ?_
  simp only [leB, decide_eq_true_eq] at hab
  rcases List.le_iff_lt_or_eq.1 hab with h | h
  · exact h
  · exact absurd h hne
theorem srt_rising {t : Tb} (h : t.good) : Rising t.srt := by
  unfold Rising Tb.srt
  rw [List.pairwise_map]
  refine (srtK_rising h.keyed).imp_of_mem fun {a b} ha hb hab => ?_
  have get : ∀ k ∈ srtK t.m, ((mget t.m k).getD noL).job.key = k := fun k hk => by
    have hk' := (srtK_perm t.m).mem_iff.1 hk
    cases hg : mget t.m k with
    | none => exact absurd hk' (mget_none.1 hg)
    | some y => exact h.get hg
  rw [get a ha, get b hb]; exact hab
theorem srt_is {t : Tb} (h : t.good) {l : List Ls} (hl : Rising l) (hm : ∀ x, x ∈ l ↔ mget t.m x.job.key = some x) : t.srt = l :=
  (srt_rising h).ext hl fun x => by rw [mem_srt h, hm]

/-- The reference's table of a table. -/
def Tb.ref (t : Tb) : Rt := ⟨t.srt, t.ttl, t.epoch⟩
theorem has_ref {t : Tb} (h : t.good) (key : Str) : t.ref.has key = (mget t.m key).isSome ∧ (∀ x, mget t.m key = some x → t.srt[t.ref.at key]? = some x) := by
  have key1 : ∀ x, mget t.m key = some x → t.srt[t.ref.at key]? = some x ∧ t.ref.has key = true := fun x hx => by
    have hk := h.get hx
    have hmem : x ∈ t.srt := (mem_srt h x).2 (by rw [hk]; exact hx)
    obtain ⟨i, hi⟩ := List.mem_iff_getElem?.1 hmem
    have hil := (List.getElem?_eq_some_iff.1 hi).1
    obtain ⟨e1, e2⟩ := at_hit (r := t.ref) (key := key) hi (geK_iff.2 (by rw [hk]; exact List.lt_irrefl _)) (fun j z hj hz => by
      cases hg : geK key z with
      | false => rfl
      | true =>
        have := geK_iff.1 hg
        have hlt := List.pairwise_iff_getElem.1 (srt_rising h) j i (by omega) hil hj
        have hz' : t.srt[j]? = some z := hz
        rw [List.getElem?_eq_getElem (by omega)] at hz'
        rw [List.getElem?_eq_getElem hil] at hi
        rw [Option.some.inj hz', Option.some.inj hi, hk] at hlt
        exact absurd hlt this)
    exact ⟨by rw [e1]; exact hi, by rw [e2, hk]; simp⟩
  refine ⟨?_, fun x hx => (key1 x hx).1⟩
  cases hg : mget t.m key with
  | some x => rw [(key1 x hg).2]; rfl
  | none =>
    cases hh : t.ref.has key with
    | false => rfl
    | true =>
      obtain ⟨x, hx, hxk⟩ := has_get hh
      have := (mem_srt h x).1 (List.mem_of_getElem? hx)
      rw [hxk, hg] at this; cases this

theorem ins_rising {l : List Ls} (hl : Rising l) {y : Ls} (hy : ∀ x ∈ l, x.job.key ≠ y.job.key) : Rising (l.take (l.findIdx (geK y.job.key)) ++ [y] ++ l.drop (l.findIdx (geK y.job.key))) := by
  have hn : ∀ x ∈ l.take (l.findIdx (geK y.job.key)), x.job.key < y.job.key := fun x hx => by
    obtain ⟨j, hj⟩ := List.mem_iff_getElem?.1 hx
    rw [List.getElem?_take] at hj
    split at hj
    · rename_i hlt
      have := List.not_of_lt_findIdx hlt
      have hjl := (List.getElem?_eq_some_iff.1 hj).1
      rw [List.getElem?_eq_getElem hjl] at hj
      rw [Option.some.inj hj] at this
      cases hd : decide (x.job.key < y.job.key) with
      | true => exact of_decide_eq_true hd
      | false => exact absurd (geK_iff.2 (of_decide_eq_false hd)) (by simpa using this)
    · cases hj
  have hd : ∀ x ∈ l.drop (l.findIdx (geK y.job.key)), y.job.key < x.job.key := fun x hx => by
    obtain ⟨j, hj⟩ := List.mem_iff_getElem?.1 hx
    rw [List.getElem?_drop] at hj
    have hjl := (List.getElem?_eq_some_iff.1 hj).1
    have hil : l.findIdx (geK y.job.key) < l.length := by omega
    have h0 := List.findIdx_getElem (w := hil)
    have hge := geK_iff.1 h0
    have hxm : x ∈ l := List.mem_of_getElem? hj
    have hle : ¬ x.job.key < y.job.key := by
      rcases Nat.eq_zero_or_pos j with rfl | hjp
      · rw [Nat.add_zero, List.getElem?_eq_getElem hil] at hj
        rw [← Option.some.inj hj]; exact hge
      · have hlt := List.pairwise_iff_getElem.1 hl (l.findIdx (geK y.job.key)) (l.findIdx (geK y.job.key) + j) hil hjl (by omega)
        rw [List.getElem?_eq_getElem hjl] at hj
        rw [Option.some.inj hj] at hlt
        intro hc
        exact hge (List.lt_trans hlt hc)
    exact slt_of_not hle (hy x hxm)
  unfold Rising
  rw [List.append_assoc, List.pairwise_append]
  refine ⟨hl.sublist (List.take_sublist _ _), ?_, fun a ha b hb => ?_⟩
  · rw [List.singleton_append, List.pairwise_cons]
    exact ⟨hd, hl.sublist (List.drop_sublist _ _)⟩
  · rw [List.singleton_append] at hb
    rcases List.mem_cons.1 hb with rfl | hb
    · exact hn a ha
    · exact List.lt_trans (hn a ha) (hd b hb)
end Go.Proofs.Ytjcegolhokfkoaa
