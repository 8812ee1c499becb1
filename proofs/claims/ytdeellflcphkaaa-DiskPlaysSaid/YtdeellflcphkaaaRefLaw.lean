/-
  Plain laws: a disk and the reference's do alike.
-/
import Derived.Test.YtdeellflcphkaaaWalkR
import Derived.Sort.Walk0
namespace Go.Proofs.Ytdeellflcphkaaa
open Go.Eng


theorem slt_of_not {a b : Str} (h1 : ¬ a < b) (h2 : a ≠ b) : b < a := by
  have h3 : b ≤ a := List.not_lt.1 h1
  rcases List.le_iff_lt_or_eq.1 h3 with h | h
  · exact h
  · exact absurd h.symm h2
theorem geN_iff {key : Str} {x : Gf} : geN key x = true ↔ ¬ x.name < key := by
  rw [geN, bytesLess_eq]; simp
def RisingG (l : List Gf) : Prop := l.Pairwise (fun a b => a.name < b.name)
theorem RisingG.nodup {l : List Gf} (h : RisingG l) : l.Nodup := h.imp (fun {_ _} hab e => by subst e; exact List.lt_irrefl _ hab)
theorem RisingG.ext {l m : List Gf} (hl : RisingG l) (hm : RisingG m) (h : ∀ x, x ∈ l ↔ x ∈ m) : l = m :=
  List.Perm.eq_of_pairwise (le := fun a b : Gf => a.name < b.name) (fun a b _ _ h1 h2 => absurd (List.lt_trans h1 h2) (List.lt_irrefl _)) hl hm ((List.perm_ext_iff_of_nodup hl.nodup hm.nodup).2 h)
theorem at_of {r : Rk} (h : RisingG r.l) {i : Nat} {x : Gf} (hx : r.l[i]? = some x) : r.at x.name = i ∧ r.has x.name = true := by
  obtain ⟨e1, e2⟩ := at_hit (r := r) (key := x.name) hx (geN_iff.2 (List.lt_irrefl _)) (fun j z hj hz => by
    cases hg : geN x.name z with
    | false => rfl
    | true =>
      have hil := (List.getElem?_eq_some_iff.1 hx).1
      have hlt := List.pairwise_iff_getElem.1 h j i (by omega) hil hj
      rw [List.getElem?_eq_getElem (by omega)] at hz
      rw [List.getElem?_eq_getElem hil] at hx
      rw [Option.some.inj hz, Option.some.inj hx] at hlt
      exact absurd hlt (geN_iff.1 hg))
  exact ⟨e1, by rw [e2]; simp⟩
theorem get_of {r : Rk} (h : RisingG r.l) {x : Gf} (hx : x ∈ r.l) : r.has x.name = true ∧ r.get x.name = x := by
  obtain ⟨i, hi⟩ := List.mem_iff_getElem?.1 hx
  obtain ⟨e1, e2⟩ := at_of h hi
  exact ⟨e2, by rw [Rk.get, e1, hi]; rfl⟩
theorem has_mem {r : Rk} {s : Str} (h : r.has s = true) : r.get s ∈ r.l ∧ (r.get s).name = s := by
  obtain ⟨x, hx, hn⟩ := has_get h
  have e : r.get s = x := by simp [Rk.get, hx]
  rw [e]; exact ⟨List.mem_of_getElem? hx, hn⟩
theorem has_none {r : Rk} (h : RisingG r.l) {s : Str} (hn : ∀ x ∈ r.l, x.name ≠ s) : r.has s = false := by
  cases hh : r.has s with
  | false => rfl
  | true => exact absurd (has_mem hh).2 (hn _ (has_mem hh).1)
theorem at_split {r : Rk} (h : RisingG r.l) (s : Str) : (∀ x ∈ r.l.take (r.at s), x.name < s) ∧ (∀ x ∈ r.l.drop (r.past s), s < x.name) ∧
    (∀ x, x ∈ r.l ↔ x ∈ r.l.take (r.at s) ∨ x ∈ r.l.drop (r.past s) ∨ (r.has s = true ∧ x = r.get s)) := by
  have h1 : ∀ x ∈ r.l.take (r.at s), x.name < s := fun x hx => by
    obtain ⟨j, hj⟩ := List.mem_iff_getElem?.1 hx
    rw [List.getElem?_take] at hj
    split at hj
    · rename_i hlt
      have := List.not_of_lt_findIdx (show j < r.l.findIdx (geN s) from hlt)
      have hjl := (List.getElem?_eq_some_iff.1 hj).1
      rw [List.getElem?_eq_getElem hjl] at hj
      rw [Option.some.inj hj] at this
      cases hd : decide (x.name < s) with
      | true => exact of_decide_eq_true hd
      | false => exact absurd (geN_iff.2 (of_decide_eq_false hd)) (by simpa using this)
    · cases hj
  cases hh : r.has s with
  | true =>
    obtain ⟨x, hx, hn⟩ := has_get hh
    have hil := (List.getElem?_eq_some_iff.1 hx).1
    have hp : r.past s = r.at s + 1 := by rw [Rk.past, hh, if_pos rfl]
    have hg : r.get s = x := by simp [Rk.get, hx]
    have hsp : r.l = r.l.take (r.at s) ++ x :: r.l.drop (r.at s + 1) := by
      conv => lhs; rw [← List.take_append_drop (r.at s) r.l]
      rw [List.drop_eq_getElem_cons hil]; rw [List.getElem?_eq_getElem hil] at hx; rw [Option.some.inj hx]
    rw [hp]
    refine ⟨h1, fun y hy => ?_, fun y => ?_⟩
    · have h2 := h
      rw [hsp] at h2
      have := (List.pairwise_cons.1 (List.pairwise_append.1 h2).2.1).1 y hy
      rw [hn] at this; exact this
    · rw [hg]
      conv => lhs; rw [hsp]
      rw [List.mem_append, List.mem_cons]
      constructor
      · rintro (h | h | h)
        · exact .inl h
        · exact .inr (.inr ⟨rfl, h⟩)
        · exact .inr (.inl h)
      · rintro (h | h | ⟨_, h⟩)
        · exact .inl h
        · exact .inr (.inr h)
        · exact .inr (.inl h)
  | false =>
    have hp : r.past s = r.at s := by rw [Rk.past, hh, if_neg (by decide)]
    rw [hp]
    refine ⟨h1, fun y hy => ?_, fun y => ?_⟩
    · have hil : r.at s < r.l.length := by
        apply Nat.lt_of_not_le
        intro hle
        rw [List.drop_of_length_le hle] at hy; cases hy
      have hx := List.getElem?_eq_getElem hil
      have h0 := List.findIdx_getElem (w := show r.l.findIdx (geN s) < r.l.length from hil)
      have hge : ¬ (r.l[r.at s]).name < s := geN_iff.1 h0
      have hne : (r.l[r.at s]).name ≠ s := fun e => by
        have := hh
        rw [Rk.has, hx] at this
        simp [e] at this
      have hgt := slt_of_not hge hne
      rw [List.drop_eq_getElem_cons hil] at hy
      rcases List.mem_cons.1 hy with rfl | hy
      · exact hgt
      · have h2 := h
        rw [← List.take_append_drop (r.at s) r.l, List.drop_eq_getElem_cons hil] at h2
        have h2' : (r.l.take (r.at s) ++ r.l[r.at s] :: r.l.drop (r.at s + 1)).Pairwise (fun a b => a.name < b.name) := h2
        exact List.lt_trans hgt ((List.pairwise_cons.1 (List.pairwise_append.1 h2').2.1).1 y hy)
    · conv => lhs; rw [← List.take_append_drop (r.at s) r.l]
      rw [List.mem_append]
      simp
theorem set_rising {r : Rk} (h : RisingG r.l) (f : Gf) : RisingG (r.set f).l := by
  obtain ⟨h1, h2, _⟩ := at_split h f.name
  unfold RisingG Rk.set
  simp only
  rw [List.append_assoc, List.pairwise_append]
  refine ⟨h.sublist (List.take_sublist _ _), ?_, fun a ha b hb => ?_⟩
  · rw [List.singleton_append, List.pairwise_cons]
    exact ⟨h2, h.sublist (List.drop_sublist _ _)⟩
  · rw [List.singleton_append] at hb
    rcases List.mem_cons.1 hb with rfl | hb
    · exact h1 a ha
    · exact List.lt_trans (h1 a ha) (h2 b hb)
theorem mem_set {r : Rk} (h : RisingG r.l) (f x : Gf) : x ∈ (r.set f).l ↔ x = f ∨ (x ∈ r.l ∧ x.name ≠ f.name) := by
  obtain ⟨h1, h2, h3⟩ := at_split h f.name
  rw [h3 x]
  unfold Rk.set
  simp only [List.mem_append, List.mem_singleton]
  constructor
  · rintro ((h | h) | h)
    · exact .inr ⟨.inl h, fun e => by have := h1 x h; rw [e] at this; exact List.lt_irrefl _ this⟩
    · exact .inl h
    · exact .inr ⟨.inr (.inl h), fun e => by have := h2 x h; rw [e] at this; exact List.lt_irrefl _ this⟩
  · rintro (h | ⟨h | h | ⟨hh, h⟩, hn⟩)
    · exact .inl (.inr h)
    · exact .inl (.inl h)
    · exact .inr h
    · exact absurd (by rw [h]; exact (has_mem hh).2) hn
theorem drop_mem {r : Rk} (h : RisingG r.l) (s : Str) (x : Gf) : x ∈ (r.drop s).l ↔ x ∈ r.l ∧ x.name ≠ s := by
  obtain ⟨h1, h2, h3⟩ := at_split h s
  rw [Rk.drop]
  cases hh : r.has s with
  | true =>
    have hp : r.past s = r.at s + 1 := by rw [Rk.past, hh, if_pos rfl]
    rw [if_pos rfl]
    simp only
    rw [List.eraseIdx_eq_take_drop_succ, List.mem_append, h3 x, ← hp]
    constructor
    · rintro (h | h)
      · exact ⟨.inl h, fun e => by have := h1 x h; rw [e] at this; exact List.lt_irrefl _ this⟩
      · exact ⟨.inr (.inl h), fun e => by have := h2 x h; rw [e] at this; exact List.lt_irrefl _ this⟩
    · rintro ⟨h | h | ⟨hh, h⟩, hn⟩
      · exact .inl h
      · exact .inr h
      · exact absurd (by rw [h]; exact (has_mem hh).2) hn
  | false =>
    rw [if_neg (by decide)]
    constructor
    · intro hx
      refine ⟨hx, fun e => ?_⟩
      have := (get_of h hx).1
      rw [e, hh] at this; cases this
    · exact fun hx => hx.1
theorem drop_rising {r : Rk} (h : RisingG r.l) (s : Str) : RisingG (r.drop s).l := by
  rw [Rk.drop]
  split
  · exact h.sublist (List.eraseIdx_sublist _ _)
  · exact h
theorem set_at {r : Rk} (h : RisingG r.l) {i : Nat} {x f : Gf} (hx : r.l[i]? = some x) (hn : f.name = x.name) : (r.set f).l = r.l.set i f := by
  obtain ⟨e1, e2⟩ := at_of h hx
  have hil := (List.getElem?_eq_some_iff.1 hx).1
  rw [Rk.set]
  simp only
  rw [hn, Rk.past, e2, if_pos rfl, e1, List.set_eq_take_append_cons_drop, if_pos hil, List.append_assoc]; rfl

/-! ### A disk's files, by their names -/
theorem srtK_rising {β : Type} {m : List (Str × β)} (h : Keyed1 m) : (srtK m).Pairwise (fun a b => a < b) := by
  have h1 : (srtK m).Pairwise (fun a b => leB a b = true) := List.pairwise_mergeSort (fun a b c h1 h2 => by simp only [leB, decide_eq_true_eq] at *; exact List.le_trans h1 h2) (fun a b => by simp only [leB, Bool.or_eq_true, decide_eq_true_eq]; exact List.le_total a b) _
  have h2 : (srtK m).Nodup := (srtK_perm m).nodup_iff.2 h
  refine (h1.and h2).imp fun {a b} ⟨hab, hne⟩ => ?_
  simp only [leB, decide_eq_true_eq] at hab
  rcases List.le_iff_lt_or_eq.1 hab with h | h
  · exact h
  · exact absurd h hne
def Dk.fileOf (d : Dk) (s : Str) : Gf := ⟨s, (d.get s).data, (d.get s).firm⟩
def Dk.files (d : Dk) : List Gf := d.names.map d.fileOf
def Dk.ref (d : Dk) : Rk := ⟨d.files, d.limit, d.armed, d.dead⟩
theorem files_names (d : Dk) : d.files.map (·.name) = d.names := by
  rw [Dk.files, List.map_map]
  exact (List.map_congr_left fun _ _ => rfl).trans (List.map_id _)
theorem files_rising {d : Dk} (h : Keyed1 d.m) : RisingG d.files := by
  unfold RisingG Dk.files
  rw [List.pairwise_map]
  exact srtK_rising h
theorem mem_files {d : Dk} (h : Keyed1 d.m) (x : Gf) : x ∈ d.files ↔ mget d.m x.name = some ⟨x.data, x.firm⟩ := by
  unfold Dk.files
  rw [List.mem_map]
  constructor
  · rintro ⟨k, hk, rfl⟩
    have hk' := (srtK_perm d.m).mem_iff.1 hk
    cases hg : mget d.m k with
    | none => exact absurd hk' (mget_none.1 hg)
    | some y =>
      have e : d.get k = y := by rw [Dk.get, hg]; rfl
      show mget d.m k = some ⟨(d.get k).data, (d.get k).firm⟩
      rw [e]; exact hg
  · intro hx
    refine ⟨x.name, (srtK_perm d.m).mem_iff.2 (List.mem_map.2 ⟨_, mem_of_mget hx, rfl⟩), ?_⟩
    have e : d.get x.name = ⟨x.data, x.firm⟩ := by rw [Dk.get, hx]; rfl
    rw [Dk.fileOf, e]
theorem files_is {d : Dk} (h : Keyed1 d.m) {l : List Gf} (hl : RisingG l) (hm : ∀ x, x ∈ l ↔ mget d.m x.name = some ⟨x.data, x.firm⟩) : d.files = l :=
  (files_rising h).ext hl fun x => by rw [mem_files h, hm]
theorem files_m {d e : Dk} (h : d.m = e.m) : d.files = e.files := by
  have h1 : d.names = e.names := by rw [Dk.names, Dk.names, h]
  have h2 : d.fileOf = e.fileOf := by funext s; rw [Dk.fileOf, Dk.fileOf, Dk.get, Dk.get, h]
  rw [Dk.files, Dk.files, h1, h2]
theorem ref_has {d : Dk} (h : Keyed1 d.m) (s : Str) : d.ref.has s = (mget d.m s).isSome ∧ (∀ f, mget d.m s = some f → d.ref.get s = ⟨s, f.data, f.firm⟩) := by
  have hr : RisingG d.ref.l := files_rising h
  cases hg : mget d.m s with
  | none =>
    refine ⟨has_none hr fun x hx e => ?_, fun f hf => by cases hf⟩
    have := (mem_files h x).1 hx
    rw [e, hg] at this; cases this
  | some f =>
    have hx : (⟨s, f.data, f.firm⟩ : Gf) ∈ d.ref.l := (mem_files h _).2 hg
    obtain ⟨h1, h2⟩ := get_of hr hx
    exact ⟨h1, fun f' hf' => by cases hf'; exact h2⟩
theorem act_ref (d : Dk) : d.act.ref = d.ref.act := by
  have hf := files_m (act_m d)
  have hl := act_limit d
  unfold Dk.act at hf hl ⊢
  unfold Rk.act
  show _ = if 0 < d.armed then _ else _
  by_cases h0 : 0 < d.armed
  · rw [if_pos h0] at hf hl ⊢
    rw [if_pos h0]
    show Rk.mk _ _ _ _ = Rk.mk _ _ _ _
    rw [hf]; rfl
  · rw [if_neg h0, if_neg h0]
theorem act_dead (d : Dk) : d.ref.act.dead = d.act.dead := by rw [← act_ref]; rfl
theorem lay_ref {d : Dk} (h : Keyed1 d.m) (s : Str) (f : Fi) : (d.lay s f).ref = d.ref.set ⟨s, f.data, f.firm⟩ := by
  have hr : RisingG d.ref.l := files_rising h
  have hl : (d.lay s f).files = (d.ref.set ⟨s, f.data, f.firm⟩).l := by
    refine files_is (d := d.lay s f) (h.put s f) (set_rising hr _) fun x => ?_
    rw [mem_set hr]
    show x = _ ∨ x ∈ d.files ∧ _ ↔ mget (mput d.m s f) x.name = _
    rw [mem_files h, mget_put]
    by_cases e : x.name = s
    · rw [if_pos e]
      constructor
      · rintro (h | ⟨_, h⟩)
        · rw [h]
        · exact absurd e h
      · intro h
        cases h
        exact .inl (by cases x; cases e; rfl)
    · rw [if_neg e]
      constructor
      · rintro (h | ⟨h, _⟩)
        · rw [h] at e; exact absurd rfl e
        · exact h
      · exact fun h => .inr ⟨h, e⟩
  show Rk.mk _ _ _ _ = _
  rw [hl]; rfl
theorem take_ref {d : Dk} (h : Keyed1 d.m) (s : Str) : (d.take s).ref = d.ref.drop s := by
  have hr : RisingG d.ref.l := files_rising h
  have hl : (d.take s).files = (d.ref.drop s).l := by
    refine files_is (d := d.take s) (h.del s) (drop_rising hr _) fun x => ?_
    rw [drop_mem hr]
    show x ∈ d.files ∧ _ ↔ mget (mdel d.m s) x.name = _
    rw [mem_files h, mget_del h]
    by_cases e : x.name = s
    · rw [if_pos e]
      exact ⟨fun h => absurd e h.2, fun h => by cases h⟩
    · rw [if_neg e]
      exact ⟨fun h => h.1, fun h => ⟨h, e⟩⟩
  have h2 : (d.ref.drop s).limit = d.limit ∧ (d.ref.drop s).armed = d.armed ∧ (d.ref.drop s).dead = d.dead := by rw [Rk.drop]; split <;> exact ⟨rfl, rfl, rfl⟩
  have h3 : (d.take s).ref = ⟨(d.ref.drop s).l, d.limit, d.armed, d.dead⟩ := by
    show Rk.mk _ _ _ _ = _
    rw [hl]; rfl
  rw [h3, ← h2.1, ← h2.2.1, ← h2.2.2]
end Go.Proofs.Ytdeellflcphkaaa
