/-
  Plain laws: right files stay right.
-/
import Derived.Test.YtemopomapankmaaDoorUnionLaw
import Derived.Sort.Walk0
namespace Go.Proofs.YtemopomapankmaaDoor
open Go.Eng


/-! ### Names by their letters -/
theorem bl (a b : Str) : Op.bytesLess a b = decide (a < b) := bytesLess_eq a b
theorem slt_of_not {a b : Str} (h1 : ¬ a < b) (h2 : a ≠ b) : b < a := by
  have h3 : b ≤ a := List.not_lt.1 h1
  rcases List.le_iff_lt_or_eq.1 h3 with h | h
  · exact h
  · exact absurd h.symm h2
theorem lt_pre (p a b : Str) : (p ++ a < p ++ b) ↔ a < b := by
  induction p with
  | nil => simp
  | cons c p ih => rw [List.cons_append, List.cons_append, List.cons_lt_cons_iff, ih]; simp
theorem below_pre2 (p a b : Str) : below (p ++ a) (p ++ b) = below a b := by
  have h1 : isPre (p ++ b ++ [47]) (p ++ a) = isPre (b ++ [47]) a := by
    simp only [isPre, List.length_append, List.length_singleton]
    rw [show p.length + b.length + 1 = p.length + (b.length + 1) by omega, List.take_length_add_append, List.append_assoc]
    simp
  have h2 : (p ++ a).drop ((p ++ b).length + 1) = a.drop (b.length + 1) := by
    rw [List.length_append, show p.length + b.length + 1 = p.length + (b.length + 1) by omega, List.drop_append, List.drop_of_length_le (by omega)]
    simp
  rw [below, below, h1, h2]
theorem clash_pre (p a b : Str) : clash (p ++ a) (p ++ b) = clash a b := by rw [clash, clash, below_pre2, below_pre2]
theorem clash_comm (a b : Str) : clash a b = clash b a := by rw [clash, clash, Bool.or_comm]
theorem clash_self (a : Str) : clash a a = false := by
  have h : below a a = false := by
    cases hb : below a a with
    | false => rfl
    | true => have := below_len hb; omega
  rw [clash, h]; rfl

/-! ### Right files -/
structure Right (l : List Fl) : Prop where
  path : ∀ x ∈ l, isPath x.1 = true
  size : ∀ x ∈ l, x.2.length ≤ 2048
  len : l.length ≤ 32
  rise : l.Pairwise (fun x y => x.1 < y.1)
  apart : ∀ x ∈ l, ∀ y ∈ l, clash x.1 y.1 = false
theorem badX_zero {x : Fl} : badX x = 0 ↔ isPath x.1 = true ∧ x.2.length ≤ 2048 := by
  unfold badX
  cases hp : isPath x.1 with
  | false => simp
  | true =>
    simp only [Bool.true_eq_false, if_false, true_and]
    split
    · constructor
      · intro h; cases h
      · intro h; omega
    · constructor
      · intro _; omega
      · intro _; rfl
theorem checkA_zero : ∀ {l : List Fl}, checkA l = 0 → ∀ x ∈ l, badX x = 0
  | [], _, x, hx => by cases hx
  | y :: l, h, x, hx => by
    rw [checkA] at h
    split at h
    · rcases List.mem_cons.1 hx with rfl | hx
      · assumption
      · exact checkA_zero h x hx
    · rename_i hb; exact absurd h hb
theorem rise_of {l : List Fl} (h : ∀ i x y, l[i]? = some x → l[i + 1]? = some y → x.1 < y.1) : l.Pairwise (fun x y => x.1 < y.1) := by
  induction l with
  | nil => exact .nil
  | cons a l ih =>
    have h2 := ih fun i x y hx hy => h (i + 1) x y (by simpa using hx) (by simpa using hy)
    refine List.pairwise_cons.2 ⟨fun y hy => ?_, h2⟩
    cases l with
    | nil => cases hy
    | cons b l =>
      have hab := h 0 a b rfl rfl
      rcases List.mem_cons.1 hy with rfl | hy
      · exact hab
      · exact List.lt_trans hab ((List.pairwise_cons.1 h2).1 y hy)
theorem right_iff {l : List Fl} : checkF l = 0 ↔ Right l := by
  constructor
  · intro h
    unfold checkF at h
    split at h
    · rename_i hb; exact absurd h hb
    · rename_i ha
      have ha := Decidable.not_not.1 ha
      split at h
      · cases h
      · rename_i hl
        split at h
        · cases h
        · rename_i ht
          have hb := checkA_zero ha
          have hat : ∀ i, i < l.length → twiceAt l i = false := fun i hi => by
            cases hh : twiceAt l i with
            | false => rfl
            | true => exact absurd (twice_at hi hh) ht
          refine ⟨fun x hx => (badX_zero.1 (hb x hx)).1, fun x hx => (badX_zero.1 (hb x hx)).2, by omega, rise_of fun i x y hx hy => ?_, fun x hx y hy => ?_⟩
          · have h1 := hat (i + 1) (List.getElem?_eq_some_iff.1 hy).1
            rw [twiceAt, Bool.or_eq_false_iff, ordBad, getD_ofF hy, Nat.add_sub_cancel, getD_ofF hx, geS, bl] at h1
            have h2 := h1.1
            rw [decide_eq_true (show (0 : Int) < ((i + 1 : Nat) : Int) by omega), Bool.true_and] at h2
            simpa using h2
          · obtain ⟨i, hi⟩ := List.mem_iff_getElem?.1 hx
            have h1 := hat i (List.getElem?_eq_some_iff.1 hi).1
            rw [twiceAt, Bool.or_eq_false_iff, getD_ofF hi] at h1
            exact List.any_eq_false.1 h1.2 y hy |> fun h => by simpa using h
  · intro h
    refine checkF_d (checkA_ok fun x hx => badX_zero.2 ⟨h.path x hx, h.size x hx⟩) (by have := h.len; omega) (twice_no (Nat.le_refl _) fun j hj => ?_)
    have hx := getDF hj
    rw [twiceAt, Bool.or_eq_false_iff]
    constructor
    · rw [ordBad]
      by_cases h0 : j = 0
      · subst h0; rfl
      · have hy := getDF (l := l) (i := j - 1) (by omega)
        have := List.pairwise_iff_getElem.1 h.rise (j - 1) j (by omega) hj (by omega)
        rw [List.getElem?_eq_getElem (by omega)] at hx hy
        rw [Option.some.inj hx, Option.some.inj hy] at this
        rw [geS, bl, decide_eq_true this]; simp
    · exact List.any_eq_false.2 fun y hy => by rw [h.apart _ (List.mem_of_getElem? hx) y hy]; decide
theorem Right.sub {l m : List Fl} (h : Right l) (hs : m.Sublist l) : Right m :=
  ⟨fun x hx => h.path x (hs.subset hx), fun x hx => h.size x (hs.subset hx), Nat.le_trans hs.length_le h.len, h.rise.sublist hs, fun x hx y hy => h.apart x (hs.subset hx) y (hs.subset hy)⟩
theorem get_mem {l : List Fl} (h : Right l) {x : Fl} (hx : x ∈ l) : getF l x.1 = (x.2, true) := by
  obtain ⟨i, hi⟩ := List.mem_iff_getElem?.1 hx
  have hil := (List.getElem?_eq_some_iff.1 hi).1
  refine getF_hit hi rfl fun j y hj hy e => ?_
  have := List.pairwise_iff_getElem.1 h.rise j i (by omega) hil hj
  rw [List.getElem?_eq_getElem (by omega)] at hy hi
  rw [Option.some.inj hy, Option.some.inj hi, e] at this
  exact List.lt_irrefl _ this

/-! ### One more file -/
theorem put_names {l : List Fl} {f x : Fl} {i : Nat} (hx : l[i]? = some x) (hp : x.1 = f.1) : (l.set i f).map (·.1) = l.map (·.1) := by
  apply List.ext_getElem?
  intro j
  rw [List.getElem?_map, List.getElem?_map, List.getElem?_set]
  split
  · rename_i e
    subst e
    have hl := (List.getElem?_eq_some_iff.1 hx).1
    rw [if_pos hl, hx]; simp [hp]
  · rfl
theorem names_rise {l : List Fl} : l.Pairwise (fun x y => x.1 < y.1) ↔ (l.map (·.1)).Pairwise (fun a b : Str => a < b) := List.pairwise_map.symm
theorem put_rise {l : List Fl} {f : Fl} (h : Right l) : (putF l f).Pairwise (fun x y => x.1 < y.1) := by
  rcases idxF_cases (fun x => decide (x.1 = f.1)) l with ⟨_, hn⟩ | ⟨i, x, _, hx, hp, hn⟩
  · have hn : ∀ x ∈ l, x.1 ≠ f.1 := fun x hx => by simpa using hn x hx
    rw [putF_miss hn]
    have hsp := h.rise
    rw [← List.take_append_drop (gtAt l f.1) l, List.pairwise_append] at hsp
    have hlt : ∀ x ∈ l.take (gtAt l f.1), x.1 < f.1 := fun x hx => by
      have hxl := List.mem_of_mem_take hx
      have hng : gtS x.1 f.1 = false := by
        rcases idxF_cases (fun x => gtS x.1 f.1) l with ⟨_, hn2⟩ | ⟨i, y, _, hy, hp, hn2⟩
        · exact hn2 x hxl
        · rw [gtAt_hit hy hp hn2] at hx
          obtain ⟨j, hj⟩ := List.mem_iff_getElem?.1 hx
          rw [List.getElem?_take] at hj
          split at hj
          · exact hn2 j x ‹_› hj
          · cases hj
      rw [gtS, bl] at hng
      simp only [Bool.not_eq_false', Bool.or_eq_true, decide_eq_true_eq] at hng
      rcases hng with h | h
      · exact h
      · exact absurd h (hn x hxl)
    have hgt : ∀ y ∈ l.drop (gtAt l f.1), f.1 < y.1 := fun y hy => by
      rcases idxF_cases (fun x => gtS x.1 f.1) l with ⟨_, hn2⟩ | ⟨i, z, _, hz, hp, hn2⟩
      · rw [gtAt_miss hn2, List.drop_length] at hy; cases hy
      · have hfz : f.1 < z.1 := by
          rw [gtS, bl] at hp
          simp only [Bool.not_eq_true', Bool.or_eq_false_iff, decide_eq_false_iff_not] at hp
          exact slt_of_not hp.1 hp.2
        rw [gtAt_hit hz hp hn2] at hy hsp
        have hil := (List.getElem?_eq_some_iff.1 hz).1
        rw [List.getElem?_eq_getElem hil] at hz
        rw [List.drop_eq_getElem_cons hil, Option.some.inj hz] at hy hsp
        rcases List.mem_cons.1 hy with rfl | hy
        · exact hfz
        · exact List.lt_trans hfz ((List.pairwise_cons.1 hsp.2.1).1 y hy)
    refine List.pairwise_append.2 ⟨hsp.1, List.pairwise_cons.2 ⟨hgt, hsp.2.1⟩, fun a ha b hb => ?_⟩
    rcases List.mem_cons.1 hb with rfl | hb
    · exact hlt a ha
    · exact hsp.2.2 a ha b hb
  · have hp : x.1 = f.1 := by simpa using hp
    rw [putF_hit hx hp (fun j y hj hy => by simpa using hn j y hj hy), names_rise, put_names hx hp]
    exact names_rise.1 h.rise
theorem put_has {l : List Fl} {f : Fl} : f ∈ putF l f ∧ ∀ x ∈ l, x.1 ≠ f.1 → x ∈ putF l f := by
  rcases idxF_cases (fun x => decide (x.1 = f.1)) l with ⟨_, hn⟩ | ⟨i, y, _, hy, hp, hn⟩
  · rw [putF_miss fun x hx => by simpa using hn x hx]
    refine ⟨by simp, fun x hx _ => ?_⟩
    rw [← List.take_append_drop (gtAt l f.1) l] at hx
    rcases List.mem_append.1 hx with h | h
    · exact List.mem_append_left _ h
    · exact List.mem_append_right _ (List.mem_cons_of_mem _ h)
  · have hp : y.1 = f.1 := by simpa using hp
    have hil := (List.getElem?_eq_some_iff.1 hy).1
    rw [putF_hit hy hp (fun j z hj hz => by simpa using hn j z hj hz)]
    refine ⟨List.mem_iff_getElem?.2 ⟨i, by rw [List.getElem?_set, if_pos rfl, if_pos hil]⟩, fun x hx hne => ?_⟩
    obtain ⟨j, hj⟩ := List.mem_iff_getElem?.1 hx
    refine List.mem_iff_getElem?.2 ⟨j, ?_⟩
    rw [List.getElem?_set, if_neg (fun e => by subst e; rw [hy] at hj; cases hj; exact hne hp)]
    exact hj
theorem with_ok {l g : List Fl} {f : Fl} (h : Right l) (hg : withF l f = (0, g)) : Right g ∧ f ∈ g ∧ ∀ x ∈ l, x.1 ≠ f.1 → x ∈ g := by
  unfold withF at hg
  split at hg
  · cases hg
  · rename_i hp
    split at hg
    · cases hg
    · rename_i hs
      split at hg
      · cases hg
      · rename_i hc
        split at hg
        · cases hg
        · rename_i hl
          cases hg
          have hcf : ∀ x ∈ l, clash f.1 x.1 = false := fun x hx => by
            cases hh : clash f.1 x.1 with
            | false => rfl
            | true => exact absurd (List.any_eq_true.2 ⟨x, hx, hh⟩) hc
          refine ⟨⟨fun x hx => ?_, fun x hx => ?_, by omega, put_rise h, fun x hx y hy => ?_⟩, put_has.1, put_has.2⟩
          · rcases putF_mem hx with rfl | hx
            · simpa using hp
            · exact h.path x hx
          · rcases putF_mem hx with rfl | hx
            · omega
            · exact h.size x hx
          · rcases putF_mem hx with e | hx2
            · rcases putF_mem hy with e2 | hy2
              · rw [e, e2]; exact clash_self _
              · rw [e]; exact hcf y hy2
            · rcases putF_mem hy with e2 | hy2
              · rw [e2, clash_comm]; exact hcf x hx2
              · exact h.apart x hx2 y hy2
theorem with_err (l : List Fl) (f : Fl) : (withF l f).1 = 0 ∨ (withF l f).1 = 13 ∨ (withF l f).1 = 15 ∨ (withF l f).1 = 16 := by
  unfold withF
  split
  · simp
  · split
    · simp
    · split
      · simp
      · split <;> simp

/-! ### Files below a path, and apart from it -/
theorem without_sub (l : List Fl) (q : Str) : (withoutF l q).Sublist l := by
  induction l with
  | nil => exact .slnil
  | cons x l ih =>
    rw [withoutF, List.flatMap_cons, withoutG]
    split
    · exact List.Sublist.cons _ ih
    · exact List.Sublist.cons_cons _ ih
theorem below_split {s q : Str} (h : below s q = true) : s = q ++ [47] ++ s.drop (q.length + 1) ∧ s.drop (q.length + 1) ≠ [] := by
  simp only [below, Bool.and_eq_true, Bool.not_eq_true', decide_eq_false_iff_not, isPre, decide_eq_true_eq, List.length_append, List.length_singleton] at h
  refine ⟨?_, h.2⟩
  conv => lhs; rw [← List.take_append_drop (q.length + 1) s, h.1]
theorem parts_app (c : UInt8) : ∀ (a pre b : Str), partsFrom c pre (a ++ c :: b) = partsFrom c pre a ++ parts c b
  | [], pre, b => by simp [partsFrom, parts]
  | x :: a, pre, b => by
    rw [List.cons_append, partsFrom, partsFrom]
    split
    · rw [parts_app c a [] b]; rfl
    · exact parts_app c a _ b
theorem path_tail {q r : Str} (h : isPath (q ++ [47] ++ r) = true) (hr : r ≠ []) : isPath r = true := by
  have hl := isPath_len h
  simp only [isPath, Bool.and_eq_true, Bool.not_eq_true', Bool.or_eq_false_iff, decide_eq_false_iff_not] at h ⊢
  refine ⟨⟨hr, by simp only [List.length_append] at hl; omega⟩, ?_⟩
  have h2 := h.2
  rw [List.append_assoc, List.singleton_append, parts, parts_app, List.any_append, Bool.or_eq_false_iff] at h2
  exact h2.2
theorem under_mem {l : List Fl} {q : Str} {y : Fl} (h : y ∈ underF l q) : ∃ x ∈ l, x.1 = q ++ [47] ++ y.1 ∧ x.2 = y.2 ∧ y.1 ≠ [] := by
  obtain ⟨x, hx, hy⟩ := List.mem_flatMap.1 h
  unfold underG at hy
  split at hy
  · rename_i hb
    obtain rfl := List.mem_singleton.1 hy
    obtain ⟨h1, h2⟩ := below_split hb
    exact ⟨x, hx, h1, rfl, h2⟩
  · cases hy
theorem under_right {l : List Fl} (h : Right l) (q : Str) : Right (underF l q) := by
  refine ⟨fun y hy => ?_, fun y hy => ?_, Nat.le_trans (fm_len (underG_le q) l) h.len, ?_, fun y hy z hz => ?_⟩
  · obtain ⟨x, hx, h1, _, h3⟩ := under_mem hy
    have := h.path x hx
    rw [h1] at this
    exact path_tail this h3
  · obtain ⟨x, hx, _, h2, _⟩ := under_mem hy
    rw [← h2]; exact h.size x hx
  · have hr := h.rise
    clear h
    induction l with
    | nil => exact .nil
    | cons x l ih =>
      obtain ⟨h1, h2⟩ := List.pairwise_cons.1 hr
      rw [underF, List.flatMap_cons, underG]
      split
      · rename_i hb
        refine List.pairwise_cons.2 ⟨fun y hy => ?_, ih h2⟩
        obtain ⟨z, hz, e1, _, _⟩ := under_mem hy
        have hxz := h1 z hz
        rw [e1, (below_split hb).1] at hxz
        exact (lt_pre _ _ _).1 hxz
      · exact ih h2
  · obtain ⟨x, hx, h1, _, _⟩ := under_mem hy
    obtain ⟨w, hw, h2, _, _⟩ := under_mem hz
    have := h.apart x hx w hw
    rw [h1, h2, clash_pre] at this
    exact this
theorem into_map {l : List Fl} {q : Str} : l.flatMap (intoG q) = l.map (intoX q) := by
  induction l with
  | nil => rfl
  | cons x l ih => rw [List.flatMap_cons, ih]; rfl
theorem into_right {l m : List Fl} {q : Str} (h : Right l) (hm : intoF l q = (0, m)) : Right m ∧ underF m q = l := by
  unfold intoF at hm
  split at hm
  · rename_i hp
    simp only [Bool.and_eq_true, List.all_eq_true] at hp
    simp only [Prod.mk.injEq, true_and] at hm
    subst hm
    rw [into_map]
    refine ⟨⟨fun y hy => ?_, fun y hy => ?_, by rw [List.length_map]; exact h.len, ?_, fun y hy z hz => ?_⟩, ?_⟩
    · obtain ⟨x, hx, rfl⟩ := List.mem_map.1 hy
      exact hp.2 x hx
    · obtain ⟨x, hx, rfl⟩ := List.mem_map.1 hy
      exact h.size x hx
    · rw [List.pairwise_map]
      exact h.rise.imp fun {a b} hab => (lt_pre _ _ _).2 hab
    · obtain ⟨x, hx, rfl⟩ := List.mem_map.1 hy
      obtain ⟨w, hw, rfl⟩ := List.mem_map.1 hz
      show clash (q ++ [47] ++ x.1) (q ++ [47] ++ w.1) = false
      rw [clash_pre]; exact h.apart x hx w hw
    · have hne : ∀ x ∈ l, x.1 ≠ [] := fun x hx e => by
        have := h.path x hx
        rw [e] at this
        simp [isPath] at this
      clear hp h
      induction l with
      | nil => rfl
      | cons x l ih =>
        have hb : below (q ++ [47] ++ x.1) q = true := by
          have hx := hne x (by simp)
          have h1 : (q ++ [47] ++ x.1).take (q ++ [47]).length = q ++ [47] := List.take_left
          have h2 : (q ++ [47] ++ x.1).drop (q.length + 1) = x.1 := by simp
          rw [below, isPre, h1, h2]; simp [hx]
        rw [List.map_cons, underF, List.flatMap_cons, underG, if_pos (show below (intoX q x).1 q = true from hb)]
        show _ :: underF (l.map (intoX q)) q = _
        rw [ih fun y hy => hne y (List.mem_cons_of_mem _ hy)]
        simp [intoX]
  · cases hm
theorem into_err {l : List Fl} {q : Str} (h : ¬ (intoF l q).1 = 0) : intoF l q = (13, []) := by
  unfold intoF at h ⊢
  split
  · rename_i hp; rw [if_pos hp] at h; exact absurd rfl h
  · rfl
end Go.Proofs.YtemopomapankmaaDoor
