/-
  Queues of jobs, how they lie.
-/
import Derived.Test.YtfnpjmlpiedgdaaLF
namespace Go.Proofs.Ytfnpjmlpiedgdaa
open Go.Eng


theorem wq_retC4 {P : Program} {n : Nat} {env : Env} {S : World → Prop} {fn : Func} {R : Ending → World → Prop} {p u s r : Tmp} {rt size : Nat} {pa : Addr} {l : List Value} {v x y : Value} (ht : AG P rt size) (hr : fn.results = #[.cell p rt, .tmp u, .tmp s, .tmp r]) (hp : env.find p = some (.pointer (some pa)))
    (hu : env.find u = some v) (hs : env.find s = some x) (hr' : env.find r = some y) (hl : l.length = size)
    (hc : ∀ w, S w → ∀ j c, l[j]? = some c → w.cell? (pa.add j) = some c) (h : ∀ w, S w → R (.returned (.tuple #[.agg l.toArray, v, x, y])) w) : WQ n (bodyPost P fn R) .ret env S := fun a w ha hw =>
  ⟨ha.defers, .tuple #[.agg l.toArray, v, x, y], by simp [results, hr, Array.getD_eq_getD_getElem?, ha.get p _ hp, ha.get u v hu, ha.get s x hs, ha.get r y hr', asAddr, run_loadVar_agg ht hl (hc w hw), Result.andThen, Sem.run_bind], h w hw⟩
structure It (α : Type) where
  v : α
  rank : Int
  tm : Int
  turn : Int
  no : Int
section
variable {α : Type} {H : List (It α)}
def It.lt (a b : It α) : Bool := decide (a.turn < b.turn) || (decide (a.turn = b.turn) && decide (a.no < b.no))
theorem It.lt_iff {a b : It α} : a.lt b = true ↔ a.turn < b.turn ∨ (a.turn = b.turn ∧ a.no < b.no) := by simp [It.lt]
theorem It.not_iff {a b : It α} : a.lt b = false ↔ b.turn < a.turn ∨ (b.turn = a.turn ∧ b.no ≤ a.no) := by
  simp only [It.lt, Bool.or_eq_false_iff, Bool.and_eq_false_iff, decide_eq_false_iff_not]; omega
theorem It.not_of_lt {a b : It α} (h : a.lt b = true) : b.lt a = false := by rw [It.lt_iff] at h; rw [It.not_iff]; omega
/-- b is not after a, nor c after b. -/
theorem It.not_trans {a b c : It α} (h : a.lt b = false) (h' : b.lt c = false) : a.lt c = false := by rw [It.not_iff] at *; omega

def sw (H : List (It α)) (i j : Nat) (a b : It α) : List (It α) := (H.set i b).set j a
theorem sw_length (H : List (It α)) (i j : Nat) (a b : It α) : (sw H i j a b).length = H.length := by simp [sw]
theorem sw_get {i j k : Nat} {a b : It α} (hi : H[i]? = some a) (hj : H[j]? = some b) : (sw H i j a b)[k]? = if k = j then some a else if k = i then some b else H[k]? := by
  have h1 := (List.getElem?_eq_some_iff.1 hi).1
  have h2 := (List.getElem?_eq_some_iff.1 hj).1
  simp only [sw, List.getElem?_set, List.length_set]
  by_cases hk : k = j
  · subst hk; simp [h2]
  · rw [if_neg (Ne.symm hk), if_neg hk]
    by_cases hk2 : k = i
    · subst hk2; simp [h1]
    · rw [if_neg (Ne.symm hk2), if_neg hk2]
theorem set_perm : ∀ {l : List (It α)} {i : Nat} {a b : It α}, l[i]? = some a → (b :: l).Perm (a :: l.set i b)
  | x :: l, 0, a, b, h => by
    obtain rfl : x = a := by simpa using h
    exact List.Perm.swap _ _ _
  | x :: l, i + 1, a, b, h => by
    have := set_perm (l := l) (b := b) (by simpa using h)
    exact ((List.Perm.swap _ _ _).trans (this.cons x)).trans (List.Perm.swap _ _ _)
theorem sw_perm {i j : Nat} {a b : It α} (hi : H[i]? = some a) (hj : H[j]? = some b) : (sw H i j a b).Perm H := by
  by_cases h : i = j
  · subst h
    obtain rfl : a = b := Option.some.inj (hi.symm.trans hj)
    have e : sw H i i a a = H := by
      apply List.ext_getElem?
      intro k
      rw [sw_get hi hj]
      split
      · rename_i hk; subst hk; exact hi.symm
      · rfl
    rw [e]
  · have h1 := set_perm (b := b) hi
    have hj' : (H.set i b)[j]? = some b := by rw [List.getElem?_set_ne h]; exact hj
    have h2 := set_perm (b := a) hj'
    exact ((List.perm_cons b).1 ((h1.trans h2))).symm

def Heap (H : List (It α)) : Prop := ∀ i a b, 0 < i → H[i]? = some a → H[(i - 1) / 2]? = some b → a.lt b = false
def Up (H : List (It α)) (c : Nat) : Prop := (∀ i a b, i ≠ c → 0 < i → H[i]? = some a → H[(i - 1) / 2]? = some b → a.lt b = false) ∧
  (∀ i a b, 0 < c → 0 < i → (i - 1) / 2 = c → H[i]? = some a → H[(c - 1) / 2]? = some b → a.lt b = false)
def Down (H : List (It α)) (p : Nat) : Prop := (∀ i a b, (i - 1) / 2 ≠ p → 0 < i → H[i]? = some a → H[(i - 1) / 2]? = some b → a.lt b = false) ∧
  (∀ i a b, 0 < p → 0 < i → (i - 1) / 2 = p → H[i]? = some a → H[(p - 1) / 2]? = some b → a.lt b = false)

theorem Up.step {c : Nat} {a b : It α} (h : Up H c) (hc : 0 < c) (ha : H[c]? = some a) (hb : H[(c - 1) / 2]? = some b) (hl : a.lt b = true) : Up (sw H c ((c - 1) / 2) a b) ((c - 1) / 2) := by
  obtain ⟨h1, h2⟩ := h
  refine ⟨fun i x y hip hi hx hy => ?_, fun i x y hp hi hip hx hy => ?_⟩
  · rw [sw_get ha hb] at hx hy
    rw [if_neg hip] at hx
    by_cases hic : i = c
    · subst hic
      rw [if_pos rfl] at hx hy
      cases hx; cases hy
      exact It.not_of_lt hl
    · rw [if_neg hic] at hx
      split at hy
      · rename_i hq
        cases hy
        exact It.not_trans (h1 i x b hic hi hx (by rw [hq]; exact hb)) (It.not_of_lt hl)
      · split at hy
        · rename_i hq
          cases hy
          exact h2 i _ _ hc hi hq hx hb
        · exact h1 i x y hic hi hx hy
  · rw [sw_get ha hb] at hx hy
    rw [if_neg (by omega), if_neg (by omega)] at hy
    rw [if_neg (by omega)] at hx
    have hby := h1 _ b y (by omega) hp hb hy
    split at hx
    · cases hx; exact hby
    · rename_i hic
      exact It.not_trans (h1 i x b hic hi hx (by rw [hip]; exact hb)) hby
theorem Up.done {c : Nat} (h : Up H c) (hd : ∀ a b, 0 < c → H[c]? = some a → H[(c - 1) / 2]? = some b → a.lt b = false) : Heap H := fun i a b hi ha hb => by
  by_cases hic : i = c
  · subst hic; exact hd a b hi ha hb
  · exact h.1 i a b hic hi ha hb
theorem Up.start {x : It α} (h : Heap H) : Up (H ++ [x]) H.length := by
  refine ⟨fun i a b hne hi ha hb => ?_, fun i a b _ hi hp ha _ => ?_⟩
  · have hl := (List.getElem?_eq_some_iff.1 ha).1
    simp at hl
    rw [List.getElem?_append_left (by omega)] at ha hb
    exact h i a b hi ha hb
  · have hl := (List.getElem?_eq_some_iff.1 ha).1
    simp at hl
    omega
theorem Down.step {p c : Nat} {a b : It α} (h : Down H p) (hcp : (c - 1) / 2 = p) (hc : 0 < c) (ha : H[p]? = some b) (hb : H[c]? = some a) (hl : a.lt b = true)
    (hs : ∀ i x, 0 < i → (i - 1) / 2 = p → H[i]? = some x → x.lt a = false) : Down (sw H p c b a) c := by
  obtain ⟨h1, h2⟩ := h
  refine ⟨fun i x y hip hi hx hy => ?_, fun i x y _ hi hip hx hy => ?_⟩
  · rw [sw_get ha hb] at hx hy
    rw [if_neg hip] at hy
    split at hy
    · rename_i hq
      cases hy
      split at hx
      · cases hx; exact It.not_of_lt hl
      · rw [if_neg (by omega)] at hx
        exact hs i _ hi hq hx
    · rename_i hq
      rw [if_neg (by omega)] at hx
      split at hx
      · rename_i hipp
        subst hipp
        cases hx
        exact h2 c _ _ hi hc hcp hb hy
      · exact h1 i x y hq hi hx hy
  · rw [sw_get ha hb] at hx hy
    rw [if_neg (by omega), if_pos hcp] at hy
    rw [if_neg (by omega), if_neg (by omega)] at hx
    cases hy
    exact h1 i x _ (by omega) hi hx (by rw [hip]; exact hb)
theorem Down.done {p : Nat} (h : Down H p) (hd : ∀ i a b, 0 < i → (i - 1) / 2 = p → H[i]? = some a → H[p]? = some b → a.lt b = false) : Heap H := fun i a b hi ha hb => by
  by_cases hic : (i - 1) / 2 = p
  · exact hd i a b hi hic ha (by rw [← hic]; exact hb)
  · exact h.1 i a b hic hi ha hb
theorem Heap.root (h : Heap H) {r : It α} (hr : H[0]? = some r) : ∀ (i : Nat) (a : It α), H[i]? = some a → a.lt r = false := by
  intro i
  induction i using Nat.strongRecOn with
  | _ i ih =>
    intro a ha
    rcases Nat.eq_zero_or_pos i with rfl | hi
    · obtain rfl : a = r := Option.some.inj (ha.symm.trans hr)
      rw [It.not_iff]; omega
    · have hl := (List.getElem?_eq_some_iff.1 ha).1
      obtain ⟨b, hb⟩ : ∃ b, H[(i - 1) / 2]? = some b := ⟨_, List.getElem?_eq_getElem (by omega)⟩
      exact It.not_trans (h i a b hi ha hb) (ih _ (by omega) b hb)
/-- The last is put first, and cut off. -/
theorem Heap.cut {k : Nat} {r a : It α} (h : Heap H) (hk : H.length = k + 1) (hr : H[0]? = some r) (ha : H[k]? = some a) : Down ((sw H 0 k r a).take k) 0 ∧ (r :: (sw H 0 k r a).take k).Perm H := by
  refine ⟨⟨fun i x y hip hi hx hy => ?_, fun i x y hp => absurd hp (Nat.lt_irrefl 0)⟩, ?_⟩
  · have hl := (List.getElem?_eq_some_iff.1 hx).1
    simp [sw_length] at hl
    rw [List.getElem?_take, if_pos (by omega), sw_get hr ha, if_neg (by omega), if_neg (by omega)] at hx
    rw [List.getElem?_take, if_pos (by omega), sw_get hr ha, if_neg (by omega), if_neg (by omega)] at hy
    exact h i x y hi hx hy
  · have hg : (sw H 0 k r a)[k]? = some r := by rw [sw_get hr ha, if_pos rfl]
    have e : sw H 0 k r a = (sw H 0 k r a).take k ++ [r] := by
      have h1 : (sw H 0 k r a).take (k + 1) = sw H 0 k r a := List.take_of_length_le (by rw [sw_length, hk]; exact Nat.le_refl _)
      conv => lhs; rw [← h1, List.take_add_one, hg]
      rfl
    refine (List.perm_append_comm (l₁ := [r])).trans ?_
    rw [← e]
    exact sw_perm hr ha
end

abbrev noJ : Jb := ⟨[], 0, 0⟩
def encIt (x : It Jb) : List Value := [vS x.v.key, vI x.v.rank, vI x.v.since, vI x.rank, vI x.tm, vI x.turn, vI x.no]
theorem encIt_len (x : It Jb) : (encIt x).length = 7 := rfl
/-- A queue whose heap is this row. -/
def rawAs (b : Nat) (age n : Int) (H : List (It Jb)) (oc : Option Addr × Nat) : List Atom :=
  [blk b (.cells [vI age, vI n, .slice oc.1 H.length oc.2].toArray 92 (0, 0)), slc 97 7 oc.1 H.length oc.2 (H.flatMap encIt)]
/-- A queue that has the things of R. -/
def qA (b : Nat) (age n : Int) (R : List (It Jb)) : Atom :=
  exA (fun x : List (It Jb) × Option Addr × Nat => x.1.Perm R ∧ Heap x.1) fun x => rawAs b age n x.1 x.2
def IsMin {α : Type} (r : It α) (R : List (It α)) : Prop := r ∈ R ∧ ∀ a ∈ R, a.lt r = false
def rest {α : Type} (R : List (It α)) (r : It α) : List (It α) := R.filter fun x => decide (x.no ≠ r.no)
theorem rest_perm {α : Type} {R H : List (It α)} {r : It α} (hp : (r :: H).Perm R) (hd : R.Pairwise fun x y => x.no ≠ y.no) : H.Perm (rest R r) := by
  have h1 : (r :: H).Pairwise fun x y => x.no ≠ y.no := (hp.pairwise_iff (fun h => Ne.symm h)).2 hd
  have h2 := hp.filter (fun x => decide (x.no ≠ r.no))
  rw [List.filter_cons_of_neg (by simp), List.filter_eq_self.2 (fun a ha => by simpa using Ne.symm ((List.pairwise_cons.1 h1).1 a ha))] at h2
  exact h2
theorem Heap.isMin {α : Type} {R H : List (It α)} {r : It α} (h : Heap H) (hr : H[0]? = some r) (hp : H.Perm R) : IsMin r R :=
  ⟨hp.subset (List.mem_of_getElem? hr), fun a ha => by
    obtain ⟨i, hi⟩ := List.mem_iff_getElem?.1 (hp.symm.subset ha)
    exact h.root hr i a hi⟩
theorem IsMin.uniq {α : Type} {R : List (It α)} {r m : It α} (h : IsMin r R) (h' : IsMin m R) (hd : R.Pairwise fun x y => x.no ≠ y.no) : r = m := by
  have h1 := h.2 m h'.1
  have h2 := h'.2 r h.1
  rw [It.not_iff] at h1 h2
  have he : r.no = m.no := by omega
  obtain ⟨i, hi⟩ := List.mem_iff_getElem?.1 h.1
  obtain ⟨j, hj⟩ := List.mem_iff_getElem?.1 h'.1
  have hil := (List.getElem?_eq_some_iff.1 hi).1
  have hjl := (List.getElem?_eq_some_iff.1 hj).1
  rw [List.getElem?_eq_getElem hil] at hi
  rw [List.getElem?_eq_getElem hjl] at hj
  rw [List.pairwise_iff_getElem] at hd
  rcases Nat.lt_trichotomy i j with hl | rfl | hl
  · have := hd i j hil hjl hl
    rw [Option.some.inj hi, Option.some.inj hj] at this
    exact absurd he this
  · exact (Option.some.inj hi).symm.trans (Option.some.inj hj)
  · have := hd j i hjl hil hl
    rw [Option.some.inj hi, Option.some.inj hj] at this
    exact absurd he.symm this
end Go.Proofs.Ytfnpjmlpiedgdaa
