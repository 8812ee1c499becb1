/-
  What the layer holds, and does.
-/
import Derived.Test.YtfnpjmlpiedgdaaXB
import Derived.Test.YtfnpjmlpiedgdaaEngLift
namespace Go.Proofs.Ytfnpjmlpiedgdaa
open Go.Eng

/-! ### Maps whose values are turned -/
section
variable {α β γ : Type} [DecidableEq α]
def mval (f : β → γ) (l : List (α × β)) : List (α × γ) := l.map fun p => (p.1, f p.2)
theorem mget_val (f : β → γ) (k : α) : ∀ l : List (α × β), mget (mval f l) k = (mget l k).map f
  | [] => rfl
  | p :: l => by
    have ih := mget_val f k l
    simp only [mval, List.map_cons, mget] at ih ⊢
    split <;> simp_all
theorem mput_val (f : β → γ) (k : α) (v : β) : ∀ l : List (α × β), mval f (mput l k v) = mput (mval f l) k (f v)
  | [] => rfl
  | p :: l => by
    have ih := mput_val f k v l
    simp only [mval, List.map_cons, mput] at ih ⊢
    split <;> simp_all
theorem mdel_val (f : β → γ) (k : α) : ∀ l : List (α × β), mval f (mdel l k) = mdel (mval f l) k
  | [] => rfl
  | p :: l => by
    have ih := mdel_val f k l
    simp only [mval, List.map_cons, mdel] at ih ⊢
    split <;> simp_all
omit [DecidableEq α] in
theorem mval_keys (f : β → γ) (l : List (α × β)) : (mval f l).map (·.1) = l.map (·.1) := by simp [mval, Function.comp_def]
theorem mget_perm {k : α} {v : β} : ∀ {l : List (α × β)}, mget l k = some v → l.Perm ((k, v) :: mdel l k)
  | [], h => by cases h
  | p :: l, h => by
    simp only [mget] at h
    unfold mdel
    split at h
    · rename_i h1; subst h1; obtain rfl := Option.some.inj h; rw [if_pos rfl]
    · rename_i h1
      rw [if_neg h1]
      exact ((mget_perm h).cons p).trans (List.Perm.swap _ _ _)
theorem mput_perm (k : α) (v : β) : ∀ l : List (α × β), (mput l k v).Perm ((k, v) :: mdel l k)
  | [] => List.Perm.refl _
  | p :: l => by
    unfold mput mdel
    split
    · rename_i h; subst h; exact List.Perm.refl _
    · exact ((mput_perm k v l).cons p).trans (List.Perm.swap _ _ _)
theorem mdel_mput (k : α) (v : β) : ∀ l : List (α × β), mdel (mput l k v) k = mdel l k
  | [] => by simp [mput, mdel]
  | p :: l => by
    unfold mput
    split
    · rename_i h; subst h; simp [mdel]
    · rename_i h; simp only [mdel, if_neg h]; rw [mdel_mput k v l]
end
/-! ### Rows of jobs -/
abbrev vJs (s : Sl Jb) : Value := .slice s.a s.xs.length s.cap
abbrev nilJs : Sl Jb := ⟨none, 0, []⟩
def allA (As : List Atom) : Atom := fun h => Own As h
def rowA (p : Str × Sl Jb) : Atom := slc 30 3 p.2.a p.2.xs.length p.2.cap (p.2.xs.flatMap encJ)
def rowsA (rs : List (Str × Sl Jb)) : Atom := allA (rs.map rowA)
section
variable {w0 w : World} {O : Nat → Prop} {As Bs : List Atom}
theorem hp_open (h : Hp w0 O (allA As :: Bs) w) : Hp w0 O (As ++ Bs) w := h.conv fun _ hh => hh
theorem hp_shut (h : Hp w0 O (As ++ Bs) w) : Hp w0 O (allA As :: Bs) w := Hp.convs (Cs := As) (Bs := [allA As]) h fun g hg => ⟨g, [], hg, rfl, by simp⟩
theorem rows_out {rs : List (Str × Sl Jb)} {k : Str} {s : Sl Jb} (hg : mget rs k = some s) (h : Hp w0 O (rowsA rs :: As) w) : Hp w0 O (rowA (k, s) :: rowsA (mdel rs k) :: As) w := by
  have h1 := hp_open h
  have h2 := h1.perm (((mget_perm hg).map rowA).append_right As)
  have h3 := h2.perm (List.perm_middle (l₁ := (mdel rs k).map rowA) (l₂ := As) (a := rowA (k, s))).symm
  exact Hp.perm (hp_shut h3) (List.Perm.swap _ _ _)
theorem rows_in {rs : List (Str × Sl Jb)} {k : Str} {s : Sl Jb} (h : Hp w0 O (rowA (k, s) :: rowsA (mdel rs k) :: As) w) : Hp w0 O (rowsA (mput rs k s) :: As) w := by
  have h1 := hp_open (h.perm (List.Perm.swap _ _ _))
  have h2 := h1.perm (List.perm_middle (l₁ := (mdel rs k).map rowA) (l₂ := As) (a := rowA (k, s)))
  exact hp_shut (Hp.perm (As := ((k, s) :: mdel rs k).map rowA ++ As) h2 (((mput_perm k s rs).symm.map rowA).append_right As))
theorem rows_new {rs : List (Str × Sl Jb)} {k : Str} (hg : mget rs k = none) (h : Hp w0 O (rowsA rs :: As) w) : Hp w0 O (rowsA (mput rs k nilJs) :: As) w := by
  refine rows_in (k := k) ?_
  rw [mdel_none hg]
  exact Hp.addNil (e := 30) (sz := 3) [] _ h
theorem rows_nil (h : Hp w0 O As w) : Hp w0 O (rowsA [] :: As) w := hp_shut (As := []) h
end
/-! ### What the layer does -/
structure Sc where
  age : Int
  n : Int
  R : List (It Jb)
  t : Tb
  rows : List (Str × List Jb)
  th : List (Str × Bool)
def validB (j : Jb) : Bool := decide (0 ≤ j.rank) && decide (j.rank ≤ 9) && decide (0 ≤ j.since) && decide (j.since ≤ 1000000000)
theorem valid_iff {j : Jb} : validB j = true ↔ (0 ≤ j.rank ∧ j.rank ≤ 9) ∧ 0 ≤ j.since ∧ j.since ≤ 1000000000 := by simp [validB, and_assoc]
theorem valid_not {j : Jb} : validB j = false ↔ j.rank < 0 ∨ 9 < j.rank ∨ j.since < 0 ∨ 1000000000 < j.since := by
  rw [Bool.eq_false_iff, ne_eq, valid_iff]; omega
abbrev mkIt (age n : Int) (j : Jb) : It Jb := ⟨j, j.rank, j.since, j.since + age * j.rank, n + 1⟩
def Sc.push (s : Sc) (j : Jb) : Sc := if validB j = true then { s with n := s.n + 1, R := s.R ++ [mkIt s.age s.n j] } else s
def Sc.add (s : Sc) (j : Jb) : Sc × Int :=
  if (mget s.th j.key).getD false = true then (s, 16) else if validB j = true then ({ s.push j with th := mput s.th j.key true }, 0) else (s, 1)
def Sc.join (s : Sc) (w : Str) : Sc × Int :=
  if nameE w = 0 then (if (mget s.rows w).isSome then (s, 16) else ({ s with rows := mput s.rows w [] }, 0)) else (s, nameE w)
def Sc.again (s : Sc) (l : List Jb) : Sc := l.foldl Sc.push s
abbrev isOver (now : Int) : Ls → Bool := fun x => decide (x.upto < now)
abbrev isOf (wk : Str) : Ls → Bool := fun x => decide (x.worker = wk)
def Sc.back (s : Sc) (p : Ls → Bool) : Sc := ({ s with t := (s.t.take p).1 } : Sc).again (s.t.take p).2
def Sc.leave (s : Sc) (w : Str) : Sc × Int := match mget s.rows w with
  | none => (s, 17)
  | some l => ((({ s with rows := mdel s.rows w } : Sc).again l).back (isOf w), 0)
def Sc.row (s : Sc) (w : Str) : List Jb := (mget s.rows w).getD []
instance : Inhabited (It Jb) := ⟨⟨⟨[], 0, 0⟩, 0, 0, 0, 0⟩⟩
noncomputable def theMin (R : List (It Jb)) : It Jb := open Classical in if h : ∃ r, IsMin r R then h.choose else default
noncomputable def Sc.pop (s : Sc) : Sc × Option Jb := if s.R = [] then (s, none) else ({ s with R := rest s.R (theMin s.R) }, some (theMin s.R).v)
noncomputable def Sc.take1 (s : Sc) (w : Str) : Sc := match s.pop.2 with
  | none => s
  | some j => { s.pop.1 with rows := mput s.rows w (s.row w ++ [j]) }
noncomputable def Sc.fetch (s : Sc) (w : Str) : Sc := ((s.take1 w).take1 w).take1 w
/-- The worker at which the most jobs wait. -/
def IsVic (rows : List (Str × List Jb)) (v : Str) : Prop :=
  (v = [] ∧ ∀ p ∈ rows, p.2 = []) ∨ (∃ l, mget rows v = some l ∧ l ≠ [] ∧ ∀ p ∈ rows, p.2.length < l.length ∨ (p.2.length = l.length ∧ v ≤ p.1))
noncomputable def vic (rows : List (Str × List Jb)) : Str := open Classical in if h : ∃ v, IsVic rows v then h.choose else []
noncomputable def Sc.first (s : Sc) (w : Str) : Sc := if s.row w = [] then s.fetch w else s
noncomputable def Sc.pick (s : Sc) (w : Str) : Sc × Option Jb := match (s.first w).row w with
  | j :: l => ({ s.first w with rows := mput (s.first w).rows w l }, some j)
  | [] => match ((s.first w).row (vic (s.first w).rows)).getLast? with
    | none => (s.first w, none)
    | some j => ({ s.first w with rows := mput (s.first w).rows (vic (s.first w).rows) ((s.first w).row (vic (s.first w).rows)).dropLast }, some j)
noncomputable def Sc.next (s : Sc) (w : Str) (now : Int) : Sc × Ls × Int := match mget s.rows w with
  | none => (s, noL, 17)
  | some _ => if timeB now = true then match (s.pick w).2 with
      | none => ((s.pick w).1, noL, 45)
      | some j => ({ (s.pick w).1 with t := ((s.pick w).1.t.grant j w now).1 }, ((s.pick w).1.t.grant j w now).2.1, ((s.pick w).1.t.grant j w now).2.2)
    else (s, noL, 1)
def Sc.finish (s : Sc) (key : Str) (e : Int) : Sc × Int :=
  if (s.t.finish key e).2 = 0 then ({ s with t := (s.t.finish key e).1, th := mdel s.th key }, 0) else (s, (s.t.finish key e).2)
def Sc.tick (s : Sc) (now : Int) : Sc × Nat := (s.back (isOver now), (s.t.take (isOver now)).2.length)
def Sc.waiting (s : Sc) : Nat := s.R.length + (s.rows.map (·.2.length)).sum
theorem the_min {R : List (It Jb)} {r : It Jb} (h : IsMin r R) (hd : R.Pairwise fun x y => x.no ≠ y.no) : theMin R = r := by
  have he : ∃ r, IsMin r R := ⟨r, h⟩
  rw [theMin, dif_pos he]
  exact he.choose_spec.uniq h hd
theorem IsVic.uniq {rows : List (Str × List Jb)} {v u : Str} (h : IsVic rows v) (h' : IsVic rows u) : v = u := by
  rcases h with ⟨rfl, h⟩ | ⟨l, h1, h2, h3⟩ <;> rcases h' with ⟨rfl, h'⟩ | ⟨m, h4, h5, h6⟩
  · rfl
  · exact absurd (h _ (mem_of_mget h4)) h5
  · exact absurd (h' _ (mem_of_mget h1)) h2
  · have a := h3 _ (mem_of_mget h4)
    have b := h6 _ (mem_of_mget h1)
    simp only at a b
    have a2 : v ≤ u := by rcases a with a | a; omega; exact a.2
    have b2 : u ≤ v := by rcases b with b | b; omega; exact b.2
    exact List.le_antisymm a2 b2
theorem the_vic {rows : List (Str × List Jb)} {v : Str} (h : IsVic rows v) : vic rows = v := by
  have he : ∃ v, IsVic rows v := ⟨v, h⟩
  rw [vic, dif_pos he]
  exact he.choose_spec.uniq h
/-! ### How it lies -/
structure Ph where
  qb : Nat
  tb : Nat
  rm : Nat
  tm : Nat
  rs : List (Str × Sl Jb)
abbrev scAs (b : Nat) (s : Sc) (x : Ph) : List Atom := [blk b (.cells #[ptr x.qb, ptr x.tb, .map (some x.rm), .map (some x.tm)] 66 (0, 0)), qA x.qb s.age s.n s.R, tbA x.tb s.t, mapA vS vJs x.rm x.rs, rowsA x.rs, mapA vS vB x.tm s.th]
def scA (b : Nat) (s : Sc) : Atom := exA (fun x : Ph => mval Sl.xs x.rs = s.rows) (scAs b s)
theorem sc_open {w0 : World} {O : Nat → Prop} {b : Nat} {s : Sc} {As : List Atom} : ∀ w, Hp w0 O (scA b s :: As) w → ∃ x : {x : Ph // mval Sl.xs x.rs = s.rows}, Hp w0 O (scAs b s x.1 ++ As) w := exA_open
theorem sc_shut {w0 : World} {O : Nat → Prop} {b : Nat} {s : Sc} {As : List Atom} {w : World} (x : Ph) (hx : mval Sl.xs x.rs = s.rows) (h : Hp w0 O (scAs b s x ++ As) w) : Hp w0 O (scA b s :: As) w := exA_shut x hx h
end Go.Proofs.Ytfnpjmlpiedgdaa
