/-
  Regions that draw their order, walked once in a chosen order: quiet operations (they read, or only reckon) commute with the rest; operations that write or make memory must be forced into one order by the region's own edges.
-/
import Derived.Tactics
import Derived.Still
namespace Go.Eng

/-- In the frame 'a' and the world 'w' the operation yields 'v' and leaves the world as it is (or is not wanted, and yields nothing). -/
def QuietAt (P : Program) (ops : Array Oper) (o : Oper) (a : Act) (w : World) (v : Value) : Prop :=
  (Region.wanted o (yielded ops a.tmps) = true ∧ ((execOp a.eval o).run P w = .ok (.value v) w ∨ ((execOp a.eval o).run P w = .ok .skip w ∧ v = undef))) ∨
  (Region.wanted o (yielded ops a.tmps) = false ∧ v = undef)

def noExit : Exit → Act → World → Prop := fun _ _ _ => False

/-- Chosen orders of a region: a quiet operation that is taken as soon as it may come up; or operations of which each may come up, and what follows each. -/
inductive MT where
  | nil
  | q (i t : Nat) (r : MT)
  | w (i t : Nat) (r alt : MT)

/-- The walk in the chosen orders. Tags: 0: quiet in every world of the class; 1: quiet in this world; 2: it may change the world, within the class; 3: it may change the world, and leave the class: those of tag 0 come ahead of it. top: not behind an alternative. -/
def wpMix (P : Program) (ops : Array Oper) (C : World → Prop) (Q : Act → World → Prop) : MT → Bool → Act → World → Prop
  | .nil, top, a, w => bif top then Q a w else True
  | .q i t r, top, a, w => top = true ∧ match ops[i]? with
    | none => False
    | some o =>
      match t with
      | 0 => ∃ v, (∀ w', C w' → QuietAt P ops o a w' v) ∧ wpMix P ops C Q r true (a.put o.dst v) w
      | _ => ∃ v, QuietAt P ops o a w v ∧ wpMix P ops C Q r true (a.put o.dst v) w
  | .w i t r alt, _, a, w => (match ops[i]? with
    | none => False
    | some o =>
      match t with
      | 2 => Region.wanted o (yielded ops a.tmps) = true ∧ o.wp P a w (fun a' w' => C w' ∧ wpMix P ops C Q r true a' w') noExit
      | _ => Region.wanted o (yielded ops a.tmps) = true ∧ o.wp P a w (fun a' w' => wpMix P ops C Q r true a' w') noExit) ∧ wpMix P ops C Q alt false a w

def tagOf (τ : List (Nat × Nat)) (i : Nat) : Nat := match τ with
  | [] => 2
  | (j, t) :: r => if j = i then t else tagOf r i

/-- An operation comes up: by its tag. -/
def mixOp (P : Program) (ops : Array Oper) (C : World → Prop) (τ : List (Nat × Nat)) (i : Nat) (K : Act → World → Prop) (a : Act) (w : World) : Prop :=
  match ops[i]? with
  | none => False
  | some o =>
    if tagOf τ i ≤ 1 then ∃ v, QuietAt P ops o a w v ∧ K (a.put o.dst v) w
    else Region.wanted o (yielded ops a.tmps) = true ∧ o.wp P a w (fun a' w' => (tagOf τ i = 2 → C w') ∧ K a' w') noExit

def wpAnyM (P : Program) (ops : Array Oper) (C : World → Prop) (τ : List (Nat × Nat)) (Q : Act → World → Prop) : Nat → Array Bool → Act → World → Prop
  | 0, listed, a, w => Region.ready .any ops listed = [] ∧ Q a w
  | fuel + 1, listed, a, w =>
    (Region.ready .any ops listed = [] → Q a w) ∧
    ∀ i ∈ Region.ready .any ops listed, mixOp P ops C τ i (wpAnyM P ops C τ Q fuel (listed.setIfInBounds i true)) a w

section
variable {P : Program} {ops : Array Oper} {C : World → Prop} {τ : List (Nat × Nat)} {Q : Act → World → Prop}

theorem wp_noExit {o : Oper} {a : Act} {w : World} {K K' : Act → World → Prop} {Q' : Exit → Act → World → Prop} (h : ∀ a w, K a w → K' a w)
    (hh : o.wp P a w K noExit) : o.wp P a w K' Q' := by
  unfold Oper.wp at *
  generalize (execOp a.eval o).run P w = r at *
  cases r with
  | ok n w' =>
    cases n <;> simp only [Oper.upon] at hh ⊢ <;>
      first
        | exact h _ _ hh
        | exact Calls.mono hh (fun e w'' he => by cases e <;> first | exact h _ _ he | exact he.elim | (obtain ⟨_, _, hf⟩ := he; exact hf.elim))
        | exact Rows.mono hh (fun _ _ he => h _ _ he)
  | halt x w' => cases x <;> simp only [Oper.upon] at hh ⊢ <;> exact hh.elim

theorem mixOp_mono {i : Nat} {a : Act} {w : World} {K K' : Act → World → Prop} (h : ∀ a w, K a w → K' a w)
    (hh : mixOp P ops C τ i K a w) : mixOp P ops C τ i K' a w := by
  unfold mixOp at *
  split
  · rename_i ho; simp only [ho] at hh
  · rename_i o ho
    simp only [ho] at hh
    split
    · rename_i ht; simp only [ht, if_true] at hh; obtain ⟨v, hq, hk⟩ := hh; exact ⟨v, hq, h _ _ hk⟩
    · rename_i ht; simp only [ht, if_false] at hh; exact ⟨hh.1, wp_noExit (fun _ _ hk => ⟨hk.1, h _ _ hk.2⟩) hh.2⟩

theorem wpOp_of_mixOp {Q' : Exit → Act → World → Prop} {i : Nat} {a : Act} {w : World} {K K' : Act → World → Prop} (h : ∀ a w, K a w → K' a w)
    (hh : mixOp P ops C τ i K a w) : wpOp P ops Q' i K' a w := by
  unfold mixOp at hh
  unfold wpOp
  split
  · rename_i ho; simp only [ho] at hh
  · rename_i o ho
    simp only [ho] at hh
    split at hh
    · obtain ⟨v, hq, hk⟩ := hh
      rcases hq with ⟨hw, hr⟩ | ⟨hw, rfl⟩
      · rw [if_pos hw]
        left
        unfold Oper.wp
        rcases hr with hr | ⟨hr, rfl⟩ <;> rw [hr] <;> exact h _ _ hk
      · rw [if_neg (by rw [hw]; exact Bool.false_ne_true)]; exact h _ _ hk
    · rw [if_pos hh.1]
      exact .inl (wp_noExit (fun _ _ hk => h _ _ hk.2) hh.2)

theorem wpAny_of_wpAnyM {Q' : Exit → Act → World → Prop} (hQ : ∀ a w, Q a w → Q' .normal a w) : ∀ (fuel : Nat) (listed : Array Bool) (a : Act) (w : World),
    wpAnyM P ops C τ Q fuel listed a w → wpAny P .any ops Q' fuel listed a w
  | 0, _, _, _, h => ⟨h.1, hQ _ _ h.2⟩
  | fuel + 1, _, _, _, h => ⟨fun h0 => hQ _ _ (h.1 h0), fun i hi => wpOp_of_mixOp (fun a' w' => wpAny_of_wpAnyM hQ fuel _ a' w') (h.2 i hi)⟩

theorem QuietAt.of_same {o : Oper} {v : Value} {a a' : Act} {w : World} (hy : QuietAt P ops o a w v) (he : execOp a'.eval o = execOp a.eval o)
    (hw : Region.wanted o (yielded ops a'.tmps) = Region.wanted o (yielded ops a.tmps)) : QuietAt P ops o a' w v := by
  unfold QuietAt at *
  rw [he, hw]
  exact hy

/-- No operation that may change the world can come up while 'i' has not: U: those that wait for 'i', through others or not. -/
def Blocks (k : Nat) (ops : Array Oper) (τ : List (Nat × Nat)) (listed : Array Bool) (i : Nat) (U : List Nat) : Prop :=
  (∀ m ∈ U, listed.getD m true = false ∧ ∃ om, ops[m]? = some om ∧ ∃ e ∈ om.after, Region.binds .any e = true ∧ (e.on = i ∨ e.on ∈ U)) ∧
  (∀ m om, ops[m]? = some om → k ≤ tagOf τ m → listed.getD m true = false → m ∈ U)

theorem getD_false_of_true {listed : Array Bool} {i : Nat} (h : listed.getD i true = false) : listed.getD i false = false := by
  rcases Nat.lt_or_ge i listed.size with h' | h'
  · simp [h'] at h ⊢; exact h
  · simp [Array.getElem?_eq_none h'] at h

theorem Blocks.quiet {k : Nat} {listed : Array Bool} {i j : Nat} {U : List Nat} (hb : Blocks k ops τ listed i U) (hi : listed.getD i true = false) (hj : j ∈ Region.ready .any ops listed) : tagOf τ j < k ∧ j ∉ U := by
  obtain ⟨hjun, oj, hoj, hall⟩ := mem_ready.1 hj
  have hU : j ∉ U := fun hm => by
    obtain ⟨_, om, hom, e, he, hbind, hc⟩ := hb.1 j hm
    obtain rfl : om = oj := Option.some.inj (hom.symm.trans hoj)
    have h1 := hall e he hbind
    rcases hc with rfl | hun
    · rw [getD_false_of_true hi] at h1; cases h1
    · rw [getD_false_of_true (hb.1 _ hun).1] at h1; cases h1
  refine ⟨?_, hU⟩
  rcases Nat.lt_or_ge (tagOf τ j) k with h | h
  · omega
  · exact absurd (hb.2 j oj hoj h hjun) hU

theorem Blocks.set {k : Nat} {listed : Array Bool} {i j : Nat} {U : List Nat} (hb : Blocks k ops τ listed i U) (hq : tagOf τ j < k) (hU : j ∉ U) : Blocks k ops τ (listed.setIfInBounds j true) i U := by
  refine ⟨fun m hm => ?_, fun m om hom ht hun => ?_⟩
  · obtain ⟨h1, h2⟩ := hb.1 m hm
    have hmj : j ≠ m := fun h => by subst h; exact hU hm
    exact ⟨by rw [getD_set_ne true hmj]; exact h1, h2⟩
  · have hmj : j ≠ m := fun h => by subst h; omega
    rw [getD_set_ne true hmj] at hun
    exact hb.2 m om hom ht hun

/-- A quiet operation that may come up now may be taken first. -/
theorem wpAnyM_first {i : Nat} {oi : Oper} {v : Value} (hi : ops[i]? = some oi) (hti : tagOf τ i ≤ 1) (hsel : ∀ (j : Nat) (o : Oper) cs b, ops[j]? = some o → o.op ≠ .select cs b) :
    ∀ (fuel : Nat) (listed : Array Bool) (a : Act) (w : World),
      (∀ j oj, ops[j]? = some oj → j ≠ i → listed.getD j true = false → (∀ e ∈ oj.after, Region.binds .any e = true → e.on ≠ i) → oi.apart ops oj = true) →
      i ∈ Region.ready .any ops listed →
      ((C w ∧ (∀ w', C w' → QuietAt P ops oi a w' v) ∧ ∃ U, Blocks 3 ops τ listed i U) ∨ (QuietAt P ops oi a w v ∧ ∃ U, Blocks 2 ops τ listed i U)) →
      wpAnyM P ops C τ Q fuel (listed.setIfInBounds i true) (a.put oi.dst v) w → wpAnyM P ops C τ Q (fuel + 1) listed a w := by
  intro fuel
  have now : ∀ {K : Act → World → Prop} {a : Act} {w : World} {listed : Array Bool}, ((C w ∧ (∀ w', C w' → QuietAt P ops oi a w' v) ∧ ∃ U, Blocks 3 ops τ listed i U) ∨ (QuietAt P ops oi a w v ∧ ∃ U, Blocks 2 ops τ listed i U)) →
      K (a.put oi.dst v) w → mixOp P ops C τ i K a w := by
    intro K a w listed hy hK
    unfold mixOp
    simp only [hi, if_pos hti]
    rcases hy with ⟨hC, hy, _⟩ | ⟨hy, _⟩
    · exact ⟨v, hy w hC, hK⟩
    · exact ⟨v, hy, hK⟩
  induction fuel with
  | zero =>
    intro listed a w _ hr hy H
    refine ⟨fun h => (by rw [h] at hr; cases hr), fun j hj => ?_⟩
    by_cases hji : j = i
    · subst hji; exact now hy H
    · have := ready_mono hj hji
      rw [H.1] at this
      cases this
  | succ fuel ih =>
    intro listed a w hfree hr hy H
    refine ⟨fun h => (by rw [h] at hr; cases hr), fun j hj => ?_⟩
    by_cases hji : j = i
    · subst hji; exact now hy H
    · have h1 := H.2 j (ready_mono hj hji)
      obtain ⟨hjun, oj, hoj, hall⟩ := mem_ready.1 hj
      have hiun := (mem_ready.1 hr).1
      have hnot : ∀ e ∈ oj.after, Region.binds .any e = true → e.on ≠ i := fun e he hb heq => by
        have h1 := hall e he hb
        rw [heq, getD_false_of_true hiun] at h1
        cases h1
      have hap := hfree j oj hoj hji hjun hnot
      obtain ⟨p1, p2, p3⟩ := Oper.apart_spec hap
      have hsi := fun cs b => hsel i oi cs b hi
      have hsj := fun cs b => hsel j oj cs b hoj
      have hfree' : ∀ k ok, ops[k]? = some ok → k ≠ i → (listed.setIfInBounds j true).getD k true = false →
          (∀ e ∈ ok.after, Region.binds .any e = true → e.on ≠ i) → oi.apart ops ok = true := fun k ok hk hki hun hno => by
        refine hfree k ok hk hki ?_ hno
        by_cases hjk : j = k
        · subst hjk; exact hjun
        · rw [getD_set_ne true hjk] at hun; exact hun
      have keep : ∀ (a : Act) (w : World) (u : Value), QuietAt P ops oi a w v → QuietAt P ops oi (a.put oj.dst u) w v := fun a w u h =>
        h.of_same (execOp_put oi hsi a oj.dst u p3) (wanted_put oi a oj.dst u p3)
      unfold mixOp at h1 ⊢
      simp only [hoj] at h1 ⊢
      by_cases htj : tagOf τ j ≤ 1
      · simp only [htj, if_true] at h1 ⊢
        obtain ⟨u, hu, hn⟩ := h1
        have hu' : QuietAt P ops oj a w u := hu.of_same (execOp_put oj hsj a oi.dst v p1).symm (wanted_put oj a oi.dst v p1).symm
        refine ⟨u, hu', ih (listed.setIfInBounds j true) _ w hfree' (ready_mono hr (Ne.symm hji)) ?_ ?_⟩
        · rcases hy with ⟨hC, hy, U, hb⟩ | ⟨hy, hb⟩
          · exact .inl ⟨hC, fun w' hw' => keep a w' u (hy w' hw'), U, hb.set (by omega) (hb.quiet hiun hj).2⟩
          · obtain ⟨U, hb⟩ := hb
            exact .inr ⟨keep a w u hy, U, hb.set (by omega) (hb.quiet hiun hj).2⟩
        · rw [Array.setIfInBounds_comm _ _ hji, ← Act.put_comm a v u p2]; exact hn
      · rcases hy with ⟨hC, hy, U, hb⟩ | ⟨hy, hb⟩
        case inr => obtain ⟨U, hb⟩ := hb; exact absurd (hb.quiet hiun hj).1 (by omega)
        have ht2 : tagOf τ j = 2 := by have := (hb.quiet hiun hj).1; omega
        have hb' := hb.set (hb.quiet hiun hj).1 (hb.quiet hiun hj).2
        simp only [htj, if_false] at h1 ⊢
        obtain ⟨hwant, hwp⟩ := h1
        refine ⟨by rw [wanted_put oj a oi.dst v p1] at hwant; exact hwant, ?_⟩
        have hyk : ∀ (a : Act) (u : Value), (∀ w', C w' → QuietAt P ops oi a w' v) → ∀ w', C w' → QuietAt P ops oi (a.put oj.dst u) w' v := fun a u h w' hw' => keep a w' u (h w' hw')
        have fin : ∀ (a' : Act) (w' : World), (∀ w', C w' → QuietAt P ops oi a' w' v) → (tagOf τ j = 2 → C w') ∧ wpAnyM P ops C τ Q fuel ((listed.setIfInBounds i true).setIfInBounds j true) (a'.put oi.dst v) w' →
            (tagOf τ j = 2 → C w') ∧ wpAnyM P ops C τ Q (fuel + 1) (listed.setIfInBounds j true) a' w' := fun a' w' hq ⟨hc', hk⟩ =>
          ⟨hc', ih (listed.setIfInBounds j true) a' w' hfree' (ready_mono hr (Ne.symm hji)) (.inl ⟨hc' ht2, hq, U, hb'⟩) (by rw [Array.setIfInBounds_comm _ _ hji]; exact hk)⟩
        unfold Oper.wp at *
        rw [execOp_put oj hsj a oi.dst v p1] at hwp
        generalize (execOp a.eval oj).run P w = r at *
        cases r with
        | ok n w' =>
          cases n <;> simp only [Oper.upon] at hwp ⊢
          case value u => exact fin _ _ (hyk a u hy) (by rw [← Act.put_comm a v u p2]; exact hwp)
          case skip => exact fin _ _ (hyk a _ hy) (by rw [← Act.put_comm a v undef p2]; exact hwp)
          case defer d =>
            refine fin _ _ (hyk _ _ (fun w' hw' => (hy w' hw').of_same rfl rfl)) ?_
            rw [← Act.put_comm _ v undef p2, ← Act.put_defers]
            exact hwp
          case enter f args =>
            refine Calls.mono hwp fun e w'' he => ?_
            cases e with
            | returned u => exact fin _ _ (hyk a u hy) (by rw [← Act.put_comm a v u p2]; exact he)
            | panicked c => exact he.elim
            | outgrown => exact he
          case row row args => exact Rows.mono hwp fun u w'' he => fin _ _ (hyk a u hy) (by rw [← Act.put_comm a v u p2]; exact he)
        | halt x w' =>
          cases x <;> simp only [Oper.upon] at hwp ⊢
          case panic u => exact hwp.elim

/-- Those that wait for 'i'. -/
def waiters (ops : Array Oper) (i : Nat) : List Nat :=
  (List.range ops.size).foldl (fun U m => match ops[m]? with
    | some om => if om.after.any (fun e => Region.binds .any e && (e.on == i || U.contains e.on)) then m :: U else U
    | none => U) []

/-- The check on the chosen order, and on the tags. -/
def blocksB (k : Nat) (ops : Array Oper) (τ : List (Nat × Nat)) (listed : Array Bool) (i : Nat) (U : List Nat) : Bool :=
  (U.all fun m => !listed.getD m true && match ops[m]? with
    | some om => om.after.any fun e => Region.binds .any e && (e.on == i || U.contains e.on)
    | none => false) &&
  (List.range ops.size).all fun m => decide (tagOf τ m < k) || listed.getD m true || U.contains m

theorem blocksB_spec {k : Nat} {listed : Array Bool} {i : Nat} {U : List Nat} (h : blocksB k ops τ listed i U = true) : Blocks k ops τ listed i U := by
  simp only [blocksB, Bool.and_eq_true, List.all_eq_true, List.mem_range] at h
  refine ⟨fun m hm => ?_, fun m om hom ht hun => ?_⟩
  · have h1 := h.1 m hm
    simp only [Bool.not_eq_true'] at h1
    refine ⟨h1.1, ?_⟩
    cases hom : ops[m]? with
    | none => rw [hom] at h1; cases h1.2
    | some om =>
      rw [hom] at h1
      obtain ⟨e, he, hb⟩ := Array.any_eq_true'.1 h1.2
      simp only [Bool.and_eq_true, Bool.or_eq_true, beq_iff_eq, List.contains_iff_mem] at hb
      exact ⟨om, rfl, e, he, hb.1, hb.2⟩
  · have h1 := h.2 m (Array.getElem?_eq_some_iff.1 hom).1
    have h2 : decide (tagOf τ m < k) = false := by simp; omega
    simp only [h2, hun, Bool.false_or, List.contains_iff_mem] at h1
    exact h1

def MT.heads : MT → List Nat
  | .w i _ _ alt => i :: alt.heads
  | _ => []
/-- Nothing of tag 0 is left. -/
def MT.noZero : MT → Bool
  | .nil => true
  | .q _ t r => !Nat.beq t 0 && r.noZero
  | .w _ _ r alt => r.noZero && alt.noZero
/-- The tags, by the first order. -/
def MT.tags : MT → List (Nat × Nat)
  | .nil => []
  | .q i t r => (i, t) :: r.tags
  | .w i t r _ => (i, t) :: r.tags

def mixFrom (ops : Array Oper) (τ : List (Nat × Nat)) : MT → Bool → Nat → Array Bool → Bool
  | .nil, top, _, listed => !top || (Region.ready .any ops listed).isEmpty
  | .q i t r, top, fuel, listed => top && (tagOf τ i == t) && (match t with
      | 0 => (Region.ready .any ops listed).contains i && Region.free .any ops listed i && blocksB 3 ops τ listed i (if τ.all (fun x => decide (x.2 < 3)) then [] else waiters ops i)
      | 1 => (Region.ready .any ops listed).contains i && Region.free .any ops listed i && blocksB 2 ops τ listed i (waiters ops i)
      | _ => false) && (match fuel with
      | 0 => false
      | fuel + 1 => mixFrom ops τ r true fuel (listed.setIfInBounds i true))
  | .w i t r alt, top, fuel, listed => (tagOf τ i == t) && (!top || Region.ready .any ops listed == (i :: alt.heads)) && (match t with
      | 2 => true
      | 3 => r.noZero
      | _ => false) && (match fuel with
      | 0 => false
      | fuel + 1 => mixFrom ops τ r true fuel (listed.setIfInBounds i true)) && mixFrom ops τ alt false fuel listed

def mixB (ops : Array Oper) (T : MT) : Bool := Region.noSelect ops && mixFrom ops T.tags T true ops.size (Array.replicate ops.size false)

/-- What an alternative says of the operations that it names. -/
def AltOk (P : Program) (ops : Array Oper) (C : World → Prop) (τ : List (Nat × Nat)) (Q : Act → World → Prop) (T : MT) (fuel : Nat) (listed : Array Bool) (a : Act) (w : World) : Prop :=
  ∀ j ∈ T.heads, ∃ f, fuel = f + 1 ∧ mixOp P ops C τ j (wpAnyM P ops C τ Q f (listed.setIfInBounds j true)) a w

theorem wpAnyM_of_mix (hsel : Region.noSelect ops = true) : ∀ (T : MT) (top : Bool) (fuel : Nat) (listed : Array Bool) (a : Act) (w : World), (C w ∨ T.noZero = true) →
    mixFrom ops τ T top fuel listed = true → wpMix P ops C Q T top a w → (top = true → wpAnyM P ops C τ Q fuel listed a w) ∧ (AltOk P ops C τ Q T fuel listed a w)
  | .nil, top, fuel, listed, a, w, _, hB, h => by
    refine ⟨fun ht => ?_, fun j hj => by cases hj⟩
    subst ht
    have hr : Region.ready .any ops listed = [] := by simpa [mixFrom] using hB
    simp only [wpMix, cond_true] at h
    cases fuel with
    | zero => exact ⟨hr, h⟩
    | succ f => exact ⟨fun _ => h, fun i hi => by rw [hr] at hi; cases hi⟩
  | .q i t r, top, fuel, listed, a, w, hC, hB, h => by
    refine ⟨fun ht => ?_, fun j hj => by cases hj⟩
    simp only [mixFrom, Bool.and_eq_true, beq_iff_eq] at hB
    obtain ⟨⟨⟨_, htag⟩, hB1⟩, hB2⟩ := hB
    simp only [wpMix] at h
    obtain ⟨_, h⟩ := h
    cases fuel with
    | zero => cases hB2
    | succ f =>
      simp only at hB2
      cases ho : ops[i]? with
      | none => simp only [ho] at h
      | some o =>
        simp only [ho] at h
        match t, htag, hB1, h with
        | 0, htag, hB1, h =>
          simp only [Bool.and_eq_true] at hB1
          obtain ⟨v, hq, hk⟩ := h
          have hC : C w := hC.resolve_right (fun h => by simp [MT.noZero] at h)
          exact wpAnyM_first ho (by omega) (Region.noSelect_spec hsel) _ listed a w (Region.free_spec ho hB1.1.2) (by simpa using hB1.1.1) (.inl ⟨hC, hq, _, blocksB_spec hB1.2⟩)
            ((wpAnyM_of_mix hsel r true f _ _ w (.inl hC) hB2 hk).1 rfl)
        | 1, htag, hB1, h =>
          simp only [Bool.and_eq_true] at hB1
          obtain ⟨v, hq, hk⟩ := h
          exact wpAnyM_first ho (by omega) (Region.noSelect_spec hsel) _ listed a w (Region.free_spec ho hB1.1.2) (by simpa using hB1.1.1) (.inr ⟨hq, _, blocksB_spec hB1.2⟩)
            ((wpAnyM_of_mix hsel r true f _ _ w (hC.imp id (fun h => by simp only [MT.noZero, Bool.and_eq_true] at h; exact h.2)) hB2 hk).1 rfl)
        | t + 2, htag, hB1, h => cases hB1
  | .w i t r alt, top, fuel, listed, a, w, hC, hB, h => by
    simp only [mixFrom, Bool.and_eq_true, beq_iff_eq] at hB
    obtain ⟨⟨⟨⟨htag, hrdy⟩, hB1⟩, hB2⟩, hB3⟩ := hB
    simp only [wpMix] at h
    obtain ⟨h, halt⟩ := h
    have hCr : C w ∨ alt.noZero = true := hC.imp id (fun h => by simp only [MT.noZero, Bool.and_eq_true] at h; exact h.2)
    have hA : AltOk P ops C τ Q (.w i t r alt) fuel listed a w := by
      intro j hj
      rcases List.mem_cons.1 hj with rfl | hj
      · cases fuel with
        | zero => cases hB2
        | succ f =>
          simp only at hB2
          refine ⟨f, rfl, ?_⟩
          unfold mixOp
          cases ho : ops[j]? with
          | none => simp only [ho] at h
          | some o =>
            simp only [ho] at h ⊢
            match t, htag, hB1, h with
            | 2, htag, hB1, h =>
              simp only [htag]
              rw [if_neg (by omega)]
              exact ⟨h.1, wp_noExit (fun a' w' hk => ⟨fun _ => hk.1, (wpAnyM_of_mix hsel r true f _ a' w' (.inl hk.1) hB2 hk.2).1 rfl⟩) h.2⟩
            | 3, htag, hB1, h =>
              simp only [htag]
              rw [if_neg (by omega)]
              exact ⟨h.1, wp_noExit (fun a' w' hk => ⟨fun h => by omega, (wpAnyM_of_mix hsel r true f _ a' w' (.inr hB1) hB2 hk).1 rfl⟩) h.2⟩
            | 0, _, hB1, _ => cases hB1
            | 1, _, hB1, _ => cases hB1
            | t + 4, _, hB1, _ => cases hB1
      · exact (wpAnyM_of_mix hsel alt false fuel listed a w hCr hB3 halt).2 j hj
    refine ⟨fun ht => ?_, hA⟩
    subst ht
    have hr : Region.ready .any ops listed = i :: alt.heads := by simpa using hrdy
    cases fuel with
    | zero => cases hB2
    | succ f =>
      refine ⟨fun h0 => (by rw [hr] at h0; cases h0), fun j hj => ?_⟩
      rw [hr] at hj
      obtain ⟨f', hf, hm⟩ := hA j hj
      obtain rfl : f = f' := by omega
      exact hm

/-- ONE WALK IN CHOSEN ORDERS SERVES EVERY ORDER. -/
theorem wp_region_mix (T : MT) {id : Nat} {Q : Exit → Act → World → Prop} {a : Act} {w : World} (hm : P.follows .mixedOrders = true) (hB : mixB ops T = true)
    (hC : C { w with drawn := w.drawn + 1 })
    (h : wpMix P ops C (Q .normal) T true a { w with drawn := w.drawn + 1 }) : (Code.region id ops true).wp P Q a w := by
  simp only [mixB, Bool.and_eq_true] at hB
  obtain ⟨hsel, hB⟩ := hB
  refine wp_region_any hm ?_
  exact wpAny_of_wpAnyM (fun _ _ h => h) _ _ _ _ ((wpAnyM_of_mix hsel T true ops.size _ a _ (.inl hC) hB h).1 rfl)
end
end Go.Eng
