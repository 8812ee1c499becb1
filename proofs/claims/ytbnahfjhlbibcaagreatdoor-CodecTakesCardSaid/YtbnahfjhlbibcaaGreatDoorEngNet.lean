/-
  Regions that draw their order, with operations that make memory at any time: a chain of operations, each behind the one ahead of it, and others that are free to come up early: what they make waits aside till the chain wants it.
-/
import Derived.Test.YtbnahfjhlbibcaaGreatDoorEngConv
namespace Go.Eng

/-- A free operation: its place, its slot, what it yields (by the address of what it makes), what it makes, what it needs to know. -/
structure Fr where
  i : Nat
  d : Nat
  v : Nat → Value
  made : Nat → List Atom
  need : Env
/-- A link of the chain: its place, its slot, which free ones it waits for. -/
structure Ln where
  i : Nat
  d : Nat
  fs : List Fr

def bindsF (bs : Nat → Nat) (l : List Fr) : Env := l.map fun f => (f.d, f.v (bs f.i))
def mksF (bs : Nat → Nat) (l : List Fr) : List Atom := l.flatMap fun f => f.made (bs f.i)

def Step (P : Program) (n : Nat) (o : Oper) (env : Env) (S : World → Prop) (R : Value → World → Prop) : Prop :=
  ∀ a w, Sat n env a → S w → o.wp P a w (fun a' w' => ∃ v, a' = a.put o.dst v ∧ R v w') noExit

section
variable {P : Program} {n : Nat} {o : Oper} {env : Env} {S : World → Prop} {R : Value → World → Prop}
theorem step_w (hy : Yw P n o env S R) : Step P n o env S R := fun a w ha hw => by
  obtain ⟨v, w', hr, hR⟩ := hy a w ha hw
  unfold Oper.wp
  rw [hr]
  exact ⟨v, rfl, hR⟩
theorem step_c (hy : Yc P n o env S R) : Step P n o env S R := fun a w ha hw => by
  obtain ⟨f, args, hr, hc⟩ := hy a w ha hw
  unfold Oper.wp
  rw [hr]
  refine Calls.mono hc fun e w' ⟨v, he, hR⟩ => ?_
  subst he
  exact ⟨v, rfl, hR⟩
end

def edgeB (ops : Array Oper) (j i : Nat) : Bool := match ops[j]? with
  | some o => o.after.toList.any fun e => Region.binds .any e && Nat.beq e.on i
  | none => false
def backB (ops : Array Oper) : Bool := (List.range ops.size).all fun i => match ops[i]? with
  | some o => o.after.toList.all fun e => !Region.binds .any e || Nat.blt e.on i
  | none => true

theorem edgeB_spec {ops : Array Oper} {j i : Nat} {o : Oper} (h : edgeB ops j i = true) (ho : ops[j]? = some o) : ∃ e ∈ o.after, Region.binds .any e = true ∧ e.on = i := by
  unfold edgeB at h
  rw [ho] at h
  obtain ⟨e, he, hb⟩ := List.any_eq_true.1 h
  simp only [Bool.and_eq_true] at hb
  exact ⟨e, Array.mem_toList_iff.1 he, hb.1, Nat.eq_of_beq_eq_true hb.2⟩
theorem backB_spec {ops : Array Oper} (h : backB ops = true) {i : Nat} {o : Oper} (ho : ops[i]? = some o) : ∀ e ∈ o.after, Region.binds .any e = true → e.on < i := fun e he hb => by
  have h1 := List.all_eq_true.1 h i (List.mem_range.2 (Array.getElem?_eq_some_iff.1 ho).1)
  simp only [ho] at h1
  have h2 := List.all_eq_true.1 h1 e (Array.mem_toList_iff.2 he)
  rw [hb] at h2
  simpa using h2

def linkedB (ops : Array Oper) : List Ln → Bool
  | x :: y :: r => edgeB ops y.i x.i && linkedB ops (y :: r)
  | _ => true
theorem linked_pred {ops : Array Oper} : ∀ {r : List Ln} {x y : Ln}, linkedB ops (x :: r) = true → y ∈ r → ∃ z ∈ x :: r, edgeB ops y.i z.i = true
  | z :: r, x, y, h, hy => by
    simp only [linkedB, Bool.and_eq_true] at h
    rcases List.mem_cons.1 hy with rfl | hy
    · exact ⟨x, by simp, h.1⟩
    · obtain ⟨u, hu, he⟩ := linked_pred h.2 hy
      exact ⟨u, List.mem_cons_of_mem _ hu, he⟩
theorem linked_tail {ops : Array Oper} {x : Ln} {r : List Ln} (h : linkedB ops (x :: r) = true) : linkedB ops r = true := by
  cases r with
  | nil => rfl
  | cons y r => simp only [linkedB, Bool.and_eq_true] at h; exact h.2

/-- The checks on the region: a chain, frees, and nothing else. -/
def netB (ops : Array Oper) (env : Env) (frees : List Fr) (chain : List Ln) : Bool :=
  backB ops && linkedB ops chain && (chain.all fun x => x.fs.all fun f => edgeB ops x.i f.i) &&
  ((List.range ops.size).all fun i => (frees.map (·.i) ++ chain.map (·.i)).contains i) && ((frees.map (·.i) ++ chain.map (·.i)).all fun i => Nat.blt i ops.size) &&
  decide (frees.map (·.i) ++ chain.map (·.i)).Nodup && decide (frees.map (·.d) ++ chain.map (·.d)).Nodup && ((frees.map (·.d) ++ chain.map (·.d)).all fun s => (env.find s).isNone) &&
  decide ((chain.flatMap (·.fs)).map (·.i)).Nodup

section
variable (P : Program) (n : Nat) (ops : Array Oper) (w0 : World) (O : Nat → Prop) (Base : List Atom) (Q : Act → World → Prop)

def Lin : List Ln → Env → List Atom → Prop
  | [], env, As => ∀ Fs a w, Sat n env a → Hp w0 O (As ++ (Base ++ Fs)) w → Q a w
  | x :: r, env, As => ∃ o, ops[x.i]? = some o ∧ o.dst = some x.d ∧ o.guard = none ∧ Nat.blt x.d n = true ∧ ∀ bs : Nat → Nat, ∃ (α : Type) (p : α → Prop) (v : α → Value) (A : α → List Atom),
      (∀ Fs, Step P n o (bindsF bs x.fs ++ env) (Hp w0 O ((mksF bs x.fs ++ As) ++ (Base ++ Fs))) (Rx p v (fun y => Hp w0 O (A y ++ (Base ++ Fs))))) ∧
      ∀ y, p y → Lin r ((x.d, v y) :: (bindsF bs x.fs ++ env)) (A y)

def FrOk (env : Env) (frees : List Fr) (f : Fr) : Prop :=
  ∃ o, ops[f.i]? = some o ∧ o.dst = some f.d ∧ o.guard = none ∧ Nat.blt f.d n = true ∧
    (∀ s u, f.need.find s = some u → env.find s = some u ∨ ∃ g ∈ frees, g.d = s ∧ (∀ b, g.v b = u) ∧ edgeB ops f.i g.i = true) ∧
    ∀ Fs, Yw P n o f.need (Hp w0 O (Base ++ Fs)) (Rx (fun _ : Nat => True) f.v (fun b => Hp w0 O (f.made b ++ (Base ++ Fs))))

structure NetI (env : Env) (frees unl : List Fr) (r : List Ln) (pl : List Fr) (bs : Nat → Nat) (env' : Env) (As : List Atom) (listed : Array Bool) (a : Act) (w : World) : Prop where
  lin : Lin P n ops w0 O Base Q r env' As
  size : listed.size = ops.size
  lst : ∀ i, listed.getD i true = false ↔ i ∈ unl.map (·.i) ++ r.map (·.i)
  nd : (unl.map (·.i) ++ r.map (·.i)).Nodup
  slots : (unl.map (·.d) ++ r.map (·.d)).Nodup
  sub : ∀ f ∈ unl, f ∈ frees
  pend : ∀ f ∈ r.flatMap (·.fs), f ∈ unl ∨ f ∈ pl
  ndf : (r.flatMap (·.fs)).Nodup
  linked : linkedB ops r = true
  waits : ∀ x ∈ r, ∀ f ∈ x.fs, edgeB ops x.i f.i = true
  base : Sat n env a
  cur : Sat n env' a
  fresh : ∀ s ∈ unl.map (·.d) ++ r.map (·.d), env.find s = none ∧ env'.find s = none
  done : ∀ f ∈ frees, f ∉ unl → f.d ∉ unl.map (·.d) ++ r.map (·.d) ∧ a.tmps[f.d]? = some (f.v (bs f.i)) ∧ f.i ∉ unl.map (·.i)
  plf : ∀ f ∈ pl, f ∈ frees ∧ f ∉ unl
  hp : Hp w0 O (As ++ (Base ++ mksF bs pl)) w
end

theorem Sat.fresh {n : Nat} {env : Env} {a : Act} (h : Sat n env a) {d : Nat} {v : Value} (hd : env.find d = none) : Sat n env (a.put (some d) v) := by
  refine ⟨h.defers, by simp [Act.put, h.size], fun k u hk => ?_⟩
  have : d ≠ k := fun e => by subst e; rw [hd] at hk; cases hk
  simp only [Act.put]
  rw [Array.getElem?_setIfInBounds_ne this]
  exact h.get k u hk
theorem put_other {a : Act} {d k : Nat} {v u : Value} (hk : d ≠ k) (h : a.tmps[k]? = some u) : (a.put (some d) v).tmps[k]? = some u := by
  simp only [Act.put]
  rw [Array.getElem?_setIfInBounds_ne hk]
  exact h
theorem put_here {a : Act} {n d : Nat} {v : Value} (hs : a.tmps.size = n) (hd : Nat.blt d n = true) : (a.put (some d) v).tmps[d]? = some v := by
  have hd' : d < n := Nat.le_of_ble_eq_true hd
  simp [Act.put, hs, hd']
theorem mks_congr {bs bs' : Nat → Nat} : ∀ {l : List Fr}, (∀ g ∈ l, bs g.i = bs' g.i) → mksF bs l = mksF bs' l
  | [], _ => rfl
  | g :: l, h => by
    have ih := mks_congr (l := l) fun x hx => h x (by simp [hx])
    unfold mksF at ih ⊢
    rw [List.flatMap_cons, List.flatMap_cons, ih, h g (by simp)]
theorem perm_take {fs : List Fr} : ∀ {pl : List Fr}, fs.Nodup → (∀ f ∈ fs, f ∈ pl) → ∃ rest, pl.Perm (fs ++ rest) := by
  induction fs with
  | nil => intro pl _ _; exact ⟨pl, .refl _⟩
  | cons f fs ih =>
    intro pl hn hm
    obtain ⟨hf, hn⟩ := List.nodup_cons.1 hn
    obtain ⟨s, t, rfl⟩ := List.append_of_mem (hm f (by simp))
    obtain ⟨rest, hp⟩ := ih (pl := s ++ t) hn fun g hg => by
      have h1 := hm g (by simp [hg])
      simp only [List.mem_append, List.mem_cons] at h1 ⊢
      rcases h1 with h1 | rfl | h1
      · exact .inl h1
      · exact absurd hg hf
      · exact .inr h1
    exact ⟨rest, List.perm_middle.trans (hp.cons f)⟩
theorem getD_both {listed : Array Bool} {i : Nat} (hs : i < listed.size) (h : listed.getD i true ≠ false) : listed.getD i false = true := by
  simp [hs] at h ⊢; exact h
theorem lst_set {listed : Array Bool} {j : Nat} {L L' : List Nat} (h : ∀ i, listed.getD i true = false ↔ i ∈ L) (hL : ∀ i, i ∈ L ↔ i = j ∨ i ∈ L') (hj : j ∉ L') : ∀ i, (listed.setIfInBounds j true).getD i true = false ↔ i ∈ L' := fun i => by
  by_cases hij : j = i
  · subst hij
    constructor
    · intro h1
      rcases Nat.lt_or_ge j listed.size with h2 | h2
      · simp [h2] at h1
      · simp [Array.getElem?_eq_none (show (listed.setIfInBounds j true).size ≤ j by simpa using h2)] at h1
    · intro h1; exact absurd h1 hj
  · rw [getD_set_ne true hij, h i, hL i]
    constructor
    · rintro (rfl | h1)
      · exact absurd rfl hij
      · exact h1
    · exact .inr

section
variable {P : Program} {n : Nat} {ops : Array Oper} {w0 : World} {O : Nat → Prop} {Base : List Atom} {Q' : Exit → Act → World → Prop} {env : Env} {frees : List Fr}

theorem net_any (hback : backB ops = true) (hfr : ∀ f ∈ frees, FrOk P n ops w0 O Base env frees f) :
    ∀ (fuel : Nat) (unl : List Fr) (r : List Ln) (pl : List Fr) (bs : Nat → Nat) (env' : Env) (As : List Atom) (listed : Array Bool) (a : Act) (w : World),
      NetI P n ops w0 O Base (Q' .normal) env frees unl r pl bs env' As listed a w → unl.length + r.length ≤ fuel → wpAny P .any ops Q' fuel listed a w := by
  intro fuel
  have nothing : ∀ {unl : List Fr} {r : List Ln} {pl bs env' As listed a w}, NetI P n ops w0 O Base (Q' .normal) env frees unl r pl bs env' As listed a w → unl = [] → r = [] → Q' .normal a w := by
    intro unl r pl bs env' As listed a w hI h1 h2
    subst h1 h2
    exact hI.lin _ a w hI.cur hI.hp
  induction fuel with
  | zero =>
    intro unl r pl bs env' As listed a w hI hf
    have h1 : unl = [] := List.eq_nil_of_length_eq_zero (by omega)
    have h2 : r = [] := List.eq_nil_of_length_eq_zero (by omega)
    refine ⟨List.eq_nil_iff_forall_not_mem.2 fun j hj => ?_, nothing hI h1 h2⟩
    have := (hI.lst j).1 (mem_ready.1 hj).1
    subst h1 h2
    cases this
  | succ fuel ih =>
    intro unl r pl bs env' As listed a w hI hf
    refine ⟨fun h0 => ?_, fun j hj => ?_⟩
    · have hall : ∀ i, i < ops.size → listed.getD i true ≠ false := by
        intro i
        induction i using Nat.strongRecOn with
        | _ i ihi =>
          intro hi hun
          have : i ∈ Region.ready .any ops listed := mem_ready.2 ⟨hun, ops[i], by simp [hi], fun e he hb => by
            have hlt := backB_spec hback (i := i) (o := ops[i]) (by simp [hi]) e he hb
            exact getD_both (by rw [hI.size]; omega) (ihi e.on hlt (by omega))⟩
          rw [h0] at this; cases this
      have hno : ∀ i, i ∉ unl.map (·.i) ++ r.map (·.i) := fun i hi => by
        have h1 := (hI.lst i).2 hi
        rcases Nat.lt_or_ge i ops.size with h2 | h2
        · exact hall i h2 h1
        · simp [Array.getElem?_eq_none (show listed.size ≤ i by rw [hI.size]; exact h2)] at h1
      refine nothing hI ?_ ?_
      · cases hu : unl with
        | nil => rfl
        | cons f u => exact absurd (by rw [hu]; simp) (hno f.i)
      · cases hu : r with
        | nil => rfl
        | cons f u => exact absurd (by rw [hu]; simp) (hno f.i)
    · obtain ⟨hjun, oj, hoj, hedge⟩ := mem_ready.1 hj
      have notun : ∀ i, edgeB ops j i = true → i ∉ unl.map (·.i) ++ r.map (·.i) := fun i he hm => by
        obtain ⟨e, he1, he2, rfl⟩ := edgeB_spec he hoj
        have h1 := hedge e he1 he2
        have h2 := (hI.lst e.on).2 hm
        rw [getD_false_of_true h2] at h1; cases h1
      have hjm := (hI.lst j).1 hjun
      rcases List.mem_append.1 hjm with hjm | hjm
      · obtain ⟨f, hfu, rfl⟩ := List.mem_map.1 hjm
        have hff := hI.sub f hfu
        obtain ⟨o, ho, hdst, hg, hdn, hneed, hyw⟩ := hfr f hff
        obtain rfl : oj = o := Option.some.inj (hoj.symm.trans ho)
        obtain ⟨u1, u2, rfl⟩ := List.append_of_mem hfu
        have hsat : Sat n f.need a := ⟨hI.base.defers, hI.base.size, fun s u hs => by
          rcases hneed s u hs with h1 | ⟨g, hgf, rfl, hv, he⟩
          · exact hI.base.get s u h1
          · have hgu : g ∉ u1 ++ f :: u2 := fun hm => notun g.i he (List.mem_append_left _ (List.mem_map_of_mem hm))
            rw [← hv (bs g.i)]
            exact (hI.done g hgf hgu).2.1⟩
        have hw1 : Hp w0 O (Base ++ (As ++ mksF bs pl)) w := hI.hp.perm (List.perm_append_comm_assoc ..)
        obtain ⟨v, w', hr, b, _, rfl, hw'⟩ := hyw _ a w hsat hw1
        have hnd := hI.nd
        have hsl := hI.slots
        simp only [List.map_append, List.map_cons, List.append_assoc, List.cons_append] at hnd hsl
        have hnd1 := (List.perm_middle.nodup_iff.1 hnd)
        have hsl1 := (List.perm_middle.nodup_iff.1 hsl)
        obtain ⟨hi1, hnd2⟩ := List.nodup_cons.1 hnd1
        obtain ⟨hs1, hsl2⟩ := List.nodup_cons.1 hsl1
        rw [← List.append_assoc, ← List.map_append] at hi1 hnd2 hs1 hsl2
        have hfresh := hI.fresh f.d (by simp)
        unfold wpOp
        simp only [hoj]
        rw [if_pos (by simp [Region.wanted, hg])]
        left
        unfold Oper.wp
        rw [hr]
        refine ih (u1 ++ u2) r (f :: pl) (fun k => if k = f.i then b else bs k) env' As _ _ _ ?_ (by simp at hf ⊢; omega)
        have hidx : ∀ g ∈ frees, g ∉ u1 ++ f :: u2 → g.i ≠ f.i := fun g hg1 hg2 e => (hI.done g hg1 hg2).2.2 (by rw [e]; simp)
        have hmks : mksF (fun k => if k = f.i then b else bs k) pl = mksF bs pl := by
          refine mks_congr fun g hg1 => ?_
          rw [if_neg (hidx g (hI.plf g hg1).1 (hI.plf g hg1).2)]
        refine ⟨hI.lin, by simpa using hI.size, ?_, hnd2, hsl2, fun g hg1 => hI.sub g ?_, fun g hg1 => ?_, hI.ndf, hI.linked, hI.waits, ?_, ?_, fun s hs => hI.fresh s ?_, fun g hg1 hg2 => ?_, fun g hg1 => ?_, ?_⟩
        · refine lst_set hI.lst (fun i => ?_) hi1
          simp only [List.map_append, List.map_cons, List.mem_append, List.mem_cons]
          constructor
          · rintro ((h | h | h) | h)
            · exact .inr (.inl (.inl h))
            · exact .inl h
            · exact .inr (.inl (.inr h))
            · exact .inr (.inr h)
          · rintro (h | (h | h) | h)
            · exact .inl (.inr (.inl h))
            · exact .inl (.inl h)
            · exact .inl (.inr (.inr h))
            · exact .inr h
        · simp only [List.mem_append, List.mem_cons] at hg1 ⊢
          rcases hg1 with h | h
          · exact .inl h
          · exact .inr (.inr h)
        · rcases hI.pend g hg1 with h | h
          · simp only [List.mem_append, List.mem_cons] at h ⊢
            rcases h with h | h | h
            · exact .inl (.inl h)
            · exact .inr (.inl h)
            · exact .inl (.inr h)
          · exact .inr (List.mem_cons_of_mem _ h)
        · rw [hdst]; exact hI.base.fresh hfresh.1
        · rw [hdst]; exact hI.cur.fresh hfresh.2
        · simp only [List.map_append, List.map_cons, List.mem_append, List.mem_cons] at hs ⊢
          rcases hs with (h | h) | h
          · exact .inl (.inl h)
          · exact .inl (.inr (.inr h))
          · exact .inr h
        · rw [hdst]
          by_cases hgf : g ∈ u1 ++ f :: u2
          · have hgf : g = f := by
              simp only [List.mem_append, List.mem_cons] at hgf hg2
              rcases hgf with h | h | h
              · exact absurd (.inl h) hg2
              · exact h
              · exact absurd (.inr h) hg2
            subst hgf
            refine ⟨hs1, ?_, fun hm => hi1 (List.mem_append_left _ hm)⟩
            rw [if_pos rfl]
            exact put_here hI.base.size hdn
          · obtain ⟨h1, h2, h3⟩ := hI.done g hg1 hgf
            refine ⟨fun hm => h1 ?_, ?_, fun hm => h3 ?_⟩
            · simp only [List.map_append, List.map_cons, List.mem_append, List.mem_cons] at hm ⊢
              rcases hm with (h | h) | h
              · exact .inl (.inl h)
              · exact .inl (.inr (.inr h))
              · exact .inr h
            · rw [if_neg (hidx g hg1 hgf)]
              exact put_other (fun e => h1 (by rw [← e]; simp)) h2
            · simp only [List.map_append, List.map_cons, List.mem_append, List.mem_cons] at hm ⊢
              rcases hm with h | h
              · exact .inl h
              · exact .inr (.inr h)
        · rcases List.mem_cons.1 hg1 with rfl | hg1
          · exact ⟨hff, fun hm => hi1 (List.mem_append_left _ (List.mem_map_of_mem hm))⟩
          · obtain ⟨h1, h2⟩ := hI.plf g hg1
            refine ⟨h1, fun hm => h2 ?_⟩
            simp only [List.mem_append, List.mem_cons] at hm ⊢
            rcases hm with h | h
            · exact .inl h
            · exact .inr (.inr h)
        · have e : mksF (fun k => if k = f.i then b else bs k) (f :: pl) = f.made b ++ mksF bs pl := by
            rw [← hmks]; unfold mksF; rw [List.flatMap_cons]
            show f.made (if f.i = f.i then b else bs f.i) ++ _ = _
            rw [if_pos rfl]
          rw [e]
          refine hw'.perm ((List.perm_append_comm_assoc ..).trans ?_)
          refine (List.Perm.append_left Base (List.perm_append_comm_assoc ..)).trans ?_
          exact List.perm_append_comm_assoc ..
      · obtain ⟨x, hxr, rfl⟩ := List.mem_map.1 hjm
        cases r with
        | nil => cases hxr
        | cons y r =>
          obtain rfl : x = y := by
            rcases List.mem_cons.1 hxr with h | h
            · exact h
            · obtain ⟨z, hz, he⟩ := linked_pred hI.linked h
              exact absurd (List.mem_append_right _ (List.mem_map_of_mem hz)) (notun z.i he)
          have hlin := hI.lin
          obtain ⟨o, ho, hdst, hg, hdn, hlin⟩ := hlin
          obtain rfl : oj = o := Option.some.inj (hoj.symm.trans ho)
          obtain ⟨α, p, v, A, hstep, hnext⟩ := hlin bs
          have hfs : ∀ f ∈ x.fs, f ∈ pl := fun f hf1 => by
            rcases hI.pend f (by simp [hf1]) with h | h
            · exact absurd (List.mem_append_left _ (List.mem_map_of_mem h)) (notun f.i (hI.waits x (by simp) f hf1))
            · exact h
          have hndf := hI.ndf
          rw [List.flatMap_cons] at hndf
          obtain ⟨hn1, hn2, hn3⟩ := List.nodup_append.1 hndf
          obtain ⟨rest, hperm⟩ := perm_take hn1 hfs
          have hw1 : Hp w0 O ((mksF bs x.fs ++ As) ++ (Base ++ mksF bs rest)) w := by
            refine hI.hp.perm ?_
            have h1 : (mksF bs pl).Perm (mksF bs x.fs ++ mksF bs rest) := by
              have := hperm.flatMap_right (fun f => f.made (bs f.i))
              rw [List.flatMap_append] at this; exact this
            refine (List.Perm.append_left As (List.Perm.append_left Base h1)).trans ?_
            refine (List.Perm.append_left As (List.perm_append_comm_assoc ..)).trans ?_
            rw [List.append_assoc]
            exact List.perm_append_comm_assoc ..
          have hsat : Sat n (bindsF bs x.fs ++ env') a := ⟨hI.base.defers, hI.base.size, fun s u hs => by
            have key : ∀ (l : List Fr), (∀ f ∈ l, f ∈ pl) → Env.find (bindsF bs l ++ env') s = some u → a.tmps[s]? = some u := by
              intro l
              induction l with
              | nil => intro _ h; exact hI.cur.get s u h
              | cons f l ihl =>
                intro hl h
                have h4 : Env.find ((f.d, f.v (bs f.i)) :: (bindsF bs l ++ env')) s = some u := h
                rw [Env.find_cons] at h4
                split at h4
                · rename_i e
                  subst e
                  obtain rfl := Option.some.inj h4
                  obtain ⟨h1, h2⟩ := hI.plf f (hl f (by simp))
                  exact (hI.done f h1 h2).2.1
                · exact ihl (fun g hg1 => hl g (by simp [hg1])) h4
            exact key x.fs hfs hs⟩
          have hnd := hI.nd
          have hsl := hI.slots
          simp only [List.map_cons] at hnd hsl
          obtain ⟨hi1, hnd2⟩ := List.nodup_cons.1 (List.perm_middle.nodup_iff.1 hnd)
          obtain ⟨hs1, hsl2⟩ := List.nodup_cons.1 (List.perm_middle.nodup_iff.1 hsl)
          have hfresh := hI.fresh x.d (by simp)
          unfold wpOp
          simp only [hoj]
          rw [if_pos (by simp [Region.wanted, hg])]
          left
          refine wp_noExit (fun a' w' hk => ?_) (hstep _ a w hsat hw1)
          obtain ⟨u, rfl, y, hy, rfl, hw'⟩ := hk
          refine ih unl r rest bs ((x.d, v y) :: (bindsF bs x.fs ++ env')) (A y) _ _ _ ?_ (by simp at hf ⊢; omega)
          have hsub : ∀ {s : Nat}, s ∈ unl.map (·.d) ++ r.map (·.d) → s ∈ unl.map (·.d) ++ (x :: r).map (·.d) := fun {s} hs => by
            simp only [List.map_cons, List.mem_append, List.mem_cons] at hs ⊢
            rcases hs with h | h
            · exact .inl h
            · exact .inr (.inr h)
          have hrest : ∀ g ∈ rest, g ∈ pl := fun g hg1 => hperm.mem_iff.2 (List.mem_append_right _ hg1)
          refine ⟨hnext y hy, by simpa using hI.size, ?_, hnd2, hsl2, hI.sub, fun g hg1 => ?_, hn2, linked_tail hI.linked, fun z hz => hI.waits z (by simp [hz]), ?_, ?_, fun s hs => ?_, fun g hg1 hg2 => ?_, fun g hg1 => hI.plf g (hrest g hg1), hw'⟩
          · refine lst_set hI.lst (fun i => ?_) hi1
            simp only [List.map_cons, List.mem_append, List.mem_cons]
            constructor
            · rintro (h | h | h)
              · exact .inr (.inl h)
              · exact .inl h
              · exact .inr (.inr h)
            · rintro (h | h | h)
              · exact .inr (.inl h)
              · exact .inl h
              · exact .inr (.inr h)
          · rcases hI.pend g (by rw [List.flatMap_cons]; exact List.mem_append_right _ hg1) with h | h
            · exact .inl h
            · rcases List.mem_append.1 (hperm.mem_iff.1 h) with h | h
              · exact absurd rfl (hn3 g h g hg1)
              · exact .inr h
          · rw [hdst]; exact hI.base.fresh hfresh.1
          · rw [hdst]; exact hsat.put x.d _ hdn
          · refine ⟨(hI.fresh s (hsub hs)).1, ?_⟩
            rw [Env.find_cons, if_neg (fun e => hs1 (by rw [e]; exact hs))]
            have key : ∀ (l : List Fr), (∀ f ∈ l, f ∈ pl) → Env.find (bindsF bs l ++ env') s = none := by
              intro l
              induction l with
              | nil => intro _; exact (hI.fresh s (hsub hs)).2
              | cons f l ihl =>
                intro hl
                show Env.find ((f.d, f.v (bs f.i)) :: (bindsF bs l ++ env')) s = none
                obtain ⟨h1, h2⟩ := hI.plf f (hl f (by simp))
                rw [Env.find_cons, if_neg (fun e => (hI.done f h1 h2).1 (by rw [e]; exact hsub hs))]
                exact ihl fun g hg1 => hl g (by simp [hg1])
            exact key x.fs hfs
          · obtain ⟨h1, h2, h3⟩ := hI.done g hg1 hg2
            refine ⟨fun hm => h1 (hsub hm), ?_, h3⟩
            rw [hdst]
            exact put_other (fun e => h1 (by rw [← e]; simp)) h2

/-- **ONE WALK ALONG THE CHAIN SERVES EVERY ORDER.** -/
theorem wc_net {id : Nat} (frees : List Fr) (chain : List Ln) (hm : P.follows .mixedOrders = true) (hB : netB ops env frees chain = true)
    (hfr : ∀ f ∈ frees, FrOk P n ops w0 O Base env frees f) (hsub : ∀ f ∈ chain.flatMap (·.fs), f ∈ frees)
    {As0 : List Atom} (h : Lin P n ops w0 O Base (Q' .normal) chain env As0) : WC P n Q' (.region id ops true) env (Hp w0 O (As0 ++ Base)) := fun a w ha hw => by
  simp only [netB, Bool.and_eq_true, decide_eq_true_eq] at hB
  obtain ⟨⟨⟨⟨⟨⟨⟨⟨h1, h2⟩, h3⟩, h4⟩, h5⟩, h6⟩, h7⟩, h8⟩, h9⟩ := hB
  refine wp_region_any hm ?_
  refine net_any h1 hfr _ frees chain [] (fun _ => 0) env As0 _ a _ ⟨h, by simp, fun i => ?_, h6, h7, fun f hf => hf, fun f hf => .inl (hsub f hf), ?_, h2, ?_, ha, ha, fun s hs => ?_, fun f hf hnf => absurd hf hnf, fun f hf => (by cases hf), ?_⟩ ?_
  · rcases Nat.lt_or_ge i ops.size with hi | hi
    · have := List.all_eq_true.1 h4 i (List.mem_range.2 hi)
      simp only [List.contains_iff_mem] at this
      simp [hi]
      simpa using this
    · have hn : i ∉ frees.map (·.i) ++ chain.map (·.i) := fun hm => by
        have := List.all_eq_true.1 h5 i hm
        have := Nat.le_of_ble_eq_true this
        omega
      simp [Nat.not_lt.2 hi]
      simpa using hn
  · exact (List.pairwise_map.1 h9).imp fun h e => h (congrArg _ e)
  · intro x hx f hf
    exact List.all_eq_true.1 (List.all_eq_true.1 h3 x hx) f hf
  · have := List.all_eq_true.1 h8 s hs
    have := Option.isNone_iff_eq_none.1 this
    exact ⟨this, this⟩
  · have := Hp.drawless w0 O (As0 ++ Base) w hw
    simpa [mksF] using this
  · have hlen : (frees.map (·.i) ++ chain.map (·.i)).length ≤ ops.size := by
      have hsub2 : ∀ (l : List Nat) (k : Nat), l.Nodup → (∀ i ∈ l, i < k) → l.length ≤ k := by
        intro l k
        induction k generalizing l with
        | zero =>
          intro _ hl
          cases l with
          | nil => simp
          | cons x r => have := hl x (by simp); omega
        | succ k ihk =>
          intro hn hl
          by_cases hk : k ∈ l
          · obtain ⟨s, t, rfl⟩ := List.append_of_mem hk
            obtain ⟨hk1, hn1⟩ := List.nodup_cons.1 (List.perm_middle.nodup_iff.1 hn)
            have := ihk (s ++ t) hn1 fun i hi => by
              have h1 := hl i (by simp only [List.mem_append, List.mem_cons] at hi ⊢; rcases hi with h | h; exact .inl h; exact .inr (.inr h))
              have h2 : i ≠ k := fun e => hk1 (e ▸ hi)
              omega
            simp at this ⊢; omega
          · have := ihk l hn fun i hi => by
              have h1 := hl i hi
              have h2 : i ≠ k := fun e => hk (e ▸ hi)
              omega
            omega
      exact hsub2 _ _ h6 fun i hi => Nat.le_of_ble_eq_true (List.all_eq_true.1 h5 i hi)
    simpa using hlen
end

/-! ### The rules of a walk along the chain -/
def lnks (frees : List Fr) (c : List (Nat × Nat × List Nat)) : List Ln := c.map fun x => ⟨x.1, x.2.1, x.2.2.filterMap (frees[·]?)⟩
theorem lnks_sub (frees : List Fr) (c : List (Nat × Nat × List Nat)) : ∀ f ∈ (lnks frees c).flatMap (·.fs), f ∈ frees := fun f hf => by
  obtain ⟨x, hx, hf⟩ := List.mem_flatMap.1 hf
  obtain ⟨y, _, rfl⟩ := List.mem_map.1 hx
  obtain ⟨k, _, hk⟩ := List.mem_filterMap.1 hf
  exact List.mem_of_getElem? hk
section
variable {P : Program} {n : Nat} {ops : Array Oper} {w0 : World} {O : Nat → Prop} {Base : List Atom} {Q' : Exit → Act → World → Prop} {env : Env} {frees : List Fr}

theorem fr_nil : ∀ f ∈ ([] : List Fr), FrOk P n ops w0 O Base env frees f := fun _ h => by cases h
theorem fr_cons {f : Fr} {r : List Fr} (h : FrOk P n ops w0 O Base env frees f) (hr : ∀ f ∈ r, FrOk P n ops w0 O Base env frees f) : ∀ g ∈ f :: r, FrOk P n ops w0 O Base env frees g := fun g hg => by
  rcases List.mem_cons.1 hg with rfl | hg
  · exact h
  · exact hr g hg
def NeedP (ops : Array Oper) (env : Env) (frees : List Fr) (i : Nat) (need : Env) : Prop := ∀ s u, need.find s = some u → env.find s = some u ∨ ∃ g ∈ frees, g.d = s ∧ (∀ b, g.v b = u) ∧ edgeB ops i g.i = true
theorem need_nil {i : Nat} : NeedP ops env frees i [] := fun _ _ h => by cases h
theorem need_base {i s : Nat} {u : Value} {r : Env} (h : env.find s = some u) (hr : NeedP ops env frees i r) : NeedP ops env frees i ((s, u) :: r) := fun k x hk => by
  rw [Env.find_cons] at hk
  split at hk
  · rename_i e; subst e; obtain rfl := Option.some.inj hk; exact .inl h
  · exact hr k x hk
theorem need_free (k : Nat) {i s : Nat} {u : Value} {r : Env} {g : Fr} (hg : frees[k]? = some g) (hd : g.d = s) (hv : ∀ b, g.v b = u) (he : edgeB ops i g.i = true) (hr : NeedP ops env frees i r) : NeedP ops env frees i ((s, u) :: r) := fun j x hk => by
  rw [Env.find_cons] at hk
  split at hk
  · rename_i e; subst e; obtain rfl := Option.some.inj hk; exact .inr ⟨g, List.mem_of_getElem? hg, hd, hv, he⟩
  · exact hr j x hk
theorem fr_mk {f : Fr} {o : Oper} (ho : ops[f.i]? = some o) (hd : o.dst = some f.d) (hg : o.guard = none) (hn : Nat.blt f.d n = true) (hneed : NeedP ops env frees f.i f.need)
    (h : ∀ Fs, Yw P n o f.need (Hp w0 O (Base ++ Fs)) (Rx (fun _ : Nat => True) f.v (fun b => Hp w0 O (f.made b ++ (Base ++ Fs))))) : FrOk P n ops w0 O Base env frees f := ⟨o, ho, hd, hg, hn, hneed, h⟩
theorem yw_q {o : Oper} {u : Value} {S : World → Prop} (h : Yv P n o env S u) : Yw P n o env S (Rx (fun _ : Nat => True) (fun _ => u) (fun _ => S)) := fun a w ha hw => ⟨u, w, h a w ha hw, 0, trivial, rfl, hw⟩
theorem yw_turn {α : Type} {o : Oper} {S : World → Prop} {p : α → Prop} {f : α → Value} {S1 S2 : α → World → Prop} (h : Yw P n o env S (Rx p f S1)) (ht : ∀ x w, S1 x w → S2 x w) : Yw P n o env S (Rx p f S2) := fun a w ha hw => by
  obtain ⟨v, w', hr, x, hp, he, hs⟩ := h a w ha hw
  exact ⟨v, w', hr, x, hp, he, ht x w' hs⟩

theorem lin_nil {As : List Atom} (h : ∀ Fs, WQ n Q' .normal env (Hp w0 O (As ++ (Base ++ Fs)))) : Lin P n ops w0 O Base (Q' .normal) [] env As := fun Fs a w ha hw => h Fs a w ha hw
theorem lin_mk {x : Ln} {r : List Ln} {As : List Atom} {o : Oper} {Q : Act → World → Prop} (ho : ops[x.i]? = some o) (hd : o.dst = some x.d) (hg : o.guard = none) (hn : Nat.blt x.d n = true)
    (h : ∀ bs : Nat → Nat, ∃ (α : Type) (p : α → Prop) (v : α → Value) (A : α → List Atom),
      (∀ Fs, Step P n o (bindsF bs x.fs ++ env) (Hp w0 O ((mksF bs x.fs ++ As) ++ (Base ++ Fs))) (Rx p v (fun y => Hp w0 O (A y ++ (Base ++ Fs))))) ∧
      ∀ y, p y → Lin P n ops w0 O Base Q r ((x.d, v y) :: (bindsF bs x.fs ++ env)) (A y)) : Lin P n ops w0 O Base Q (x :: r) env As := ⟨o, ho, hd, hg, hn, h⟩
/-- A quiet link. -/
theorem at_q {o : Oper} {d : Nat} {r : List Ln} {E : Env} {As : List Atom} {u : Value} {Q : Act → World → Prop} (h : ∀ Fs, Yv P n o E (Hp w0 O (As ++ (Base ++ Fs))) u) (hn : Lin P n ops w0 O Base Q r ((d, u) :: E) As) :
    ∃ (α : Type) (p : α → Prop) (v : α → Value) (A : α → List Atom), (∀ Fs, Step P n o E (Hp w0 O (As ++ (Base ++ Fs))) (Rx p v (fun y => Hp w0 O (A y ++ (Base ++ Fs))))) ∧ ∀ y, p y → Lin P n ops w0 O Base Q r ((d, v y) :: E) (A y) :=
  ⟨Nat, fun _ => True, fun _ => u, fun _ => As, fun Fs => step_w (yw_q (h Fs)), fun _ _ => hn⟩
/-- A link that makes memory. -/
theorem at_w {α : Type} {p : α → Prop} {v : α → Value} {A1 : α → Atom} {o : Oper} {d : Nat} {r : List Ln} {E : Env} {As : List Atom} {Q : Act → World → Prop} (h : ∀ Fs, Yw P n o E (Hp w0 O (As ++ (Base ++ Fs))) (Rx p v (fun x => Hp w0 O (A1 x :: (As ++ (Base ++ Fs))))))
    (hn : ∀ x, p x → Lin P n ops w0 O Base Q r ((d, v x) :: E) (A1 x :: As)) :
    ∃ (α : Type) (p : α → Prop) (v : α → Value) (A : α → List Atom), (∀ Fs, Step P n o E (Hp w0 O (As ++ (Base ++ Fs))) (Rx p v (fun y => Hp w0 O (A y ++ (Base ++ Fs))))) ∧ ∀ y, p y → Lin P n ops w0 O Base Q r ((d, v y) :: E) (A y) :=
  ⟨α, p, v, fun x => A1 x :: As, fun Fs => step_w (h Fs), hn⟩
/-- A link that calls: what it may read, what it owns, what is left aside, what is kept. -/
theorem at_c (Fs0 : List Atom) {dst : Option Tmp} {ty : TypeId} {pos : String} {after : Array Edge} {g : Option (Nat × Bool)} {f : FuncId} {fst cap vals : List Value} {args : List Operand} {ts : Array TypeId} {c : Operand} {α : Type} {Rs Bs As : List Atom} {p : α → Prop} {v : α → Value} {A : α → List Atom} {aa : Array Value} {d : Nat} {r : List Ln} {E : Env} {Q : Act → World → Prop}
    (A' : α → List Atom) (hf : FN P f)
    (hs : Ctr P f aa Rs Bs p v A) (hc : E.ev c = some (.func (.func f) fst.toArray cap.toArray)) (ha : E.evl args = some vals) (haa : aa = (fst ++ vals ++ cap).toArray)
    (hper : As.Perm (Bs ++ Fs0)) (hr : ∀ A ∈ Rs, Ro w0 O A ∨ ∃ F ∈ Fs0, ∀ h, F h → A h) {J : α → List Atom} (hA' : ∀ x, (A x ++ Fs0).Perm (A' x ++ J x))
    (hn : ∀ x, p x → Lin P n ops w0 O Base Q r ((d, v x) :: E) (A' x)) :
    ∃ (α : Type) (p : α → Prop) (v : α → Value) (A : α → List Atom), (∀ Fs, Step P n ⟨dst, .call { callee := .value c, args := args.toArray, argTypes := ts }, ty, pos, after, g⟩ E (Hp w0 O (As ++ (Base ++ Fs))) (Rx p v (fun y => Hp w0 O (A y ++ (Base ++ Fs))))) ∧ ∀ y, p y → Lin P n ops w0 O Base Q r ((d, v y) :: E) (A y) :=
  ⟨α, p, v, A', fun Fs => step_c fun a w hsat hw => by
    have hp2 : (As ++ (Base ++ Fs)).Perm (Bs ++ (Fs0 ++ (Base ++ Fs))) := by rw [← List.append_assoc Bs]; exact hper.append_right _
    obtain ⟨f', args', h1, h2⟩ := yc_spec (Fs := Fs0 ++ (Base ++ Fs)) (ts := ts) hf hs hc ha haa hp2 (fun A hA => (hr A hA).imp id fun ⟨F, h1, h2⟩ => ⟨F, List.mem_append_left _ h1, h2⟩) a w hsat hw
    refine ⟨f', args', h1, h2.mono fun e w' ⟨u, he, x, hp, hu, hw'⟩ => ⟨u, he, x, hp, hu, ?_⟩⟩
    have hw3 : Hp w0 O (A x ++ (Fs0 ++ (Base ++ Fs))) w' := hw'
    rw [← List.append_assoc (A x)] at hw3
    have hw1 := hw3.perm ((hA' x).append_right (Base ++ Fs))
    rw [List.append_assoc] at hw1
    have hw2 : Hp w0 O (J x ++ (A' x ++ (Base ++ Fs))) w' := hw1.perm (List.perm_append_comm_assoc ..)
    exact hw2.drops, hn⟩
theorem wc_net' {id : Nat} (frees : List Fr) (c : List (Nat × Nat × List Nat)) (hm : P.follows .mixedOrders = true) (hB : netB ops env frees (lnks frees c) = true)
    {As0 : List Atom} (hfr : ∀ f ∈ frees, FrOk P n ops w0 O Base env frees f) (h : Lin P n ops w0 O Base (Q' .normal) (lnks frees c) env As0) : WC P n Q' (.region id ops true) env (Hp w0 O (As0 ++ Base)) :=
  wc_net frees (lnks frees c) hm hB hfr (lnks_sub frees c) h
end

/-- A result that is a named variable, alone. -/
theorem wq_retC1 {P : Program} {n : Nat} {env : Env} {S : World → Prop} {fn : Func} {R : Ending → World → Prop} {p : Tmp} {rt size : Nat} {pa : Addr} {l : List Value} (ht : AG P rt size) (hr : fn.results = #[.cell p rt]) (hp : env.find p = some (.pointer (some pa))) (hl : l.length = size)
    (hc : ∀ w, S w → ∀ j c, l[j]? = some c → w.cell? (pa.add j) = some c) (h : ∀ w, S w → R (.returned (.agg l.toArray)) w) : WQ n (bodyPost P fn R) .ret env S := fun a w ha hw =>
  ⟨ha.defers, .agg l.toArray, by simp [results, hr, Array.getD_eq_getD_getElem?, ha.get p _ hp, asAddr, run_loadVar_agg ht hl (hc w hw), Result.andThen], h w hw⟩
end Go.Eng
