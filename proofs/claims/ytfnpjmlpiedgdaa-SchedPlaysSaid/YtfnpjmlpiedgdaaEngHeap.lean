/-
  What is known of the world: the blocks that a function owns, told by a list of atoms; all else is as it was when it began.
-/
import Derived.Test.YtfnpjmlpiedgdaaEngCore
import Derived.Below
namespace Go.Eng
open Go.RowKit (Below)

abbrev HL := List (Nat × Obj)
/-- What a piece of memory holds. -/
abbrev Atom := HL → Prop

def Own : List Atom → HL → Prop
  | [], h => h = []
  | A :: As, h => ∃ h1 h2, A h1 ∧ Own As h2 ∧ h = h1 ++ h2

structure Fits (w0 : World) (O : Nat → Prop) (h : HL) (w : World) : Prop where
  nodup : (h.map (·.1)).Nodup
  here : ∀ p ∈ h, w.heap[p.1]? = some p.2
  own : ∀ p ∈ h, O p.1 ∨ w0.heap.size ≤ p.1
  grow : w0.heap.size ≤ w.heap.size
  keep : ∀ b, b < w0.heap.size → ¬ O b → w.heap[b]? = w0.heap[b]?
  os : w.os = w0.os
  tape : w.tape = w0.tape
  output : w.output = w0.output

/-- Since the world w0 nothing has turned but in the blocks that O names, and in new ones; what is owned now is As. -/
def Hp (w0 : World) (O : Nat → Prop) (As : List Atom) (w : World) : Prop := ∃ h, Own As h ∧ Fits w0 O h w

/-- One block. -/
def blk (b : Nat) (o : Obj) : Atom := fun h => h = [(b, o)]

theorem own_append {As Bs : List Atom} {h : HL} : Own (As ++ Bs) h ↔ ∃ h1 h2, Own As h1 ∧ Own Bs h2 ∧ h = h1 ++ h2 := by
  induction As generalizing h with
  | nil => constructor
           · intro hh; exact ⟨[], h, rfl, hh, rfl⟩
           · rintro ⟨h1, h2, rfl, hb, rfl⟩; exact hb
  | cons A As ih =>
    constructor
    · rintro ⟨h1, h2, ha, hr, rfl⟩
      obtain ⟨g1, g2, hg1, hg2, rfl⟩ := ih.1 hr
      exact ⟨h1 ++ g1, g2, ⟨h1, g1, ha, hg1, rfl⟩, hg2, by simp⟩
    · rintro ⟨h1, h2, ⟨g1, g2, ha, hg2, rfl⟩, hb, rfl⟩
      exact ⟨g1, g2 ++ h2, ha, ih.2 ⟨g2, h2, hg2, hb, rfl⟩, by simp⟩

theorem Fits.perm {w0 : World} {O : Nat → Prop} {h h' : HL} {w : World} (hf : Fits w0 O h w) (hp : h.Perm h') : Fits w0 O h' w :=
  ⟨(hp.map _).nodup_iff.1 hf.nodup, fun p hm => hf.here p (hp.mem_iff.2 hm), fun p hm => hf.own p (hp.mem_iff.2 hm), hf.grow, hf.keep, hf.os, hf.tape, hf.output⟩

theorem own_perm {As Bs : List Atom} (hp : As.Perm Bs) : ∀ {h : HL}, Own As h → ∃ h', Own Bs h' ∧ h.Perm h' := by
  induction hp with
  | nil => intro h hh; exact ⟨h, hh, .refl _⟩
  | cons A _ ih =>
    rintro h ⟨h1, h2, ha, hr, rfl⟩
    obtain ⟨h', ho, hp'⟩ := ih hr
    exact ⟨h1 ++ h', ⟨h1, h', ha, ho, rfl⟩, hp'.append_left h1⟩
  | swap A B l =>
    rintro h ⟨h1, h2, ha, ⟨g1, g2, hb, hr, rfl⟩, rfl⟩
    refine ⟨g1 ++ (h1 ++ g2), ⟨g1, h1 ++ g2, hb, ⟨h1, g2, ha, hr, rfl⟩, rfl⟩, ?_⟩
    rw [← List.append_assoc, ← List.append_assoc]
    exact List.perm_append_comm.append_right g2
  | trans _ _ ih1 ih2 =>
    intro h hh
    obtain ⟨h', ho, hp1⟩ := ih1 hh
    obtain ⟨h'', ho', hp2⟩ := ih2 ho
    exact ⟨h'', ho', hp1.trans hp2⟩

theorem Hp.perm {w0 : World} {O : Nat → Prop} {As Bs : List Atom} {w : World} (h : Hp w0 O As w) (hp : As.Perm Bs) : Hp w0 O Bs w := by
  obtain ⟨h, ho, hf⟩ := h
  obtain ⟨h', ho', hp'⟩ := own_perm hp ho
  exact ⟨h', ho', hf.perm hp'⟩

/-- An atom comes to the front. -/
theorem Hp.pick (pre : List Atom) {w0 : World} {O : Nat → Prop} {A : Atom} {post : List Atom} {w : World} (h : Hp w0 O (pre ++ A :: post) w) : Hp w0 O (A :: (pre ++ post)) w :=
  h.perm List.perm_middle

theorem Hp.drop {w0 : World} {O : Nat → Prop} {A : Atom} {As : List Atom} {w : World} (h : Hp w0 O (A :: As) w) : Hp w0 O As w := by
  obtain ⟨h, ⟨h1, h2, _, ho, rfl⟩, hf⟩ := h
  refine ⟨h2, ho, ⟨?_, fun p hm => hf.here p (List.mem_append_right _ hm), fun p hm => hf.own p (List.mem_append_right _ hm), hf.grow, hf.keep, hf.os, hf.tape, hf.output⟩⟩
  have := hf.nodup
  rw [List.map_append] at this
  exact (List.nodup_append.1 this).2.1

theorem Hp.drops {w0 : World} {O : Nat → Prop} {Bs As : List Atom} {w : World} (h : Hp w0 O (Bs ++ As) w) : Hp w0 O As w := by
  induction Bs with
  | nil => exact h
  | cons B Bs ih => exact ih h.drop

/-- Other words for the first atom. -/
theorem Hp.conv {w0 : World} {O : Nat → Prop} {A : Atom} {Bs As : List Atom} {w : World} (h : Hp w0 O (A :: As) w) (hc : ∀ h, A h → Own Bs h) : Hp w0 O (Bs ++ As) w := by
  obtain ⟨h, ⟨h1, h2, ha, ho, rfl⟩, hf⟩ := h
  exact ⟨h1 ++ h2, own_append.2 ⟨h1, h2, hc h1 ha, ho, rfl⟩, hf⟩

theorem Hp.convs {w0 : World} {O : Nat → Prop} {Cs Bs As : List Atom} {w : World} (h : Hp w0 O (Cs ++ As) w) (hc : ∀ h, Own Cs h → Own Bs h) : Hp w0 O (Bs ++ As) w := by
  obtain ⟨h, ho, hf⟩ := h
  obtain ⟨h1, h2, h1o, h2o, rfl⟩ := own_append.1 ho
  exact ⟨h1 ++ h2, own_append.2 ⟨h1, h2, hc h1 h1o, h2o, rfl⟩, hf⟩

theorem Hp.bare {w0 : World} {O : Nat → Prop} {As : List Atom} {w : World} (h : Hp w0 O As w) : Hp w0 O [] w := by
  have h' : Hp w0 O (As ++ []) w := by rw [List.append_nil]; exact h
  exact h'.drops
theorem Hp.left {w0 : World} {O : Nat → Prop} {As Bs : List Atom} {w : World} (h : Hp w0 O (As ++ Bs) w) : Hp w0 O As w := by
  have := (h.perm List.perm_append_comm).drops
  exact this

/-- Other words for an atom. -/
theorem Hp.mono_at (pre : List Atom) {w0 : World} {O : Nat → Prop} {A B : Atom} {post : List Atom} {w : World} (h : Hp w0 O (pre ++ A :: post) w) (hc : ∀ h, A h → B h) : Hp w0 O (pre ++ B :: post) w :=
  Hp.perm (As := B :: (pre ++ post)) ((h.pick pre).conv (Bs := [B]) fun g hg => ⟨g, [], hc g hg, rfl, by simp⟩) List.perm_middle.symm

theorem perm_two (p q : List Atom) {a b : Atom} {r : List Atom} : (p ++ a :: (q ++ b :: r)).Perm (a :: b :: (p ++ (q ++ r))) := by
  refine List.perm_middle.trans (List.Perm.cons _ ?_)
  rw [← List.append_assoc, ← List.append_assoc]
  exact List.perm_middle

theorem perm_three (p q s : List Atom) {a b c : Atom} {r : List Atom} : (p ++ a :: (q ++ b :: (s ++ c :: r))).Perm (a :: b :: c :: (p ++ (q ++ (s ++ r)))) := by
  refine (perm_two p q).trans (List.Perm.cons _ (List.Perm.cons _ ?_))
  rw [← List.append_assoc, ← List.append_assoc, ← List.append_assoc, ← List.append_assoc]
  exact List.perm_middle

/-- What the first atom's words say beside memory. -/
theorem Hp.first {w0 : World} {O : Nat → Prop} {A : Atom} {As : List Atom} {w : World} (h : Hp w0 O (A :: As) w) : ∃ h, A h := by
  obtain ⟨_, ⟨h1, _, ha, _, _⟩, _⟩ := h
  exact ⟨h1, ha⟩

theorem Hp.drawless (w0 : World) (O : Nat → Prop) (As : List Atom) : Drawless (Hp w0 O As) := fun _ ⟨h, ho, hf⟩ =>
  ⟨h, ho, ⟨hf.nodup, hf.here, hf.own, hf.grow, hf.keep, hf.os, hf.tape, hf.output⟩⟩

theorem Hp.start {w : World} {O : Nat → Prop} : Hp w O [] w := ⟨[], rfl, ⟨by simp, by simp, by simp, Nat.le_refl _, fun _ _ _ => rfl, rfl, rfl, rfl⟩⟩

theorem Hp.below {w0 w : World} {O : Nat → Prop} {As : List Atom} (h : Hp w0 O As w) (hO : ∀ b, ¬ O b) : Below w0.heap.size w0 w := by
  obtain ⟨h, _, hf⟩ := h
  exact ⟨hf.os, hf.tape, hf.output, hf.grow, fun k hk => hf.keep k hk (hO k)⟩

/-! ### Memory that is read and never written -/

/-- Since w0 the memory that A tells is as it was: nothing that O names, nothing new. -/
def Ro (w0 : World) (O : Nat → Prop) (A : Atom) : Prop := ∃ h, A h ∧ ∀ p ∈ h, w0.heap[p.1]? = some p.2 ∧ ¬ O p.1

/-- What A tells can be read in w. -/
def Seen (A : Atom) (w : World) : Prop := ∃ h, A h ∧ ∀ p ∈ h, w.heap[p.1]? = some p.2

theorem lt_of_heap {w : World} {b : Nat} {o : Obj} (h : w.heap[b]? = some o) : b < w.heap.size := (Array.getElem?_eq_some_iff.1 h).1

theorem Ro.seen {w0 w : World} {O : Nat → Prop} {A : Atom} {As : List Atom} (hr : Ro w0 O A) (h : Hp w0 O As w) : Seen A w := by
  obtain ⟨g, ha, hg⟩ := hr
  obtain ⟨_, _, hf⟩ := h
  exact ⟨g, ha, fun p hp => by rw [hf.keep p.1 (lt_of_heap (hg p hp).1) (hg p hp).2]; exact (hg p hp).1⟩

theorem Hp.seen (pre : List Atom) {w0 : World} {O : Nat → Prop} {A : Atom} {post : List Atom} {w : World} (h : Hp w0 O (pre ++ A :: post) w) : Seen A w := by
  obtain ⟨_, ⟨h1, h2, ha, _, rfl⟩, hf⟩ := h.pick pre
  exact ⟨h1, ha, fun p hp => hf.here p (List.mem_append_left _ hp)⟩

/-- **The frame.** A piece of what is owned is handed to whoever works on it alone. -/
theorem Hp.frame {w0 : World} {O : Nat → Prop} {As Fs : List Atom} {w : World} (h : Hp w0 O (As ++ Fs) w) :
    ∃ K : Nat → Prop, Hp w K As w ∧ (∀ As' w', Hp w K As' w' → Hp w0 O (As' ++ Fs) w') ∧ (∀ A, Ro w0 O A → Ro w K A) ∧ (∀ F ∈ Fs, Ro w K F) := by
  obtain ⟨h, ho, hf⟩ := h
  obtain ⟨h1, h2, h1o, h2o, rfl⟩ := own_append.1 ho
  have hnd := hf.nodup
  rw [List.map_append] at hnd
  obtain ⟨nd1, nd2, hdis⟩ := List.nodup_append.1 hnd
  have lt : ∀ p ∈ h1 ++ h2, p.1 < w.heap.size := fun p hp => lt_of_heap (hf.here p hp)
  have apart : ∀ p ∈ h2, ¬ p.1 ∈ h1.map (·.1) := fun p hp hm => hdis p.1 hm p.1 (List.mem_map_of_mem hp) rfl
  refine ⟨fun b => b ∈ h1.map (·.1), ⟨h1, h1o, ⟨nd1, fun p hp => hf.here p (List.mem_append_left _ hp), fun p hp => .inl (List.mem_map_of_mem hp), Nat.le_refl _, fun _ _ _ => rfl, rfl, rfl, rfl⟩⟩, ?_, ?_, ?_⟩
  · rintro As' w' ⟨h', ho', hf'⟩
    refine ⟨h' ++ h2, own_append.2 ⟨h', h2, ho', h2o, rfl⟩, ⟨?_, ?_, ?_, Nat.le_trans hf.grow hf'.grow, ?_, hf'.os.trans hf.os, hf'.tape.trans hf.tape, hf'.output.trans hf.output⟩⟩
    · rw [List.map_append]
      refine List.nodup_append.2 ⟨hf'.nodup, nd2, fun x hx y hy hxy => ?_⟩
      obtain ⟨p, hp, rfl⟩ := List.mem_map.1 hx
      obtain ⟨q, hq, rfl⟩ := List.mem_map.1 hy
      rcases hf'.own p hp with h1' | h1'
      · exact apart q hq (hxy ▸ h1')
      · have := lt q (List.mem_append_right _ hq)
        omega
    · intro p hp
      rcases List.mem_append.1 hp with hp | hp
      · exact hf'.here p hp
      · rw [hf'.keep p.1 (lt p (List.mem_append_right _ hp)) (apart p hp)]
        exact hf.here p (List.mem_append_right _ hp)
    · intro p hp
      rcases List.mem_append.1 hp with hp | hp
      · rcases hf'.own p hp with h1' | h1'
        · obtain ⟨q, hq, hqe⟩ := List.mem_map.1 h1'
          rw [← hqe]
          exact hf.own q (List.mem_append_left _ hq)
        · exact .inr (Nat.le_trans hf.grow h1')
      · exact hf.own p (List.mem_append_right _ hp)
    · intro b hb hO
      have hb1 : ¬ b ∈ h1.map (·.1) := fun hm => by
        obtain ⟨q, hq, hqe⟩ := List.mem_map.1 hm
        rcases hf.own q (List.mem_append_left _ hq) with h1' | h1'
        · exact hO (hqe ▸ h1')
        · omega
      rw [hf'.keep b (Nat.lt_of_lt_of_le hb hf.grow) hb1]
      exact hf.keep b hb hO
  · rintro A ⟨g, ha, hg⟩
    refine ⟨g, ha, fun p hp => ?_⟩
    have hlt := lt_of_heap (hg p hp).1
    refine ⟨by rw [hf.keep p.1 hlt (hg p hp).2]; exact (hg p hp).1, fun hm => ?_⟩
    obtain ⟨q, hq, hqe⟩ := List.mem_map.1 hm
    rcases hf.own q (List.mem_append_left _ hq) with h1' | h1'
    · exact (hg p hp).2 (hqe ▸ h1')
    · omega
  · intro F hF
    obtain ⟨s, t, rfl⟩ := List.append_of_mem hF
    obtain ⟨g1, g2, _, ⟨g3, g4, hA, _, rfl⟩, rfl⟩ := own_append.1 h2o
    exact ⟨g3, hA, fun p hp => ⟨hf.here p (by simp [hp]), apart p (by simp [hp])⟩⟩

/-! ### Small footprints -/

theorem heap_alloc_lt (w : World) (o : Obj) {k : Nat} (h : k < w.heap.size) : (w.alloc o).heap[k]? = w.heap[k]? := by
  show (w.heap.push o)[k]? = _
  rw [Array.getElem?_push, if_neg (by omega)]

theorem heap_alloc_new (w : World) (o : Obj) : (w.alloc o).heap[w.heap.size]? = some o := by
  show (w.heap.push o)[w.heap.size]? = _
  rw [Array.getElem?_push, if_pos rfl]

/-- A new block. -/
theorem Hp.alloc {w0 : World} {O : Nat → Prop} {As : List Atom} {w : World} (h : Hp w0 O As w) (o : Obj) : Hp w0 O (blk w.heap.size o :: As) (w.alloc o) := by
  obtain ⟨h, ho, hf⟩ := h
  have lt : ∀ p ∈ h, p.1 < w.heap.size := fun p hp => lt_of_heap (hf.here p hp)
  refine ⟨(w.heap.size, o) :: h, ⟨[(w.heap.size, o)], h, rfl, ho, rfl⟩, ⟨?_, ?_, ?_, ?_, ?_, hf.os, hf.tape, hf.output⟩⟩
  · rw [List.map_cons]
    refine List.nodup_cons.2 ⟨fun hm => ?_, hf.nodup⟩
    obtain ⟨p, hp, hpe⟩ := List.mem_map.1 hm
    have := lt p hp
    simp only at hpe
    omega
  · intro p hp
    rcases List.mem_cons.1 hp with rfl | hp
    · exact heap_alloc_new w o
    · rw [heap_alloc_lt w o (lt p hp)]; exact hf.here p hp
  · intro p hp
    rcases List.mem_cons.1 hp with rfl | hp
    · exact .inr hf.grow
    · exact hf.own p hp
  · have := hf.grow; simp; omega
  · intro b hb hO
    rw [heap_alloc_lt w o (Nat.lt_of_lt_of_le hb hf.grow)]
    exact hf.keep b hb hO

/-- One block is turned. -/
theorem Hp.turn {w0 : World} {O : Nat → Prop} {As : List Atom} {b : Nat} {o o' : Obj} {w w' : World} (h : Hp w0 O (blk b o :: As) w)
    (hb : w'.heap[b]? = some o') (hs : w'.heap.size = w.heap.size) (hk : ∀ k, k ≠ b → w'.heap[k]? = w.heap[k]?) (hos : w'.os = w.os) (ht : w'.tape = w.tape) (hout : w'.output = w.output) :
    Hp w0 O (blk b o' :: As) w' := by
  obtain ⟨h, ⟨h1, h2, rfl, ho, rfl⟩, hf⟩ := h
  have hnd := hf.nodup
  have hne : ∀ p ∈ h2, p.1 ≠ b := fun p hp e => by
    simp only [List.cons_append, List.nil_append, List.map_cons] at hnd
    exact (List.nodup_cons.1 hnd).1 (e ▸ List.mem_map_of_mem hp)
  refine ⟨(b, o') :: h2, ⟨[(b, o')], h2, rfl, ho, rfl⟩, ⟨by simpa using hnd, ?_, ?_, by rw [hs]; exact hf.grow, ?_, hos.trans hf.os, ht.trans hf.tape, hout.trans hf.output⟩⟩
  · intro p hp
    rcases List.mem_cons.1 hp with rfl | hp
    · exact hb
    · rw [hk p.1 (hne p hp)]; exact hf.here p (by simp [hp])
  · intro p hp
    rcases List.mem_cons.1 hp with rfl | hp
    · exact hf.own (b, o) (by simp)
    · exact hf.own p (by simp [hp])
  · intro k hk' hO
    have : k ≠ b := fun e => by
      rcases hf.own (b, o) (by simp) with h1 | h1
      · exact hO (e ▸ h1)
      · simp only at h1; omega
    rw [hk k this]; exact hf.keep k hk' hO

theorem Hp.blk_heap {w0 : World} {O : Nat → Prop} {As : List Atom} {b : Nat} {o : Obj} {w : World} (h : Hp w0 O (blk b o :: As) w) : w.heap[b]? = some o := by
  obtain ⟨g, hg, hs⟩ := h.seen []
  obtain rfl := hg
  exact hs (b, o) (by simp)

theorem Seen.blk {b : Nat} {o : Obj} {w : World} (h : Seen (blk b o) w) : w.heap[b]? = some o := by
  obtain ⟨g, rfl, hs⟩ := h
  exact hs (b, o) (by simp)

theorem cell_of_heap {w : World} {b i : Nat} {l : List Value} {e : TypeId} {fr : Nat × Nat} {v : Value} (h : w.heap[b]? = some (.cells l.toArray e fr)) (hi : l[i]? = some v) :
    w.cell? ⟨b, i, none⟩ = some v := by
  simp [World.cell?, h, hi]

/-- A cell of an owned block is stored into. -/
theorem Hp.setCell {w0 : World} {O : Nat → Prop} {As : List Atom} {b i : Nat} {l : List Value} {e : TypeId} {fr : Nat × Nat} {w : World} (v : Value)
    (h : Hp w0 O (Eng.blk b (.cells l.toArray e fr) :: As) w) : Hp w0 O (Eng.blk b (.cells (l.set i v).toArray e fr) :: As) (w.setCell ⟨b, i, none⟩ v) := by
  have hb := h.blk_heap
  refine h.turn ?_ (by simp) (fun k hk => ?_) rfl rfl rfl
  · simp only [World.setCell, Array.getElem?_modify, if_true, hb, Option.map_some]
    simp
  · simp only [World.setCell, Array.getElem?_modify]
    rw [if_neg (fun e => hk e.symm)]

/-! ### Contracts -/

/-- What a function does: it may read Rs, it owns As; for some x that fits it hands back v x and owns A x then. -/
def Ctr (P : Program) (f : FuncId) (args : Array Value) (Rs As : List Atom) {α : Type} (p : α → Prop) (v : α → Value) (A : α → List Atom) : Prop :=
  ∀ w K, (∀ A ∈ Rs, Ro w K A) → Hp w K As w → Calls P f args w fun e w' => ∃ x, p x ∧ e = .returned (v x) ∧ Hp w K (A x) w'

/-- The form of what is known behind an operation: for some x that fits, the value is f x and the world S x. -/
def Rx {α : Type} (p : α → Prop) (f : α → Value) (S : α → World → Prop) : Value → World → Prop := fun v w => ∃ x, p x ∧ v = f x ∧ S x w

section
variable {P : Program} {n : Nat} {env : Env} {S : World → Prop} {ops : Array Oper} {Q : Exit → Act → World → Prop} {α : Type}

/-- A call by its contract. -/
theorem spec_calls {f : FuncId} {args : Array Value} {Rs As Fs : List Atom} {p : α → Prop} {v : α → Value} {A : α → List Atom} {w0 : World} {O : Nat → Prop} {w : World}
    (hs : Ctr P f args Rs As p v A) (hr : ∀ A ∈ Rs, Ro w0 O A ∨ ∃ F ∈ Fs, ∀ h, F h → A h) (h : Hp w0 O (As ++ Fs) w) :
    Calls P f args w fun e w' => ∃ x, p x ∧ e = .returned (v x) ∧ Hp w0 O (A x ++ Fs) w' := by
  obtain ⟨K, hK, hback, hro, hF⟩ := h.frame
  refine (hs w K (fun A hA => (hr A hA).elim (hro A) (fun ⟨F, h1, h2⟩ => let ⟨g, hg, hk⟩ := hF F h1; ⟨g, h2 g hg, hk⟩)) hK).mono ?_
  rintro e w' ⟨x, hp, he, hw'⟩
  exact ⟨x, hp, he, hback _ w' hw'⟩

theorem wl_ex {rest : List Oper} {d : Nat} {p : α → Prop} {f : α → Value} {S : α → World → Prop} (h : ∀ x, p x → WL P n ops Q rest ((d, f x) :: env) (S x)) :
    ∀ v, WL P n ops Q rest ((d, v) :: env) (Rx p f S v) := fun _ a w ha ⟨x, hp, hv, hS⟩ => by subst hv; exact h x hp a w ha hS
theorem wl_ex0 {rest : List Oper} {p : α → Prop} {f : α → Value} {S : α → World → Prop} (h : ∀ x, p x → WL P n ops Q rest env (S x)) :
    ∀ v, WL P n ops Q rest env (Rx p f S v) := fun _ a w ha ⟨x, hp, _, hS⟩ => h x hp a w ha hS
theorem wm_ex {C : World → Prop} {Q : Act → World → Prop} {r : MT} {d : Nat} {p : α → Prop} {f : α → Value} {S : α → World → Prop} (h : ∀ x, p x → WM P n ops C Q r ((d, f x) :: env) (S x)) :
    ∀ v, WM P n ops C Q r ((d, v) :: env) (Rx p f S v) := fun _ a w ha ⟨x, hp, hv, hS⟩ => by subst hv; exact h x hp a w ha hS

/-- Something that follows from what is known of the world. -/
theorem wl_have {rest : List Oper} {p : Prop} (hp : ∀ w, S w → p) (h : p → WL P n ops Q rest env S) : WL P n ops Q rest env S := fun a w ha hw => h (hp w hw) a w ha hw
theorem wc_have {c : Code} {p : Prop} (hp : ∀ w, S w → p) (h : p → WC P n Q c env S) : WC P n Q c env S := fun a w ha hw => h (hp w hw) a w ha hw
theorem wq_have {e : Exit} {p : Prop} (hp : ∀ w, S w → p) (h : p → WQ n Q e env S) : WQ n Q e env S := fun a w ha hw => h (hp w hw) a w ha hw
theorem wm_have {C : World → Prop} {Q : Act → World → Prop} {r : MT} {p : Prop} (hp : ∀ w, S w → p) (h : p → WM P n ops C Q r env S) : WM P n ops C Q r env S := fun a w ha hw => h (hp w hw) a w ha hw
end

/-- A contract is proved by a walk. -/
theorem spec_start {P : Program} {n : Nat} {f : FuncId} {fn : Func} {c : Code} {args : Array Value} {Rs As : List Atom} {α : Type} {p : α → Prop} {v : α → Value} {A : α → List Atom} (env : Env)
    (hf : P.funcs[f]? = some fn) (hb : fn.body = some c) (hn : fn.ntmps = n) (henv : Env.Args env args) (hsz : Nat.ble args.size n = true)
    (h : ∀ w0 K, (∀ A ∈ Rs, Ro w0 K A) → WC P n (bodyPost P fn fun e w' => ∃ x, p x ∧ e = .returned (v x) ∧ Hp w0 K (A x) w') c env (Hp w0 K As)) : Ctr P f args Rs As p v A :=
  fun w K hR hw => calls_start env (Hp w K As) hf hb hn henv hsz hw (h w K hR)

/-! ### Rows of cells -/

/-- The address j cells behind where a slice begins. -/
def adr (a : Option Addr) (j : Nat) : Addr := (a.getD ⟨0, 0, none⟩).add j

theorem adr_add (a : Option Addr) (j k : Nat) : (adr a j).add k = adr a (j + k) := by
  unfold adr Addr.add
  by_cases hk : k = 0
  · subst hk; simp
  · by_cases hj : j = 0
    · subst hj; simp [hk]
    · simp [hk, hj, Nat.add_assoc]

theorem adr_some (b off j : Nat) : adr (some ⟨b, off, none⟩) j = ⟨b, off + j, none⟩ := by
  unfold adr Addr.add
  by_cases hj : j = 0
  · subst hj; simp
  · simp [hj]

/-- A slice that owns the block that it leads into: k elements of sz cells each, cs; or nil. -/
def slc (e sz : Nat) (a : Option Addr) (k cap : Nat) (cs : List Value) : Atom := fun h =>
  cs.length = k * sz ∧ ((a = none ∧ k = 0 ∧ cap = 0 ∧ h = []) ∨
    ∃ (b off : Nat) (l : List Value), a = some ⟨b, off, none⟩ ∧ h = [(b, .cells l.toArray e (0, 0))] ∧ k ≤ cap ∧ off + cap * sz ≤ l.length ∧ (l.drop off).take (k * sz) = cs)

/-- A slice that is read: k elements, the cells cs. -/
def rsl (a : Option Addr) (k sz : Nat) (cs : List Value) : Atom := fun h =>
  cs.length = k * sz ∧ ((k = 0 ∧ h = []) ∨
    ∃ b off c e fr, a = some ⟨b, off, none⟩ ∧ h = [(b, .cells c e fr)] ∧ ∀ j u, cs[j]? = some u → c[off + j]? = some u)

theorem slc_rsl {e sz : Nat} {a : Option Addr} {k cap : Nat} {cs : List Value} {h : HL} (hs : slc e sz a k cap cs h) : rsl a k sz cs h := by
  obtain ⟨hl, hs⟩ := hs
  refine ⟨hl, ?_⟩
  rcases hs with ⟨_, hk, _, hh⟩ | ⟨b, off, l, ha, hh, hk, hcap, ht⟩
  · exact .inl ⟨hk, hh⟩
  · refine .inr ⟨b, off, l.toArray, e, (0, 0), ha, hh, fun j u hu => ?_⟩
    rw [← ht, List.getElem?_take] at hu
    split at hu
    · simpa [List.getElem?_drop] using hu
    · cases hu

theorem Seen.mono {A B : Atom} {w : World} (h : Seen A w) (hc : ∀ h, A h → B h) : Seen B w := let ⟨g, ha, hg⟩ := h; ⟨g, hc g ha, hg⟩
theorem Ro.mono {A B : Atom} {w : World} {O : Nat → Prop} (h : Ro w O A) (hc : ∀ h, A h → B h) : Ro w O B := let ⟨g, ha, hg⟩ := h; ⟨g, hc g ha, hg⟩

theorem Seen.cell {a : Option Addr} {k sz : Nat} {cs : List Value} {w : World} (h : Seen (rsl a k sz cs) w) {j : Nat} {u : Value} (hj : cs[j]? = some u) : w.cell? (adr a j) = some u := by
  obtain ⟨g, ⟨hl, hs⟩, hg⟩ := h
  rcases hs with ⟨rfl, _⟩ | ⟨b, off, c, e, fr, rfl, rfl, hc⟩
  · rw [Nat.zero_mul] at hl
    rw [List.eq_nil_of_length_eq_zero hl] at hj; cases hj
  · rw [adr_some]
    have := hg (b, .cells c e fr) (by simp)
    simp only at this
    simp [World.cell?, this, hc j u hj]

theorem slc_some {e sz : Nat} {a : Option Addr} {k cap : Nat} {cs : List Value} {h : HL} (hs : slc e sz a k cap cs h) (hk : 0 < k) : ∃ b off, a = some ⟨b, off, none⟩ := by
  rcases hs.2 with ⟨_, h0, _⟩ | ⟨b, off, _, ha, _⟩
  · omega
  · exact ⟨b, off, ha⟩

theorem cell_own (pre : List Atom) {w0 : World} {O : Nat → Prop} {e sz : Nat} {a : Option Addr} {k cap : Nat} {cs : List Value} {post : List Atom} {j : Nat} {u : Value} (hj : cs[j]? = some u) :
    ∀ w, Hp w0 O (pre ++ slc e sz a k cap cs :: post) w → w.cell? (adr a j) = some u := fun _ h => ((h.seen pre).mono fun _ => slc_rsl).cell hj

theorem cell_ro {w0 : World} {O : Nat → Prop} {a : Option Addr} {k sz : Nat} {cs : List Value} {As : List Atom} {j : Nat} {u : Value} (hr : Ro w0 O (rsl a k sz cs)) (hj : cs[j]? = some u) :
    ∀ w, Hp w0 O As w → w.cell? (adr a j) = some u := fun _ h => (hr.seen h).cell hj

theorem cell_blk (pre : List Atom) {w0 : World} {O : Nat → Prop} {b i : Nat} {l : List Value} {e : TypeId} {fr : Nat × Nat} {post : List Atom} {u : Value} (hi : l[i]? = some u) :
    ∀ w, Hp w0 O (pre ++ blk b (.cells l.toArray e fr) :: post) w → w.cell? ⟨b, i, none⟩ = some u := fun _ h => cell_of_heap (h.seen pre).blk hi

theorem Hp.slc_le (pre : List Atom) {w0 : World} {O : Nat → Prop} {e sz : Nat} {a : Option Addr} {k cap : Nat} {cs : List Value} {post : List Atom} {w : World} (h : Hp w0 O (pre ++ slc e sz a k cap cs :: post) w) : k ≤ cap := by
  obtain ⟨_, hs, _⟩ := h.seen pre
  rcases hs.2 with ⟨_, h1, _, _⟩ | ⟨_, _, _, _, _, h1, _, _⟩
  · omega
  · exact h1
theorem Hp.slc_isSome (pre : List Atom) {w0 : World} {O : Nat → Prop} {e sz : Nat} {a : Option Addr} {k cap : Nat} {cs : List Value} {post : List Atom} {w : World} (hk : 0 < k) (h : Hp w0 O (pre ++ slc e sz a k cap cs :: post) w) : a.isSome = true := by
  obtain ⟨_, hs, _⟩ := h.seen pre
  obtain ⟨b, off, rfl⟩ := slc_some hs hk
  rfl
theorem Ro.isSome {w0 : World} {O : Nat → Prop} {a : Option Addr} {k sz : Nat} {cs : List Value} (h : Ro w0 O (rsl a k sz cs)) (hk : 0 < k) : a.isSome = true := by
  obtain ⟨_, hs, _⟩ := h
  rcases hs.2 with ⟨h1, _⟩ | ⟨_, _, _, _, _, rfl, _⟩
  · omega
  · rfl

theorem Hp.addNil (pre post : List Atom) {w0 : World} {O : Nat → Prop} {e sz : Nat} {w : World} (h : Hp w0 O (pre ++ post) w) : Hp w0 O (pre ++ slc e sz none 0 0 [] :: post) w := by
  obtain ⟨g, ho, hf⟩ := h
  obtain ⟨h1, h2, h1o, h2o, rfl⟩ := own_append.1 ho
  exact ⟨h1 ++ h2, own_append.2 ⟨h1, h2, h1o, ⟨[], h2, ⟨by simp, .inl ⟨rfl, rfl, rfl, rfl⟩⟩, h2o, rfl⟩, rfl⟩, hf⟩

/-- All of these can be read. -/
def Sees : List Atom → World → Prop
  | [], _ => True
  | A :: As, w => Seen A w ∧ Sees As w
theorem Seen.slcCell {e sz : Nat} {a : Option Addr} {k cap : Nat} {cs : List Value} {w : World} (h : Seen (slc e sz a k cap cs) w) {j : Nat} {u : Value} (hj : cs[j]? = some u) : w.cell? (adr a j) = some u := (h.mono fun _ => slc_rsl).cell hj
theorem Seen.agg {a : Option Addr} {k sz : Nat} {cs : List Value} {w : World} (h : Seen (rsl a k sz cs) w) {j : Nat} {l : List Value} (hl : ∀ i u, l[i]? = some u → cs[j + i]? = some u) : ∀ i u, l[i]? = some u → w.cell? ((adr a j).add i) = some u := fun i u hu => by
  rw [adr_add]; exact h.cell (hl i u hu)
theorem Seen.slcAgg {e sz : Nat} {a : Option Addr} {k cap : Nat} {cs : List Value} {w : World} (h : Seen (slc e sz a k cap cs) w) {j : Nat} {l : List Value} (hl : ∀ i u, l[i]? = some u → cs[j + i]? = some u) : ∀ i u, l[i]? = some u → w.cell? ((adr a j).add i) = some u := (h.mono fun _ => slc_rsl).agg hl

/-! ### Finding what is wanted among what is owned -/
theorem pt_nil {Bs : List Atom} : Bs.Perm ([] ++ Bs) := List.Perm.refl _
theorem pt0 {A : Atom} {r As Fs : List Atom} (h : (r).Perm (As ++ Fs)) : (A :: r).Perm ((A :: As) ++ Fs) := h.cons _
theorem pt1 {A a1 : Atom} {r As Fs : List Atom} (h : (a1 :: r).Perm (As ++ Fs)) : (a1 :: A :: r).Perm ((A :: As) ++ Fs) := (List.perm_middle (l₁ := [a1])).trans (h.cons _)
theorem pt2 {A a1 a2 : Atom} {r As Fs : List Atom} (h : (a1 :: a2 :: r).Perm (As ++ Fs)) : (a1 :: a2 :: A :: r).Perm ((A :: As) ++ Fs) := (List.perm_middle (l₁ := [a1, a2])).trans (h.cons _)
theorem pt3 {A a1 a2 a3 : Atom} {r As Fs : List Atom} (h : (a1 :: a2 :: a3 :: r).Perm (As ++ Fs)) : (a1 :: a2 :: a3 :: A :: r).Perm ((A :: As) ++ Fs) := (List.perm_middle (l₁ := [a1, a2, a3])).trans (h.cons _)
theorem pt4 {A a1 a2 a3 a4 : Atom} {r As Fs : List Atom} (h : (a1 :: a2 :: a3 :: a4 :: r).Perm (As ++ Fs)) : (a1 :: a2 :: a3 :: a4 :: A :: r).Perm ((A :: As) ++ Fs) := (List.perm_middle (l₁ := [a1, a2, a3, a4])).trans (h.cons _)
theorem pt5 {A a1 a2 a3 a4 a5 : Atom} {r As Fs : List Atom} (h : (a1 :: a2 :: a3 :: a4 :: a5 :: r).Perm (As ++ Fs)) : (a1 :: a2 :: a3 :: a4 :: a5 :: A :: r).Perm ((A :: As) ++ Fs) := (List.perm_middle (l₁ := [a1, a2, a3, a4, a5])).trans (h.cons _)
theorem pt6 {A a1 a2 a3 a4 a5 a6 : Atom} {r As Fs : List Atom} (h : (a1 :: a2 :: a3 :: a4 :: a5 :: a6 :: r).Perm (As ++ Fs)) : (a1 :: a2 :: a3 :: a4 :: a5 :: a6 :: A :: r).Perm ((A :: As) ++ Fs) := (List.perm_middle (l₁ := [a1, a2, a3, a4, a5, a6])).trans (h.cons _)
theorem pt7 {A a1 a2 a3 a4 a5 a6 a7 : Atom} {r As Fs : List Atom} (h : (a1 :: a2 :: a3 :: a4 :: a5 :: a6 :: a7 :: r).Perm (As ++ Fs)) : (a1 :: a2 :: a3 :: a4 :: a5 :: a6 :: a7 :: A :: r).Perm ((A :: As) ++ Fs) := (List.perm_middle (l₁ := [a1, a2, a3, a4, a5, a6, a7])).trans (h.cons _)
theorem pt8 {A a1 a2 a3 a4 a5 a6 a7 a8 : Atom} {r As Fs : List Atom} (h : (a1 :: a2 :: a3 :: a4 :: a5 :: a6 :: a7 :: a8 :: r).Perm (As ++ Fs)) : (a1 :: a2 :: a3 :: a4 :: a5 :: a6 :: a7 :: a8 :: A :: r).Perm ((A :: As) ++ Fs) := (List.perm_middle (l₁ := [a1, a2, a3, a4, a5, a6, a7, a8])).trans (h.cons _)
theorem pt9 {A a1 a2 a3 a4 a5 a6 a7 a8 a9 : Atom} {r As Fs : List Atom} (h : (a1 :: a2 :: a3 :: a4 :: a5 :: a6 :: a7 :: a8 :: a9 :: r).Perm (As ++ Fs)) : (a1 :: a2 :: a3 :: a4 :: a5 :: a6 :: a7 :: a8 :: a9 :: A :: r).Perm ((A :: As) ++ Fs) := (List.perm_middle (l₁ := [a1, a2, a3, a4, a5, a6, a7, a8, a9])).trans (h.cons _)
theorem pt10 {A a1 a2 a3 a4 a5 a6 a7 a8 a9 a10 : Atom} {r As Fs : List Atom} (h : (a1 :: a2 :: a3 :: a4 :: a5 :: a6 :: a7 :: a8 :: a9 :: a10 :: r).Perm (As ++ Fs)) : (a1 :: a2 :: a3 :: a4 :: a5 :: a6 :: a7 :: a8 :: a9 :: a10 :: A :: r).Perm ((A :: As) ++ Fs) := (List.perm_middle (l₁ := [a1, a2, a3, a4, a5, a6, a7, a8, a9, a10])).trans (h.cons _)
theorem pt11 {A a1 a2 a3 a4 a5 a6 a7 a8 a9 a10 a11 : Atom} {r As Fs : List Atom} (h : (a1 :: a2 :: a3 :: a4 :: a5 :: a6 :: a7 :: a8 :: a9 :: a10 :: a11 :: r).Perm (As ++ Fs)) : (a1 :: a2 :: a3 :: a4 :: a5 :: a6 :: a7 :: a8 :: a9 :: a10 :: a11 :: A :: r).Perm ((A :: As) ++ Fs) := (List.perm_middle (l₁ := [a1, a2, a3, a4, a5, a6, a7, a8, a9, a10, a11])).trans (h.cons _)
theorem pt12 {A a1 a2 a3 a4 a5 a6 a7 a8 a9 a10 a11 a12 : Atom} {r As Fs : List Atom} (h : (a1 :: a2 :: a3 :: a4 :: a5 :: a6 :: a7 :: a8 :: a9 :: a10 :: a11 :: a12 :: r).Perm (As ++ Fs)) : (a1 :: a2 :: a3 :: a4 :: a5 :: a6 :: a7 :: a8 :: a9 :: a10 :: a11 :: a12 :: A :: r).Perm ((A :: As) ++ Fs) := (List.perm_middle (l₁ := [a1, a2, a3, a4, a5, a6, a7, a8, a9, a10, a11, a12])).trans (h.cons _)
theorem pt13 {A a1 a2 a3 a4 a5 a6 a7 a8 a9 a10 a11 a12 a13 : Atom} {r As Fs : List Atom} (h : (a1 :: a2 :: a3 :: a4 :: a5 :: a6 :: a7 :: a8 :: a9 :: a10 :: a11 :: a12 :: a13 :: r).Perm (As ++ Fs)) : (a1 :: a2 :: a3 :: a4 :: a5 :: a6 :: a7 :: a8 :: a9 :: a10 :: a11 :: a12 :: a13 :: A :: r).Perm ((A :: As) ++ Fs) := (List.perm_middle (l₁ := [a1, a2, a3, a4, a5, a6, a7, a8, a9, a10, a11, a12, a13])).trans (h.cons _)
theorem pt14 {A a1 a2 a3 a4 a5 a6 a7 a8 a9 a10 a11 a12 a13 a14 : Atom} {r As Fs : List Atom} (h : (a1 :: a2 :: a3 :: a4 :: a5 :: a6 :: a7 :: a8 :: a9 :: a10 :: a11 :: a12 :: a13 :: a14 :: r).Perm (As ++ Fs)) : (a1 :: a2 :: a3 :: a4 :: a5 :: a6 :: a7 :: a8 :: a9 :: a10 :: a11 :: a12 :: a13 :: a14 :: A :: r).Perm ((A :: As) ++ Fs) := (List.perm_middle (l₁ := [a1, a2, a3, a4, a5, a6, a7, a8, a9, a10, a11, a12, a13, a14])).trans (h.cons _)
theorem pt15 {A a1 a2 a3 a4 a5 a6 a7 a8 a9 a10 a11 a12 a13 a14 a15 : Atom} {r As Fs : List Atom} (h : (a1 :: a2 :: a3 :: a4 :: a5 :: a6 :: a7 :: a8 :: a9 :: a10 :: a11 :: a12 :: a13 :: a14 :: a15 :: r).Perm (As ++ Fs)) : (a1 :: a2 :: a3 :: a4 :: a5 :: a6 :: a7 :: a8 :: a9 :: a10 :: a11 :: a12 :: a13 :: a14 :: a15 :: A :: r).Perm ((A :: As) ++ Fs) := (List.perm_middle (l₁ := [a1, a2, a3, a4, a5, a6, a7, a8, a9, a10, a11, a12, a13, a14, a15])).trans (h.cons _)
theorem pt16 {A a1 a2 a3 a4 a5 a6 a7 a8 a9 a10 a11 a12 a13 a14 a15 a16 : Atom} {r As Fs : List Atom} (h : (a1 :: a2 :: a3 :: a4 :: a5 :: a6 :: a7 :: a8 :: a9 :: a10 :: a11 :: a12 :: a13 :: a14 :: a15 :: a16 :: r).Perm (As ++ Fs)) : (a1 :: a2 :: a3 :: a4 :: a5 :: a6 :: a7 :: a8 :: a9 :: a10 :: a11 :: a12 :: a13 :: a14 :: a15 :: a16 :: A :: r).Perm ((A :: As) ++ Fs) := (List.perm_middle (l₁ := [a1, a2, a3, a4, a5, a6, a7, a8, a9, a10, a11, a12, a13, a14, a15, a16])).trans (h.cons _)
theorem pt17 {A a1 a2 a3 a4 a5 a6 a7 a8 a9 a10 a11 a12 a13 a14 a15 a16 a17 : Atom} {r As Fs : List Atom} (h : (a1 :: a2 :: a3 :: a4 :: a5 :: a6 :: a7 :: a8 :: a9 :: a10 :: a11 :: a12 :: a13 :: a14 :: a15 :: a16 :: a17 :: r).Perm (As ++ Fs)) : (a1 :: a2 :: a3 :: a4 :: a5 :: a6 :: a7 :: a8 :: a9 :: a10 :: a11 :: a12 :: a13 :: a14 :: a15 :: a16 :: a17 :: A :: r).Perm ((A :: As) ++ Fs) := (List.perm_middle (l₁ := [a1, a2, a3, a4, a5, a6, a7, a8, a9, a10, a11, a12, a13, a14, a15, a16, a17])).trans (h.cons _)
theorem Hp.sub {w0 : World} {O : Nat → Prop} {As Bs Fs : List Atom} {w : World} (h : Hp w0 O Bs w) (hp : Bs.Perm (As ++ Fs)) : Hp w0 O As w := (h.perm hp).left
/- The tactic text 'perm_find' in the drivers stands for a chain of these lemmas: seatlib.py writes it out. -/
end Go.Eng
