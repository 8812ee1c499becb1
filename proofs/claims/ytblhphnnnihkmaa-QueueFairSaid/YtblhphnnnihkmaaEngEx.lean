/-
  Atoms that hide a choice: 'for some x that fits, F x is owned'; contracts on them.
-/
import Derived.Test.YtblhphnnnihkmaaEngMem
namespace Go.Eng
open Go.RowKit

def exA {α : Type} (p : α → Prop) (F : α → List Atom) : Atom := fun h => ∃ x, p x ∧ Own (F x) h
theorem exA_open {α : Type} {p : α → Prop} {F : α → List Atom} {w0 : World} {O : Nat → Prop} {As : List Atom} : ∀ w, Hp w0 O (exA p F :: As) w → ∃ x : {x // p x}, Hp w0 O (F x.1 ++ As) w := fun w h => by
  obtain ⟨g, ⟨h1, h2, ⟨x, hx, ha⟩, ho, rfl⟩, hf⟩ := h
  exact ⟨⟨x, hx⟩, h1 ++ h2, own_append.2 ⟨h1, h2, ha, ho, rfl⟩, hf⟩
theorem exA_shut {α : Type} {p : α → Prop} {F : α → List Atom} {w0 : World} {O : Nat → Prop} {As : List Atom} {w : World} (x : α) (hx : p x) (h : Hp w0 O (F x ++ As) w) : Hp w0 O (exA p F :: As) w := by
  obtain ⟨g, ho, hf⟩ := h
  obtain ⟨h1, h2, h1o, h2o, rfl⟩ := own_append.1 ho
  exact ⟨_, ⟨h1, h2, ⟨x, hx, h1o⟩, h2o, rfl⟩, hf⟩
theorem Ctr.open {P : Program} {f : FuncId} {aa : Array Value} {Rs As : List Atom} {α β : Type} {p0 : β → Prop} {F : β → List Atom} {p : α → Prop} {v : α → Value} {A : α → List Atom}
    (h : ∀ x, p0 x → Ctr P f aa Rs (F x ++ As) p v A) : Ctr P f aa Rs (exA p0 F :: As) p v A := fun w K hR hw => by
  obtain ⟨x, hx⟩ := exA_open w hw
  exact h x.1 x.2 w K hR hx
theorem Ctr.post {P : Program} {f : FuncId} {aa : Array Value} {Rs As : List Atom} {α β : Type} {p : α → Prop} {v : α → Value} {A : α → List Atom} {p' : β → Prop} {v' : β → Value} {A' : β → List Atom}
    (h : Ctr P f aa Rs As p v A) (g : α → β) (hg : ∀ x, p x → p' (g x) ∧ v x = v' (g x) ∧ ∀ w K w', Hp w K (A x) w' → Hp w K (A' (g x)) w') : Ctr P f aa Rs As p' v' A' := fun w K hR hw =>
  (h w K hR hw).mono fun _ w' ⟨x, hp, he, hw'⟩ => by
    obtain ⟨h1, h2, h3⟩ := hg x hp
    exact ⟨g x, h1, by rw [he, h2], h3 w K w' hw'⟩
theorem wq_ret4 {P : Program} {n : Nat} {env : Env} {S : World → Prop} {fn : Func} {R : Ending → World → Prop} {t u s r : Tmp} {v x y z : Value} (hr : fn.results = #[.tmp t, .tmp u, .tmp s, .tmp r]) (hv : env.find t = some v) (hx : env.find u = some x) (hy : env.find s = some y) (hz : env.find r = some z)
    (h : ∀ w, S w → R (.returned (.tuple #[v, x, y, z])) w) : WQ n (bodyPost P fn R) .ret env S := fun a w ha hw =>
  ⟨ha.defers, .tuple #[v, x, y, z], by unfold results; simp [hr, Array.getD_eq_getD_getElem?, ha.get t v hv, ha.get u x hx, ha.get s y hy, ha.get r z hz], h w hw⟩
theorem rows_take {α : Type} {f : α → List Value} {sz : Nat} (hf : ∀ x, (f x).length = sz) {xs : List α} (k : Nat) (h : k ≤ xs.length) : (xs.flatMap f).take (k * sz) = (xs.take k).flatMap f := by
  have hl : ((xs.take k).flatMap f).length = k * sz := by rw [rows_length hf, List.length_take]; congr 1; omega
  conv => lhs; rw [← List.take_append_drop k xs, List.flatMap_append, ← hl]
  exact List.take_left
theorem rows_drop {α : Type} {f : α → List Value} {sz : Nat} (hf : ∀ x, (f x).length = sz) {xs : List α} (k : Nat) (h : k ≤ xs.length) : (xs.flatMap f).drop (k * sz) = (xs.drop k).flatMap f := by
  have hl : ((xs.take k).flatMap f).length = k * sz := by rw [rows_length hf, List.length_take]; congr 1; omega
  conv => lhs; rw [← List.take_append_drop k xs, List.flatMap_append, ← hl]
  exact List.drop_left
theorem one_rows {α : Type} {f : α → List Value} (hf : ∀ x, ∀ v ∈ f x, v.oneCell' = true) {xs : List α} : ∀ v ∈ xs.flatMap f, v.oneCell' = true := fun v hv => by
  obtain ⟨x, _, hx⟩ := List.mem_flatMap.1 hv
  exact hf x v hx
theorem one_take {l : List Value} {k : Nat} (h : ∀ v ∈ l, v.oneCell' = true) : ∀ v ∈ l.take k, v.oneCell' = true := fun v hv => h v (List.mem_of_mem_take hv)
theorem one_drop {l : List Value} {k : Nat} (h : ∀ v ∈ l, v.oneCell' = true) : ∀ v ∈ l.drop k, v.oneCell' = true := fun v hv => h v (List.mem_of_mem_drop hv)
end Go.Eng
