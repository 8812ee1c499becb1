/-
  Atoms that hide a choice: 'for some x that fits, F x is owned'; contracts on them.
-/
import Derived.Test.YtfnpjmlpiedgdaaEngMem
namespace Go.Eng
open Go.RowKit

def exA {α : Type} (p : α → Prop) (F : α → List Atom) : Atom := fun h => ∃ x, p x ∧ Own (F x) h
theorem exA_open {α : Type} {p : α → Prop} {F : α → List Atom} {w0 : World} {O : Nat → Prop} {As : List Atom} : ∀ w, Hp w0 O (exA p F :: As) w → ∃ x : {x // p x}, Hp w0 O (F x.1 ++ As) w := fun w h => by
  obtain ⟨g, ⟨h1, h2, ⟨x, hx, ha⟩, ho, rfl⟩, hf⟩ := h
  exact ⟨⟨x, hx⟩, h1 ++ h2, own_append.2 ⟨h1, h2, ha, ho, rfl⟩, hf⟩
theorem exA_shut {α : Type} {p : α → Prop} {F : α → List Atom} {w0 : World} {O : Nat → Prop} {As : List Atom} {w : World} (x : α) (hx : p x) (h : Hp w0 O (F x ++ As) w) : Hp w0 O (exA p F :: As) w := by
  obtain ⟨g, ho, hf⟩ := h
  obtain ⟨h1, h2, h1o, h2o, rfl⟩ := own_append.1 ho
  exact ⟨_, ⟨h1, h2, ⟨x, hx, h1o⟩, h2o, rfl⟩, hf⟩
theorem Ctr.open {P : Program} {f : FuncId} {aa : Array Value} {Rs As : List Atom} {α β : Type} {p0 : β → Prop} {F : β → List Atom} {p : α → Prop} {v : α → Value} {A : α → List Atom}
    (h : ∀ x, p0 x → Ctr P f aa Rs (F x ++ As) p v A) : Ctr P f aa Rs (exA p0 F :: As) p v A := fun w K hR hw => by
  obtain ⟨x, hx⟩ := exA_open w hw
  exact h x.1 x.2 w K hR hx
theorem Ctr.post {P : Program} {f : FuncId} {aa : Array Value} {Rs As : List Atom} {α β : Type} {p : α → Prop} {v : α → Value} {A : α → List Atom} {p' : β → Prop} {v' : β → Value} {A' : β → List Atom}
    (h : Ctr P f aa Rs As p v A) (g : α → β) (hg : ∀ x, p x → p' (g x) ∧ v x = v' (g x) ∧ ∀ w K w', Hp w K (A x) w' → Hp w K (A' (g x)) w') : Ctr P f aa Rs As p' v' A' := fun w K hR hw =>
  (h w K hR hw).mono fun _ w' ⟨x, hp, he, hw'⟩ => by
    obtain ⟨h1, h2, h3⟩ := hg x hp
    exact ⟨g x, h1, by rw [he, h2], h3 w K w' hw'⟩
theorem wq_ret4 {P : Program} {n : Nat} {env : Env} {S : World → Prop} {fn : Func} {R : Ending → World → Prop} {t u s r : Tmp} {v x y z : Value} (hr : fn.results = #[.tmp t, .tmp u, .tmp s, .tmp r]) (hv : env.find t = some v) (hx : env.find u = some x) (hy : env.find s = some y) (hz : env.find r = some z)
    (h : ∀ w, S w → R (.returned (.tuple #[v, x, y, z])) w) : WQ n (bodyPost P fn R) .ret env S := fun a w ha hw =>
  ⟨ha.defers, .tuple #[v, x, y, z], by unfold results; simp [hr, Array.getD_eq_getD_getElem?, ha.get t v hv, ha.get u x hx, ha.get s y hy, ha.get r z hz], h w hw⟩
theorem rows_take {α : Type} {f : α → List Value} {sz : Nat} (hf : ∀ x, (f x).length = sz) {xs : List α} (k : Nat) (h : k ≤ xs.length) : (xs.flatMap f).take (k * sz) = (xs.take k).flatMap f := by
  have hl : ((xs.take k).flatMap f).length = k * sz := by rw [rows_length hf, List.length_take]; congr 1; omega
  conv => lhs; rw [← List.take_append_drop k xs, List.flatMap_append, ← hl]
  exact List.take_left
theorem rows_drop {α : Type} {f : α → List Value} {sz : Nat} (hf : ∀ x, (f x).length = sz) {xs : List α} (k : Nat) (h : k ≤ xs.length) : (xs.flatMap f).drop (k * sz) = (xs.drop k).flatMap f := by
  have hl : ((xs.take k).flatMap f).length = k * sz := by rw [rows_length hf, List.length_take]; congr 1; omega
  conv => lhs; rw [← List.take_append_drop k xs, List.flatMap_append, ← hl]
  exact List.drop_left
theorem one_rows {α : Type} {f : α → List Value} (hf : ∀ x, ∀ v ∈ f x, v.oneCell' = true) {xs : List α} : ∀ v ∈ xs.flatMap f, v.oneCell' = true := fun v hv => by
  obtain ⟨x, _, hx⟩ := List.mem_flatMap.1 hv
  exact hf x v hx
theorem one_take {l : List Value} {k : Nat} (h : ∀ v ∈ l, v.oneCell' = true) : ∀ v ∈ l.take k, v.oneCell' = true := fun v hv => h v (List.mem_of_mem_take hv)
theorem one_drop {l : List Value} {k : Nat} (h : ∀ v ∈ l, v.oneCell' = true) : ∀ v ∈ l.drop k, v.oneCell' = true := fun v hv => h v (List.mem_of_mem_drop hv)
theorem cellR_blk {w0 : World} {O : Nat → Prop} {b i : Nat} {l : List Value} {e : TypeId} {fr : Nat × Nat} {As : List Atom} {u : Value} (hr : Ro w0 O (blk b (.cells l.toArray e fr))) (hi : l[i]? = some u) :
    ∀ w, Hp w0 O As w → w.cell? ⟨b, i, none⟩ = some u := fun _ h => cell_of_heap (hr.seen h).blk hi
theorem cellsR_blk {w0 : World} {O : Nat → Prop} {b i : Nat} {l r : List Value} {e : TypeId} {fr : Nat × Nat} {As : List Atom} (hr : Ro w0 O (blk b (.cells l.toArray e fr))) (hl : (l.drop i).take r.length = r) :
    ∀ w, Hp w0 O As w → ∀ j u, r[j]? = some u → w.cell? ((⟨b, i, none⟩ : Addr).add j) = some u := fun _ h => (hr.seen h).cells hl
/-- A part of a row that is read. -/
theorem rsl_cut {a : Option Addr} {k sz cap : Nat} {cs : List Value} {h : HL} (i j : Nat) (hs : rsl a k sz cs h) (hij : i ≤ j) (hj : j ≤ k) (hc : k ≤ cap) : rsl (cutAt a i cap sz) (j - i) sz ((cs.drop (i * sz)).take ((j - i) * sz)) h := by
  obtain ⟨hl, hs⟩ := hs
  have hm : (j - i) * sz = j * sz - i * sz := Nat.sub_mul ..
  have hle : i * sz ≤ j * sz := Nat.mul_le_mul_right _ hij
  have hle2 : j * sz ≤ k * sz := Nat.mul_le_mul_right _ hj
  refine ⟨by rw [List.length_take, List.length_drop, hl]; omega, ?_⟩
  rcases hs with ⟨rfl, rfl⟩ | ⟨b, off, c, e, fr, rfl, rfl, hg⟩
  · exact .inl ⟨by omega, rfl⟩
  · right
    by_cases hci : cap = i
    · refine ⟨b, off, c, e, fr, by simp [cutAt, hci], rfl, fun q u hq => ?_⟩
      rw [show j - i = 0 by omega, Nat.zero_mul, List.take_zero] at hq; cases hq
    · refine ⟨b, off + i * sz, c, e, fr, ?_, rfl, fun q u hq => ?_⟩
      · rw [cutAt, if_neg hci]; unfold Addr.add; simp only [Option.map_some]; split <;> simp_all
      · rw [List.getElem?_take] at hq
        split at hq
        · rw [List.getElem?_drop] at hq
          have := hg (i * sz + q) u hq
          rw [Nat.add_assoc]; exact this
        · cases hq

/-! ### What is read, among what is owned or was there -/
section
variable {w0 : World} {O : Nat → Prop} {A : Atom} {Rs Fs : List Atom}
theorem ro_nil : ∀ A ∈ ([] : List Atom), Ro w0 O A ∨ ∃ F ∈ Fs, ∀ h, F h → A h := fun _ h => by cases h
theorem ro_cons (h1 : Ro w0 O A ∨ ∃ F ∈ Fs, ∀ h, F h → A h) (h2 : ∀ B ∈ Rs, Ro w0 O B ∨ ∃ F ∈ Fs, ∀ h, F h → B h) : ∀ B ∈ A :: Rs, Ro w0 O B ∨ ∃ F ∈ Fs, ∀ h, F h → B h := fun B hB => by
  rcases List.mem_cons.1 hB with rfl | hB
  · exact h1
  · exact h2 B hB
theorem ro_rest (h : ∀ B ∈ Rs, Ro w0 O B) : ∀ B ∈ Rs, Ro w0 O B ∨ ∃ F ∈ Fs, ∀ h, F h → B h := fun B hB => .inl (h B hB)
theorem ro_f0 {F : Atom} {Gs : List Atom} (h : ∀ g, F g → A g) : Ro w0 O A ∨ ∃ F' ∈ F :: Gs, ∀ h, F' h → A h := .inr ⟨F, by simp, h⟩
theorem ro_f1 {F a1 : Atom} {Gs : List Atom} (h : ∀ g, F g → A g) : Ro w0 O A ∨ ∃ F' ∈ a1 :: F :: Gs, ∀ h, F' h → A h := .inr ⟨F, by simp, h⟩
theorem ro_f2 {F a1 a2 : Atom} {Gs : List Atom} (h : ∀ g, F g → A g) : Ro w0 O A ∨ ∃ F' ∈ a1 :: a2 :: F :: Gs, ∀ h, F' h → A h := .inr ⟨F, by simp, h⟩
theorem ro_f3 {F a1 a2 a3 : Atom} {Gs : List Atom} (h : ∀ g, F g → A g) : Ro w0 O A ∨ ∃ F' ∈ a1 :: a2 :: a3 :: F :: Gs, ∀ h, F' h → A h := .inr ⟨F, by simp, h⟩
theorem ro_f4 {F a1 a2 a3 a4 : Atom} {Gs : List Atom} (h : ∀ g, F g → A g) : Ro w0 O A ∨ ∃ F' ∈ a1 :: a2 :: a3 :: a4 :: F :: Gs, ∀ h, F' h → A h := .inr ⟨F, by simp, h⟩
theorem ro_f5 {F a1 a2 a3 a4 a5 : Atom} {Gs : List Atom} (h : ∀ g, F g → A g) : Ro w0 O A ∨ ∃ F' ∈ a1 :: a2 :: a3 :: a4 :: a5 :: F :: Gs, ∀ h, F' h → A h := .inr ⟨F, by simp, h⟩
theorem ro_f6 {F a1 a2 a3 a4 a5 a6 : Atom} {Gs : List Atom} (h : ∀ g, F g → A g) : Ro w0 O A ∨ ∃ F' ∈ a1 :: a2 :: a3 :: a4 :: a5 :: a6 :: F :: Gs, ∀ h, F' h → A h := .inr ⟨F, by simp, h⟩
end
theorem rows_setOne {α : Type} {f : α → List Value} {sz : Nat} (hf : ∀ x, (f x).length = sz) : ∀ {xs : List α} {i j : Nat} {x x' : α} {v : Value}, xs[i]? = some x → j < sz → f x' = (f x).set j v → (xs.flatMap f).set (i * sz + j) v = (xs.set i x').flatMap f
  | y :: ys, 0, j, x, x', v, hx, hj, he => by
    obtain rfl : y = x := by simpa using hx
    rw [List.flatMap_cons, List.set_cons_zero, List.flatMap_cons, Nat.zero_mul, Nat.zero_add, List.set_append_left _ _ (by rw [hf]; exact hj), he]
  | y :: ys, i + 1, j, x, x', v, hx, hj, he => by
    rw [List.flatMap_cons, List.set_cons_succ, List.flatMap_cons, List.set_append_right _ _ (by rw [hf, Nat.add_mul]; omega), hf, show (i + 1) * sz + j - sz = i * sz + j by rw [Nat.add_mul]; omega, rows_setOne hf (by simpa using hx) hj he]
end Go.Eng
