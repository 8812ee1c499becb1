/-
  What is not too great.
-/
import Derived.Test.YtbnahfjhlbibcaaDoorCod
namespace Go.Proofs.YtbnahfjhlbibcaaDoor
open Go.Eng

open Go.Lib
/-! ### What is not too great -/
def FewS (n : Nat) (l : List Str) : Prop := l.length ≤ n ∧ ∀ x ∈ l, x.length ≤ 100
def FewF (f : PF) : Prop := f.1.length ≤ 200 ∧ f.2.length ≤ 3000
def FewT (t : PT) : Prop := (t.name.length ≤ 100 ∧ t.cmd.length ≤ 2000) ∧ FewS 20 t.deps ∧ FewS 40 t.srcs
def FewP (g : List PT) (f : List PF) : Prop := (g.length ≤ 20 ∧ f.length ≤ 60) ∧ (∀ x ∈ f, FewF x) ∧ ∀ t ∈ g, FewT t
def FewO (x : PO) : Prop := FewP x.graph x.snap ∧ FewP [] x.res.files ∧ x.name.length ≤ 100 ∧ x.goal.length ≤ 100 ∧ x.res.loc.length ≤ 100 ∧ x.res.text.length ≤ 100
def FewL (l : List PO) : Prop := l.length ≤ 10 ∧ ∀ x ∈ l, FewO x
def Little (t : PK) : Prop := t.key.length ≤ 100 ∧ FewP [⟨[], t.cmd, t.names, []⟩] t.files
def Small (r : PP) : Prop := r.key.length ≤ 100 ∧ r.out.need.length ≤ 100 ∧ r.out.text.length ≤ 100 ∧ FewP [] r.out.files
theorem flat_bnd {m : Nat} (hm : m ≤ 1000000000) : ∀ {l : List Str}, (∀ x ∈ l, x.length ≤ m) → (flatF l).length ≤ l.length * (m + 22)
  | [], _ => by simp [flatF]
  | x :: l, h => by
    have h1 := h x (by simp)
    have h2 := textF_le x (by omega)
    have h3 := flat_bnd hm fun y hy => h y (List.mem_cons_of_mem x hy)
    rw [flat_cons, List.length_append, List.length_cons, Nat.add_mul]
    omega
theorem map_bnd {α : Type} {g : α → Str} {m k : Nat} (hm : m ≤ 1000000000) {l : List α} (hk : l.length ≤ k) (h : ∀ x ∈ l, (g x).length ≤ m) : (flatF (l.map g)).length ≤ k * (m + 22) := by
  have h1 := flat_bnd hm (l := l.map g) (fun y hy => by obtain ⟨x, hx, rfl⟩ := List.mem_map.1 hy; exact h x hx)
  rw [List.length_map] at h1
  exact Nat.le_trans h1 (Nat.mul_le_mul_right _ hk)
theorem flat_k {l : List Str} {n : Nat} (h : FewS n l) : (flatF l).length ≤ n * 122 := by
  have h1 := flat_bnd (by decide) h.2
  exact Nat.le_trans h1 (Nat.mul_le_mul_right _ h.1)
theorem itoa_20 {n : Int} (h : inR n) : (itoa n).length ≤ 20 := (itoa_len h).2
theorem files_bnd {l : List PF} (h : l.length ≤ 60) (hf : ∀ x ∈ l, FewF x) : (filesT l).length ≤ 195982 := by
  have h1 := map_bnd (g := fun f => flatF (fileL f)) (m := 3244) (by decide) h fun f hx => by
    have h2 := hf f hx
    unfold FewF at h2
    have h3 := textF_le f.1 (by omega)
    have h4 := textF_le f.2 (by omega)
    simp only [fileL, flat_cons, flat_nil, List.length_append, List.length_nil]
    omega
  have h2 := textF_le _ (Nat.le_trans h1 (by decide))
  unfold filesT
  omega
theorem graph_bnd {l : List PT} (h : l.length ≤ 20) (hf : ∀ x ∈ l, FewT x) : (graphT l).length ≤ 190622 := by
  have h1 := map_bnd (g := fun t => flatF t.L) (m := 9508) (by decide) h fun t hx => by
    obtain ⟨⟨h2, h3⟩, h4, h5⟩ := hf t hx
    have h6 := flat_k h4
    have h7 := flat_k h5
    have h8 := textF_le t.name (by omega)
    have h9 := textF_le t.cmd (by omega)
    have h10 := textF_le (flatF t.deps) (by omega)
    have h11 := textF_le (flatF t.srcs) (by omega)
    simp only [PT.L, flat_cons, flat_nil, List.length_append, List.length_nil]
    omega
  have h2 := textF_le _ (Nat.le_trans h1 (by decide))
  unfold graphT
  omega
theorem op_bnd {x : PO} (h : FewO x) (hi : x.inr) : (flatF x.L).length ≤ 583224 := by
  obtain ⟨⟨⟨g1, g2⟩, g3, g4⟩, ⟨⟨_, r2⟩, r3, _⟩, h1, h2, h3, h4⟩ := h
  have a1 := graph_bnd g1 g4
  have a2 := files_bnd g2 g3
  have a3 := files_bnd r2 r3
  have a4 := itoa_20 hi.1
  have a5 := itoa_20 hi.2
  have b1 := textF_le x.name (by omega)
  have b2 := textF_le (graphT x.graph) (by omega)
  have b3 := textF_le (filesT x.snap) (by omega)
  have b4 := textF_le x.goal (by omega)
  have b5 := textF_le (itoa x.state) (by omega)
  have b6 := textF_le (itoa x.res.err) (by omega)
  have b7 := textF_le x.res.loc (by omega)
  have b8 := textF_le x.res.text (by omega)
  have b9 := textF_le (filesT x.res.files) (by omega)
  simp only [PO.L, PR.L, List.cons_append, List.nil_append, flat_cons, flat_nil, List.length_append, List.length_nil]
  omega
theorem ev_bnd {k : Int} {x : PO} (h : FewO x) (hk : inR k) (hi : x.inr) : (flatF (evL k x)).length ≤ 584000 := by
  have h1 := op_bnd h hi
  have h2 := textF_le (itoa k) (by have := itoa_20 hk; omega)
  have h3 := itoa_20 hk
  rw [evL, flat_cons, List.length_append]; omega
theorem table_bnd {l : List PO} (h : FewL l) (hi : ∀ x ∈ l, x.inr) : (tableT l).length ≤ 5832482 := by
  have h1 := map_bnd (g := fun x => flatF x.L) (m := 583224) (by decide) h.1 fun x hx => op_bnd (h.2 x hx) (hi x hx)
  have h2 := textF_le _ (Nat.le_trans h1 (by decide))
  unfold tableT
  omega
theorem task_bnd {t : PK} (h : Little t) (hi : t.inr) : (flatF t.L).length ≤ 201000 := by
  obtain ⟨h1, ⟨_, h2⟩, h3, h4⟩ := h
  obtain ⟨⟨_, h5⟩, h6, _⟩ := h4 _ (List.mem_singleton.2 rfl)
  simp only at h5 h6
  have a1 := files_bnd h2 h3
  have a2 := flat_k h6
  have a3 := itoa_20 hi.1
  have a4 := itoa_20 hi.2
  have b1 := textF_le t.key (by omega)
  have b2 := textF_le (itoa t.epoch) (by omega)
  have b3 := textF_le t.cmd (by omega)
  have b4 := textF_le (filesT t.files) (by omega)
  have b5 := textF_le (flatF t.names) (by omega)
  have b6 := textF_le (itoa t.fuel) (by omega)
  simp only [PK.L, flat_cons, flat_nil, List.length_append, List.length_nil]
  omega
theorem rep_bnd {t : PP} (h : Small t) (hi : t.inr) : (flatF t.L).length ≤ 197000 := by
  obtain ⟨h1, h2, h3, ⟨_, h4⟩, h5, _⟩ := h
  obtain ⟨i1, i2, i3, i4⟩ := hi
  have a1 := files_bnd h4 h5
  have a2 := itoa_20 i1
  have a3 := itoa_20 i2
  have a4 := itoa_20 i3
  have a5 := itoa_20 i4
  have b1 := textF_le t.key (by omega)
  have b2 := textF_le (itoa t.epoch) (by omega)
  have b3 := textF_le (itoa t.out.kind) (by omega)
  have b4 := textF_le (filesT t.out.files) (by omega)
  have b5 := textF_le t.out.need (by omega)
  have b6 := textF_le (itoa t.out.err) (by omega)
  have b7 := textF_le t.out.text (by omega)
  have b8 := textF_le (itoa t.out.used) (by omega)
  simp only [PP.L, PU.L, List.cons_append, List.nil_append, flat_cons, flat_nil, List.length_append, List.length_nil]
  omega
end Go.Proofs.YtbnahfjhlbibcaaDoor
