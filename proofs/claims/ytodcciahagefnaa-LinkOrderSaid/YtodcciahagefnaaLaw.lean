/-
  Plain laws: the program's end and the reference's go side by side.
-/
import Derived.Test.YtodcciahagefnaaDef

namespace Go.Proofs.Ytodcciahagefnaa
open Go.Eng
def fullE (n k : Nat) : LE := ⟨n, List.replicate (min k n) [120], 0, 0⟩
theorem full_send (n k : Nat) : (fullE n k).send [120] = (fullE n (k + 1), if k < n then 0 else 41) := by
  unfold fullE LE.send
  by_cases h : k < n
  · simp only [List.length_replicate]
    rw [if_neg (by omega), if_pos h]
    simp only [Prod.mk.injEq, LE.mk.injEq, and_true, true_and]
    rw [show min (k + 1) n = min k n + 1 by omega, List.replicate_succ']
  · simp only [List.length_replicate]
    rw [if_pos (by omega), if_neg h, show min (k + 1) n = min k n by omega]
theorem full_ok {n k : Nat} (h : n ≤ 1000) : (fullE n k).ok := ⟨h, by simp [fullE]; omega, Nat.zero_le _, Nat.zero_le _⟩
theorem out_length (s : LE) : s.out.length = max s.opens.length 1 := by
  unfold LE.out
  split
  · simp; omega
  · rw [pks_length]; omega

def Rel (e : LE) (r : RE) : Prop := e.window = r.window ∧ e.known = r.known ∧ e.came = r.came ∧ e.opens = r.sent.drop r.known ∧ r.known ≤ r.sent.length
theorem Rel.open {e : LE} {r : RE} (h : Rel e r) : e.opens.length = r.sent.length - r.known := by rw [h.2.2.2.1, List.length_drop]
theorem rel_send {e : LE} {r : RE} (h : Rel e r) (d : Str) : (e.send d).2 = (r.send d).2 ∧ Rel (e.send d).1 (r.send d).1 := by
  have ho := h.open
  obtain ⟨h1, h2, h3, h4, h5⟩ := h
  unfold LE.send RE.send
  rw [ho, h1]
  split
  · exact ⟨rfl, h1, h2, h3, h4, h5⟩
  · exact ⟨rfl, rfl, h2, h3, by simp only; rw [h4, List.drop_append_of_le_length h5], by simp; omega⟩
theorem rel_acked {e : LE} {r : RE} (h : Rel e r) (a : Int) : Rel (e.acked a) (r.acked a) := by
  have ho := h.open
  obtain ⟨h1, h2, h3, h4, h5⟩ := h
  unfold LE.acked RE.acked
  rw [ho, h2]
  by_cases ha : a ≤ r.sent.length
  · rw [if_pos ha]
    by_cases hb : (r.known : Int) < a
    · rw [if_pos ⟨hb, by omega⟩]
      refine ⟨h1, (by simp only; omega), h3, ?_, (by show max r.known a.toNat ≤ r.sent.length; omega)⟩
      simp only
      rw [h4, List.drop_drop]
      congr 1
      omega
    · rw [if_neg (fun h => hb h.1)]
      have : max r.known a.toNat = r.known := by omega
      rw [this]
      exact ⟨h1, h2, h3, h4, h5⟩
  · rw [if_neg ha, if_neg (by omega)]
    exact ⟨h1, h2, h3, h4, h5⟩
theorem rel_took {e : LE} {r : RE} (h : Rel e r) (p : Pk) : (e.took p).2 = (r.took p).2 ∧ Rel (e.took p).1 (r.took p).1 := by
  obtain ⟨h1, h2, h3, h4, h5⟩ := h
  unfold LE.took RE.took
  rw [h3]
  split
  · exact ⟨rfl, h1, h2, rfl, h4, h5⟩
  · exact ⟨rfl, h1, h2, h3, h4, h5⟩
theorem rel_take {e : LE} {r : RE} (h : Rel e r) (p : Pk) : (e.take p).2 = (r.take p).2 ∧ Rel (e.take p).1 (r.take p).1 := rel_took (rel_acked h p.ack) p
theorem rel_out {e : LE} {r : RE} (h : Rel e r) : e.out = r.out := by
  have ho := h.open
  obtain ⟨h1, h2, h3, h4, h5⟩ := h
  unfold LE.out RE.out
  by_cases hz : r.sent.length = r.known
  · rw [if_pos hz, if_pos (by omega), h3]
  · rw [if_neg hz, if_neg (by omega)]
    apply List.ext_getElem?
    intro i
    by_cases hi : i < r.sent.length - r.known
    · have hd : e.opens[i]? = some (r.sent.getD (r.known + i) []) := by
        rw [h4, List.getElem?_drop, List.getD, List.getElem?_eq_getElem (by omega)]; rfl
      rw [pks_get hd, RE.upto]
      simp [hi, RE.pk, h2, h3]
    · rw [List.getElem?_eq_none (by rw [pks_length]; omega), List.getElem?_eq_none (by rw [upto_length]; omega)]

/-- After k calls. -/
def Inv (k : Nat) (e : LE) (r : RE) : Prop := Rel e r ∧ e.window ≤ 1000 ∧ e.opens.length ≤ e.window ∧ r.sent.length ≤ k ∧ r.came ≤ k ∧ k ≤ 200
theorem Inv.eok {k : Nat} {e : LE} {r : RE} (h : Inv k e r) : e.ok := by
  obtain ⟨⟨a1, a2, a3, a4, a5⟩, h1, h2, h3, h4, h5⟩ := h
  exact ⟨h1, h2, by omega, by omega⟩
theorem Inv.rok {k : Nat} {e : LE} {r : RE} (h : Inv k e r) : r.ok := by
  obtain ⟨⟨a1, a2, a3, a4, a5⟩, h1, h2, h3, h4, h5⟩ := h
  exact ⟨by omega, a5, by omega, by omega⟩
theorem Inv.send {k : Nat} {e : LE} {r : RE} (h : Inv k e r) (hk : k < 200) (d : Str) : Inv (k + 1) (e.send d).1 (r.send d).1 := by
  obtain ⟨a, h1, h2, h3, h4, h5⟩ := h
  refine ⟨(rel_send a d).2, ?_, ?_, ?_, ?_, by omega⟩
  · unfold LE.send; split <;> exact h1
  · unfold LE.send; split
    · exact h2
    · simp; omega
  · unfold RE.send; split
    · simp only; omega
    · simp; omega
  · unfold RE.send; split <;> (simp only; omega)
theorem Inv.take {k : Nat} {e : LE} {r : RE} (h : Inv k e r) (hk : k < 200) (p : Pk) : Inv (k + 1) (e.take p).1 (r.take p).1 := by
  obtain ⟨a, h1, h2, h3, h4, h5⟩ := h
  refine ⟨(rel_take a p).2, ?_, ?_, ?_, ?_, by omega⟩
  · unfold LE.take LE.took LE.acked; (repeat' split) <;> exact h1
  · unfold LE.take LE.took LE.acked; (repeat' split) <;> simp <;> omega
  · unfold RE.take RE.took RE.acked; (repeat' split) <;> simp <;> omega
  · unfold RE.take RE.took RE.acked; (repeat' split) <;> simp <;> omega
theorem Inv.start {n : Nat} (h : n ≤ 1000) : Inv 0 ⟨n, [], 0, 0⟩ ⟨n, [], 0, 0⟩ := ⟨⟨rfl, rfl, rfl, rfl, Nat.le_refl _⟩, h, Nat.zero_le _, Nat.le_refl _, Nat.le_refl _, Nat.zero_le _⟩
end Go.Proofs.Ytodcciahagefnaa
