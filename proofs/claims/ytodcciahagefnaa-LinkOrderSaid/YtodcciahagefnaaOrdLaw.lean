/-
  Plain laws: what two ends and the ways between them keep.
-/
import Derived.Test.YtodcciahagefnaaLaw

namespace Go.Proofs.Ytodcciahagefnaa
open Go.Eng
/-- A packet on its way from the end e, of which s was sent. -/
def POk (e : LE) (s : List Str) (p : Pk) : Prop := 0 ≤ p.ack ∧ p.ack ≤ e.came ∧ (p.seq = 0 ∨ ∃ m : Nat, p.seq = m + 1 ∧ s[m]? = some p.data)
structure Side (n K : Nat) (e e' : LE) (s s' g : List Str) (wa : List Pk) : Prop where
  win : e.window = n
  op : e.opens.length ≤ n
  opens : e.opens = s.drop e.known
  known : e.known ≤ e'.came
  came : e.came ≤ s'.length
  got : g = s'.take e.came
  len : s.length ≤ K
  way : wa.length ≤ 5000
  all : ∀ p ∈ wa, POk e' s' p
structure Two (n K : Nat) (e e' : LE) (s s' g g' : List Str) (wa wa' : List Pk) : Prop where
  a : Side n K e e' s s' g wa
  b : Side n K e' e s' s g' wa'
section
variable {n K : Nat} {e e' : LE} {s s' g g' : List Str} {wa wa' : List Pk}
theorem Two.symm (h : Two n K e e' s s' g g' wa wa') : Two n K e' e s' s g' g wa' wa := ⟨h.b, h.a⟩
theorem Two.more (h : Two n K e e' s s' g g' wa wa') : Two n (K + 1) e e' s s' g g' wa wa' :=
  ⟨{ h.a with len := by have := h.a.len; omega }, { h.b with len := by have := h.b.len; omega }⟩
theorem Two.open (h : Two n K e e' s s' g g' wa wa') : e.opens.length = s.length - e.known ∧ e.known ≤ s.length := by
  refine ⟨by rw [h.a.opens, List.length_drop], ?_⟩
  have := h.a.known; have := h.b.came; omega
theorem Two.ok (h : Two n K e e' s s' g g' wa wa') (hn : n ≤ 1000) (hK : K ≤ 1000) : e.ok := by
  have := h.a.known; have := h.b.came; have := h.a.came; have := h.a.len; have := h.b.len; have := h.a.win; have := h.a.op
  exact ⟨by omega, by omega, by omega, by omega⟩
theorem Two.gotLen (h : Two n K e e' s s' g g' wa wa') : g.length = e.came := by
  have := h.a.came
  rw [h.a.got, List.length_take]; omega
theorem Two.begins (h : Two n K e e' s s' g g' wa wa') : g = s'.take g.length := by rw [h.gotLen]; exact h.a.got
theorem POk.more {p : Pk} (h : POk e s p) {f : LE} {t : List Str} (h1 : e.came ≤ f.came) : POk f (s ++ t) p := by
  obtain ⟨a, b, c⟩ := h
  refine ⟨a, by omega, c.imp id ?_⟩
  rintro ⟨m, h2, h3⟩
  exact ⟨m, h2, by rw [List.getElem?_append_left (List.getElem?_eq_some_iff.1 h3).1]; exact h3⟩
theorem Two.send (h : Two n K e e' s s' g g' wa wa') (d : Str) (hd : (e.send d).2 = 0) : Two n (K + 1) (e.send d).1 e' (s ++ [d]) s' g g' wa wa' := by
  have ho := h.open
  unfold LE.send at *
  split at hd
  · cases hd
  · rename_i hw
    rw [if_neg hw]
    have h1 := h.a.win; have h2 := h.a.op; have h3 := h.a.len; have h4 := h.b.len; have h5 := h.b.came
    refine ⟨⟨h1, by simp; omega, by simp only; rw [h.a.opens, List.drop_append_of_le_length ho.2], h.a.known, h.a.came, h.a.got, by simp; omega, h.a.way, h.a.all⟩,
      ⟨h.b.win, h.b.op, h.b.opens, h.b.known, by simp; omega, by rw [List.take_append_of_le_length h5]; exact h.b.got, by omega, h.b.way, fun p hp => (h.b.all p hp).more (Nat.le_refl _)⟩⟩
theorem send_not {d : Str} (hd : (e.send d).2 ≠ 0) : (e.send d).1 = e := by
  unfold LE.send at *
  split
  · rfl
  · rename_i h; rw [if_neg h] at hd; exact absurd rfl hd
theorem Two.acked (h : Two n K e e' s s' g g' wa wa') (a : Int) (ha : a ≤ e'.came) : Two n K (e.acked a) e' s s' g g' wa wa' := by
  have ho := h.open
  unfold LE.acked
  split
  · rename_i hc
    have h1 := h.a.win; have h2 := h.a.op
    refine ⟨⟨h1, by simp; omega, ?_, by simp only; omega, h.a.came, h.a.got, h.a.len, h.a.way, h.a.all⟩, ⟨h.b.win, h.b.op, h.b.opens, h.b.known, h.b.came, h.b.got, h.b.len, h.b.way, h.b.all⟩⟩
    simp only
    rw [h.a.opens, List.drop_drop]
    congr 1
    omega
  · exact h
theorem Two.took (h : Two n K e e' s s' g g' wa wa') (p : Pk) (hp : POk e' s' p) : Two n K (e.took p).1 e' s s' (if (e.took p).2.2 then g ++ [(e.took p).2.1] else g) g' wa wa' := by
  unfold LE.took
  split
  · rename_i hc
    have hm : s'[e.came]? = some p.data := by
      rcases hp.2.2 with h0 | ⟨m, h1, h2⟩
      · omega
      · rw [show e.came = m by omega]; exact h2
    have hl := (List.getElem?_eq_some_iff.1 hm).1
    refine ⟨⟨h.a.win, h.a.op, h.a.opens, h.a.known, hl, ?_, h.a.len, h.a.way, h.a.all⟩, ⟨h.b.win, h.b.op, h.b.opens, by have := h.b.known; simp only; omega, h.b.came, h.b.got, h.b.len, h.b.way, fun p hp => ?_⟩⟩
    · simp only [if_true]
      rw [List.take_add_one, hm, h.a.got]; rfl
    · obtain ⟨a, b, c⟩ := h.b.all p hp
      exact ⟨a, by simp only; omega, c⟩
  · exact h
theorem Two.take (h : Two n K e e' s s' g g' wa wa') (p : Pk) (hp : POk e' s' p) : Two n K (e.take p).1 e' s s' (if (e.take p).2.2 then g ++ [(e.take p).2.1] else g) g' wa wa' :=
  (h.acked p.ack hp.2.1).took p hp
theorem took_came (e : LE) (p : Pk) : e.came ≤ (e.take p).1.came ∧ e.known ≤ (e.take p).1.known := by
  unfold LE.take LE.took LE.acked
  split <;> split <;> simp <;> omega
theorem Two.out (h : Two n K e e' s s' g g' wa wa') : ∀ p ∈ e.out, POk e s p := fun p hp => by
  unfold LE.out at hp
  split at hp
  · obtain rfl : p = ⟨0, e.came, []⟩ := by simpa using hp
    exact ⟨by simp, by simp, .inl rfl⟩
  · obtain ⟨i, hi⟩ := List.mem_iff_getElem?.1 hp
    have hl : i < e.opens.length := by rw [← pks_length]; exact (List.getElem?_eq_some_iff.1 hi).1
    have hd := List.getElem?_eq_getElem hl
    rw [pks_get hd] at hi
    obtain rfl := Option.some.inj hi
    refine ⟨by simp, by simp, .inr ⟨e.known + i, by simp, ?_⟩⟩
    rw [← List.getElem?_drop, ← h.a.opens]; exact hd
theorem Two.del (h : Two n K e e' s s' g g' wa wa') {j : Nat} {p : Pk} (hj : e.out[j]? = some p) (hc : e.known + min j e.opens.length ≤ e'.came) (hk : 0 < j → e.came ≤ e'.known) :
    e.known + min (j + 1) e.opens.length ≤ (e'.take p).1.came ∧ e.came ≤ (e'.take p).1.known := by
  have hm := took_came e' p
  have ho := h.symm.open
  have h1 := h.a.came
  have hak : p.ack = e.came → e.came ≤ (e'.take p).1.known := fun ha => by
    unfold LE.take LE.took LE.acked
    split <;> split <;> simp <;> omega
  unfold LE.out at hj
  split at hj
  · rename_i hz
    obtain rfl : (⟨0, e.came, []⟩ : Pk) = p := by
      cases j with
      | zero => simpa using hj
      | succ j => simp at hj
    exact ⟨by omega, hak rfl⟩
  · have hl : j < e.opens.length := by rw [← pks_length]; exact (List.getElem?_eq_some_iff.1 hj).1
    rw [pks_get (List.getElem?_eq_getElem hl)] at hj
    obtain rfl := Option.some.inj hj
    refine ⟨?_, hak rfl⟩
    rcases Nat.lt_or_ge (e.known + j) e'.came with hx | hx
    · omega
    · have hcm : (e'.acked (e.came : Int)).came = e'.came := by unfold LE.acked; split <;> rfl
      have : (e'.take ⟨e.known + j + 1, e.came, e.opens[j]⟩).1.came = e'.came + 1 := by
        unfold LE.take LE.took
        rw [if_pos (by simp only; rw [hcm]; omega)]
        simp [hcm]
      omega
theorem Two.sent (h : Two n K e e' s s' g g' wa wa') (hc : e.known + min e.out.length e.opens.length ≤ e'.came) : s.length ≤ e'.came := by
  have ho := h.open
  rw [out_length] at hc
  omega
theorem idx_ok (N : Int) {l : Nat} (h : 0 < l) : -(l : Int) < N.tmod l ∧ N.tmod l < l ∧ ∃ j : Nat, j < l ∧ (N.tmod l + l).tmod l = j := by
  have h1 : N.tmod l < l := Int.tmod_lt_of_pos _ (by omega)
  have h2 : -(l : Int) < N.tmod l := by have := Int.lt_tmod_of_pos N (show (0 : Int) < l by omega); omega
  have h3 : 0 ≤ (N.tmod l + l).tmod l := Int.tmod_nonneg _ (by omega)
  have h4 : (N.tmod l + l).tmod l < l := Int.tmod_lt_of_pos _ (by omega)
  exact ⟨h2, h1, _, by omega, (Int.toNat_of_nonneg h3).symm⟩
end
end Go.Proofs.Ytodcciahagefnaa
