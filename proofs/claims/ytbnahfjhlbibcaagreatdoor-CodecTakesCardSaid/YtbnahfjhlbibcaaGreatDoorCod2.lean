/-
  What is read is written as the same bytes: plain.
-/
import Derived.Test.YtbnahfjhlbibcaaGreatDoorCod
namespace Go.Proofs.YtbnahfjhlbibcaaGreatDoor
open Go.Eng

open Go.Lib
/-! ### What is read is written as the same bytes -/
theorem dec_canon : ∀ (k : Nat) (p : Str), p.length = k → p ≠ [] → (∀ b ∈ p, isD b = true) → (1 < p.length → p.head? ≠ some 48) → decDigits (valF p) = p := by
  intro k
  induction k with
  | zero => intro p h hn; exact absurd (List.eq_nil_of_length_eq_zero h) hn
  | succ k ih =>
    intro p hl hn hd hh
    obtain ⟨q, b, rfl⟩ : ∃ q b, p = q ++ [b] := ⟨p.dropLast, p.getLast hn, (List.dropLast_concat_getLast hn).symm⟩
    have hb := hd b (by simp)
    have hb2 : 48 ≤ b.toNat ∧ b.toNat ≤ 57 := by simpa [isD] using hb
    have hof : UInt8.ofNat (48 + (b.toNat - 48)) = b := by rw [show 48 + (b.toNat - 48) = b.toNat by omega]; simp
    rw [valF_snoc]
    by_cases hq : q = []
    · subst hq
      rw [show valF [] = 0 from rfl, decDigits, dif_pos (by omega), Nat.mul_zero, Nat.zero_add, hof]; rfl
    · have h0 : q.head? ≠ some 48 := fun e => hh (by have := List.length_pos_iff.2 hq; simp; omega) (by cases q with | nil => exact absurd rfl hq | cons c r => simpa using e)
      have ihq := ih q (by simp at hl; omega) hq (fun c hc => hd c (by simp [hc])) (fun _ => h0)
      have hv : 1 ≤ valF q := by
        apply Nat.pos_of_ne_zero
        intro e
        rw [e, decDigits, dif_pos (by omega)] at ihq
        exact h0 (by rw [← ihq]; rfl)
      rw [decDigits, dif_neg (by omega), show (10 * valF q + (b.toNat - 48)) / 10 = valF q by omega, show (10 * valF q + (b.toNat - 48)) % 10 = b.toNat - 48 by omega, ihq, hof]
theorem next_inv {s t r : Str} (h : nextF s = (t, r, 0)) : s = textF t ++ r := by
  unfold nextF at h
  split at h
  · cases h
  · split at h
    · cases h
    · rename_i hb
      have hb : badL s = false := by simpa using hb
      split at h
      · cases h
      · rename_i h3
        split at h
        · cases h
        · rename_i h4
          have h4 := Decidable.not_not.1 h4
          simp only [Prod.mk.injEq] at h
          obtain ⟨rfl, rfl, _⟩ := h
          obtain ⟨hc, hk0, hz⟩ := badL_false hb
          have e1 : ((s.drop (kLen s + 1)).take (valF (preF s))).length = valF (preF s) := by rw [List.length_take]; omega
          have hh : 1 < (preF s).length → (preF s).head? ≠ some 48 := fun h1 h2 => hz ⟨by rw [preF_len] at h1; exact h1, by rw [preF, List.head?_take, if_neg hk0, List.head?_eq_getElem?] at h2; exact h2⟩
          rw [textF_eq, e1, dec_canon _ (preF s) rfl (preF_ne hk0) (preF_dig s) hh]
          have e3 : s.drop (kLen s) = 58 :: s.drop (kLen s + 1) := by
            obtain ⟨hl, hx⟩ := List.getElem?_eq_some_iff.1 hc
            rw [List.drop_eq_getElem_cons hl, hx]
          have e4 : (s.drop (kLen s + 1)).drop (valF (preF s)) = 44 :: (s.drop (kLen s + 1)).drop (valF (preF s) + 1) := by
            obtain ⟨hl, hx⟩ := List.getElem?_eq_some_iff.1 h4
            rw [List.drop_eq_getElem_cons hl, hx]
          rw [← e4, List.take_append_drop, ← e3, preF, List.take_append_drop]
theorem next_inv' {s : Str} (h : (nextF s).2.2 = 0) : s = textF (nextF s).1 ++ (nextF s).2.1 := next_inv (t := (nextF s).1) (r := (nextF s).2.1) (by rw [← h])
theorem texts_inv : ∀ (k : Nat) (s : Str) (l : List Str), s.length ≤ k → textsF s = some l → s = flatF l := by
  intro k
  induction k with
  | zero =>
    intro s l hs h
    obtain rfl := List.eq_nil_of_length_eq_zero (show s.length = 0 by omega)
    rw [texts_nil] at h; cases h; rfl
  | succ k ih =>
    intro s l hs h
    by_cases hn : s = []
    · subst hn; rw [texts_nil] at h; cases h; rfl
    · by_cases he : (nextF s).2.2 = 0
      · rw [texts_cons hn he] at h
        have hlt := next_less he
        cases hq : textsF (nextF s).2.1 with
        | none => rw [hq] at h; cases h
        | some q =>
          rw [hq] at h
          simp only [Option.map_some, Option.some.injEq] at h
          subst h
          rw [flat_cons, ← ih _ q (by omega) hq]
          exact next_inv' he
      · rw [texts_bad hn he] at h; cases h
theorem text_inv {r : Rdr'} (h : r.text.1.bad = 0) : r.bad = 0 ∧ r.rest = textF r.text.2 ++ r.text.1.rest := by
  unfold Rdr'.text at h ⊢
  split
  · rename_i hb; rw [if_pos hb] at h; exact absurd h hb
  · rename_i hb
    rw [if_neg hb] at h
    split
    · rename_i he; rw [if_pos he] at h; exact absurd h he
    · rename_i he; exact ⟨by simpa using hb, next_inv' (by simpa using he)⟩
theorem num_inv {r : Rdr'} (h : r.num.1.bad = 0) : r.bad = 0 ∧ inR r.num.2 ∧ r.rest = textF (itoa r.num.2) ++ r.num.1.rest := by
  have h0 : r.text.1.bad = 0 := by
    apply Decidable.not_not.1
    intro hb
    rw [Rdr'.num, if_pos hb] at h; exact hb h
  cases hn : numF r.text.2 with
  | none => rw [num_off h0 hn] at h; cases h
  | some n =>
    rw [num_of h0 hn]
    obtain ⟨h1, h2⟩ := numF_iff.1 hn
    obtain ⟨h3, h4⟩ := text_inv h0
    exact ⟨h3, h1, by rw [h2]; exact h4⟩
theorem list_inv {r : Rdr'} (h : r.list.1.bad = 0) : r.bad = 0 ∧ r.rest = textF (flatF r.list.2) ++ r.list.1.rest := by
  cases hl : textsF r.text.2 with
  | none => rw [list_off hl] at h; cases h
  | some l =>
    rw [list_of hl] at h ⊢
    obtain ⟨h3, h4⟩ := text_inv h
    exact ⟨h3, by rw [← texts_inv _ _ l (Nat.le_refl _) hl]; exact h4⟩
theorem fin_inv {r : Rdr'} (h : r.fin = 0) : r.bad = 0 ∧ r.rest = [] := by
  unfold Rdr'.fin at h
  split at h
  · cases h
  · rename_i hn
    exact ⟨h, Decidable.not_not.1 fun e => hn ⟨h, e⟩⟩
theorem rdL_inv {s : Str} (h : (rdL s).2 = 0) : s = textF (flatF (rdL s).1) := by
  unfold rdL at h ⊢
  split
  · rename_i hf; rw [if_pos hf] at h; exact absurd h hf
  · rename_i hf
    obtain ⟨h1, h2⟩ := fin_inv (Decidable.not_not.1 hf)
    obtain ⟨_, h3⟩ := list_inv h1
    rw [h2, List.append_nil] at h3; exact h3
theorem rdAll_inv {α : Type} {f : Rdr' → Rdr' × α} {g : α → Str} (hf : ∀ s, (f ⟨s, 0⟩).1.fin = 0 → s = g (f ⟨s, 0⟩).2) : ∀ {l : List Str} {r : List α}, rdAll f l = some r → l = r.map g
  | [], r, h => by simp only [rdAll, Option.some.injEq] at h; subst h; rfl
  | s :: l, r, h => by
    rw [rdAll] at h
    split at h
    · cases h
    · rename_i h0
      cases hq : rdAll f l with
      | none => rw [hq] at h; cases h
      | some q =>
        rw [hq] at h
        simp only [Option.map_some, Option.some.injEq] at h
        subst h
        rw [List.map_cons, ← rdAll_inv hf hq, ← hf s (by simpa using h0)]
theorem rdThings_inv {α : Type} {f : Rdr' → Rdr' × α} {g : α → Str} (hf : ∀ s, (f ⟨s, 0⟩).1.fin = 0 → s = g (f ⟨s, 0⟩).2) {s : Str} (h : (rdThings f s).2 = 0) : s = textF (flatF ((rdThings f s).1.map g)) := by
  unfold rdThings at h ⊢
  split
  · rename_i h0; rw [if_pos h0] at h; exact absurd h h0
  · rename_i h0
    rw [if_neg h0] at h
    have e := rdL_inv (Decidable.not_not.1 h0)
    cases hq : rdAll f (rdL s).1 with
    | none => rw [hq] at h; cases h
    | some q =>
      simp only
      rw [← rdAll_inv hf hq]; exact e
theorem tkFile_inv (s : Str) (h : (tkFile ⟨s, 0⟩).1.fin = 0) : s = flatF (fileL (tkFile ⟨s, 0⟩).2) := by
  obtain ⟨h1, h2⟩ := fin_inv h
  obtain ⟨h3, h4⟩ := text_inv h1
  obtain ⟨_, h5⟩ := text_inv h3
  show s = _
  have e : flatF (fileL (tkFile ⟨s, 0⟩).2) = textF (Rdr'.mk s 0).text.2 ++ textF (Rdr'.mk s 0).text.1.text.2 := by simp [fileL, flat_cons, flat_nil, tkFile]
  rw [e]
  have h2 : (Rdr'.mk s 0).text.1.text.1.rest = [] := h2
  rw [h2, List.append_nil] at h4
  rw [h4] at h5; exact h5
theorem tkTg_inv (s : Str) (h : (tkTg ⟨s, 0⟩).1.fin = 0) : s = flatF (tkTg ⟨s, 0⟩).2.L := by
  obtain ⟨h1, h2⟩ := fin_inv h
  obtain ⟨h3, h4⟩ := list_inv h1
  obtain ⟨h5, h6⟩ := list_inv h3
  obtain ⟨h7, h8⟩ := text_inv h5
  obtain ⟨_, h9⟩ := text_inv h7
  have e : flatF (tkTg ⟨s, 0⟩).2.L = textF (Rdr'.mk s 0).text.2 ++ (textF (Rdr'.mk s 0).text.1.text.2 ++ (textF (flatF (Rdr'.mk s 0).text.1.text.1.list.2) ++ textF (flatF (Rdr'.mk s 0).text.1.text.1.list.1.list.2))) := by simp [PT.L, flat_cons, flat_nil, tkTg]
  rw [e]
  have h2 : (Rdr'.mk s 0).text.1.text.1.list.1.list.1.rest = [] := h2
  rw [h2, List.append_nil] at h4
  rw [← h4, ← h6, ← h8]; exact h9
theorem rdFiles_inv {s : Str} (h : (rdFiles s).2 = 0) : s = filesT (rdFiles s).1 := rdThings_inv tkFile_inv h
theorem rdGraph_inv {s : Str} (h : (rdGraph s).2 = 0) : s = graphT (rdGraph s).1 := rdThings_inv tkTg_inv h
/-- Nothing is wrong. -/
def Scn.ok (s : Scn) : Prop := s.r.bad = 0 ∧ s.odd = false
theorem t_text {s : Scn} (h : s.text.1.ok) : s.ok ∧ s.r.rest = textF s.text.2 ++ s.text.1.r.rest := ⟨⟨(text_inv h.1).1, h.2⟩, (text_inv h.1).2⟩
theorem t_num {s : Scn} (h : s.num.1.ok) : s.ok ∧ inR s.num.2 ∧ s.r.rest = textF (itoa s.num.2) ++ s.num.1.r.rest := ⟨⟨(num_inv h.1).1, h.2⟩, (num_inv h.1).2.1, (num_inv h.1).2.2⟩
theorem t_list {s : Scn} (h : s.list.1.ok) : s.ok ∧ s.r.rest = textF (flatF s.list.2) ++ s.list.1.r.rest := ⟨⟨(list_inv h.1).1, h.2⟩, (list_inv h.1).2⟩
theorem or_off {a : Bool} {e : Int} (h : (a || decide (e ≠ 0)) = false) : a = false ∧ e = 0 := by
  rw [Bool.or_eq_false_iff] at h
  exact ⟨h.1, by simpa using h.2⟩
theorem t_files {s : Scn} (h : s.files.1.ok) : s.ok ∧ s.r.rest = textF (filesT s.files.2) ++ s.files.1.r.rest := by
  obtain ⟨h1, h2⟩ := text_inv h.1
  obtain ⟨h3, h4⟩ := or_off h.2
  refine ⟨⟨h1, h3⟩, ?_⟩
  rw [show filesT s.files.2 = s.r.text.2 from (rdFiles_inv h4).symm]; exact h2
theorem t_graph {s : Scn} (h : s.graph.1.ok) : s.ok ∧ s.r.rest = textF (graphT s.graph.2) ++ s.graph.1.r.rest := by
  obtain ⟨h1, h2⟩ := text_inv h.1
  obtain ⟨h3, h4⟩ := or_off h.2
  refine ⟨⟨h1, h3⟩, ?_⟩
  rw [show graphT s.graph.2 = s.r.text.2 from (rdGraph_inv h4).symm]; exact h2
theorem t_res {s : Scn} (h : s.res.1.ok) : s.ok ∧ inR s.res.2.err ∧ s.r.rest = flatF s.res.2.L ++ s.res.1.r.rest := by
  obtain ⟨h1, e1⟩ := t_files (s := s.num.1.text.1.text.1) h
  obtain ⟨h2, e2⟩ := t_text h1
  obtain ⟨h3, e3⟩ := t_text h2
  obtain ⟨h4, hi, e4⟩ := t_num h3
  refine ⟨h4, hi, ?_⟩
  rw [e4, e3, e2, e1]
  simp [PR.L, Scn.res, flat_cons, flat_nil]
theorem t_op {s : Scn} (h : s.op.1.ok) : s.ok ∧ s.op.2.inr ∧ s.r.rest = flatF s.op.2.L ++ s.op.1.r.rest := by
  obtain ⟨h1, hi1, e1⟩ := t_res (s := s.text.1.graph.1.files.1.text.1.num.1) h
  obtain ⟨h2, hi2, e2⟩ := t_num h1
  obtain ⟨h3, e3⟩ := t_text h2
  obtain ⟨h4, e4⟩ := t_files h3
  obtain ⟨h5, e5⟩ := t_graph h4
  obtain ⟨h6, e6⟩ := t_text h5
  refine ⟨h6, ⟨hi2, hi1⟩, ?_⟩
  rw [e6, e5, e4, e3, e2, e1]
  simp [PO.L, Scn.op, flat_cons]
theorem t_outc {s : Scn} (h : s.outc.1.ok) : s.ok ∧ (inR s.outc.2.kind ∧ inR s.outc.2.err ∧ inR s.outc.2.used) ∧ s.r.rest = flatF s.outc.2.L ++ s.outc.1.r.rest := by
  obtain ⟨h1, hi1, e1⟩ := t_num (s := s.num.1.files.1.text.1.num.1.text.1) h
  obtain ⟨h2, e2⟩ := t_text h1
  obtain ⟨h3, hi3, e3⟩ := t_num h2
  obtain ⟨h4, e4⟩ := t_text h3
  obtain ⟨h5, e5⟩ := t_files h4
  obtain ⟨h6, hi6, e6⟩ := t_num h5
  refine ⟨h6, ⟨hi6, hi3, hi1⟩, ?_⟩
  rw [e6, e5, e4, e3, e2, e1]
  simp [PU.L, Scn.outc, flat_cons, flat_nil]
theorem t_task {s : Scn} (h : s.task.1.ok) : s.ok ∧ s.task.2.inr ∧ s.r.rest = flatF s.task.2.L ++ s.task.1.r.rest := by
  obtain ⟨h1, hi1, e1⟩ := t_num (s := s.text.1.num.1.text.1.files.1.list.1) h
  obtain ⟨h2, e2⟩ := t_list h1
  obtain ⟨h3, e3⟩ := t_files h2
  obtain ⟨h4, e4⟩ := t_text h3
  obtain ⟨h5, hi5, e5⟩ := t_num h4
  obtain ⟨h6, e6⟩ := t_text h5
  refine ⟨h6, ⟨hi5, hi1⟩, ?_⟩
  rw [e6, e5, e4, e3, e2, e1]
  simp [PK.L, Scn.task, flat_cons, flat_nil]
theorem t_rep {s : Scn} (h : s.rep.1.ok) : s.ok ∧ s.rep.2.inr ∧ s.r.rest = flatF s.rep.2.L ++ s.rep.1.r.rest := by
  obtain ⟨h1, hi1, e1⟩ := t_outc (s := s.text.1.num.1) h
  obtain ⟨h5, hi5, e5⟩ := t_num h1
  obtain ⟨h6, e6⟩ := t_text h5
  refine ⟨h6, ⟨hi5, hi1⟩, ?_⟩
  rw [e6, e5, e1]
  simp [PP.L, Scn.rep, flat_cons]
theorem sfin_inv {s : Scn} (h : s.fin = 0) : s.ok ∧ s.r.rest = [] := by
  unfold Scn.fin at h
  split at h
  · rename_i hn; exact absurd h hn
  · rename_i hn
    split at h
    · cases h
    · rename_i ho
      obtain ⟨h1, h2⟩ := fin_inv (Decidable.not_not.1 hn)
      exact ⟨⟨h1, by simpa using ho⟩, h2⟩
theorem done_inv {α : Type} {z : α} {x : Scn × α} (h : (doneF z x).2 = 0) : x.1.ok ∧ x.1.r.rest = [] ∧ (doneF z x).1 = x.2 := by
  unfold doneF at h ⊢
  split
  · rename_i hn; rw [if_pos hn] at h; exact absurd h hn
  · rename_i hn
    obtain ⟨h1, h2⟩ := sfin_inv (Decidable.not_not.1 hn)
    exact ⟨h1, h2, rfl⟩
theorem rdTask_inv {s : Str} (h : (rdTask s).2 = 0) : s = flatF (rdTask s).1.L ∧ (rdTask s).1.inr := by
  obtain ⟨h1, h2, h3⟩ := done_inv h
  obtain ⟨_, hi, e⟩ := t_task h1
  rw [h2, List.append_nil] at e
  rw [rdTask, h3]
  exact ⟨e, hi⟩
theorem rdRep_inv {s : Str} (h : (rdRep s).2 = 0) : s = flatF (rdRep s).1.L ∧ (rdRep s).1.inr := by
  obtain ⟨h1, h2, h3⟩ := done_inv h
  obtain ⟨_, hi, e⟩ := t_rep h1
  rw [h2, List.append_nil] at e
  rw [rdRep, h3]
  exact ⟨e, hi⟩
theorem rdOp_inv {s : Str} (h : (rdOp s).2 = 0) : s = flatF (rdOp s).1.L ∧ (rdOp s).1.inr := by
  obtain ⟨h1, h2, h3⟩ := done_inv h
  obtain ⟨_, hi, e⟩ := t_op h1
  rw [h2, List.append_nil] at e
  rw [rdOp, h3]
  exact ⟨e, hi⟩
theorem rdEv_inv {s : Str} (h : (rdEv s).2 = 0) : s = flatF (evL (rdEv s).1.1 (rdEv s).1.2) ∧ inR (rdEv s).1.1 ∧ (rdEv s).1.2.inr := by
  obtain ⟨h1, h2, h3⟩ := done_inv h
  obtain ⟨h4, hi, e⟩ := t_op (s := (take0 s).num.1) h1
  obtain ⟨_, hi2, e2⟩ := t_num h4
  have h2 : (take0 s).num.1.op.1.r.rest = [] := h2
  rw [h2, List.append_nil] at e
  rw [rdEv, h3]
  refine ⟨?_, hi2, hi⟩
  rw [e] at e2
  rw [evL, flat_cons]; exact e2
theorem rdOps_inv : ∀ {l : List Str} {r : List PO}, rdOps l = some r → l = r.map (fun x => flatF x.L) ∧ ∀ x ∈ r, x.inr
  | [], r, h => by simp only [rdOps, Option.some.injEq] at h; subst h; simp
  | s :: l, r, h => by
    rw [rdOps] at h
    split at h
    · cases h
    · rename_i h0
      obtain ⟨e1, e2⟩ := rdOp_inv (Decidable.not_not.1 h0)
      cases hq : rdOps l with
      | none => rw [hq] at h; cases h
      | some q =>
        rw [hq] at h
        simp only [Option.map_some, Option.some.injEq] at h
        subst h
        obtain ⟨e3, e4⟩ := rdOps_inv hq
        refine ⟨by rw [List.map_cons, ← e3, ← e1], fun x hx => ?_⟩
        rcases List.mem_cons.1 hx with rfl | hx
        · exact e2
        · exact e4 x hx
theorem rdTable_inv {s : Str} (h : (rdTable s).2 = 0) : s = tableT (rdTable s).1 ∧ ∀ x ∈ (rdTable s).1, x.inr := by
  unfold rdTable at h ⊢
  split
  · rename_i h0; rw [if_pos h0] at h; exact absurd h h0
  · rename_i h0
    rw [if_neg h0] at h
    have e := rdL_inv (Decidable.not_not.1 h0)
    cases hq : rdOps (rdL s).1 with
    | none => rw [hq] at h; cases h
    | some q =>
      obtain ⟨e3, e4⟩ := rdOps_inv hq
      exact ⟨by rw [tableT, ← e3]; exact e, e4⟩
end Go.Proofs.YtbnahfjhlbibcaaGreatDoor
