/-
  Texts that are packed, and read.
-/
import Derived.Test.YtbnahfjhlbibcaaGreatDoorNum
namespace Go.Proofs.YtbnahfjhlbibcaaGreatDoor
open Go.Eng

open Go.Lib
/-! ### Texts, packed -/
abbrev cCol : UInt8 := 58
abbrev cCom : UInt8 := 44
def textF (s : Str) : Str := itoa (s.length : Nat) ++ [cCol] ++ s ++ [cCom]
def listF (l : List Str) : Str := textF (l.flatMap textF)
/-- How many digits a text begins with, seven at most. -/
def kLen (s : Str) : Nat := min 7 (s.findIdx fun b => !isD b)
theorem kLen_le (s : Str) : kLen s ≤ s.length := Nat.le_trans (Nat.min_le_right _ _) List.findIdx_le_length
theorem kLen_7 (s : Str) : kLen s ≤ 7 := Nat.min_le_left _ _
theorem kLen_dig {s : Str} {j : Nat} (h : j < kLen s) : ∀ b, s[j]? = some b → isD b = true := fun b hb => by
  have h2 : j < s.findIdx fun b => !isD b := Nat.lt_of_lt_of_le h (Nat.min_le_right _ _)
  have := List.not_of_lt_findIdx h2
  obtain ⟨hl, rfl⟩ := List.getElem?_eq_some_iff.1 hb
  simpa using this
theorem kLen_eq {s : Str} {k : Nat} (h7 : k ≤ 7) (hk : k ≤ s.length) (hall : ∀ j b, j < k → s[j]? = some b → isD b = true) (hend : k = 7 ∨ k = s.length ∨ ∃ b, s[k]? = some b ∧ isD b = false) : kLen s = k := by
  have hge : k ≤ s.findIdx fun b => !isD b := by
    apply Nat.le_of_not_lt
    intro hlt
    have hlt2 : (s.findIdx fun b => !isD b) < s.length := by omega
    have := List.findIdx_getElem (w := hlt2)
    have h2 := hall _ _ hlt (List.getElem?_eq_getElem hlt2)
    rw [h2] at this
    simp at this
  have hle : (s.findIdx fun b => !isD b) ≤ s.length := List.findIdx_le_length
  unfold kLen
  rcases hend with rfl | rfl | ⟨b, hb, hd⟩
  · omega
  · omega
  · obtain ⟨hl, rfl⟩ := List.getElem?_eq_some_iff.1 hb
    have : (s.findIdx fun b => !isD b) ≤ k := by
      apply Nat.le_of_not_lt
      intro hlt
      have := List.not_of_lt_findIdx hlt
      rw [hd] at this
      simp at this
    omega
def preF (s : Str) : Str := s.take (kLen s)
theorem preF_dig (s : Str) : ∀ b ∈ preF s, isD b = true := fun b hb => by
  obtain ⟨j, hj⟩ := List.mem_iff_getElem?.1 hb
  rw [preF, List.getElem?_take] at hj
  split at hj
  · exact kLen_dig ‹_› b hj
  · cases hj
theorem preF_len (s : Str) : (preF s).length = kLen s := by rw [preF, List.length_take]; have := kLen_le s; omega
/-- What is wrong with how a text begins (the digits and the colon); 0: nothing. -/
def badL (s : Str) : Bool := decide (s[kLen s]? ≠ some cCol ∨ kLen s = 0 ∨ (1 < kLen s ∧ s[0]? = some 48))
def lenF (s : Str) : Int × Str × Int :=
  if kLen s = s.length then (0, [], 10)
  else if badL s = true then (0, [], 11)
  else (valF (preF s), s.drop (kLen s + 1), 0)
def nextF (s : Str) : Str × Str × Int :=
  if kLen s = s.length then ([], [], 10)
  else if badL s = true then ([], [], 11)
  else if (s.drop (kLen s + 1)).length ≤ valF (preF s) then ([], [], 10)
  else if (s.drop (kLen s + 1))[valF (preF s)]? ≠ some cCom then ([], [], 11)
  else ((s.drop (kLen s + 1)).take (valF (preF s)), (s.drop (kLen s + 1)).drop (valF (preF s) + 1), 0)
theorem kLen_dec {u : Nat} (h : u < 10000000) (r : Str) : kLen (decDigits u ++ cCol :: r) = (decDigits u).length := by
  have h7 := dec_len (u := u) (k := 6) h
  refine kLen_eq h7 (by simp) (fun j b hj hb => ?_) (.inr (.inr ⟨cCol, by simp, by decide⟩))
  rw [List.getElem?_append_left hj] at hb
  exact dec_dig u b (List.mem_of_getElem? hb)
theorem preF_dec {u : Nat} (h : u < 10000000) (r : Str) : preF (decDigits u ++ cCol :: r) = decDigits u := by
  rw [preF, kLen_dec h]; simp
theorem badL_dec {u : Nat} (h : u < 10000000) (r : Str) : badL (decDigits u ++ cCol :: r) = false := by
  have hn := List.length_pos_iff.2 (dec_ne u)
  simp only [badL, kLen_dec h, decide_eq_false_iff_not, not_or]
  refine ⟨by simp, by omega, fun ⟨h1, h2⟩ => ?_⟩
  have hu : 10 ≤ u := by
    apply Nat.le_of_not_lt
    intro hu
    rw [decDigits, dif_pos hu] at h1
    simp at h1
  obtain ⟨b, t, e, hb⟩ := dec_head u hu
  rw [e] at h2
  simp at h2
  exact hb h2
theorem textF_eq (t r : Str) : textF t ++ r = decDigits t.length ++ cCol :: (t ++ cCom :: r) := by
  have : itoa (t.length : Nat) = decDigits t.length := itoa_nonneg _
  simp [textF, this]
theorem next_text {t : Str} (h : t.length < 10000000) (r : Str) : nextF (textF t ++ r) = (t, r, 0) := by
  rw [textF_eq]
  have hd : (decDigits t.length ++ cCol :: (t ++ cCom :: r)).drop ((decDigits t.length).length + 1) = t ++ cCom :: r := by simp [List.drop_append]
  have hk : (decDigits t.length ++ cCol :: (t ++ cCom :: r)).length ≠ (decDigits t.length).length := by simp
  rw [nextF, kLen_dec h, preF_dec h, badL_dec h, dec_val, hd, if_neg (fun e => hk e.symm), if_neg (by decide), if_neg (by simp), if_neg (by simp)]
  simp [List.drop_append]
theorem next_lt {s t r : Str} (h : nextF s = (t, r, 0)) : r.length < s.length := by
  unfold nextF at h
  split at h
  · cases h
  · split at h
    · cases h
    · split at h
      · cases h
      · split at h
        · cases h
        · cases h
          simp only [List.length_drop] at *
          omega
theorem next_err (s : Str) : (nextF s).2.2 = 0 ∨ ((nextF s).1 = [] ∧ (nextF s).2.1 = []) := by
  unfold nextF
  split
  · exact .inr ⟨rfl, rfl⟩
  · split
    · exact .inr ⟨rfl, rfl⟩
    · split
      · exact .inr ⟨rfl, rfl⟩
      · split
        · exact .inr ⟨rfl, rfl⟩
        · exact .inl rfl
theorem textF_len (t : Str) : 3 ≤ (textF t).length := by
  have := List.length_pos_iff.2 (dec_ne t.length)
  have e : itoa (t.length : Nat) = decDigits t.length := itoa_nonneg _
  simp [textF, e]; omega
theorem textF_ne (t r : Str) : textF t ++ r ≠ [] := fun e => by
  have h1 := textF_len t
  have h2 := congrArg List.length e
  rw [List.length_append, List.length_nil] at h2; omega
/-- The texts of a list: none if one of them is wrong. -/
def textsF (s : Str) : Option (List Str) :=
  if h : s = [] then some []
  else match hn : nextF s with
    | (t, r, e) => if he : e = 0 then (textsF r).map (t :: ·) else none
termination_by s.length
decreasing_by subst he; exact next_lt hn
theorem textsF_flat : ∀ (l : List Str), (∀ t ∈ l, t.length < 10000000) → textsF (l.flatMap textF) = some l
  | [], _ => by rw [textsF]; simp
  | t :: l, h => by
    rw [textsF, dif_neg (by rw [List.flatMap_cons]; exact textF_ne _ _)]
    have e : nextF (List.flatMap textF (t :: l)) = (t, l.flatMap textF, 0) := by rw [List.flatMap_cons]; exact next_text (h t (by simp)) _
    split
    rename_i t' r' e' hn
    rw [e] at hn
    cases hn
    rw [dif_pos rfl, textsF_flat l fun u hu => h u (by simp [hu])]
    rfl
/-! ### Readers -/
structure Rdr' where
  rest : Str
  bad : Int
deriving DecidableEq
def Rdr'.text (r : Rdr') : Rdr' × Str :=
  if r.bad ≠ 0 then (r, [])
  else if (nextF r.rest).2.2 ≠ 0 then ({ r with bad := (nextF r.rest).2.2 }, [])
  else ({ r with rest := (nextF r.rest).2.1 }, (nextF r.rest).1)
def Rdr'.num (r : Rdr') : Rdr' × Int :=
  if r.text.1.bad ≠ 0 then (r.text.1, 0)
  else match numF r.text.2 with
    | some n => (r.text.1, n)
    | none => ({ r.text.1 with bad := 11 }, 0)
def Rdr'.list (r : Rdr') : Rdr' × List Str :=
  match textsF r.text.2 with
  | some l => (r.text.1, l)
  | none => ({ r.text.1 with bad := 11 }, [])
def Rdr'.left (r : Rdr') : Int := if r.bad ≠ 0 then 0 else (r.rest.length : Nat)
def Rdr'.fin (r : Rdr') : Int := if r.bad = 0 ∧ r.rest ≠ [] then 12 else r.bad
end Go.Proofs.YtbnahfjhlbibcaaGreatDoor
