/-
  Plain laws: a disk that is armed.
-/
import Derived.Test.YtdeellflcphkaaaOne
namespace Go.Proofs.Ytdeellflcphkaaa
open Go.Eng


/-- Behind j appends of nothing. -/
def dS (A : Int) (j : Nat) : Dk := ⟨1000, if j = 0 then [] else [([97], ⟨[], 0⟩)], 0, max (A - j) 0, decide (1 ≤ A ∧ A ≤ j)⟩
theorem dS_good {A : Int} (h0 : 0 ≤ A) (h1 : A ≤ 9223372036854775807) (j : Nat) : (dS A j).good := by
  unfold dS
  by_cases hj : j = 0
  · rw [if_pos hj]; exact ⟨keyed1_nil, by simp only; omega, by simp only; omega, show (1 : Int) ≤ 1000 by decide, show (1000 : Int) ≤ 16777216 by decide, rfl, show (0 : Int) ≤ 1000 by decide, by simp, by simp⟩
  · rw [if_neg hj]; exact ⟨by simp [Keyed1], by simp only; omega, by simp only; omega, show (1 : Int) ≤ 1000 by decide, show (1000 : Int) ≤ 16777216 by decide, rfl, show (0 : Int) ≤ 1000 by decide, by simp [Fi.fine], by simp [badN]⟩
theorem dk_eq {a a' : Int} {m m' : List (Str × Fi)} {s s' c c' : Int} {b b' : Bool} (h1 : a = a') (h2 : m = m') (h3 : s = s') (h4 : c = c') (h5 : b = b') : (⟨a, m, s, c, b⟩ : Dk) = ⟨a', m', s', c', b'⟩ := by subst h1 h2 h3 h4 h5; rfl
theorem dS_get (A : Int) (j : Nat) : (dS A j).get [97] = noF := by
  unfold Dk.get dS
  by_cases hj : j = 0 <;> simp [hj, mget]
theorem dS_put (A : Int) (j : Nat) : mput (dS A j).m [97] (⟨[], 0⟩ : Fi) = [([97], ⟨[], 0⟩)] := by
  unfold dS
  by_cases hj : j = 0 <;> simp [hj, mput]
theorem dS_append {A : Int} (h0 : 0 ≤ A) (j : Nat) : (dS A j).append [97] [] = (dS A (j + 1), if 1 ≤ A ∧ A ≤ j + 1 then 40 else 0) := by
  by_cases hd : 1 ≤ A ∧ A ≤ j
  · have hw : wrongE (dS A j).dead [[97]] = 40 := by rw [wrongE, if_pos]; exact decide_eq_true hd
    rw [Dk.append, if_neg (by rw [hw]; decide), hw, if_pos (by omega)]
    refine Prod.ext ?_ rfl
    refine dk_eq rfl ?_ rfl ?_ ?_
    · rw [if_neg (by omega), if_neg (by omega)]
    · omega
    · rw [decide_eq_true hd, decide_eq_true (by omega)]
  · have hdd : (dS A j).dead = false := decide_eq_false hd
    have hw : wrongE (dS A j).dead [[97]] = 0 := by rw [hdd]; decide
    have hl : ¬ (dS A j).limit - (dS A j).size < (([] : Str).length : Nat) := by show ¬ (1000 : Int) - 0 < 0; omega
    have hdat : (dS A j).dat [] = [] := by unfold Dk.dat; split <;> rfl
    rw [Dk.append, if_pos hw, if_neg hl, dS_get, hdat]
    have hg : (dS A j).act.get [97] = noF := by rw [act_get, dS_get]
    have ha : (dS A j).act.armed = max (A - (j + 1 : Nat)) 0 ∧ (dS A j).act.dead = decide (1 ≤ A ∧ A ≤ (j + 1 : Nat)) := by
      unfold Dk.act
      split
      · rename_i hp
        have hp' : 0 < max (A - j) 0 := hp
        exact ⟨by show max (A - j) 0 - 1 = _; omega, by show decide (max (A - j) 0 - 1 = 0) = _; exact decide_eq_decide.2 (by omega)⟩
      · rename_i hp
        have hp' : ¬ 0 < max (A - j) 0 := hp
        exact ⟨by show max (A - j) 0 = _; omega, by rw [hdd]; exact (decide_eq_false (by omega)).symm⟩
    refine Prod.ext ?_ ?_
    · refine dk_eq ?_ ?_ ?_ ha.1 ha.2
      · rw [act_limit]; rfl
      · rw [act_m, if_neg (by omega)]; exact dS_put A j
      · rw [act_size, hg]; rfl
    · show deadE (dS A j).act.dead = _
      rw [ha.2, deadE]
      by_cases h : 1 ≤ A ∧ A ≤ ((j + 1 : Nat) : Int)
      · rw [decide_eq_true h, if_pos rfl, if_pos (by omega)]
      · rw [decide_eq_false h, if_neg (by decide), if_neg (by omega)]
theorem dS_sync {A : Int} {j : Nat} (h : 1 ≤ A ∧ A ≤ j) : (dS A j).sync [97] = (dS A j, 40) := by
  have hw : wrongE (dS A j).dead [[97]] = 40 := by rw [wrongE, if_pos]; exact decide_eq_true h
  have hf : (dS A j).find [97] = (noF, 40) := by rw [Dk.find, hw, if_neg (by decide)]
  rw [Dk.sync, hf, if_neg (by decide)]
theorem dS_crash (A : Int) (j : Nat) : (dS A j).crash [] = { dS A j with dead := false, armed := 0 } := by
  by_cases hj : j = 0
  · rw [Dk.crash, names_none (by simp [dS, hj])]; rfl
  · rw [Dk.crash, names_one (k := [97]) (f := ⟨[], 0⟩) (by simp [dS, hj])]
    have : (dS A j).crash1 [97] [] = (dS A j, []) := by rw [Dk.crash1, dS_get, if_pos (by decide)]
    simp only [crashL, this]
theorem dS_last (A : Int) (j : Nat) : (({ dS A j with dead := false, armed := 0 } : Dk).append [97] [120]).2 = 0 := by
  have hw : wrongE ({ dS A j with dead := false, armed := 0 } : Dk).dead [[97]] = 0 := show wrongE false [[97]] = 0 by decide
  have hl : ¬ ({ dS A j with dead := false, armed := 0 } : Dk).limit - ({ dS A j with dead := false, armed := 0 } : Dk).size < (([120] : Str).length : Nat) := by show ¬ (1000 : Int) - 0 < 1; omega
  rw [Dk.append, if_pos hw, if_neg hl]; rfl
end Go.Proofs.Ytdeellflcphkaaa
