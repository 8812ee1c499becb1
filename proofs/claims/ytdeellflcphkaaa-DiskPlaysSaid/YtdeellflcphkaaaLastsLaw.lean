/-
  Plain laws: what was synced lasts.
-/
import Derived.Test.YtdeellflcphkaaaDiesLaw
namespace Go.Proofs.Ytdeellflcphkaaa
open Go.Eng


abbrev nw : Str := [110, 101, 119]
abbrev od : Str := [111, 108, 100]
/-- The new file: what is firm, and what was laid behind it since. -/
abbrev nF (fm mo : Str) : Fi := ⟨fm ++ mo, fm.length⟩
def lS (fm mo : Str) (i : Nat) : Dk := ⟨1048576, if i = 0 then [] else [(nw, nF fm mo)], (fm ++ mo).length, 0, false⟩
theorem lS_good {fm mo : Str} {i : Nat} (h : (fm ++ mo).length ≤ 1000000) (h0 : i = 0 → fm = [] ∧ mo = []) : (lS fm mo i).good := by
  unfold lS
  by_cases hi : i = 0
  · obtain ⟨rfl, rfl⟩ := h0 hi
    rw [if_pos hi]; exact ⟨keyed1_nil, show (0 : Int) ≤ 0 by decide, show (0 : Int) ≤ 9223372036854775807 by decide, show (1 : Int) ≤ 1048576 by decide, show (1048576 : Int) ≤ 16777216 by decide, rfl, show (0 : Int) ≤ 1048576 by decide, by simp, by simp⟩
  · rw [if_neg hi]; exact ⟨by simp [Keyed1], show (0 : Int) ≤ 0 by decide, show (0 : Int) ≤ 9223372036854775807 by decide, show (1 : Int) ≤ 1048576 by decide, show (1048576 : Int) ≤ 16777216 by decide, by simp [lenM], by simp only; omega, by simp [Fi.fine]; omega, by simp [badN]⟩
theorem lS_get {fm mo : Str} {i : Nat} (h0 : i = 0 → fm = [] ∧ mo = []) : (lS fm mo i).get nw = nF fm mo := by
  unfold Dk.get lS
  by_cases hi : i = 0
  · obtain ⟨rfl, rfl⟩ := h0 hi; simp [hi, mget]
  · simp [hi, mget]
theorem lS_append {fm mo x : Str} {i : Nat} (h : (fm ++ mo).length ≤ 200000) (h0 : i = 0 → fm = [] ∧ mo = []) (hx : x.length ≤ 1000) : (lS fm mo i).append nw x = (lS fm (mo ++ x) (i + 1), 0) := by
  have hw : wrongE (lS fm mo i).dead [nw] = 0 := show wrongE false [nw] = 0 by decide
  have hl : ¬ (lS fm mo i).limit - (lS fm mo i).size < (x.length : Nat) := by show ¬ (1048576 : Int) - ((fm ++ mo).length : Nat) < _; omega
  have ha : (lS fm mo i).act = lS fm mo i := if_neg (show ¬ (0 : Int) < 0 by decide)
  have hd : (lS fm mo i).dat x = x := by rw [Dk.dat, ha]; rfl
  rw [Dk.append, if_pos hw, if_neg hl, hd, ha, lS_get h0]
  refine Prod.ext (dk_eq rfl ?_ ?_ rfl rfl) rfl
  · rw [if_neg (by omega)]
    show mput (lS fm mo i).m nw ⟨fm ++ mo ++ x, fm.length⟩ = [(nw, nF fm (mo ++ x))]
    rw [List.append_assoc]
    unfold lS
    by_cases hi : i = 0 <;> simp [hi, mput]
  · rw [lS_get h0]
    show ((fm ++ mo).length : Int) + ((fm ++ mo ++ x).length - (fm ++ mo).length) = ((fm ++ (mo ++ x)).length : Nat)
    simp only [List.length_append]; omega
theorem find_here {d : Dk} {s : Str} {f : Fi} (hd : d.dead = false) (hs : badN s = false) (hm : mget d.m s = some f) : d.find s = (f, 0) := by
  have hw : wrongE d.dead [s] = 0 := by rw [hd]; simp [wrongE, hs]
  rw [Dk.find, if_pos hw, hm]
theorem lS_sync {fm mo : Str} {i : Nat} (hi : i ≠ 0) : (lS fm mo i).sync nw = (lS (fm ++ mo) [] i, 0) := by
  have hf : (lS fm mo i).find nw = (nF fm mo, 0) := find_here rfl (by decide) (by simp [lS, hi, mget])
  have ha : (lS fm mo i).act = lS fm mo i := if_neg (show ¬ (0 : Int) < 0 by decide)
  have hg : (lS fm mo i).get nw = nF fm mo := lS_get (fun h => absurd h hi)
  rw [Dk.sync, hf, if_pos rfl, ha, if_neg (show ¬ (lS fm mo i).dead = true from Bool.false_ne_true)]
  refine Prod.ext (dk_eq rfl ?_ ?_ rfl rfl) rfl
  · rw [if_neg hi]
    show mput (lS fm mo i).m nw ⟨fm ++ mo, ((fm ++ mo).length : Nat)⟩ = [(nw, nF (fm ++ mo) [])]
    simp [lS, hi, mput]
  · rw [hg]
    show ((fm ++ mo).length : Int) + ((fm ++ mo).length - (fm ++ mo).length) = ((fm ++ mo ++ []).length : Nat)
    simp
/-- With the old file beside it. -/
def lT (fm mo : Str) (fo armed : Int) (dead : Bool) : Dk := ⟨1048576, [(nw, nF fm mo), (od, ⟨[120], fo⟩)], (fm ++ mo).length + 1, armed, dead⟩
theorem lT_good {fm mo : Str} {fo armed : Int} {dead : Bool} (h : (fm ++ mo).length ≤ 1000000) (h0 : 0 ≤ armed) (h1 : armed ≤ 9223372036854775807) (h2 : fo = 0 ∨ fo = 1) : (lT fm mo fo armed dead).good := by
  unfold lT
  refine ⟨by simp [Keyed1], h0, h1, show (1 : Int) ≤ 1048576 by decide, show (1048576 : Int) ≤ 16777216 by decide, by simp [lenM], by simp only; omega, ?_, by simp [badN]⟩
  intro q hq
  rcases List.mem_cons.1 hq with rfl | hq
  · exact ⟨by simp only; omega, by simp only [List.length_append]; omega⟩
  · rcases List.mem_singleton.1 hq with rfl
    rcases h2 with rfl | rfl <;> exact ⟨by decide, by decide⟩
theorem lT_append {fm mo : Str} {i : Nat} (h : (fm ++ mo).length ≤ 200000) (hi : i ≠ 0) : (lS fm mo i).append od [120] = (lT fm mo 0 0 false, 0) := by
  have hw : wrongE (lS fm mo i).dead [od] = 0 := show wrongE false [od] = 0 by decide
  have hl : ¬ (lS fm mo i).limit - (lS fm mo i).size < (([120] : Str).length : Nat) := by show ¬ (1048576 : Int) - ((fm ++ mo).length : Nat) < 1; omega
  have ha : (lS fm mo i).act = lS fm mo i := if_neg (show ¬ (0 : Int) < 0 by decide)
  have hd : (lS fm mo i).dat [120] = [120] := by rw [Dk.dat, ha]; rfl
  have hg : (lS fm mo i).get od = noF := by simp [Dk.get, lS, hi, mget]
  rw [Dk.append, if_pos hw, if_neg hl, hd, ha, hg]
  refine Prod.ext (dk_eq rfl ?_ ?_ rfl rfl) rfl
  · show mput (lS fm mo i).m od ⟨[120], 0⟩ = _
    simp [lS, hi, mput]
  · rw [hg]
    show ((fm ++ mo).length : Int) + ((1 : Nat) - (0 : Nat)) = _
    simp
theorem lT_sync (fm mo : Str) : (lT fm mo 0 0 false).sync od = (lT fm mo 1 0 false, 0) := by
  have hf : (lT fm mo 0 0 false).find od = (⟨[120], 0⟩, 0) := find_here rfl (by decide) (by simp [lT, mget])
  have ha : (lT fm mo 0 0 false).act = lT fm mo 0 0 false := if_neg (show ¬ (0 : Int) < 0 by decide)
  have hg : (lT fm mo 0 0 false).get od = ⟨[120], 0⟩ := by simp [Dk.get, lT, mget]
  rw [Dk.sync, hf, if_pos rfl, ha, if_neg (show ¬ (lT fm mo 0 0 false).dead = true from Bool.false_ne_true)]
  refine Prod.ext (dk_eq rfl ?_ ?_ rfl rfl) rfl
  · show mput (lT fm mo 0 0 false).m od ⟨[120], 1⟩ = _
    simp [lT, mput]
  · rw [hg]
    show ((fm ++ mo).length : Int) + 1 + ((1 : Nat) - (1 : Nat)) = _
    simp
/-- Renamed. -/
def lU (fm mo : Str) (armed : Int) : Dk := ⟨1048576, [(od, nF fm mo)], (fm ++ mo).length, armed, false⟩
theorem lT_rename {fm mo : Str} {A : Int} (h0 : 0 ≤ A) : (lT fm mo 1 A false).rename nw od = if A = 1 then (lT fm mo 1 0 true, 40) else (lU fm mo (max (A - 1) 0), 0) := by
  have hw : wrongE (lT fm mo 1 A false).dead [nw, od] = 0 := show wrongE false [nw, od] = 0 by decide
  have hf : (lT fm mo 1 A false).find nw = (nF fm mo, 0) := find_here rfl (by decide) (by simp [lT, mget])
  rw [Dk.rename, if_pos hw, if_neg (by decide), hf, if_pos rfl]
  have hact : (lT fm mo 1 A false).act = if A = 1 then lT fm mo 1 0 true else lT fm mo 1 (max (A - 1) 0) false := by
    unfold Dk.act
    by_cases hA : 0 < A
    · rw [if_pos (show 0 < (lT fm mo 1 A false).armed from hA)]
      by_cases h1 : A = 1
      · rw [if_pos h1]; subst h1; rfl
      · rw [if_neg h1]
        exact dk_eq rfl rfl rfl (by show A - 1 = _; omega) (by show decide (A - 1 = 0) = false; exact decide_eq_false (by omega))
    · rw [if_neg (show ¬ 0 < (lT fm mo 1 A false).armed from hA), if_neg (by omega)]
      exact dk_eq rfl rfl rfl (by show A = _; omega) rfl
  rw [hact]
  by_cases h1 : A = 1
  · rw [if_pos h1, if_pos h1, if_pos (show (lT fm mo 1 0 true).dead = true from rfl)]
  · rw [if_neg h1, if_neg h1, if_neg (show ¬ (lT fm mo 1 (max (A - 1) 0) false).dead = true from Bool.false_ne_true)]
    have hg1 : (lT fm mo 1 (max (A - 1) 0) false).get nw = nF fm mo := by simp [Dk.get, lT, mget]
    refine Prod.ext (dk_eq rfl ?_ ?_ rfl rfl) rfl
    · show mput (mdel (lT fm mo 1 (max (A - 1) 0) false).m nw) od (nF fm mo) = _
      simp [lT, mdel, mput]
    · have hg2 : ((lT fm mo 1 (max (A - 1) 0) false).take nw).get od = ⟨[120], 1⟩ := by simp [Dk.get, Dk.take, lT, mdel, mget]
      rw [hg2]
      show ((lT fm mo 1 (max (A - 1) 0) false).size - ((lT fm mo 1 (max (A - 1) 0) false).get nw).data.length) + _ = _
      rw [hg1]
      show ((fm ++ mo).length : Int) + 1 - (fm ++ mo).length + ((fm ++ mo).length - (1 : Nat)) = _
      omega
/-- How much of what was not synced is left. -/
def kept (mo : Str) (k : Int) : Nat := ((max k 0) % ((mo.length : Int) + 1)).toNat
theorem kept_le (mo : Str) (k : Int) : kept mo k ≤ mo.length := by
  have a := Int.emod_nonneg (max k 0) (show (mo.length : Int) + 1 ≠ 0 by omega)
  have b := Int.emod_lt_of_pos (max k 0) (show 0 < (mo.length : Int) + 1 by omega)
  unfold kept; omega
theorem nF_crash (fm mo : Str) (k : Int) (d : Dk) (s : Str) (hg : d.get s = nF fm mo) : ∃ ks, d.crash1 s [k] = (if mo = [] then (d, [k]) else (d.lay s (nF (fm ++ mo.take (kept mo k)) []), [])) ∧ ks = (d.crash1 s [k]).2 := by
  refine ⟨_, ?_, rfl⟩
  unfold Dk.crash1
  rw [hg]
  have hn : (((nF fm mo).data.length : Int) - (nF fm mo).firm) = mo.length := by simp only [List.length_append]; omega
  rw [hn]
  by_cases h : mo = []
  · rw [if_pos h, if_pos (by rw [h]; rfl)]
  · have hl : mo.length ≠ 0 := fun e => h (List.length_eq_zero_iff.1 e)
    rw [if_neg h, if_neg (by omega)]
    have a := Int.emod_nonneg (max k 0) (show (mo.length : Int) + 1 ≠ 0 by omega)
    have e : (((nF fm mo).firm + (max ([k].headD 0) 0) % ((mo.length : Int) + 1)).toNat) = fm.length + kept mo k := by
      unfold kept; simp only [List.headD_cons]; omega
    have e2 : (nF fm mo).firm + (max ([k].headD 0) 0) % ((mo.length : Int) + 1) = ((fm ++ mo.take (kept mo k)).length : Nat) := by
      have := kept_le mo k
      simp only [List.length_append, List.length_take, List.headD_cons]
      unfold kept at this ⊢; omega
    rw [e, e2]
    have e3 : (nF fm mo).data.take (fm.length + kept mo k) = fm ++ mo.take (kept mo k) := by
      show (fm ++ mo).take _ = _
      rw [List.take_append]; simp [List.take_of_length_le]
    rw [e3]
    show _ = (d.lay s ⟨fm ++ mo.take (kept mo k) ++ [], ((fm ++ mo.take (kept mo k)).length : Nat)⟩, [])
    rw [List.append_nil]; rfl
end Go.Proofs.Ytdeellflcphkaaa
