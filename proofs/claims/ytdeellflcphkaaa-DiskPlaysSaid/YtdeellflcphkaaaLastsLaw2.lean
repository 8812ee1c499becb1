/-
  Plain laws: what is left behind a crash.
-/
import Derived.Test.YtdeellflcphkaaaLastsLaw
import Derived.Test.YtdeellflcphkaaaEngKeys
namespace Go.Proofs.Ytdeellflcphkaaa
open Go.Eng


/-- What is left of what was not synced. -/
def rest (mo : Str) (k : Int) : Str := mo.take (kept mo k)
theorem rest_le (mo : Str) (k : Int) : (rest mo k).length ≤ mo.length := by rw [rest, List.length_take]; omega
theorem names_lT (fm mo : Str) (fo a : Int) (b : Bool) : (lT fm mo fo a b).names = [nw, od] := by
  show ([nw, od] : List Str).mergeSort leB = [nw, od]
  exact List.mergeSort_of_pairwise (by simp [leB]; decide)
theorem lay_lT (fm mo X : Str) (fo a : Int) (b : Bool) : (lT fm mo fo a b).lay nw (nF X []) = lT X [] fo a b := by
  have hg : (lT fm mo fo a b).get nw = nF fm mo := by simp [Dk.get, lT, mget]
  refine dk_eq rfl ?_ ?_ rfl rfl
  · show mput (lT fm mo fo a b).m nw (nF X []) = _
    simp [lT, mput]
  · rw [hg]
    show ((fm ++ mo).length : Int) + 1 + ((X ++ []).length - (fm ++ mo).length) = _
    omega
theorem lT_skip (fm mo : Str) (a : Int) (b : Bool) (ks : List Int) : (lT fm mo 1 a b).crash1 od ks = (lT fm mo 1 a b, ks) := by
  have hg : (lT fm mo 1 a b).get od = ⟨[120], 1⟩ := by simp [Dk.get, lT, mget]
  rw [Dk.crash1, hg, if_pos (by decide)]
theorem lT_crash (fm mo : Str) (k : Int) : (lT fm mo 1 0 true).crash [k] = lT (fm ++ rest mo k) [] 1 0 false := by
  obtain ⟨ks, h1, _⟩ := nF_crash fm mo k (lT fm mo 1 0 true) nw (by simp [Dk.get, lT, mget])
  rw [Dk.crash, names_lT]
  show ({ (((lT fm mo 1 0 true).crash1 nw [k]).1.crash1 od ((lT fm mo 1 0 true).crash1 nw [k]).2).1 with dead := false, armed := 0 } : Dk) = _
  rw [h1]
  by_cases hm : mo = []
  · rw [if_pos hm, lT_skip]
    subst hm
    rw [show rest [] k = [] from by simp [rest], List.append_nil]; rfl
  · rw [if_neg hm, lay_lT, lT_skip]; rfl
theorem lU_crash (fm mo : Str) (A k : Int) : (lU fm mo A).crash [k] = lU (fm ++ rest mo k) [] 0 := by
  have hg : (lU fm mo A).get od = nF fm mo := by simp [Dk.get, lU, mget]
  obtain ⟨ks, h1, _⟩ := nF_crash fm mo k (lU fm mo A) od hg
  rw [Dk.crash, names_one (k := od) (f := nF fm mo) rfl]
  show ({ ((lU fm mo A).crash1 od [k]).1 with dead := false, armed := 0 } : Dk) = _
  rw [h1]
  by_cases hm : mo = []
  · rw [if_pos hm]
    subst hm
    rw [show rest [] k = [] from by simp [rest], List.append_nil]; rfl
  · rw [if_neg hm]
    refine dk_eq rfl ?_ ?_ rfl rfl
    · show mput (lU fm mo A).m od _ = _
      simp [lU, mput, rest]
    · show (lU fm mo A).size + (_ - ((lU fm mo A).get od).data.length) = _
      rw [hg]
      show ((fm ++ mo).length : Int) + ((fm ++ mo.take (kept mo k) ++ []).length - (fm ++ mo).length) = ((fm ++ rest mo k ++ []).length : Nat)
      rw [rest]; omega
theorem lT_old (X : Str) (a : Int) : (lT X [] 1 a false).find od = (⟨[120], 1⟩, 0) := find_here rfl (by decide) (by simp [lT, mget])
theorem lT_new (X : Str) (a : Int) : (lT X [] 1 a false).find nw = (nF X [], 0) := find_here rfl (by decide) (by simp [lT, mget])
theorem lU_old (X : Str) (a : Int) : (lU X [] a).find od = (nF X [], 0) := find_here rfl (by decide) (by simp [lU, mget])
theorem lU_good {fm mo : Str} {a : Int} (h : (fm ++ mo).length ≤ 1000000) (h0 : 0 ≤ a) (h1 : a ≤ 9223372036854775807) : (lU fm mo a).good := by
  unfold lU
  exact ⟨by simp [Keyed1], h0, h1, show (1 : Int) ≤ 1048576 by decide, show (1048576 : Int) ≤ 16777216 by decide, by simp [lenM], by simp only; omega, by simp [Fi.fine]; omega, by simp [badN]⟩
/-- What the law asks of what is read at last. -/
theorem lasts_ok (fm mo : Str) (k : Int) : ((((decide (((fm ++ rest mo k ++ [] : Str).length : Int) ≥ (fm.length : Nat)) && decide (((fm ++ rest mo k ++ [] : Str).length : Int) ≤ (fm.length : Nat) + (mo.length : Nat))) && decide (((fm ++ rest mo k ++ [] : Str).take fm.length) = fm))) && decide ((fm ++ rest mo k ++ [] : Str).drop fm.length = mo.take ((fm ++ rest mo k ++ [] : Str).length - fm.length))) = true := by
  have h := rest_le mo k
  have e : mo.take (rest mo k).length = rest mo k := by
    rw [rest, List.length_take, Nat.min_eq_left (kept_le mo k)]
  simp [e]
  omega
end Go.Proofs.Ytdeellflcphkaaa
