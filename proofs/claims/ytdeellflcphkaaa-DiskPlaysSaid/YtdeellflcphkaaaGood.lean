/-
  What holds of a disk.
-/
import Derived.Test.YtdeellflcphkaaaWalkF
namespace Go.Proofs.Ytdeellflcphkaaa
open Go.Eng


def lenM (m : List (Str × Fi)) : Int := (m.map fun q => (q.2.data.length : Int)).sum
theorem lenM_cons (q : Str × Fi) (m : List (Str × Fi)) : lenM (q :: m) = q.2.data.length + lenM m := by simp [lenM]
theorem lenM_ge : ∀ m : List (Str × Fi), 0 ≤ lenM m
  | [] => by simp [lenM]
  | q :: m => by rw [lenM_cons]; have := lenM_ge m; omega
def getM (m : List (Str × Fi)) (s : Str) : Fi := (mget m s).getD noF
theorem getM_le : ∀ (m : List (Str × Fi)) (s : Str), ((getM m s).data.length : Int) ≤ lenM m
  | [], s => by simp [getM, mget, lenM]
  | q :: m, s => by
    rw [lenM_cons]
    have h1 := getM_le m s
    have h2 := lenM_ge m
    unfold getM at h1 ⊢
    unfold mget
    split
    · simp only [Option.getD_some]; omega
    · omega
theorem lenM_put : ∀ (m : List (Str × Fi)) (s : Str) (f : Fi), lenM (mput m s f) = lenM m + f.data.length - (getM m s).data.length
  | [], s, f => by simp [mput, getM, mget, lenM]
  | q :: m, s, f => by
    have h1 := lenM_put m s f
    unfold getM at h1 ⊢
    unfold mput mget
    split
    · simp only [lenM_cons, Option.getD_some]; omega
    · simp only [lenM_cons, h1]; omega
theorem lenM_del : ∀ (m : List (Str × Fi)) (s : Str), lenM (mdel m s) = lenM m - (getM m s).data.length
  | [], s => by simp [mdel, getM, mget, lenM]
  | q :: m, s => by
    have h1 := lenM_del m s
    unfold getM at h1 ⊢
    unfold mdel mget
    split
    · simp only [lenM_cons, Option.getD_some]; omega
    · simp only [lenM_cons, h1]; omega
def Fi.fine (f : Fi) : Prop := 0 ≤ f.firm ∧ f.firm ≤ f.data.length
structure Dk.good (d : Dk) : Prop where
  keyed : Keyed1 d.m
  a0 : 0 ≤ d.armed
  a1 : d.armed ≤ 9223372036854775807
  l0 : 1 ≤ d.limit
  l1 : d.limit ≤ 16777216
  sz : d.size = lenM d.m
  s1 : d.size ≤ d.limit
  fm : ∀ q ∈ d.m, q.2.fine
  nm : ∀ q ∈ d.m, badN q.1 = false
theorem Dk.good.ok {d : Dk} (h : d.good) : d.ok :=
  ⟨h.keyed, h.a0, h.a1, h.l0, h.l1, by rw [h.sz]; exact lenM_ge _, by have := h.s1; have := h.l1; omega, fun s => by rw [h.sz]; exact getM_le _ _⟩
theorem get_fine {d : Dk} (h : d.good) (s : Str) : (d.get s).fine := by
  unfold Dk.get
  cases hg : mget d.m s with
  | none => exact ⟨Int.le_refl _, by simp⟩
  | some f => exact h.fm _ (mem_of_mget hg)
theorem bad_len {s : Str} (h : badN s = false) : s ≠ [] ∧ s.length ≤ 32 := by
  simp only [badN, Bool.or_eq_false_iff, decide_eq_false_iff_not] at h
  exact ⟨h.1, by omega⟩
theorem Dk.good.keys {d : Dk} (h : d.good) : ∀ p ∈ d.m, p.1.length ≤ maxLen := fun p hp => by have := (bad_len (h.nm p hp)).2; unfold maxLen; omega
theorem good_put {d : Dk} (h : d.good) {s : Str} {f : Fi} (hf : f.fine) (hs : badN s = false) (hl : d.size + (f.data.length : Int) - ((d.get s).data.length : Int) ≤ d.limit) : (d.lay s f).good := by
  have hK : Keyed1 (mput d.m s f) := h.keyed.put s f
  have key : ∀ q ∈ mput d.m s f, (q.1 = s ∧ q.2 = f) ∨ q ∈ d.m := fun q hq => by
    have hg := mget_of_mem hK (k := q.1) (v := q.2) hq
    rw [mget_put] at hg
    split at hg
    · rename_i h1; exact .inl ⟨h1, (Option.some.inj hg).symm⟩
    · exact .inr (mem_of_mget hg)
  refine ⟨hK, h.a0, h.a1, h.l0, h.l1, ?_, ?_, fun q hq => ?_, fun q hq => ?_⟩
  · show d.size + ((f.data.length : Int) - ((d.get s).data.length : Int)) = lenM (mput d.m s f)
    rw [lenM_put, h.sz]
    show _ = lenM d.m + f.data.length - (d.get s).data.length
    omega
  · show d.size + ((f.data.length : Int) - ((d.get s).data.length : Int)) ≤ d.limit
    omega
  · rcases key q hq with ⟨_, h2⟩ | h1
    · rw [h2]; exact hf
    · exact h.fm q h1
  · rcases key q hq with ⟨h2, _⟩ | h1
    · rw [h2]; exact hs
    · exact h.nm q h1
theorem good_del {d : Dk} (h : d.good) (s : Str) : (d.take s).good := by
  have hsub := mdel_sub d.m s
  refine ⟨h.keyed.del s, h.a0, h.a1, h.l0, h.l1, ?_, ?_, fun q hq => h.fm q (hsub.subset hq), fun q hq => h.nm q (hsub.subset hq)⟩
  · show d.size - ((d.get s).data.length : Int) = lenM (mdel d.m s)
    rw [lenM_del, h.sz]; rfl
  · show d.size - ((d.get s).data.length : Int) ≤ d.limit
    have := h.s1; omega
theorem good_act {d : Dk} (h : d.good) : d.act.good := by
  unfold Dk.act
  split
  · exact ⟨h.keyed, by simp only; omega, by have := h.a1; simp only; omega, h.l0, h.l1, h.sz, h.s1, h.fm, h.nm⟩
  · exact h
theorem good_turn {d : Dk} (h : d.good) (a : Int) (b : Bool) (h0 : 0 ≤ a) (h1 : a ≤ 9223372036854775807) : ({ d with armed := a, dead := b } : Dk).good := ⟨h.keyed, h0, h1, h.l0, h.l1, h.sz, h.s1, h.fm, h.nm⟩
theorem wrong_zero {b : Bool} {l : List Str} (h : wrongE b l = 0) : b = false ∧ ∀ s ∈ l, badN s = false := by
  unfold wrongE at h
  split at h
  · cases h
  · rename_i hb
    split at h
    · cases h
    · rename_i ha
      refine ⟨by simpa using hb, fun s hs => ?_⟩
      simp only [Bool.not_eq_true, List.any_eq_false] at ha
      simpa using ha s hs
theorem find_zero {d : Dk} {s : Str} (h : (d.find s).2 = 0) : d.dead = false ∧ badN s = false ∧ mget d.m s = some (d.find s).1 := by
  unfold Dk.find at h ⊢
  split
  · rename_i hw
    rw [if_pos hw] at h
    obtain ⟨h1, h2⟩ := wrong_zero hw
    refine ⟨h1, h2 s (by simp), ?_⟩
    split
    · rename_i f hf; exact hf
    · rename_i hf; rw [hf] at h; cases h
  · rename_i hw
    rw [if_neg hw] at h
    exact absurd h hw
theorem good_append {d : Dk} (h : d.good) (s data : Str) : (d.append s data).1.good := by
  unfold Dk.append
  split
  · rename_i hw
    split
    · exact h
    · rename_i hl
      have hf := get_fine h s
      have hd := dat_len d data
      refine good_put (good_act h) ⟨hf.1, ?_⟩ ((wrong_zero hw).2 s (by simp)) ?_
      · have := hf.2; simp only [List.length_append]; omega
      · rw [act_size, act_limit, act_get]; simp only [List.length_append]; omega
  · exact h
theorem good_sync {d : Dk} (h : d.good) (s : Str) : (d.sync s).1.good := by
  unfold Dk.sync
  split
  · rename_i hw
    obtain ⟨h1, h2, h3⟩ := find_zero hw
    split
    · exact good_act h
    · refine good_put (good_act h) ⟨by simp, by simp⟩ h2 ?_
      have hg : d.get s = (d.find s).1 := by rw [Dk.get, h3]; rfl
      have := h.s1
      rw [act_size, act_limit, act_get, hg]; simp only; omega
  · exact h
theorem good_remove {d : Dk} (h : d.good) (s : Str) : (d.remove s).1.good := by
  unfold Dk.remove
  split
  · split
    · exact good_act h
    · exact good_del (good_act h) s
  · exact h
theorem good_rename {d : Dk} (h : d.good) (p q : Str) : (d.rename p q).1.good := by
  unfold Dk.rename
  split
  · rename_i hw
    split
    · exact h
    split
    · rename_i hz
      obtain ⟨h1, h2, h3⟩ := find_zero hz
      split
      · exact good_act h
      · have hg : d.get p = (d.find p).1 := by rw [Dk.get, h3]; rfl
        refine good_put (good_del (good_act h) p) (by rw [← hg]; exact get_fine h p) ((wrong_zero hw).2 q (by simp)) ?_
        have := h.s1
        simp only [Dk.take, act_size, act_limit, act_get]
        rw [← hg]; omega
    · exact h
  · exact h

/-- A crash at one file. -/
def Dk.crash1 (d : Dk) (s : Str) (ks : List Int) : Dk × List Int :=
  if ((d.get s).data.length : Int) - (d.get s).firm = 0 then (d, ks)
  else (d.lay s ⟨(d.get s).data.take ((d.get s).firm + (max (ks.headD 0) 0) % (((d.get s).data.length : Int) - (d.get s).firm + 1)).toNat, (d.get s).firm + (max (ks.headD 0) 0) % (((d.get s).data.length : Int) - (d.get s).firm + 1)⟩, ks.tail)
def crashL : List Str → Dk × List Int → Dk × List Int
  | [], x => x
  | s :: l, x => crashL l (x.1.crash1 s x.2)
def Dk.crash (d : Dk) (ks : List Int) : Dk := { (crashL d.names (d, ks)).1 with dead := false, armed := 0 }
theorem crash_firm {f : Fi} (h : f.fine) (k : Int) (hn : (f.data.length : Int) - f.firm ≠ 0) : 0 ≤ (max k 0) % ((f.data.length : Int) - f.firm + 1) ∧ f.firm + (max k 0) % ((f.data.length : Int) - f.firm + 1) ≤ f.data.length := by
  obtain ⟨h1, h2⟩ := h
  have a := Int.emod_nonneg (max k 0) (show (f.data.length : Int) - f.firm + 1 ≠ 0 by omega)
  have b := Int.emod_lt_of_pos (max k 0) (show 0 < (f.data.length : Int) - f.firm + 1 by omega)
  exact ⟨a, by omega⟩
theorem good_crash1 {d : Dk} (h : d.good) {s : Str} (hs : badN s = false) (ks : List Int) : (d.crash1 s ks).1.good := by
  unfold Dk.crash1
  split
  · exact h
  · rename_i hn
    obtain ⟨a, b⟩ := crash_firm (get_fine h s) (ks.headD 0) hn
    have hf := (get_fine h s).1
    refine good_put h ⟨by simp only; omega, by simp only [List.length_take]; omega⟩ hs ?_
    have := h.s1
    simp only [List.length_take]; omega
theorem crash1_limit (d : Dk) (s : Str) (ks : List Int) : (d.crash1 s ks).1.limit = d.limit := by unfold Dk.crash1; split <;> rfl
theorem crashL_snoc : ∀ (l : List Str) (s : Str) (x : Dk × List Int), crashL (l ++ [s]) x = (crashL l x).1.crash1 s (crashL l x).2
  | [], s, x => rfl
  | t :: l, s, x => crashL_snoc l s _
end Go.Proofs.Ytdeellflcphkaaa
