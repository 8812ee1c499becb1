/-
  Plain laws: what a disk's calls answer, and the reference's.
-/
import Derived.Test.YtdeellflcphkaaaRefLaw
import Derived.Test.YtdeellflcphkaaaWalkG
namespace Go.Proofs.Ytdeellflcphkaaa
open Go.Eng


theorem perm_sum {α : Type} (f : α → Int) {l m : List α} (h : l.Perm m) : (l.map f).sum = (m.map f).sum := by
  induction h with
  | nil => rfl
  | cons a _ ih => simp only [List.map_cons, List.sum_cons, ih]
  | swap a b l => simp only [List.map_cons, List.sum_cons]; omega
  | trans _ _ h1 h2 => exact h1.trans h2
theorem size_files {d : Dk} (h : Keyed1 d.m) : sizeL d.files = lenM d.m := by
  have h1 : sizeL d.files = (d.names.map fun s => ((d.get s).data.length : Int)).sum := by
    rw [sizeL, Dk.files, List.map_map]; rfl
  have h2 := perm_sum (fun s => ((d.get s).data.length : Int)) (srtK_perm d.m)
  rw [h1]
  show (List.map (fun s => ((d.get s).data.length : Int)) (srtK d.m)).sum = _
  rw [h2, List.map_map, lenM]
  congr 1
  refine List.map_congr_left fun q hq => ?_
  have : mget d.m q.1 = some q.2 := mget_of_mem h hq
  show ((d.get q.1).data.length : Int) = _
  rw [Dk.get, this]; rfl
theorem wrong_ref (d : Dk) (s : Str) : d.ref.wrong s = wrongE d.dead [s] := by
  rw [Rk.wrong, wrongE]
  show (if d.dead = true then 40 else _) = _
  simp
theorem wrong_two (d : Dk) (p q : Str) : d.ref.rw1 p q = wrongE d.dead [p, q] := by
  rw [Rk.rw1, wrong_ref, wrong_ref, wrongE, wrongE, wrongE]
  cases d.dead <;> cases hp : badN p <;> cases hq : badN q <;> simp [hp, hq]
theorem find_ref {d : Dk} (h : Keyed1 d.m) (s : Str) :
    (d.ref.wrong s = 0 ∧ d.ref.has s = true ∧ ∃ f, mget d.m s = some f ∧ d.find s = (f, 0) ∧ d.ref.get s = ⟨s, f.data, f.firm⟩ ∧ d.get s = f) ∨
    (d.ref.wrong s = 0 ∧ d.ref.has s = false ∧ d.find s = (noF, 17) ∧ d.get s = noF) ∨ (¬ d.ref.wrong s = 0 ∧ d.find s = (noF, d.ref.wrong s)) := by
  obtain ⟨h1, h2⟩ := ref_has h s
  rw [Dk.find, ← wrong_ref]
  by_cases hw : d.ref.wrong s = 0
  · rw [if_pos hw]
    cases hg : mget d.m s with
    | some f => exact .inl ⟨hw, by rw [h1, hg]; rfl, f, rfl, rfl, h2 f hg, by rw [Dk.get, hg]; rfl⟩
    | none => exact .inr (.inl ⟨hw, by rw [h1, hg]; rfl, rfl, by rw [Dk.get, hg]; rfl⟩)
  · rw [if_neg hw]; exact .inr (.inr ⟨hw, rfl⟩)
theorem act_keyed {d : Dk} (h : Keyed1 d.m) : Keyed1 d.act.m := by rw [act_m]; exact h
theorem cur_ref {d : Dk} (h : Keyed1 d.m) (s : Str) : (if d.ref.has s = true then (d.ref.get s).data else []) = (d.get s).data ∧ (if d.ref.has s = true then (d.ref.get s).firm else 0) = (d.get s).firm := by
  obtain ⟨h1, h2⟩ := ref_has h s
  cases hg : mget d.m s with
  | some f => rw [h1, hg, h2 f hg, Dk.get, hg]; exact ⟨rfl, rfl⟩
  | none => rw [h1, hg, Dk.get, hg]; exact ⟨rfl, rfl⟩
theorem append_ref {d : Dk} (h : d.good) (s data : Str) : d.ref.append s data = ((d.append s data).1.ref, (d.append s data).2) := by
  have hs : sizeL d.ref.l = d.size := by rw [h.sz]; exact size_files h.keyed
  have hl : d.ref.limit = d.limit := rfl
  have hdt : d.ref.dat data = d.dat data := by rw [Rk.dat, Dk.dat, act_dead]
  obtain ⟨c1, c2⟩ := cur_ref h.keyed s
  rw [Rk.append, Dk.append, wrong_ref, hs, hl, hdt, c1, c2, act_dead, ← act_ref]
  split
  · by_cases hx : d.limit < d.size + (data.length : Nat)
    · rw [if_pos hx, if_pos (by omega)]
    · rw [if_neg hx, if_neg (by omega), lay_ref (act_keyed h.keyed)]
  · rfl
theorem sync_ref {d : Dk} (h : d.good) (s : Str) : d.ref.sync s = ((d.sync s).1.ref, (d.sync s).2) := by
  have hra : RisingG d.act.ref.l := files_rising (act_keyed h.keyed)
  rw [Rk.sync, Dk.sync]
  rcases find_ref h.keyed s with ⟨hw, hh, f, hg, hf, hr, _⟩ | ⟨hw, hh, hf, _⟩ | ⟨hw, hf⟩
  · rw [if_pos hw, hh, if_pos rfl, hf, if_pos rfl, act_dead, hr]
    cases hd : d.act.dead with
    | true => rw [if_pos rfl, if_pos rfl, act_ref]
    | false =>
      rw [if_neg (by decide), if_neg (by decide), lay_ref (act_keyed h.keyed), act_ref]
      obtain ⟨x, hx, hn⟩ := has_get hh
      have hl : d.ref.act.l = d.ref.l := ract_l _
      have hset := set_at (r := d.ref.act) (by rw [← act_ref]; exact hra) (f := ⟨s, f.data, (f.data.length : Nat)⟩) (by rw [hl]; exact hx) hn.symm
      rw [hl] at hset
      show (({ d.ref.act with l := d.ref.l.set (d.ref.at s) ⟨s, f.data, (f.data.length : Nat)⟩ } : Rk), (0 : Int)) = _
      rw [← hset]; rfl
  · rw [if_pos hw, hh, if_neg (by decide), hf, if_neg (by decide)]
  · rw [if_neg hw, hf, if_neg hw]
theorem remove_ref {d : Dk} (h : d.good) (s : Str) : d.ref.remove s = ((d.remove s).1.ref, (d.remove s).2) := by
  rw [Rk.remove, Dk.remove]
  rcases find_ref h.keyed s with ⟨hw, hh, f, hg, hf, hr, _⟩ | ⟨hw, hh, hf, _⟩ | ⟨hw, hf⟩
  · rw [if_pos hw, hh, if_pos rfl, hf, if_pos rfl, act_dead]
    cases hd : d.act.dead with
    | true => rw [if_pos rfl, if_pos rfl, act_ref]
    | false => rw [if_neg (by decide), if_neg (by decide), take_ref (act_keyed h.keyed), act_ref]
  · rw [if_pos hw, hh, if_neg (by decide), hf, if_neg (by decide)]
  · rw [if_neg hw, hf, if_neg hw]
theorem read_ref {d : Dk} (h : d.good) (s : Str) : d.ref.read s = ((d.find s).1.data, (d.find s).2) := by
  rw [Rk.read]
  rcases find_ref h.keyed s with ⟨hw, hh, f, hg, hf, hr, _⟩ | ⟨hw, hh, hf, _⟩ | ⟨hw, hf⟩
  · rw [if_pos hw, hh, if_pos rfl, hf, hr]
  · rw [if_pos hw, hh, if_neg (by decide), hf]
  · rw [if_neg hw, hf]
theorem rename_ref {d : Dk} (h : d.good) (p q : Str) : d.ref.rename p q = ((d.rename p q).1.ref, (d.rename p q).2) := by
  have hrw : d.ref.rwrong p q = (if wrongE d.dead [p, q] = 0 ∧ p = q then 1 else wrongE d.dead [p, q]) := by rw [Rk.rwrong, wrong_two]
  rw [Rk.rename, hrw, Dk.rename]
  by_cases hw : wrongE d.dead [p, q] = 0
  · by_cases hpq : p = q
    · have e : (if wrongE d.dead [p, q] = 0 ∧ p = q then (1 : Int) else wrongE d.dead [p, q]) = 1 := if_pos ⟨hw, hpq⟩
      rw [e, if_neg (by decide), if_pos hw, if_pos hpq]
    · have e : (if wrongE d.dead [p, q] = 0 ∧ p = q then (1 : Int) else wrongE d.dead [p, q]) = wrongE d.dead [p, q] := if_neg fun h => hpq h.2
      rw [e, if_pos hw, if_pos hw, if_neg hpq]
      have hwp : d.ref.wrong p = 0 := by
        have := wrong_two d p q
        rw [hw, Rk.rw1] at this
        split at this
        · assumption
        · exact this
      rcases find_ref h.keyed p with ⟨_, hh, f, hg, hf, hr, _⟩ | ⟨_, hh, hf, _⟩ | ⟨hw2, hf⟩
      · rw [hh, if_pos rfl, hf, if_pos rfl, act_dead, hr]
        cases hd : d.act.dead with
        | true => rw [if_pos rfl, if_pos rfl, act_ref]
        | false => rw [if_neg (by decide), if_neg (by decide), lay_ref ((act_keyed h.keyed).del p), take_ref (act_keyed h.keyed), act_ref]
      · rw [hh, if_neg (by decide), hf, if_neg (by decide)]
      · exact absurd hwp hw2
  · have e : (if wrongE d.dead [p, q] = 0 ∧ p = q then (1 : Int) else wrongE d.dead [p, q]) = wrongE d.dead [p, q] := if_neg fun h => hw h.1
    rw [e, if_neg hw, if_neg hw]
theorem crash_files {d : Dk} (h : d.good) (ks : List Int) : ∀ i, i ≤ d.names.length → (crashL (d.names.take i) (d, ks)).1.files = hitN d.files ks i ∧ (crashL (d.names.take i) (d, ks)).2 = (hitL (d.files.take i) ks).2 ∧ (crashL (d.names.take i) (d, ks)).1.good
  | 0, _ => ⟨by simp [crashL, hitN, hitL], by simp [crashL, hitL], h⟩
  | i + 1, hi => by
    obtain ⟨h1, h2, h3⟩ := crash_files h ks i (by omega)
    obtain ⟨D, ks', hcur⟩ : ∃ D ks', crashL (d.names.take i) (d, ks) = (D, ks') := ⟨_, _, rfl⟩
    rw [hcur] at h1 h2 h3
    simp only at h1 h2 h3
    obtain ⟨s, hs⟩ : ∃ s, d.names[i]? = some s := ⟨_, List.getElem?_eq_getElem (by omega)⟩
    have hx : d.files[i]? = some (d.fileOf s) := by rw [Dk.files, List.getElem?_map, hs]; rfl
    have hst := crash_step hcur hs
    have hxn := hitN_at (ks := ks) hx
    have hnx := hitN_step (ks := ks) hx
    have hrs := hit_rest (ks := ks) hx
    rw [← h2] at hnx hrs
    rw [← h1] at hxn hnx
    have hR : RisingG D.ref.l := files_rising h3.keyed
    have hm := (mem_files h3.keyed (d.fileOf s)).1 (List.mem_of_getElem? hxn)
    have hD : D.get s = d.get s := by rw [Dk.get, show mget D.m s = _ from hm]; rfl
    have hbs : badN s = false := by
      have hk := (srtK_perm d.m).mem_iff.1 (show s ∈ srtK d.m from List.mem_of_getElem? hs)
      obtain ⟨q, hq, rfl⟩ := List.mem_map.1 hk
      exact h.nm q hq
    rw [hst, hnx, hrs]
    refine ⟨?_, ?_, good_crash1 h3 hbs ks'⟩
    · rw [Dk.crash1, Gf.hit, hD]
      show (if ((d.get s).data.length : Int) - (d.get s).firm = 0 then (D, ks') else _).1.files = _
      by_cases h0 : ((d.get s).data.length : Int) - (d.get s).firm = 0
      · rw [if_pos h0]
        show D.files = D.files.set i (if ((d.get s).data.length : Int) - (d.get s).firm = 0 then (d.fileOf s, ks') else _).1
        rw [if_pos h0, set_same hxn]
      · rw [if_neg h0]
        have hl := lay_ref h3.keyed s ⟨(d.get s).data.take ((d.get s).firm + (max (ks'.headD 0) 0) % (((d.get s).data.length : Int) - (d.get s).firm + 1)).toNat, (d.get s).firm + (max (ks'.headD 0) 0) % (((d.get s).data.length : Int) - (d.get s).firm + 1)⟩
        have hl2 := congrArg Rk.l hl
        show _ = D.files.set i (if ((d.get s).data.length : Int) - (d.get s).firm = 0 then (d.fileOf s, ks') else _).1
        rw [if_neg h0]
        exact hl2.trans (set_at hR hxn rfl)
    · rw [Dk.crash1, Gf.hit, hD]
      show (if ((d.get s).data.length : Int) - (d.get s).firm = 0 then (D, ks') else _).2 = (if ((d.get s).data.length : Int) - (d.get s).firm = 0 then (d.fileOf s, ks') else _).2
      by_cases h0 : ((d.get s).data.length : Int) - (d.get s).firm = 0
      · rw [if_pos h0, if_pos h0]
      · rw [if_neg h0, if_neg h0]
theorem files_len (d : Dk) : d.files.length = d.names.length := by rw [Dk.files, List.length_map]
theorem crash_limit (d : Dk) (ks : List Int) : ∀ l : List Str, (crashL l (d, ks)).1.limit = d.limit := by
  intro l
  induction l generalizing d ks with
  | nil => rfl
  | cons s l ih =>
    show (crashL l (d.crash1 s ks)).1.limit = _
    obtain ⟨D, k2, e⟩ : ∃ D k2, d.crash1 s ks = (D, k2) := ⟨_, _, rfl⟩
    have := crash1_limit d s ks
    rw [e] at this ⊢
    rw [ih, this]
theorem crash_ref {d : Dk} (h : d.good) (ks : List Int) : (d.crash ks).ref = d.ref.crash ks ∧ (d.crash ks).good := by
  obtain ⟨h1, _, h3⟩ := crash_files h ks d.names.length (Nat.le_refl _)
  rw [List.take_length] at h1 h3
  refine ⟨?_, ?_⟩
  · have hl : (d.crash ks).files = (hitL d.files ks).1 := by
      rw [← hitN_all, files_len, ← h1]
      exact files_m rfl
    show Rk.mk _ _ _ _ = Rk.mk _ _ _ _
    rw [hl, Dk.crash]
    simp only
    rw [crash_limit]; rfl
  · rw [Dk.crash]
    exact good_turn h3 0 false (Int.le_refl _) (by decide)
end Go.Proofs.Ytdeellflcphkaaa
