/-
  What came in, as typed data: an argument's reading gives the Lean value that it stands for, and memory that can be read.
-/
import Derived.Test.YtfnpjmlpiedgdaaEngMem
import Derived.ProofKit
import Derived.OpenShut
import Derived.ShutString
import Derived.ChangeOld
import Derived.Deep.Slices
namespace Go.Eng
open Go.ChangeShapes Go.WideShapes Go.Deep

/-- Whatever reads as of type t in the world W is 'enc a' for some a that is good. -/
def Rdr (P : Program) (W : World) (t : TypeId) {α : Type} (enc : α → List Value) (good : α → Prop) : Prop :=
  ∀ (H : Type) (en : TypeId × Value → H) (fuel : Nat) (cs : List Value) (x : DataW H × List MemPlace), DataW.trod en P W 0 (fun _ => true) true fuel t cs = some x → ∃ a : α, cs = enc a ∧ good a

def fits64 (n : Int) : Prop := -9223372036854775808 ≤ n ∧ n ≤ 9223372036854775807

section
variable {P : Program} {W : World} {t : TypeId}

theorem rd_int (ht : P.underlying t = some (.int .i64)) : Rdr P W t (fun n : Int => [.int .i64 n]) fits64 := fun H en fuel cs x h => by
  obtain ⟨n, rfl, _, hw⟩ := DataW.trod_int ht h
  exact ⟨n, rfl, by have := bounds_i64 hw; unfold fits64; omega⟩
theorem rd_bool (ht : P.underlying t = some .bool) : Rdr P W t (fun b : Bool => [.bool b]) (fun _ => True) := fun H en fuel cs x h => by
  obtain ⟨b, rfl, _⟩ := DataW.trod_bool ht h
  exact ⟨b, rfl, trivial⟩
theorem rd_str (ht : P.underlying t = some .string) : Rdr P W t (fun l : Str => [.string (bs l)]) (fun l => l.length ≤ maxLen) := fun H en fuel cs x h => by
  obtain ⟨s, rfl, _, hs⟩ := DataW.trod_string ht h
  have e : bs s.data.toList = s := by show ByteArray.mk s.data.toList.toArray = s; rw [Array.toArray_toList]
  refine ⟨s.data.toList, ?_, ?_⟩
  · show [Value.string s] = [Value.string (bs s.data.toList)]; rw [e]
  · show s.data.toList.length ≤ maxLen; rw [Array.length_toList]; exact hs

theorem Rdr.map {α β : Type} {enc : α → List Value} {good : α → Prop} {enc' : β → List Value} {good' : β → Prop} (h : Rdr P W t enc good) (g : α → β) (he : ∀ a, enc a = enc' (g a)) (hg : ∀ a, good a → good' (g a)) : Rdr P W t enc' good' := fun H en fuel cs x hx => by
  obtain ⟨a, rfl, ha⟩ := h H en fuel cs x hx
  exact ⟨g a, he a, hg a ha⟩

/-- The fields from an offset on. -/
def RdF (P : Program) (W : World) (fs : List Field) (off : Nat) {α : Type} (enc : α → List Value) (good : α → Prop) : Prop :=
  ∀ (H : Type) (en : TypeId × Value → H) (fuel : Nat) (cs : List Value), (∀ f ∈ fs, ∃ x, DataW.trod en P W 0 (fun _ => true) true fuel f.type ((cs.drop f.offset).take (P.cellsOf f.type)) = some x) →
    cs.length = off + (fs.map fun f => P.cellsOf f.type).sum → ∃ a : α, cs.drop off = enc a ∧ good a

theorem rdf_nil {off : Nat} : RdF P W [] off (fun _ : Unit => []) (fun _ => True) := fun _ _ _ cs _ hl => ⟨(), by simp at hl; rw [List.drop_of_length_le (by omega)], trivial⟩

theorem rdf_cons {α β : Type} {f : Field} {fs : List Field} {off sz : Nat} {enc : α → List Value} {good : α → Prop} {enc' : β → List Value} {good' : β → Prop} (ho : f.offset = off) (hc : P.cellsOf f.type = sz) (h : Rdr P W f.type enc good) (hr : RdF P W fs (off + sz) enc' good') :
    RdF P W (f :: fs) off (fun x : α × β => enc x.1 ++ enc' x.2) (fun x => good x.1 ∧ good' x.2) := fun H en fuel cs hall hl => by
  obtain ⟨x, hx⟩ := hall f (by simp)
  obtain ⟨a, ha, hga⟩ := h H en fuel _ x hx
  rw [List.map_cons, List.sum_cons, hc] at hl
  obtain ⟨b, hb, hgb⟩ := hr H en fuel cs (fun g hg => hall g (by simp [hg])) (by omega)
  refine ⟨(a, b), ?_, hga, hgb⟩
  rw [ho, hc] at ha
  show cs.drop off = enc a ++ enc' b
  rw [← ha, ← hb, ← List.drop_drop, List.take_append_drop]

theorem mapM_all {α β : Type} {g : α → Option β} : ∀ {l : List α} {r : List β}, l.mapM g = some r → ∀ a ∈ l, ∃ b, g a = some b
  | [], _, _, a, ha => by cases ha
  | x :: l, r, h, a, ha => by
    rw [List.mapM_cons] at h
    cases hx : g x with
    | none => simp [hx] at h
    | some y =>
      simp only [hx, Option.bind_eq_bind, Option.bind_some] at h
      cases hl : l.mapM g with
      | none => simp [hl] at h
      | some ys =>
        rcases List.mem_cons.1 ha with rfl | ha
        · exact ⟨y, hx⟩
        · exact mapM_all hl a ha

theorem rd_struct {α : Type} {fs : Array Field} {enc : α → List Value} {good : α → Prop} (ht : P.underlying t = some (.struct fs)) (hsz : P.cellsOf t = (fs.toList.map fun f => P.cellsOf f.type).sum) (h : RdF P W fs.toList 0 enc good) : Rdr P W t enc good := fun H en fuel cs x hx => by
  cases fuel with
  | zero => simp [DataW.trod] at hx
  | succ n =>
    unfold DataW.trod at hx
    simp only [ht] at hx
    split at hx
    · rename_i hlen
      cases hm : fs.toList.mapM (fun f => DataW.trod en P W 0 (fun _ => true) true n f.type ((cs.drop f.offset).take (P.cellsOf f.type))) with
      | none => rw [hm] at hx; cases hx
      | some ys =>
        obtain ⟨a, ha, hg⟩ := h H en n cs (mapM_all hm) (by rw [Nat.zero_add, ← hsz]; exact hlen)
        exact ⟨a, by simpa using ha, hg⟩
    · cases hx

theorem mapM_get {α β : Type} {g : α → Option β} : ∀ {l : List α} {r : List β}, l.mapM g = some r → r.length = l.length ∧ ∀ (i : Nat) (a : α), l[i]? = some a → g a = r[i]?
  | [], r, h => by
    simp at h; subst h; simp
  | x :: l, r, h => by
    rw [List.mapM_cons] at h
    cases hx : g x with
    | none => simp [hx] at h
    | some y =>
      simp only [hx, Option.bind_eq_bind, Option.bind_some] at h
      cases hl : l.mapM g with
      | none => simp [hl] at h
      | some ys =>
        simp [hl] at h
        subst h
        obtain ⟨h1, h2⟩ := mapM_get hl
        refine ⟨by simp [h1], fun i a ha => ?_⟩
        cases i with
        | zero => simp at ha; subst ha; simpa using hx
        | succ i => simpa using h2 i a (by simpa using ha)

theorem pick_all {α : Type} {p : Nat → α → Prop} : ∀ {len : Nat}, (∀ i, i < len → ∃ y, p i y) → ∃ ys : List α, ys.length = len ∧ ∀ i y, ys[i]? = some y → p i y
  | 0, _ => ⟨[], rfl, by simp⟩
  | k + 1, hel => by
    obtain ⟨ys, h1, h3⟩ := pick_all (len := k) (fun i hi => hel i (by omega))
    obtain ⟨y, hy⟩ := hel k (by omega)
    refine ⟨ys ++ [y], by simp [h1], fun i z hz => ?_⟩
    by_cases hi : i < ys.length
    · rw [List.getElem?_append_left hi] at hz; exact h3 i z hz
    · rw [List.getElem?_append_right (by omega)] at hz
      have h0 : i - ys.length = 0 := by
        rcases Nat.eq_zero_or_pos (i - ys.length) with h0 | h0
        · exact h0
        · rw [List.getElem?_eq_none (by simp; omega)] at hz; cases hz
      rw [h0] at hz
      obtain rfl : y = z := by simpa using hz
      rw [show i = k by omega]; exact hy

/-- A slice that came in: its elements, and that they can be read. -/
structure Sl (α : Type) where
  a : Option Addr
  cap : Nat
  xs : List α
def encSl {α : Type} (s : Sl α) : List Value := [.slice s.a s.xs.length s.cap]
def goodSl {α : Type} (W : World) (sz : Nat) (enc : α → List Value) (good : α → Prop) (s : Sl α) : Prop :=
  Seen (rsl s.a s.xs.length sz (s.xs.flatMap enc)) W ∧ (∀ x ∈ s.xs, good x) ∧ s.xs.length ≤ s.cap

theorem rd_slice {α : Type} {e sz : Nat} {enc : α → List Value} {good : α → Prop} (ht : P.underlying t = some (.slice e)) (hc : P.cellsOf e = sz) (hpos : 0 < sz) (hlen : ∀ a, (enc a).length = sz) (h : Rdr P W e enc good) : Rdr P W t encSl (goodSl W sz enc good) := fun H en fuel cs x hx => by
  rcases open_slice ht hx with ⟨rfl, _⟩ | ⟨a, len, cap, m, n, D, Pl, rfl, _, hl, _, hm, _, hall⟩
  · exact ⟨⟨none, 0, []⟩, rfl, ⟨[], ⟨by simp, .inl ⟨rfl, rfl⟩⟩, by simp⟩, by simp, Nat.le_refl _⟩
  · have hlm : len ≤ m := by rw [hm]; split <;> omega
    have hel : ∀ i, i < len → ∃ y : α, good y ∧ ∀ j u, (enc y)[j]? = some u → W.cell? (a.add (i * sz + j)) = some u := fun i hi => by
      obtain ⟨cs', h1, h2⟩ := hall i (by omega)
      obtain ⟨y, rfl, hg⟩ := h H en n _ _ h2
      refine ⟨y, hg, fun j u hj => ?_⟩
      unfold World.cells? at h1
      split at h1
      · rw [hc] at h1
        obtain ⟨g1, g2⟩ := mapM_get h1
        have hlt := (List.getElem?_eq_some_iff.1 hj).1
        have := g2 j j (by rw [List.getElem?_range (by rw [hlen] at hlt; exact hlt)])
        rw [add_add] at this
        rw [this, hj]
      · cases h1
    obtain ⟨ys, h1, h23⟩ := pick_all hel
    have h2 : ∀ x ∈ ys, good x := fun x hx => by
      obtain ⟨i, hi⟩ := List.mem_iff_getElem?.1 hx
      exact (h23 i x hi).1
    have h3 := fun i y hy => (h23 i y hy).2
    refine ⟨⟨some a, cap, ys⟩, by simp [encSl, h1], ?_, h2, by simpa [h1] using hl⟩
    rw [show ((⟨some a, cap, ys⟩ : Sl α).xs) = ys from rfl, show ((⟨some a, cap, ys⟩ : Sl α).a) = some a from rfl]
    have hfl := rows_length hlen ys
    by_cases h0 : ys.length = 0
    · exact ⟨[], ⟨hfl, .inl ⟨h0, rfl⟩⟩, by simp⟩
    · obtain ⟨y0, hy0⟩ : ∃ y, ys[0]? = some y := ⟨_, List.getElem?_eq_getElem (by omega)⟩
      obtain ⟨u0, hu0⟩ : ∃ u, (enc y0)[0]? = some u := ⟨_, List.getElem?_eq_getElem (by rw [hlen]; exact hpos)⟩
      have hc0 := h3 0 y0 hy0 0 u0 hu0
      simp only [Nat.zero_mul, Nat.add_zero] at hc0
      have ha0 : a.add 0 = a := by simp [Addr.add]
      rw [ha0] at hc0
      obtain ⟨b, off, spot⟩ := a
      have hsp : spot = none := by
        unfold World.cell? at hc0
        split at hc0
        · cases spot with
          | none => rfl
          | some q => simp at hc0
        · cases hc0
      subst hsp
      have hblk : ∃ c ty fr, W.heap[b]? = some (.cells c ty fr) := by
        unfold World.cell? at hc0
        split at hc0
        · rename_i c ty fr hq; exact ⟨c, ty, fr, hq⟩
        · cases hc0
      obtain ⟨c, ty, fr, hb⟩ := hblk
      refine ⟨[(b, .cells c ty fr)], ⟨hfl, .inr ⟨b, off, c, ty, fr, rfl, rfl, fun j u hj => ?_⟩⟩, by simp [hb]⟩
      have hjl : j < ys.length * sz := by rw [← hfl]; exact (List.getElem?_eq_some_iff.1 hj).1
      have hi : j / sz < ys.length := Nat.div_lt_of_lt_mul (by rw [Nat.mul_comm]; exact hjl)
      have hr : j % sz < sz := Nat.mod_lt _ hpos
      obtain ⟨y, hy⟩ : ∃ y, ys[j / sz]? = some y := ⟨_, List.getElem?_eq_getElem hi⟩
      obtain ⟨v, hv⟩ : ∃ v, (enc y)[j % sz]? = some v := ⟨_, List.getElem?_eq_getElem (by rw [hlen]; exact hr)⟩
      have hdm : j / sz * sz + j % sz = j := Nat.div_add_mod' j sz
      have hgv := rows_get hlen hy hv
      rw [hdm, hj] at hgv
      obtain rfl := Option.some.inj hgv
      have hcell := h3 _ y hy _ u hv
      rw [hdm] at hcell
      have e1 : (⟨b, off, none⟩ : Addr).add j = ⟨b, off + j, none⟩ := by unfold Addr.add; split <;> simp_all
      rw [e1] at hcell
      simpa [World.cell?, hb] using hcell

theorem Seen.ro {A : Atom} {W : World} (h : Seen A W) : Ro W (fun _ => False) A := let ⟨g, ha, hg⟩ := h; ⟨g, ha, fun p hp => ⟨hg p hp, fun h => h⟩⟩

/-! ### Arguments -/
variable {H : Type} {en : TypeId × Value → H} {r : Reach} {b0 : Nat} {v : Value} {d : DataW H} {ps : List MemPlace} {α : Type} {enc : α → List Value} {good : α → Prop}

theorem arg_agg {fs : Array Field} (ht : P.underlying t = some (.struct fs)) (hval : Value.okWide P W r b0 t v) (hd : DataW.Trod en P W 0 (fun _ => true) true t v d ps) (hr : Rdr P W t enc good) : ∃ a, v = .agg (enc a).toArray ∧ good a := by
  obtain ⟨cs, rfl, _⟩ := okWide_struct ht hval
  obtain ⟨fuel, hf⟩ := hd
  obtain ⟨a, ha, hg⟩ := hr H en fuel _ _ hf
  refine ⟨a, ?_, hg⟩
  rw [← ha]; simp [Value.cells]
theorem arg_slice {e : Nat} {sz : Nat} (ht : P.underlying t = some (.slice e)) (hval : Value.okWide P W r b0 t v) (hd : DataW.Trod en P W 0 (fun _ => true) true t v d ps) (hr : Rdr P W t encSl (goodSl W sz enc good)) :
    ∃ s : Sl α, v = .slice s.a s.xs.length s.cap ∧ Ro W (fun _ => False) (rsl s.a s.xs.length sz (s.xs.flatMap enc)) ∧ ∀ x ∈ s.xs, good x := by
  obtain ⟨a, len, cap, rfl⟩ := okWide_slice ht hval
  obtain ⟨fuel, hf⟩ := hd
  obtain ⟨s, hs, hg⟩ := hr H en fuel _ _ hf
  refine ⟨s, ?_, hg.1.ro, hg.2.1⟩
  simpa [Value.cells, encSl] using hs
theorem arg_sliceC {e : Nat} {sz : Nat} (ht : P.underlying t = some (.slice e)) (hval : Value.okWide P W r b0 t v) (hd : DataW.Trod en P W 0 (fun _ => true) true t v d ps) (hr : Rdr P W t encSl (goodSl W sz enc good)) :
    ∃ s : Sl α, v = .slice s.a s.xs.length s.cap ∧ Ro W (fun _ => False) (rsl s.a s.xs.length sz (s.xs.flatMap enc)) ∧ (∀ x ∈ s.xs, good x) ∧ s.xs.length ≤ s.cap := by
  obtain ⟨a, len, cap, rfl⟩ := okWide_slice ht hval
  obtain ⟨fuel, hf⟩ := hd
  obtain ⟨s, hs, hg⟩ := hr H en fuel _ _ hf
  refine ⟨s, ?_, hg.1.ro, hg.2.1, hg.2.2⟩
  simpa [Value.cells, encSl] using hs
theorem arg_int (ht : P.underlying t = some (.int .i64)) (hval : Value.okWide P W r b0 t v) (hd : DataW.Trod en P W 0 (fun _ => true) true t v d ps) : ∃ n : Int, v = .int .i64 n ∧ fits64 n := by
  obtain ⟨n, rfl⟩ := okWide_int ht hval
  obtain ⟨fuel, hf⟩ := hd
  obtain ⟨m, hm, hg⟩ := rd_int ht H en fuel _ _ hf
  refine ⟨m, ?_, hg⟩
  simpa [Value.cells] using hm
theorem arg_str (ht : P.underlying t = some .string) (hval : Value.okWide P W r b0 t v) (hd : DataW.Trod en P W 0 (fun _ => true) true t v d ps) : ∃ l : Str, v = .string (bs l) ∧ l.length ≤ maxLen := by
  obtain ⟨s, rfl⟩ := okWide_string ht hval
  obtain ⟨fuel, hf⟩ := hd
  obtain ⟨m, hm, hg⟩ := rd_str ht H en fuel _ _ hf
  refine ⟨m, ?_, hg⟩
  simpa [Value.cells] using hm
end
end Go.Eng
