/-
  A map's keys, sorted, by the shelf's contract: what the walk holds of a map gives what the contract asks; what it hands back is a slice that the walk owns.
-/
import Derived.Test.YtfnpjmlpiedgdaaEngMap
import Derived.Shelf.SlIter.Nil
import Derived.Shelf.SortM.Plain
import Derived.Shelf.SortM.SortNone
namespace Go.Eng
open Go.Proofs Go.RowKit Go.Maps Go.WideElems Go.WideShapes

section
variable {P : Program} {k : TypeId} {β : Type} {ev : β → Value} {b : Nat} {l : List (Str × β)} {w : World}

def anyR : Value → Option (DataW Unit × List MemPlace) := fun _ => some (.lit (.bool true), [])

theorem keys_fit (hk : P.underlying k = some .string) {es : List MapEntry} {clock : Nat} (hE : Ents (fun s : Str => .string (bs s)) ev l es clock) (hK : Keyed1 l) (hlen : l.length ≤ maxLen) (hkl : ∀ p ∈ l, p.1.length ≤ maxLen) :
    Fit P k anyR es.toArray clock ∧ (es.map (rg P k anyR)).map (fun p => strOf p.1) = l.map (·.1) := by
  have hkey : es.map (·.key) = l.map (fun p => .string (bs p.1)) := by
    have := congrArg (List.map (·.1)) hE.kv
    rw [List.map_map, List.map_map] at this
    exact this
  have hl := congrArg List.length hkey
  simp only [List.length_map] at hl
  have hrd : ∀ x ∈ es, ∃ p ∈ l, x.key = .string (bs p.1) ∧ rd P k anyR x = some (.string p.1, .lit (.bool true)) := fun x hx => by
    have : x.key ∈ es.map (·.key) := List.mem_map.2 ⟨x, hx, rfl⟩
    rw [hkey] at this
    obtain ⟨p, hp, he⟩ := List.mem_map.1 this
    refine ⟨p, hp, he.symm, ?_⟩
    have hsz : (bs p.1).size ≤ maxLen := by simpa [ByteArray.size] using hkl p hp
    simp only [rd, anyR, ← he, keyOf_string hk, mapKey, hk, if_pos hsz, Option.bind_some, Option.map_some]
  refine ⟨⟨by simpa [hl] using hlen, ⟨fun x hx => hE.old x (by simpa using hx), by simpa using hE.nd, ?_⟩, fun x hx => ?_⟩, ?_⟩
  · simp only [hkey]
    have hK' : (l.map (·.1)).Nodup := hK
    have hinj : ((l.map (·.1)).map (fun s : Str => Value.string (bs s))).Nodup := by
      refine List.Pairwise.map _ (fun a b hne he => hne ?_) hK'
      exact (bs_eq_iff a b).1 (Value.string.inj he)
    rw [List.map_map] at hinj
    exact hinj
  · obtain ⟨p, _, _, h⟩ := hrd x (by simpa using hx)
    exact ⟨_, h⟩
  · rw [List.map_map]
    have hs : ∀ x ∈ es, Value.string (bs (strOf (rg P k anyR x).1)) = x.key := fun x hx => by
      obtain ⟨p, _, h1, h2⟩ := hrd x hx
      rw [rg_of h2, h1]; rfl
    have h3 : (es.map ((fun p => strOf p.1) ∘ rg P k anyR)).map (fun s : Str => Value.string (bs s)) = (l.map (·.1)).map (fun s : Str => Value.string (bs s)) := by
      rw [List.map_map, List.map_map]
      have : es.map ((fun s : Str => Value.string (bs s)) ∘ ((fun p => strOf p.1) ∘ rg P k anyR)) = es.map (·.key) := List.map_congr_left fun x hx => hs x hx
      rw [this, hkey]; rfl
    exact (List.map_inj_right (fun a b h => (bs_eq_iff a b).1 (Value.string.inj h))).1 h3

theorem keys_owns (hk : P.underlying k = some .string) (h : Seen (mapA (fun s : Str => .string (bs s)) ev b l) w) (hlen : l.length ≤ maxLen) (hkl : ∀ p ∈ l, p.1.length ≤ maxLen) :
    ∃ D0 : DataW Unit, w.ownsMap P k anyR b l.length D0 ∧ (strKeys D0).Perm (l.map (·.1)) ∧ Maps.size D0 = l.length := by
  obtain ⟨es, clock, hE, hK, hb⟩ := h.map
  obtain ⟨hF, hks⟩ := keys_fit hk hE hK hlen hkl
  have hl := congrArg List.length hE.kv
  simp only [List.length_map] at hl
  refine ⟨_, ⟨es.toArray, clock, hb, hF, by simp [hl], rfl⟩, ?_, ?_⟩
  · have := (sorted_perm (es.map (rg P k anyR))).map (fun p => strOf p.1)
    rw [hks] at this
    simpa [strKeys] using this
  · have := (sorted_perm (es.map (rg P k anyR))).length_eq
    simpa [Maps.size, hl] using this

theorem Hp.row {w w' : World} {K : Nat → Prop} (hb : Below w.heap.size w w') {e sz n : Nat} {xs : List Value} {v : Value} (h : w'.ownsRow w.heap.size e sz v n xs) : ∃ x : Option Addr × Nat, v = .slice x.1 n x.2 ∧ Hp w K [slc e sz x.1 n x.2 xs] w' := by
  obtain ⟨hl, h⟩ := h
  have mk : ∀ g : HL, (g.map (·.1)).Nodup → (∀ p ∈ g, w'.heap[p.1]? = some p.2) → (∀ p ∈ g, w.heap.size ≤ p.1) → Fits w K g w' := fun g h1 h2 h3 =>
    ⟨h1, h2, fun p hp => .inr (h3 p hp), hb.size, fun q hq _ => hb.block q hq, hb.os, hb.tape, hb.output⟩
  rcases h with ⟨rfl, rfl⟩ | ⟨g, cap, cur, rfl, hg, hh, h1, h2, h3, h4⟩
  · exact ⟨(none, 0), rfl, [], ⟨[], [], ⟨hl, .inl ⟨rfl, rfl, rfl, rfl⟩⟩, rfl, rfl⟩, mk [] (by simp) (by simp) (by simp)⟩
  · refine ⟨(some ⟨g, 0, none⟩, cap), rfl, [(g, .cells cur e (0, 0))], ⟨[(g, .cells cur e (0, 0))], [], ⟨hl, .inr ⟨g, 0, cur.toList, rfl, by simp, h1, by simp [h3], by simpa using h4⟩⟩, rfl, rfl⟩, mk _ (by simp) (by simp [hh]) (by simp [hg])⟩

/-- The keys, sorted. -/
def srtK (l : List (Str × β)) : List Str := (l.map (·.1)).mergeSort leB
theorem srtK_perm (l : List (Str × β)) : (srtK l).Perm (l.map (·.1)) := List.mergeSort_perm _ _
theorem srtK_len (l : List (Str × β)) : (srtK l).length = l.length := by rw [(srtK_perm l).length_eq, List.length_map]
end
end Go.Eng
