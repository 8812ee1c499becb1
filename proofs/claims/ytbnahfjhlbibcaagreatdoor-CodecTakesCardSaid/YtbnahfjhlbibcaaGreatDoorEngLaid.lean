/-
  What a row lists of the library's variables, as a walk wants it.
-/
import Derived.Test.YtbnahfjhlbibcaaGreatDoorEngLib0
import Derived.LaidLaws
import Derived.RowKitTokens
import Derived.Stop.LaidErr
import Derived.Lib.LaidTab
namespace Go.Eng
open Go.Lib

theorem laid_iface {P : Program} {n : String} {d : DataW Unit} {r : List (String × DataW Unit)} {W : World} {g : Nat} {ti : TypeId} {ms : Array (String × TypeId)}
    (h : laidMet P ((n, d) :: r) W) (hg : P.globalNamed n = some g) (ht : (P.globals[g]?).map (·.type) = some ti) (hi : P.underlying ti = some (.interface ms)) :
    ∃ v, W.var? P n = some #[v] ∧ (v = .nilIface ∨ ∃ a b, v = .iface a b) := by
  obtain ⟨ps, ⟨g0, t0, cs0, f0, p0, q0, hg0, ht0, hv0, hd0, _, e0⟩, _, hrows⟩ := h
  obtain rfl := Option.some.inj (hg.symm.trans hg0)
  obtain rfl := Option.some.inj (ht.symm.trans ht0)
  obtain ⟨l0⟩ := cs0
  cases f0 with
  | zero => simp [DataW.trod] at hd0
  | succ f =>
    cases l0 with
    | nil => simp [DataW.trod, hi] at hd0
    | cons v l =>
      cases l with
      | nil =>
        cases v <;> first
          | exact ⟨_, hv0, .inl rfl⟩
          | exact ⟨_, hv0, .inr ⟨_, _, rfl⟩⟩
          | simp [DataW.trod, hi] at hd0
      | cons v2 l => cases v <;> simp [DataW.trod, hi] at hd0
theorem var_heap {P : Program} {W : World} {n : String} {g : Nat} {cs : Array Value} (hg : P.globalNamed n = some g) (h : W.var? P n = some cs) : ∃ t f, W.heap[g]? = some (.cells cs t f) := by
  unfold World.var? at h
  rw [hg, Option.bind_some] at h
  split at h
  · rename_i c t f hh; cases h; exact ⟨_, _, hh⟩
  · cases h
theorem lib_ro {P : Program} {W : World} {g1 g2 g3 : Nat} {n2 n3 : String} {v2 v3 : Value} (h1 : P.globalNamed "internal/strconv.uint64pow10" = some g1) (h2 : P.globalNamed n2 = some g2) (h3 : P.globalNamed n3 = some g3)
    (ht : TabIs P W "internal/strconv.uint64pow10" .u64 pow10Tab) (hs : W.var? P n2 = some #[v2]) (hv2 : v2 = .nilIface ∨ ∃ a b, v2 = .iface a b) (hr : W.var? P n3 = some #[v3]) (hv3 : v3 = .nilIface ∨ ∃ a b, v3 = .iface a b) :
    Ro W (fun _ => False) (libA g1 g2 g3) := by
  obtain ⟨t1, f1, e1⟩ := var_heap h1 ht
  obtain ⟨t2, f2, e2⟩ := var_heap h2 hs
  obtain ⟨t3, f3, e3⟩ := var_heap h3 hr
  refine ⟨_, ⟨t1, f1, #[v2], t2, f2, v2, #[v3], t3, f3, v3, rfl, rfl, hv2, rfl, hv3⟩, fun p hp => ⟨?_, id⟩⟩
  simp only [List.mem_cons, List.not_mem_nil, or_false] at hp
  rcases hp with rfl | rfl | rfl
  · exact e1
  · exact e2
  · exact e3
end Go.Eng
