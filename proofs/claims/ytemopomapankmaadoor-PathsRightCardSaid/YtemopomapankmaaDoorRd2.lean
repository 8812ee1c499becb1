/-
  How great what came in can be.
-/
import Derived.Test.YtemopomapankmaaDoorRd
namespace Go.Proofs.YtemopomapankmaaDoor
open Go.Eng Go.ChangeShapes Go.WideShapes Go.Deep
theorem sl_max {W : World} {H : Type} {en : TypeId × Value → H} {e : Nat} {t : TypeId} {a : Option Addr} {len cap : Nat} {d : DataW H} {ps : List MemPlace} (ht : Tryd.prog.underlying t = some (.slice e)) (hd : DataW.Trod en Tryd.prog W 0 (fun _ => true) true t (.slice a len cap) d ps) : len ≤ 9223372036854775807 := by
  obtain ⟨fuel, hf⟩ := hd
  rcases open_slice ht hf with ⟨h, _⟩ | ⟨_, len', cap', _, _, _, _, h, _, hl, hm, _⟩
  · simp only [Value.cells, List.cons.injEq, and_true] at h
    cases h; omega
  · simp only [Value.cells, List.cons.injEq, and_true] at h
    cases h
    have : maxLen = 9223372036854775807 := rfl
    omega
theorem str_wt {W : World} {H : Type} {en : TypeId × Value → H} {l : Str} {d0 d1 d2 : DataW H} {t0 t1 t2 : TypeId} {vt : List TypeId} {ps : List MemPlace} (ht : Tryd.prog.underlying t2 = some .string) (hd : DataW.Trod en Tryd.prog W 0 (fun _ => true) true t2 (.string (bs l)) d2 ps)
    (h : (DataW.weightsEach Tryd.prog (t0 :: t1 :: t2 :: vt) [d0, d1, d2]).all (fun x => decide (x ≤ reachBytes)) = true) : l.length ≤ 140737488351232 := by
  obtain ⟨fuel, hf⟩ := hd
  obtain ⟨s, hs, hx, _⟩ := DataW.trod_string ht hf
  simp only [Value.cells, List.cons.injEq, and_true, Value.string.injEq] at hs
  subst hs
  simp only [Prod.mk.injEq] at hx
  obtain ⟨rfl, _⟩ := hx
  simp only [DataW.weightsEach, DataW.weights, List.all_append, Bool.and_eq_true, List.all_cons, decide_eq_true_eq] at h
  have h2 := h.2.2.1.1
  unfold reachBytes at h2
  simpa using h2
end Go.Proofs.YtemopomapankmaaDoor
