/-
  What came in, read.
-/
import Derived.Test.YtdeellflcphkaaaDiesLaw
import Derived.Test.YtdeellflcphkaaaEngLift
namespace Go.Proofs.Ytdeellflcphkaaa
open Go.Eng

theorem rd32 {W : World} : Rdr Try.prog W 32 encSl (goodSl W 1 (fun s : Str => [vS s]) (fun l => l.length ≤ maxLen)) := rd_slice Try.underlying32 (by kernel_rfl) (by decide) (fun _ => rfl) (rd_str Try.underlying9)
theorem rd33 {W : World} : Rdr Try.prog W 33 encSl (goodSl W 1 (fun b : Bool => [vB b]) (fun _ => True)) := rd_slice Try.underlying33 (by kernel_rfl) (by decide) (fun _ => rfl) (rd_bool Try.underlying4)
theorem two_of {l : List Value} (h : l.length = 2) : ∃ a b, l = [a, b] := by
  cases l with
  | nil => cases h
  | cons a l => cases l with
    | nil => cases h
    | cons b l => cases l with
      | nil => exact ⟨a, b, rfl⟩
      | cons c l => simp at h
theorem rd34 {W : World} : Rdr Try.prog W 34 (fun x : Int × Int => [vI x.1, vI x.2]) (fun x => fits64 x.1 ∧ fits64 x.2) := fun H en fuel cs x hx => by
  have hc : Try.prog.cellsOf 3 = 1 := by kernel_rfl
  have hc2 : Try.prog.cellsOf 34 = 2 := by kernel_rfl
  cases fuel with
  | zero => simp [DataW.trod] at hx
  | succ n =>
    unfold DataW.trod at hx
    simp only [Try.underlying34] at hx
    split at hx
    · rename_i hlen
      rw [hc2] at hlen
      cases hm : (List.range 2).mapM (fun i => DataW.trod en Try.prog W 0 (fun _ => true) true n 3 ((cs.drop (i * Try.prog.cellsOf 3)).take (Try.prog.cellsOf 3))) with
      | none => rw [hm] at hx; cases hx
      | some ys =>
        obtain ⟨y0, h0⟩ := mapM_all hm 0 (by simp)
        obtain ⟨y1, h1⟩ := mapM_all hm 1 (by simp)
        obtain ⟨a, ha, hga⟩ := rd_int Try.underlying3 H en n _ _ h0
        obtain ⟨b, hb, hgb⟩ := rd_int Try.underlying3 H en n _ _ h1
        rw [hc] at ha hb
        refine ⟨(a, b), ?_, hga, hgb⟩
        obtain ⟨c0, c1, rfl⟩ := two_of hlen
        have ha' : [c0] = [vI a] := ha
        have hb' : [c1] = [vI b] := hb
        rw [List.singleton_inj.1 ha', List.singleton_inj.1 hb']
    · cases hx
theorem ok34 {W : World} {r : Reach} {base : Nat} {v : Value} (h : Value.okWide Try.prog W r base 34 v) : ∃ cs, v = .agg cs := by
  simp only [Value.okWide, Try.underlying34] at h
  obtain ⟨cs, h1, _⟩ := h
  exact ⟨cs, h1⟩
theorem arg34 {H : Type} {en : TypeId × Value → H} {W : World} {r : Reach} {b0 : Nat} {v : Value} {d : DataW H} {ps : List MemPlace} (hval : Value.okWide Try.prog W r b0 34 v) (hd : DataW.Trod en Try.prog W 0 (fun _ => true) true 34 v d ps) : ∃ a k : Int, v = .agg #[vI a, vI k] ∧ fits64 a ∧ fits64 k := by
  obtain ⟨cs, rfl⟩ := ok34 hval
  obtain ⟨fuel, hf⟩ := hd
  obtain ⟨x, hx, hg⟩ := rd34 H en fuel _ _ hf
  refine ⟨x.1, x.2, ?_, hg.1, hg.2⟩
  have hx' : cs.toList = [vI x.1, vI x.2] := hx
  show Value.agg cs = Value.agg [vI x.1, vI x.2].toArray
  rw [← hx', Array.toArray_toList]
end Go.Proofs.Ytdeellflcphkaaa
