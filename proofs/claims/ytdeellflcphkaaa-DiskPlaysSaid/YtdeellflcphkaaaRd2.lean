/-
  What came in, read: calls.
-/
import Derived.Test.YtdeellflcphkaaaRd
import Derived.Test.YtdeellflcphkaaaPlaysDef
namespace Go.Proofs.Ytdeellflcphkaaa
open Go.Eng

theorem rd44 {W : World} : Rdr Try.prog W 44 encSl (goodSl W 1 (fun n : Int => [vI n]) fits64) := rd_slice Try.underlying44 (by kernel_rfl) (by decide) (fun _ => rfl) (rd_int Try.underlying3)
theorem rd46 {W : World} : Rdr Try.prog W 46 encO (fun x => x.n ≤ 9223372036854775807 ∧ goodSl W 1 (fun n : Int => [vI n]) fits64 x.kp) :=
  (rd_struct Try.underlying46 (by kernel_rfl) (rdf_cons (sz := 1) rfl (by kernel_rfl) (rd_int Try.underlying3) (rdf_cons (sz := 1) rfl (by kernel_rfl) (rd_str Try.underlying9) (rdf_cons (sz := 1) rfl (by kernel_rfl) (rd_str Try.underlying9) (rdf_cons (sz := 1) rfl (by kernel_rfl) (rd_str Try.underlying9)
    (rdf_cons (sz := 1) rfl (by kernel_rfl) (rd_int Try.underlying3) (rdf_cons (sz := 1) rfl (by kernel_rfl) rd44 rdf_nil))))))).map
    (fun x => (⟨x.1, x.2.1, x.2.2.1, x.2.2.2.1, x.2.2.2.2.1, x.2.2.2.2.2.1⟩ : Opx)) (fun _ => rfl) (fun _ hx => ⟨hx.2.2.2.2.1.2, hx.2.2.2.2.2.1⟩)
theorem rd40 {W : World} : Rdr Try.prog W 40 encSl (goodSl W 6 encO (fun x => x.n ≤ 9223372036854775807 ∧ goodSl W 1 (fun n : Int => [vI n]) fits64 x.kp)) := rd_slice Try.underlying40 (by kernel_rfl) (by decide) encO_len rd46
theorem plays_ro {W : World} {xs : List Opx} {a : Option Addr} (h : Ro W (fun _ => False) (rsl a xs.length 6 (xs.flatMap encO))) (hk : ∀ x ∈ xs, goodSl W 1 (fun n : Int => [vI n]) fits64 x.kp) :
    ∀ A ∈ rsl a xs.length 6 (xs.flatMap encO) :: xs.map (fun x : Opx => rsl x.kp.a x.kp.xs.length 1 (x.kp.xs.map vI)), Ro W (fun _ => False) A := fun A hA => by
  rcases List.mem_cons.1 hA with rfl | hA
  · exact h
  · obtain ⟨x, hx, rfl⟩ := List.mem_map.1 hA
    obtain ⟨g, h1, h2⟩ := (hk x hx).1
    rw [List.map_eq_flatMap]
    exact ⟨g, h1, fun p hp => ⟨h2 p hp, id⟩⟩
end Go.Proofs.Ytdeellflcphkaaa
