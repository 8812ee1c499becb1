/-
  Files compared.
-/
import Derived.Test.YtemopomapankmaaDoorWalkG
namespace Go.Proofs.YtemopomapankmaaDoor
open Go.Eng

theorem E24 (x y : Fl) : EQ Tryd.prog 24 (encF x) (encF y) (decide (x = y)) :=
  eq_of (k := 2) (by kernel_rfl) rfl (ceq_struct Tryd.underlying24 (by kernel_rfl) (feq_one (by decide) NA9 rfl rfl (ceq_str Tryd.underlying9) (feq_one (by decide) NA9 rfl rfl (ceq_str Tryd.underlying9) feq_nil))) (by
    obtain ⟨a, b⟩ := x
    obtain ⟨c, d⟩ := y
    rw [Bool.eq_iff_iff]; simp [encF, Prod.ext_iff])
end Go.Proofs.YtemopomapankmaaDoor
