/-
  The closed facts on the seat's types and functions.
-/
import Derived.Test.YtfoeghobpoakiaaDoorEngSl
import Derived.Test.YtfoeghobpoakiaaDoorEngLib0
import Derived.Test.YtfoeghobpoakiaaDoorEngBld
import Derived.Test.YtfoeghobpoakiaaDoorProg
import Derived.KernelRfl
namespace Go.Proofs.YtfoeghobpoakiaaDoor
open Go.Eng
theorem MO : Tryd.prog.follows .mixedOrders = true := by kernel_rfl
theorem T3 : TI Tryd.prog 3 1 8 (.int .i64 0) := ti_mk (by kernel_rfl)
theorem T5 : TI Tryd.prog 5 1 1 (.int .u8 0) := ti_mk (by kernel_rfl)
theorem T9 : TI Tryd.prog 9 1 16 (.string (bs [])) := ti_mk (by kernel_rfl)
theorem T35 : TI Tryd.prog 35 1 8 (.int .i64 0) := ti_mk (by kernel_rfl)
theorem T41 : TI Tryd.prog 41 2 24 (.agg [.string (bs []), .int .i64 0].toArray) := ti_mk (by kernel_rfl)
theorem T46 : TI Tryd.prog 46 1 8 (.pointer none) := ti_mk (by kernel_rfl)
theorem T47 : TI Tryd.prog 47 1 24 (.slice none 0 0) := ti_mk (by kernel_rfl)
theorem T49 : TI Tryd.prog 49 2 32 (.agg [.pointer none, .slice none 0 0].toArray) := ti_mk (by kernel_rfl)
theorem T55 : TI Tryd.prog 55 2 24 (.agg [.string (bs []), .int .i64 0].toArray) := ti_mk (by kernel_rfl)
theorem NA3 : NA Tryd.prog 3 := ⟨_, Tryd.underlying3, trivial⟩
theorem NA9 : NA Tryd.prog 9 := ⟨_, Tryd.underlying9, trivial⟩
theorem NA35 : NA Tryd.prog 35 := ⟨_, Tryd.underlying35, trivial⟩
theorem NA46 : NA Tryd.prog 46 := ⟨_, Tryd.underlying46, trivial⟩
theorem NA47 : NA Tryd.prog 47 := ⟨_, Tryd.underlying47, trivial⟩
theorem F41_0 : FA Tryd.prog 41 0 0 := fa_mk Tryd.underlying41 rfl rfl (by kernel_rfl)
theorem F41_1 : FA Tryd.prog 41 1 1 := fa_mk Tryd.underlying41 rfl rfl (by kernel_rfl)
theorem F49_0 : FA Tryd.prog 49 0 0 := fa_mk Tryd.underlying49 rfl rfl (by kernel_rfl)
theorem F49_1 : FA Tryd.prog 49 1 1 := fa_mk Tryd.underlying49 rfl rfl (by kernel_rfl)
theorem F55_0 : FA Tryd.prog 55 0 0 := fa_mk Tryd.underlying55 rfl rfl (by kernel_rfl)
theorem F55_1 : FA Tryd.prog 55 1 1 := fa_mk Tryd.underlying55 rfl rfl (by kernel_rfl)
theorem PL41 : PL Tryd.prog 41 [(0, 1), (1, 1)] := pl_mk Tryd.underlying41 (by kernel_rfl)
theorem PL55 : PL Tryd.prog 55 [(0, 1), (1, 1)] := pl_mk Tryd.underlying55 (by kernel_rfl)
theorem FN11 : FN Tryd.prog 11 := ⟨_, Tryd.func11, by kernel_rfl, by kernel_rfl⟩
theorem FN12 : FN Tryd.prog 12 := ⟨_, Tryd.func12, by kernel_rfl, by kernel_rfl⟩
theorem FN13 : FN Tryd.prog 13 := ⟨_, Tryd.func13, by kernel_rfl, by kernel_rfl⟩
theorem FN14 : FN Tryd.prog 14 := ⟨_, Tryd.func14, by kernel_rfl, by kernel_rfl⟩
theorem FN15 : FN Tryd.prog 15 := ⟨_, Tryd.func15, by kernel_rfl, by kernel_rfl⟩
theorem FN16 : FN Tryd.prog 16 := ⟨_, Tryd.func16, by kernel_rfl, by kernel_rfl⟩
theorem FN17 : FN Tryd.prog 17 := ⟨_, Tryd.func17, by kernel_rfl, by kernel_rfl⟩
theorem FN18 : FN Tryd.prog 18 := ⟨_, Tryd.func18, by kernel_rfl, by kernel_rfl⟩
theorem FN19 : FN Tryd.prog 19 := ⟨_, Tryd.func19, by kernel_rfl, by kernel_rfl⟩
theorem FN20 : FN Tryd.prog 20 := ⟨_, Tryd.func20, by kernel_rfl, by kernel_rfl⟩
theorem FN21 : FN Tryd.prog 21 := ⟨_, Tryd.func21, by kernel_rfl, by kernel_rfl⟩
theorem FN22 : FN Tryd.prog 22 := ⟨_, Tryd.func22, by kernel_rfl, by kernel_rfl⟩
theorem FN23 : FN Tryd.prog 23 := ⟨_, Tryd.func23, by kernel_rfl, by kernel_rfl⟩
theorem FN24 : FN Tryd.prog 24 := ⟨_, Tryd.func24, by kernel_rfl, by kernel_rfl⟩
theorem FN25 : FN Tryd.prog 25 := ⟨_, Tryd.func25, by kernel_rfl, by kernel_rfl⟩
theorem FN26 : FN Tryd.prog 26 := ⟨_, Tryd.func26, by kernel_rfl, by kernel_rfl⟩
theorem FN27 : FN Tryd.prog 27 := ⟨_, Tryd.func27, by kernel_rfl, by kernel_rfl⟩
theorem FN28 : FN Tryd.prog 28 := ⟨_, Tryd.func28, by kernel_rfl, by kernel_rfl⟩
theorem FN29 : FN Tryd.prog 29 := ⟨_, Tryd.func29, by kernel_rfl, by kernel_rfl⟩
theorem FN30 : FN Tryd.prog 30 := ⟨_, Tryd.func30, by kernel_rfl, by kernel_rfl⟩
theorem FN31 : FN Tryd.prog 31 := ⟨_, Tryd.func31, by kernel_rfl, by kernel_rfl⟩
theorem FN32 : FN Tryd.prog 32 := ⟨_, Tryd.func32, by kernel_rfl, by kernel_rfl⟩
theorem FN33 : FN Tryd.prog 33 := ⟨_, Tryd.func33, by kernel_rfl, by kernel_rfl⟩
theorem FN34 : FN Tryd.prog 34 := ⟨_, Tryd.func34, by kernel_rfl, by kernel_rfl⟩
theorem FN35 : FN Tryd.prog 35 := ⟨_, Tryd.func35, by kernel_rfl, by kernel_rfl⟩
theorem FN36 : FN Tryd.prog 36 := ⟨_, Tryd.func36, by kernel_rfl, by kernel_rfl⟩
theorem FN37 : FN Tryd.prog 37 := ⟨_, Tryd.func37, by kernel_rfl, by kernel_rfl⟩
theorem FN38 : FN Tryd.prog 38 := ⟨_, Tryd.func38, by kernel_rfl, by kernel_rfl⟩
theorem FN39 : FN Tryd.prog 39 := ⟨_, Tryd.func39, by kernel_rfl, by kernel_rfl⟩
theorem FN41 : FN Tryd.prog 41 := ⟨_, Tryd.func41, by kernel_rfl, by kernel_rfl⟩
theorem FN42 : FN Tryd.prog 42 := ⟨_, Tryd.func42, by kernel_rfl, by kernel_rfl⟩
theorem FN47 : FN Tryd.prog 47 := ⟨_, Tryd.func47, by kernel_rfl, by kernel_rfl⟩
end Go.Proofs.YtfoeghobpoakiaaDoor
