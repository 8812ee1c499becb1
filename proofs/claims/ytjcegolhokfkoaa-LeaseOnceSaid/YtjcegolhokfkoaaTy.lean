/-
  The closed facts on the seat's types and functions.
-/
import Derived.Test.YtjcegolhokfkoaaEngSl
import Derived.Test.YtjcegolhokfkoaaEngMap
import Derived.Test.YtjcegolhokfkoaaProg
import Derived.KernelRfl
namespace Go.Proofs.Ytjcegolhokfkoaa
open Go.Eng
theorem MO : Try.prog.follows .mixedOrders = true := by kernel_rfl
theorem T3 : TI Try.prog 3 1 8 (.int .i64 0) := ti_mk (by kernel_rfl)
theorem T9 : TI Try.prog 9 1 16 (.string (bs [])) := ti_mk (by kernel_rfl)
theorem T28 : TI Try.prog 28 3 32 (.agg [.string (bs []), .int .i64 0, .int .i64 0].toArray) := ti_mk (by kernel_rfl)
theorem T30 : TI Try.prog 30 6 64 (.agg [.string (bs []), .int .i64 0, .int .i64 0, .string (bs []), .int .i64 0, .int .i64 0].toArray) := ti_mk (by kernel_rfl)
theorem T36 : TI Try.prog 36 1 24 (.slice none 0 0) := ti_mk (by kernel_rfl)
theorem T44 : TI Try.prog 44 7 72 (.agg [.int .i64 0, .string (bs []), .int .i64 0, .int .i64 0, .string (bs []), .int .i64 0, .int .i64 0].toArray) := ti_mk (by kernel_rfl)
theorem T50 : TI Try.prog 50 3 40 (.agg [.slice none 0 0, .int .i64 0, .int .i64 0].toArray) := ti_mk (by kernel_rfl)
theorem T56 : TI Try.prog 56 3 24 (.agg [.int .i64 0, .int .i64 0, .map none].toArray) := ti_mk (by kernel_rfl)
theorem NA3 : NA Try.prog 3 := ⟨_, Try.underlying3, trivial⟩
theorem NA9 : NA Try.prog 9 := ⟨_, Try.underlying9, trivial⟩
theorem NA36 : NA Try.prog 36 := ⟨_, Try.underlying36, trivial⟩
theorem NA54 : NA Try.prog 54 := ⟨_, Try.underlying54, trivial⟩
theorem AG28 : AG Try.prog 28 3 := ag_struct Try.underlying28 T28
theorem AG30 : AG Try.prog 30 6 := ag_struct Try.underlying30 T30
theorem AG44 : AG Try.prog 44 7 := ag_struct Try.underlying44 T44
theorem F28_0 : FA Try.prog 28 0 0 := fa_mk Try.underlying28 rfl rfl (by kernel_rfl)
theorem F30_0 : FA Try.prog 30 0 0 := fa_mk Try.underlying30 rfl rfl (by kernel_rfl)
theorem F30_1 : FA Try.prog 30 1 3 := fa_mk Try.underlying30 rfl rfl (by kernel_rfl)
theorem F30_2 : FA Try.prog 30 2 4 := fa_mk Try.underlying30 rfl rfl (by kernel_rfl)
theorem F30_3 : FA Try.prog 30 3 5 := fa_mk Try.underlying30 rfl rfl (by kernel_rfl)
theorem F44_0 : FA Try.prog 44 0 0 := fa_mk Try.underlying44 rfl rfl (by kernel_rfl)
theorem F44_1 : FA Try.prog 44 1 1 := fa_mk Try.underlying44 rfl rfl (by kernel_rfl)
theorem F44_2 : FA Try.prog 44 2 4 := fa_mk Try.underlying44 rfl rfl (by kernel_rfl)
theorem F44_3 : FA Try.prog 44 3 5 := fa_mk Try.underlying44 rfl rfl (by kernel_rfl)
theorem F44_4 : FA Try.prog 44 4 6 := fa_mk Try.underlying44 rfl rfl (by kernel_rfl)
theorem F50_0 : FA Try.prog 50 0 0 := fa_mk Try.underlying50 rfl rfl (by kernel_rfl)
theorem F50_1 : FA Try.prog 50 1 1 := fa_mk Try.underlying50 rfl rfl (by kernel_rfl)
theorem F50_2 : FA Try.prog 50 2 2 := fa_mk Try.underlying50 rfl rfl (by kernel_rfl)
theorem F56_0 : FA Try.prog 56 0 0 := fa_mk Try.underlying56 rfl rfl (by kernel_rfl)
theorem F56_1 : FA Try.prog 56 1 1 := fa_mk Try.underlying56 rfl rfl (by kernel_rfl)
theorem F56_2 : FA Try.prog 56 2 2 := fa_mk Try.underlying56 rfl rfl (by kernel_rfl)
theorem PL28 : PL Try.prog 28 [(0, 1), (1, 1), (2, 1)] := pl_mk Try.underlying28 (by kernel_rfl)
theorem PL30 : PL Try.prog 30 [(0, 3), (3, 1), (4, 1), (5, 1)] := pl_mk Try.underlying30 (by kernel_rfl)
theorem PL50 : PL Try.prog 50 [(0, 1), (1, 1), (2, 1)] := pl_mk Try.underlying50 (by kernel_rfl)
theorem PL56 : PL Try.prog 56 [(0, 1), (1, 1), (2, 1)] := pl_mk Try.underlying56 (by kernel_rfl)
theorem FN7 : FN Try.prog 7 := ⟨_, Try.func7, by kernel_rfl, by kernel_rfl⟩
theorem FN8 : FN Try.prog 8 := ⟨_, Try.func8, by kernel_rfl, by kernel_rfl⟩
theorem FN9 : FN Try.prog 9 := ⟨_, Try.func9, by kernel_rfl, by kernel_rfl⟩
theorem FN10 : FN Try.prog 10 := ⟨_, Try.func10, by kernel_rfl, by kernel_rfl⟩
theorem FN11 : FN Try.prog 11 := ⟨_, Try.func11, by kernel_rfl, by kernel_rfl⟩
theorem FN12 : FN Try.prog 12 := ⟨_, Try.func12, by kernel_rfl, by kernel_rfl⟩
theorem FN13 : FN Try.prog 13 := ⟨_, Try.func13, by kernel_rfl, by kernel_rfl⟩
theorem FN14 : FN Try.prog 14 := ⟨_, Try.func14, by kernel_rfl, by kernel_rfl⟩
theorem FN15 : FN Try.prog 15 := ⟨_, Try.func15, by kernel_rfl, by kernel_rfl⟩
theorem FN16 : FN Try.prog 16 := ⟨_, Try.func16, by kernel_rfl, by kernel_rfl⟩
theorem FN17 : FN Try.prog 17 := ⟨_, Try.func17, by kernel_rfl, by kernel_rfl⟩
theorem FN18 : FN Try.prog 18 := ⟨_, Try.func18, by kernel_rfl, by kernel_rfl⟩
theorem FN19 : FN Try.prog 19 := ⟨_, Try.func19, by kernel_rfl, by kernel_rfl⟩
theorem FN20 : FN Try.prog 20 := ⟨_, Try.func20, by kernel_rfl, by kernel_rfl⟩
theorem FN21 : FN Try.prog 21 := ⟨_, Try.func21, by kernel_rfl, by kernel_rfl⟩
theorem FN22 : FN Try.prog 22 := ⟨_, Try.func22, by kernel_rfl, by kernel_rfl⟩
theorem FN23 : FN Try.prog 23 := ⟨_, Try.func23, by kernel_rfl, by kernel_rfl⟩
theorem FN24 : FN Try.prog 24 := ⟨_, Try.func24, by kernel_rfl, by kernel_rfl⟩
theorem FN25 : FN Try.prog 25 := ⟨_, Try.func25, by kernel_rfl, by kernel_rfl⟩
theorem FN26 : FN Try.prog 26 := ⟨_, Try.func26, by kernel_rfl, by kernel_rfl⟩
theorem FN27 : FN Try.prog 27 := ⟨_, Try.func27, by kernel_rfl, by kernel_rfl⟩
theorem FN28 : FN Try.prog 28 := ⟨_, Try.func28, by kernel_rfl, by kernel_rfl⟩
theorem FN29 : FN Try.prog 29 := ⟨_, Try.func29, by kernel_rfl, by kernel_rfl⟩
theorem FN30 : FN Try.prog 30 := ⟨_, Try.func30, by kernel_rfl, by kernel_rfl⟩
theorem FN31 : FN Try.prog 31 := ⟨_, Try.func31, by kernel_rfl, by kernel_rfl⟩
theorem FN32 : FN Try.prog 32 := ⟨_, Try.func32, by kernel_rfl, by kernel_rfl⟩
theorem FN33 : FN Try.prog 33 := ⟨_, Try.func33, by kernel_rfl, by kernel_rfl⟩
theorem FN34 : FN Try.prog 34 := ⟨_, Try.func34, by kernel_rfl, by kernel_rfl⟩
theorem FN35 : FN Try.prog 35 := ⟨_, Try.func35, by kernel_rfl, by kernel_rfl⟩
theorem FN36 : FN Try.prog 36 := ⟨_, Try.func36, by kernel_rfl, by kernel_rfl⟩
theorem FN37 : FN Try.prog 37 := ⟨_, Try.func37, by kernel_rfl, by kernel_rfl⟩
end Go.Proofs.Ytjcegolhokfkoaa
