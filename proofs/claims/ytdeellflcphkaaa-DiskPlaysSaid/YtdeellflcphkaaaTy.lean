/-
  The closed facts on the seat's types and functions.
-/
import Derived.Test.YtdeellflcphkaaaEngSl
import Derived.Test.YtdeellflcphkaaaEngMap
import Derived.Test.YtdeellflcphkaaaProg
import Derived.KernelRfl
namespace Go.Proofs.Ytdeellflcphkaaa
open Go.Eng
theorem MO : Try.prog.follows .mixedOrders = true := by kernel_rfl
theorem T3 : TI Try.prog 3 1 8 (.int .i64 0) := ti_mk (by kernel_rfl)
theorem T4 : TI Try.prog 4 1 1 (.bool false) := ti_mk (by kernel_rfl)
theorem T9 : TI Try.prog 9 1 16 (.string (bs [])) := ti_mk (by kernel_rfl)
theorem T46 : TI Try.prog 46 6 88 (.agg [.int .i64 0, .string (bs []), .string (bs []), .string (bs []), .int .i64 0, .slice none 0 0].toArray) := ti_mk (by kernel_rfl)
theorem T54 : TI Try.prog 54 5 40 (.agg [.int .i64 0, .map none, .int .i64 0, .int .i64 0, .bool false].toArray) := ti_mk (by kernel_rfl)
theorem T58 : TI Try.prog 58 2 24 (.agg [.string (bs []), .int .i64 0].toArray) := ti_mk (by kernel_rfl)
theorem T67 : TI Try.prog 67 1 24 (.slice none 0 0) := ti_mk (by kernel_rfl)
theorem T69 : TI Try.prog 69 4 48 (.agg [.slice none 0 0, .int .i64 0, .int .i64 0, .bool false].toArray) := ti_mk (by kernel_rfl)
theorem T71 : TI Try.prog 71 3 40 (.agg [.string (bs []), .string (bs []), .int .i64 0].toArray) := ti_mk (by kernel_rfl)
theorem NA3 : NA Try.prog 3 := ⟨_, Try.underlying3, trivial⟩
theorem NA4 : NA Try.prog 4 := ⟨_, Try.underlying4, trivial⟩
theorem NA9 : NA Try.prog 9 := ⟨_, Try.underlying9, trivial⟩
theorem NA44 : NA Try.prog 44 := ⟨_, Try.underlying44, trivial⟩
theorem NA52 : NA Try.prog 52 := ⟨_, Try.underlying52, trivial⟩
theorem NA67 : NA Try.prog 67 := ⟨_, Try.underlying67, trivial⟩
theorem AG46 : AG Try.prog 46 6 := ag_struct Try.underlying46 T46
theorem AG58 : AG Try.prog 58 2 := ag_struct Try.underlying58 T58
theorem AG71 : AG Try.prog 71 3 := ag_struct Try.underlying71 T71
theorem F46_0 : FA Try.prog 46 0 0 := fa_mk Try.underlying46 rfl rfl (by kernel_rfl)
theorem F46_1 : FA Try.prog 46 1 1 := fa_mk Try.underlying46 rfl rfl (by kernel_rfl)
theorem F46_2 : FA Try.prog 46 2 2 := fa_mk Try.underlying46 rfl rfl (by kernel_rfl)
theorem F46_3 : FA Try.prog 46 3 3 := fa_mk Try.underlying46 rfl rfl (by kernel_rfl)
theorem F46_4 : FA Try.prog 46 4 4 := fa_mk Try.underlying46 rfl rfl (by kernel_rfl)
theorem F46_5 : FA Try.prog 46 5 5 := fa_mk Try.underlying46 rfl rfl (by kernel_rfl)
theorem F54_0 : FA Try.prog 54 0 0 := fa_mk Try.underlying54 rfl rfl (by kernel_rfl)
theorem F54_1 : FA Try.prog 54 1 1 := fa_mk Try.underlying54 rfl rfl (by kernel_rfl)
theorem F54_2 : FA Try.prog 54 2 2 := fa_mk Try.underlying54 rfl rfl (by kernel_rfl)
theorem F54_3 : FA Try.prog 54 3 3 := fa_mk Try.underlying54 rfl rfl (by kernel_rfl)
theorem F54_4 : FA Try.prog 54 4 4 := fa_mk Try.underlying54 rfl rfl (by kernel_rfl)
theorem F58_0 : FA Try.prog 58 0 0 := fa_mk Try.underlying58 rfl rfl (by kernel_rfl)
theorem F58_1 : FA Try.prog 58 1 1 := fa_mk Try.underlying58 rfl rfl (by kernel_rfl)
theorem F69_0 : FA Try.prog 69 0 0 := fa_mk Try.underlying69 rfl rfl (by kernel_rfl)
theorem F69_1 : FA Try.prog 69 1 1 := fa_mk Try.underlying69 rfl rfl (by kernel_rfl)
theorem F69_2 : FA Try.prog 69 2 2 := fa_mk Try.underlying69 rfl rfl (by kernel_rfl)
theorem F69_3 : FA Try.prog 69 3 3 := fa_mk Try.underlying69 rfl rfl (by kernel_rfl)
theorem F71_0 : FA Try.prog 71 0 0 := fa_mk Try.underlying71 rfl rfl (by kernel_rfl)
theorem F71_1 : FA Try.prog 71 1 1 := fa_mk Try.underlying71 rfl rfl (by kernel_rfl)
theorem F71_2 : FA Try.prog 71 2 2 := fa_mk Try.underlying71 rfl rfl (by kernel_rfl)
theorem PL54 : PL Try.prog 54 [(0, 1), (1, 1), (2, 1), (3, 1), (4, 1)] := pl_mk Try.underlying54 (by kernel_rfl)
theorem PL58 : PL Try.prog 58 [(0, 1), (1, 1)] := pl_mk Try.underlying58 (by kernel_rfl)
theorem PL69 : PL Try.prog 69 [(0, 1), (1, 1), (2, 1), (3, 1)] := pl_mk Try.underlying69 (by kernel_rfl)
theorem PL71 : PL Try.prog 71 [(0, 1), (1, 1), (2, 1)] := pl_mk Try.underlying71 (by kernel_rfl)
theorem FN7 : FN Try.prog 7 := ⟨_, Try.func7, by kernel_rfl, by kernel_rfl⟩
theorem FN8 : FN Try.prog 8 := ⟨_, Try.func8, by kernel_rfl, by kernel_rfl⟩
theorem FN9 : FN Try.prog 9 := ⟨_, Try.func9, by kernel_rfl, by kernel_rfl⟩
theorem FN10 : FN Try.prog 10 := ⟨_, Try.func10, by kernel_rfl, by kernel_rfl⟩
theorem FN11 : FN Try.prog 11 := ⟨_, Try.func11, by kernel_rfl, by kernel_rfl⟩
theorem FN12 : FN Try.prog 12 := ⟨_, Try.func12, by kernel_rfl, by kernel_rfl⟩
theorem FN13 : FN Try.prog 13 := ⟨_, Try.func13, by kernel_rfl, by kernel_rfl⟩
theorem FN14 : FN Try.prog 14 := ⟨_, Try.func14, by kernel_rfl, by kernel_rfl⟩
theorem FN15 : FN Try.prog 15 := ⟨_, Try.func15, by kernel_rfl, by kernel_rfl⟩
theorem FN16 : FN Try.prog 16 := ⟨_, Try.func16, by kernel_rfl, by kernel_rfl⟩
theorem FN17 : FN Try.prog 17 := ⟨_, Try.func17, by kernel_rfl, by kernel_rfl⟩
theorem FN18 : FN Try.prog 18 := ⟨_, Try.func18, by kernel_rfl, by kernel_rfl⟩
theorem FN19 : FN Try.prog 19 := ⟨_, Try.func19, by kernel_rfl, by kernel_rfl⟩
theorem FN20 : FN Try.prog 20 := ⟨_, Try.func20, by kernel_rfl, by kernel_rfl⟩
theorem FN21 : FN Try.prog 21 := ⟨_, Try.func21, by kernel_rfl, by kernel_rfl⟩
theorem FN22 : FN Try.prog 22 := ⟨_, Try.func22, by kernel_rfl, by kernel_rfl⟩
theorem FN23 : FN Try.prog 23 := ⟨_, Try.func23, by kernel_rfl, by kernel_rfl⟩
theorem FN24 : FN Try.prog 24 := ⟨_, Try.func24, by kernel_rfl, by kernel_rfl⟩
theorem FN25 : FN Try.prog 25 := ⟨_, Try.func25, by kernel_rfl, by kernel_rfl⟩
theorem FN26 : FN Try.prog 26 := ⟨_, Try.func26, by kernel_rfl, by kernel_rfl⟩
theorem FN27 : FN Try.prog 27 := ⟨_, Try.func27, by kernel_rfl, by kernel_rfl⟩
theorem FN28 : FN Try.prog 28 := ⟨_, Try.func28, by kernel_rfl, by kernel_rfl⟩
theorem FN29 : FN Try.prog 29 := ⟨_, Try.func29, by kernel_rfl, by kernel_rfl⟩
theorem FN30 : FN Try.prog 30 := ⟨_, Try.func30, by kernel_rfl, by kernel_rfl⟩
theorem FN31 : FN Try.prog 31 := ⟨_, Try.func31, by kernel_rfl, by kernel_rfl⟩
theorem FN32 : FN Try.prog 32 := ⟨_, Try.func32, by kernel_rfl, by kernel_rfl⟩
theorem FN33 : FN Try.prog 33 := ⟨_, Try.func33, by kernel_rfl, by kernel_rfl⟩
theorem FN34 : FN Try.prog 34 := ⟨_, Try.func34, by kernel_rfl, by kernel_rfl⟩
theorem FN35 : FN Try.prog 35 := ⟨_, Try.func35, by kernel_rfl, by kernel_rfl⟩
theorem FN36 : FN Try.prog 36 := ⟨_, Try.func36, by kernel_rfl, by kernel_rfl⟩
theorem FN37 : FN Try.prog 37 := ⟨_, Try.func37, by kernel_rfl, by kernel_rfl⟩
theorem FN38 : FN Try.prog 38 := ⟨_, Try.func38, by kernel_rfl, by kernel_rfl⟩
theorem FN39 : FN Try.prog 39 := ⟨_, Try.func39, by kernel_rfl, by kernel_rfl⟩
theorem FN40 : FN Try.prog 40 := ⟨_, Try.func40, by kernel_rfl, by kernel_rfl⟩
theorem FN41 : FN Try.prog 41 := ⟨_, Try.func41, by kernel_rfl, by kernel_rfl⟩
theorem FN42 : FN Try.prog 42 := ⟨_, Try.func42, by kernel_rfl, by kernel_rfl⟩
theorem FN43 : FN Try.prog 43 := ⟨_, Try.func43, by kernel_rfl, by kernel_rfl⟩
theorem FN44 : FN Try.prog 44 := ⟨_, Try.func44, by kernel_rfl, by kernel_rfl⟩
theorem FN46 : FN Try.prog 46 := ⟨_, Try.func46, by kernel_rfl, by kernel_rfl⟩
theorem FN47 : FN Try.prog 47 := ⟨_, Try.func47, by kernel_rfl, by kernel_rfl⟩
theorem FN48 : FN Try.prog 48 := ⟨_, Try.func48, by kernel_rfl, by kernel_rfl⟩
theorem FN49 : FN Try.prog 49 := ⟨_, Try.func49, by kernel_rfl, by kernel_rfl⟩
end Go.Proofs.Ytdeellflcphkaaa
