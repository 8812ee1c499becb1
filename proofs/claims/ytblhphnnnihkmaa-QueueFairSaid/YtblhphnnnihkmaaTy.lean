/-
  The closed facts on the seat's types and functions.
-/
import Derived.Test.YtblhphnnnihkmaaEngMem
import Derived.Test.YtblhphnnnihkmaaProg
import Derived.KernelRfl
namespace Go.Proofs.Ytblhphnnnihkmaa
open Go.Eng
theorem MO : Try.prog.follows .mixedOrders = true := by kernel_rfl
theorem T3 : TI Try.prog 3 1 8 (.int .i64 0) := ti_mk (by kernel_rfl)
theorem T4 : TI Try.prog 4 1 1 (.bool false) := ti_mk (by kernel_rfl)
theorem T32 : TI Try.prog 32 3 24 (.agg [.bool false, .int .i64 0, .int .i64 0].toArray) := ti_mk (by kernel_rfl)
theorem T39 : TI Try.prog 39 1 24 (.slice none 0 0) := ti_mk (by kernel_rfl)
theorem T41 : TI Try.prog 41 2 32 (.agg [.int .i64 0, .slice none 0 0].toArray) := ti_mk (by kernel_rfl)
theorem T48 : TI Try.prog 48 1 24 (.slice none 0 0) := ti_mk (by kernel_rfl)
theorem T50 : TI Try.prog 50 3 40 (.agg [.int .i64 0, .int .i64 0, .slice none 0 0].toArray) := ti_mk (by kernel_rfl)
theorem T58 : TI Try.prog 58 5 40 (.agg [.int .i64 0, .int .i64 0, .int .i64 0, .int .i64 0, .int .i64 0].toArray) := ti_mk (by kernel_rfl)
theorem T61 : TI Try.prog 61 3 24 (.agg [.int .i64 0, .int .i64 0, .int .i64 0].toArray) := ti_mk (by kernel_rfl)
theorem T62 : TI Try.prog 62 1 24 (.slice none 0 0) := ti_mk (by kernel_rfl)
theorem T64 : TI Try.prog 64 3 40 (.agg [.int .i64 0, .int .i64 0, .slice none 0 0].toArray) := ti_mk (by kernel_rfl)
theorem T66 : TI Try.prog 66 5 48 (.agg [.string (bs []), .int .i64 0, .int .i64 0, .int .i64 0, .int .i64 0].toArray) := ti_mk (by kernel_rfl)
theorem NA3 : NA Try.prog 3 := ⟨_, Try.underlying3, trivial⟩
theorem NA4 : NA Try.prog 4 := ⟨_, Try.underlying4, trivial⟩
theorem NA9 : NA Try.prog 9 := ⟨_, Try.underlying9, trivial⟩
theorem NA39 : NA Try.prog 39 := ⟨_, Try.underlying39, trivial⟩
theorem NA48 : NA Try.prog 48 := ⟨_, Try.underlying48, trivial⟩
theorem NA62 : NA Try.prog 62 := ⟨_, Try.underlying62, trivial⟩
theorem AG32 : AG Try.prog 32 3 := ag_struct Try.underlying32 T32
theorem AG58 : AG Try.prog 58 5 := ag_struct Try.underlying58 T58
theorem AG61 : AG Try.prog 61 3 := ag_struct Try.underlying61 T61
theorem AG66 : AG Try.prog 66 5 := ag_struct Try.underlying66 T66
theorem F32_0 : FA Try.prog 32 0 0 := fa_mk Try.underlying32 rfl rfl (by kernel_rfl)
theorem F32_1 : FA Try.prog 32 1 1 := fa_mk Try.underlying32 rfl rfl (by kernel_rfl)
theorem F32_2 : FA Try.prog 32 2 2 := fa_mk Try.underlying32 rfl rfl (by kernel_rfl)
theorem F41_0 : FA Try.prog 41 0 0 := fa_mk Try.underlying41 rfl rfl (by kernel_rfl)
theorem F41_1 : FA Try.prog 41 1 1 := fa_mk Try.underlying41 rfl rfl (by kernel_rfl)
theorem F50_0 : FA Try.prog 50 0 0 := fa_mk Try.underlying50 rfl rfl (by kernel_rfl)
theorem F50_1 : FA Try.prog 50 1 1 := fa_mk Try.underlying50 rfl rfl (by kernel_rfl)
theorem F50_2 : FA Try.prog 50 2 2 := fa_mk Try.underlying50 rfl rfl (by kernel_rfl)
theorem F58_0 : FA Try.prog 58 0 0 := fa_mk Try.underlying58 rfl rfl (by kernel_rfl)
theorem F58_1 : FA Try.prog 58 1 1 := fa_mk Try.underlying58 rfl rfl (by kernel_rfl)
theorem F58_2 : FA Try.prog 58 2 2 := fa_mk Try.underlying58 rfl rfl (by kernel_rfl)
theorem F58_3 : FA Try.prog 58 3 3 := fa_mk Try.underlying58 rfl rfl (by kernel_rfl)
theorem F58_4 : FA Try.prog 58 4 4 := fa_mk Try.underlying58 rfl rfl (by kernel_rfl)
theorem F61_0 : FA Try.prog 61 0 0 := fa_mk Try.underlying61 rfl rfl (by kernel_rfl)
theorem F61_1 : FA Try.prog 61 1 1 := fa_mk Try.underlying61 rfl rfl (by kernel_rfl)
theorem F61_2 : FA Try.prog 61 2 2 := fa_mk Try.underlying61 rfl rfl (by kernel_rfl)
theorem F64_0 : FA Try.prog 64 0 0 := fa_mk Try.underlying64 rfl rfl (by kernel_rfl)
theorem F64_1 : FA Try.prog 64 1 1 := fa_mk Try.underlying64 rfl rfl (by kernel_rfl)
theorem F64_2 : FA Try.prog 64 2 2 := fa_mk Try.underlying64 rfl rfl (by kernel_rfl)
theorem F66_0 : FA Try.prog 66 0 0 := fa_mk Try.underlying66 rfl rfl (by kernel_rfl)
theorem F66_1 : FA Try.prog 66 1 1 := fa_mk Try.underlying66 rfl rfl (by kernel_rfl)
theorem F66_2 : FA Try.prog 66 2 2 := fa_mk Try.underlying66 rfl rfl (by kernel_rfl)
theorem F66_3 : FA Try.prog 66 3 3 := fa_mk Try.underlying66 rfl rfl (by kernel_rfl)
theorem F66_4 : FA Try.prog 66 4 4 := fa_mk Try.underlying66 rfl rfl (by kernel_rfl)
theorem PL41 : PL Try.prog 41 [(0, 1), (1, 1)] := pl_mk Try.underlying41 (by kernel_rfl)
theorem PL50 : PL Try.prog 50 [(0, 1), (1, 1), (2, 1)] := pl_mk Try.underlying50 (by kernel_rfl)
theorem PL58 : PL Try.prog 58 [(0, 1), (1, 1), (2, 1), (3, 1), (4, 1)] := pl_mk Try.underlying58 (by kernel_rfl)
theorem PL61 : PL Try.prog 61 [(0, 1), (1, 1), (2, 1)] := pl_mk Try.underlying61 (by kernel_rfl)
theorem PL64 : PL Try.prog 64 [(0, 1), (1, 1), (2, 1)] := pl_mk Try.underlying64 (by kernel_rfl)
theorem PL66 : PL Try.prog 66 [(0, 1), (1, 1), (2, 1), (3, 1), (4, 1)] := pl_mk Try.underlying66 (by kernel_rfl)
theorem FN8 : FN Try.prog 8 := ⟨_, Try.func8, by kernel_rfl, by kernel_rfl⟩
theorem FN9 : FN Try.prog 9 := ⟨_, Try.func9, by kernel_rfl, by kernel_rfl⟩
theorem FN10 : FN Try.prog 10 := ⟨_, Try.func10, by kernel_rfl, by kernel_rfl⟩
theorem FN11 : FN Try.prog 11 := ⟨_, Try.func11, by kernel_rfl, by kernel_rfl⟩
theorem FN12 : FN Try.prog 12 := ⟨_, Try.func12, by kernel_rfl, by kernel_rfl⟩
theorem FN13 : FN Try.prog 13 := ⟨_, Try.func13, by kernel_rfl, by kernel_rfl⟩
theorem FN14 : FN Try.prog 14 := ⟨_, Try.func14, by kernel_rfl, by kernel_rfl⟩
theorem FN15 : FN Try.prog 15 := ⟨_, Try.func15, by kernel_rfl, by kernel_rfl⟩
theorem FN16 : FN Try.prog 16 := ⟨_, Try.func16, by kernel_rfl, by kernel_rfl⟩
theorem FN17 : FN Try.prog 17 := ⟨_, Try.func17, by kernel_rfl, by kernel_rfl⟩
theorem FN18 : FN Try.prog 18 := ⟨_, Try.func18, by kernel_rfl, by kernel_rfl⟩
theorem FN19 : FN Try.prog 19 := ⟨_, Try.func19, by kernel_rfl, by kernel_rfl⟩
theorem FN20 : FN Try.prog 20 := ⟨_, Try.func20, by kernel_rfl, by kernel_rfl⟩
theorem FN21 : FN Try.prog 21 := ⟨_, Try.func21, by kernel_rfl, by kernel_rfl⟩
theorem FN22 : FN Try.prog 22 := ⟨_, Try.func22, by kernel_rfl, by kernel_rfl⟩
theorem FN23 : FN Try.prog 23 := ⟨_, Try.func23, by kernel_rfl, by kernel_rfl⟩
theorem FN24 : FN Try.prog 24 := ⟨_, Try.func24, by kernel_rfl, by kernel_rfl⟩
theorem FN25 : FN Try.prog 25 := ⟨_, Try.func25, by kernel_rfl, by kernel_rfl⟩
theorem FN26 : FN Try.prog 26 := ⟨_, Try.func26, by kernel_rfl, by kernel_rfl⟩
theorem FN27 : FN Try.prog 27 := ⟨_, Try.func27, by kernel_rfl, by kernel_rfl⟩
theorem FN28 : FN Try.prog 28 := ⟨_, Try.func28, by kernel_rfl, by kernel_rfl⟩
theorem FN29 : FN Try.prog 29 := ⟨_, Try.func29, by kernel_rfl, by kernel_rfl⟩
end Go.Proofs.Ytblhphnnnihkmaa
