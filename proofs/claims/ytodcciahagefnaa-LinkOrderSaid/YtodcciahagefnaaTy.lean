/-
  The closed facts on the seat's types and functions.
-/
import Derived.Test.YtodcciahagefnaaEngMem
import Derived.Test.YtodcciahagefnaaProg
import Derived.KernelRfl
namespace Go.Proofs.Ytodcciahagefnaa
open Go.Eng
theorem MO : Try.prog.follows .mixedOrders = true := by kernel_rfl
theorem T3 : TI Try.prog 3 1 8 (.int .i64 0) := ti_mk (by kernel_rfl)
theorem T9 : TI Try.prog 9 1 16 (.string (bs [])) := ti_mk (by kernel_rfl)
theorem T23 : TI Try.prog 23 1 8 (.pointer none) := ti_mk (by kernel_rfl)
theorem T32 : TI Try.prog 32 3 32 (.agg [.int .i64 0, .int .i64 0, .string (bs [])].toArray) := ti_mk (by kernel_rfl)
theorem T34 : TI Try.prog 34 5 56 (.agg [.bool false, .string (bs []), .int .i64 0, .int .i64 0, .string (bs [])].toArray) := ti_mk (by kernel_rfl)
theorem T39 : TI Try.prog 39 1 24 (.slice none 0 0) := ti_mk (by kernel_rfl)
theorem T44 : TI Try.prog 44 2 16 (.agg [.pointer none, .pointer none].toArray) := ti_mk (by kernel_rfl)
theorem T45 : TI Try.prog 45 1 24 (.slice none 0 0) := ti_mk (by kernel_rfl)
theorem T46 : TI Try.prog 46 2 48 (.agg [.slice none 0 0, .slice none 0 0].toArray) := ti_mk (by kernel_rfl)
theorem T47 : TI Try.prog 47 2 48 (.agg [.slice none 0 0, .slice none 0 0].toArray) := ti_mk (by kernel_rfl)
theorem T49 : TI Try.prog 49 5 32 (.agg [.bool false, .bool false, .bool false, .string (bs []), .int .i64 0].toArray) := ti_mk (by kernel_rfl)
theorem T55 : TI Try.prog 55 4 48 (.agg [.int .i64 0, .slice none 0 0, .int .i64 0, .int .i64 0].toArray) := ti_mk (by kernel_rfl)
theorem T57 : TI Try.prog 57 4 48 (.agg [.int .i64 0, .slice none 0 0, .int .i64 0, .int .i64 0].toArray) := ti_mk (by kernel_rfl)
theorem NA3 : NA Try.prog 3 := ⟨_, Try.underlying3, trivial⟩
theorem NA4 : NA Try.prog 4 := ⟨_, Try.underlying4, trivial⟩
theorem NA9 : NA Try.prog 9 := ⟨_, Try.underlying9, trivial⟩
theorem NA23 : NA Try.prog 23 := ⟨_, Try.underlying23, trivial⟩
theorem NA39 : NA Try.prog 39 := ⟨_, Try.underlying39, trivial⟩
theorem NA45 : NA Try.prog 45 := ⟨_, Try.underlying45, trivial⟩
theorem AG32 : AG Try.prog 32 3 := ag_struct Try.underlying32 T32
theorem AG34 : AG Try.prog 34 5 := ag_struct Try.underlying34 T34
theorem AG49 : AG Try.prog 49 5 := ag_struct Try.underlying49 T49
theorem F32_0 : FA Try.prog 32 0 0 := fa_mk Try.underlying32 rfl rfl (by kernel_rfl)
theorem F32_1 : FA Try.prog 32 1 1 := fa_mk Try.underlying32 rfl rfl (by kernel_rfl)
theorem F32_2 : FA Try.prog 32 2 2 := fa_mk Try.underlying32 rfl rfl (by kernel_rfl)
theorem F34_0 : FA Try.prog 34 0 0 := fa_mk Try.underlying34 rfl rfl (by kernel_rfl)
theorem F34_1 : FA Try.prog 34 1 1 := fa_mk Try.underlying34 rfl rfl (by kernel_rfl)
theorem F34_2 : FA Try.prog 34 2 2 := fa_mk Try.underlying34 rfl rfl (by kernel_rfl)
theorem F49_0 : FA Try.prog 49 0 0 := fa_mk Try.underlying49 rfl rfl (by kernel_rfl)
theorem F49_1 : FA Try.prog 49 1 1 := fa_mk Try.underlying49 rfl rfl (by kernel_rfl)
theorem F49_2 : FA Try.prog 49 2 2 := fa_mk Try.underlying49 rfl rfl (by kernel_rfl)
theorem F49_3 : FA Try.prog 49 3 3 := fa_mk Try.underlying49 rfl rfl (by kernel_rfl)
theorem F49_4 : FA Try.prog 49 4 4 := fa_mk Try.underlying49 rfl rfl (by kernel_rfl)
theorem F55_0 : FA Try.prog 55 0 0 := fa_mk Try.underlying55 rfl rfl (by kernel_rfl)
theorem F55_1 : FA Try.prog 55 1 1 := fa_mk Try.underlying55 rfl rfl (by kernel_rfl)
theorem F55_2 : FA Try.prog 55 2 2 := fa_mk Try.underlying55 rfl rfl (by kernel_rfl)
theorem F55_3 : FA Try.prog 55 3 3 := fa_mk Try.underlying55 rfl rfl (by kernel_rfl)
theorem F57_0 : FA Try.prog 57 0 0 := fa_mk Try.underlying57 rfl rfl (by kernel_rfl)
theorem F57_1 : FA Try.prog 57 1 1 := fa_mk Try.underlying57 rfl rfl (by kernel_rfl)
theorem F57_2 : FA Try.prog 57 2 2 := fa_mk Try.underlying57 rfl rfl (by kernel_rfl)
theorem F57_3 : FA Try.prog 57 3 3 := fa_mk Try.underlying57 rfl rfl (by kernel_rfl)
theorem PL32 : PL Try.prog 32 [(0, 1), (1, 1), (2, 1)] := pl_mk Try.underlying32 (by kernel_rfl)
theorem PL55 : PL Try.prog 55 [(0, 1), (1, 1), (2, 1), (3, 1)] := pl_mk Try.underlying55 (by kernel_rfl)
theorem PL57 : PL Try.prog 57 [(0, 1), (1, 1), (2, 1), (3, 1)] := pl_mk Try.underlying57 (by kernel_rfl)
theorem FN7 : FN Try.prog 7 := ⟨_, Try.func7, by kernel_rfl, by kernel_rfl⟩
theorem FN8 : FN Try.prog 8 := ⟨_, Try.func8, by kernel_rfl, by kernel_rfl⟩
theorem FN9 : FN Try.prog 9 := ⟨_, Try.func9, by kernel_rfl, by kernel_rfl⟩
theorem FN10 : FN Try.prog 10 := ⟨_, Try.func10, by kernel_rfl, by kernel_rfl⟩
theorem FN11 : FN Try.prog 11 := ⟨_, Try.func11, by kernel_rfl, by kernel_rfl⟩
theorem FN12 : FN Try.prog 12 := ⟨_, Try.func12, by kernel_rfl, by kernel_rfl⟩
theorem FN13 : FN Try.prog 13 := ⟨_, Try.func13, by kernel_rfl, by kernel_rfl⟩
theorem FN14 : FN Try.prog 14 := ⟨_, Try.func14, by kernel_rfl, by kernel_rfl⟩
theorem FN15 : FN Try.prog 15 := ⟨_, Try.func15, by kernel_rfl, by kernel_rfl⟩
theorem FN16 : FN Try.prog 16 := ⟨_, Try.func16, by kernel_rfl, by kernel_rfl⟩
theorem FN17 : FN Try.prog 17 := ⟨_, Try.func17, by kernel_rfl, by kernel_rfl⟩
theorem FN18 : FN Try.prog 18 := ⟨_, Try.func18, by kernel_rfl, by kernel_rfl⟩
theorem FN19 : FN Try.prog 19 := ⟨_, Try.func19, by kernel_rfl, by kernel_rfl⟩
end Go.Proofs.Ytodcciahagefnaa
