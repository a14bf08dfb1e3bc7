/- 'MachWords': cases, run by the kernel. Conditions: none. -/
import Derived.Test.YtapnnpoljobanabGreatDoorCw
namespace Go.Proofs.YtapnnpoljobanabGreatDoor.MachWords
open Go.Ex
set_option maxRecDepth 1000000
theorem n_60_0 : ∀ M : Int, yesM M 4 [.int .i64 (.ofNat 0), .int .i64 (.ofNat 60)] = true := by intro M; kernel_rfl
theorem n_60_1 : ∀ M : Int, yesM M 4 [.int .i64 (.ofNat 1), .int .i64 (.ofNat 60)] = true := by intro M; kernel_rfl
theorem n_60_2 : ∀ M : Int, yesM M 4 [.int .i64 (.ofNat 2), .int .i64 (.ofNat 60)] = true := by intro M; kernel_rfl
theorem n_60_3 : ∀ M : Int, yesM M 4 [.int .i64 (.ofNat 3), .int .i64 (.ofNat 60)] = true := by intro M; kernel_rfl
theorem n_60_4 : ∀ M : Int, yesM M 4 [.int .i64 (.ofNat 4), .int .i64 (.ofNat 60)] = true := by intro M; kernel_rfl
theorem n_60_5 : ∀ M : Int, yesM M 4 [.int .i64 (.ofNat 5), .int .i64 (.ofNat 60)] = true := by intro M; kernel_rfl
theorem n_60_6 : ∀ M : Int, yesM M 4 [.int .i64 (.ofNat 6), .int .i64 (.ofNat 60)] = true := by intro M; kernel_rfl
theorem n_60_7 : ∀ M : Int, yesM M 4 [.int .i64 (.ofNat 7), .int .i64 (.ofNat 60)] = true := by intro M; kernel_rfl
theorem n_60_8 : ∀ M : Int, yesM M 4 [.int .i64 (.ofNat 8), .int .i64 (.ofNat 60)] = true := by intro M; kernel_rfl
theorem n_60_9 : ∀ M : Int, yesM M 4 [.int .i64 (.ofNat 9), .int .i64 (.ofNat 60)] = true := by intro M; kernel_rfl
theorem n_61_0 : ∀ M : Int, yesM M 4 [.int .i64 (.ofNat 0), .int .i64 (.ofNat 61)] = true := by intro M; kernel_rfl
theorem n_61_1 : ∀ M : Int, yesM M 4 [.int .i64 (.ofNat 1), .int .i64 (.ofNat 61)] = true := by intro M; kernel_rfl
theorem n_61_2 : ∀ M : Int, yesM M 4 [.int .i64 (.ofNat 2), .int .i64 (.ofNat 61)] = true := by intro M; kernel_rfl
theorem n_61_3 : ∀ M : Int, yesM M 4 [.int .i64 (.ofNat 3), .int .i64 (.ofNat 61)] = true := by intro M; kernel_rfl
theorem n_61_4 : ∀ M : Int, yesM M 4 [.int .i64 (.ofNat 4), .int .i64 (.ofNat 61)] = true := by intro M; kernel_rfl
theorem n_61_5 : ∀ M : Int, yesM M 4 [.int .i64 (.ofNat 5), .int .i64 (.ofNat 61)] = true := by intro M; kernel_rfl
theorem n_61_6 : ∀ M : Int, yesM M 4 [.int .i64 (.ofNat 6), .int .i64 (.ofNat 61)] = true := by intro M; kernel_rfl
theorem n_61_7 : ∀ M : Int, yesM M 4 [.int .i64 (.ofNat 7), .int .i64 (.ofNat 61)] = true := by intro M; kernel_rfl
theorem n_61_8 : ∀ M : Int, yesM M 4 [.int .i64 (.ofNat 8), .int .i64 (.ofNat 61)] = true := by intro M; kernel_rfl
theorem n_61_9 : ∀ M : Int, yesM M 4 [.int .i64 (.ofNat 9), .int .i64 (.ofNat 61)] = true := by intro M; kernel_rfl
theorem n_62_0 : ∀ M : Int, yesM M 4 [.int .i64 (.ofNat 0), .int .i64 (.ofNat 62)] = true := by intro M; kernel_rfl
theorem n_62_1 : ∀ M : Int, yesM M 4 [.int .i64 (.ofNat 1), .int .i64 (.ofNat 62)] = true := by intro M; kernel_rfl
theorem n_62_2 : ∀ M : Int, yesM M 4 [.int .i64 (.ofNat 2), .int .i64 (.ofNat 62)] = true := by intro M; kernel_rfl
theorem n_62_3 : ∀ M : Int, yesM M 4 [.int .i64 (.ofNat 3), .int .i64 (.ofNat 62)] = true := by intro M; kernel_rfl
theorem n_62_4 : ∀ M : Int, yesM M 4 [.int .i64 (.ofNat 4), .int .i64 (.ofNat 62)] = true := by intro M; kernel_rfl
theorem n_62_5 : ∀ M : Int, yesM M 4 [.int .i64 (.ofNat 5), .int .i64 (.ofNat 62)] = true := by intro M; kernel_rfl
theorem n_62_6 : ∀ M : Int, yesM M 4 [.int .i64 (.ofNat 6), .int .i64 (.ofNat 62)] = true := by intro M; kernel_rfl
theorem n_62_7 : ∀ M : Int, yesM M 4 [.int .i64 (.ofNat 7), .int .i64 (.ofNat 62)] = true := by intro M; kernel_rfl
theorem n_62_8 : ∀ M : Int, yesM M 4 [.int .i64 (.ofNat 8), .int .i64 (.ofNat 62)] = true := by intro M; kernel_rfl
theorem n_62_9 : ∀ M : Int, yesM M 4 [.int .i64 (.ofNat 9), .int .i64 (.ofNat 62)] = true := by intro M; kernel_rfl
theorem n_63_0 : ∀ M : Int, yesM M 4 [.int .i64 (.ofNat 0), .int .i64 (.ofNat 63)] = true := by intro M; kernel_rfl
theorem n_63_1 : ∀ M : Int, yesM M 4 [.int .i64 (.ofNat 1), .int .i64 (.ofNat 63)] = true := by intro M; kernel_rfl
theorem n_63_2 : ∀ M : Int, yesM M 4 [.int .i64 (.ofNat 2), .int .i64 (.ofNat 63)] = true := by intro M; kernel_rfl
theorem n_63_3 : ∀ M : Int, yesM M 4 [.int .i64 (.ofNat 3), .int .i64 (.ofNat 63)] = true := by intro M; kernel_rfl
theorem n_63_4 : ∀ M : Int, yesM M 4 [.int .i64 (.ofNat 4), .int .i64 (.ofNat 63)] = true := by intro M; kernel_rfl
theorem n_63_5 : ∀ M : Int, yesM M 4 [.int .i64 (.ofNat 5), .int .i64 (.ofNat 63)] = true := by intro M; kernel_rfl
theorem n_63_6 : ∀ M : Int, yesM M 4 [.int .i64 (.ofNat 6), .int .i64 (.ofNat 63)] = true := by intro M; kernel_rfl
theorem n_63_7 : ∀ M : Int, yesM M 4 [.int .i64 (.ofNat 7), .int .i64 (.ofNat 63)] = true := by intro M; kernel_rfl
theorem n_63_8 : ∀ M : Int, yesM M 4 [.int .i64 (.ofNat 8), .int .i64 (.ofNat 63)] = true := by intro M; kernel_rfl
theorem n_63_9 : ∀ M : Int, yesM M 4 [.int .i64 (.ofNat 9), .int .i64 (.ofNat 63)] = true := by intro M; kernel_rfl
theorem n_64_0 : ∀ M : Int, yesM M 4 [.int .i64 (.ofNat 0), .int .i64 (.ofNat 64)] = true := by intro M; kernel_rfl
theorem n_64_1 : ∀ M : Int, yesM M 4 [.int .i64 (.ofNat 1), .int .i64 (.ofNat 64)] = true := by intro M; kernel_rfl
theorem n_64_2 : ∀ M : Int, yesM M 4 [.int .i64 (.ofNat 2), .int .i64 (.ofNat 64)] = true := by intro M; kernel_rfl
theorem n_64_3 : ∀ M : Int, yesM M 4 [.int .i64 (.ofNat 3), .int .i64 (.ofNat 64)] = true := by intro M; kernel_rfl
theorem n_64_4 : ∀ M : Int, yesM M 4 [.int .i64 (.ofNat 4), .int .i64 (.ofNat 64)] = true := by intro M; kernel_rfl
theorem n_64_5 : ∀ M : Int, yesM M 4 [.int .i64 (.ofNat 5), .int .i64 (.ofNat 64)] = true := by intro M; kernel_rfl
theorem n_64_6 : ∀ M : Int, yesM M 4 [.int .i64 (.ofNat 6), .int .i64 (.ofNat 64)] = true := by intro M; kernel_rfl
theorem n_64_7 : ∀ M : Int, yesM M 4 [.int .i64 (.ofNat 7), .int .i64 (.ofNat 64)] = true := by intro M; kernel_rfl
theorem n_64_8 : ∀ M : Int, yesM M 4 [.int .i64 (.ofNat 8), .int .i64 (.ofNat 64)] = true := by intro M; kernel_rfl
theorem n_64_9 : ∀ M : Int, yesM M 4 [.int .i64 (.ofNat 9), .int .i64 (.ofNat 64)] = true := by intro M; kernel_rfl
theorem n_65_0 : ∀ M : Int, yesM M 4 [.int .i64 (.ofNat 0), .int .i64 (.ofNat 65)] = true := by intro M; kernel_rfl
theorem n_65_1 : ∀ M : Int, yesM M 4 [.int .i64 (.ofNat 1), .int .i64 (.ofNat 65)] = true := by intro M; kernel_rfl
theorem n_65_2 : ∀ M : Int, yesM M 4 [.int .i64 (.ofNat 2), .int .i64 (.ofNat 65)] = true := by intro M; kernel_rfl
theorem n_65_3 : ∀ M : Int, yesM M 4 [.int .i64 (.ofNat 3), .int .i64 (.ofNat 65)] = true := by intro M; kernel_rfl
theorem n_65_4 : ∀ M : Int, yesM M 4 [.int .i64 (.ofNat 4), .int .i64 (.ofNat 65)] = true := by intro M; kernel_rfl
theorem n_65_5 : ∀ M : Int, yesM M 4 [.int .i64 (.ofNat 5), .int .i64 (.ofNat 65)] = true := by intro M; kernel_rfl
theorem n_65_6 : ∀ M : Int, yesM M 4 [.int .i64 (.ofNat 6), .int .i64 (.ofNat 65)] = true := by intro M; kernel_rfl
theorem n_65_7 : ∀ M : Int, yesM M 4 [.int .i64 (.ofNat 7), .int .i64 (.ofNat 65)] = true := by intro M; kernel_rfl
theorem n_65_8 : ∀ M : Int, yesM M 4 [.int .i64 (.ofNat 8), .int .i64 (.ofNat 65)] = true := by intro M; kernel_rfl
theorem n_65_9 : ∀ M : Int, yesM M 4 [.int .i64 (.ofNat 9), .int .i64 (.ofNat 65)] = true := by intro M; kernel_rfl
end Go.Proofs.YtapnnpoljobanabGreatDoor.MachWords
