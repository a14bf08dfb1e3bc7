/- 'MachWords': cases, run by the kernel. Conditions: none. -/
import Derived.Test.YtapnnpoljobanabGreatDoorCw
namespace Go.Proofs.YtapnnpoljobanabGreatDoor.MachWords
open Go.Ex
set_option maxRecDepth 1000000
theorem n_78_0 : ∀ M : Int, yesM M 4 [.int .i64 (.ofNat 0), .int .i64 (.ofNat 78)] = true := by intro M; kernel_rfl
theorem n_78_1 : ∀ M : Int, yesM M 4 [.int .i64 (.ofNat 1), .int .i64 (.ofNat 78)] = true := by intro M; kernel_rfl
theorem n_78_2 : ∀ M : Int, yesM M 4 [.int .i64 (.ofNat 2), .int .i64 (.ofNat 78)] = true := by intro M; kernel_rfl
theorem n_78_3 : ∀ M : Int, yesM M 4 [.int .i64 (.ofNat 3), .int .i64 (.ofNat 78)] = true := by intro M; kernel_rfl
theorem n_78_4 : ∀ M : Int, yesM M 4 [.int .i64 (.ofNat 4), .int .i64 (.ofNat 78)] = true := by intro M; kernel_rfl
theorem n_78_5 : ∀ M : Int, yesM M 4 [.int .i64 (.ofNat 5), .int .i64 (.ofNat 78)] = true := by intro M; kernel_rfl
theorem n_78_6 : ∀ M : Int, yesM M 4 [.int .i64 (.ofNat 6), .int .i64 (.ofNat 78)] = true := by intro M; kernel_rfl
theorem n_78_7 : ∀ M : Int, yesM M 4 [.int .i64 (.ofNat 7), .int .i64 (.ofNat 78)] = true := by intro M; kernel_rfl
theorem n_78_8 : ∀ M : Int, yesM M 4 [.int .i64 (.ofNat 8), .int .i64 (.ofNat 78)] = true := by intro M; kernel_rfl
theorem n_78_9 : ∀ M : Int, yesM M 4 [.int .i64 (.ofNat 9), .int .i64 (.ofNat 78)] = true := by intro M; kernel_rfl
theorem n_79_0 : ∀ M : Int, yesM M 4 [.int .i64 (.ofNat 0), .int .i64 (.ofNat 79)] = true := by intro M; kernel_rfl
theorem n_79_1 : ∀ M : Int, yesM M 4 [.int .i64 (.ofNat 1), .int .i64 (.ofNat 79)] = true := by intro M; kernel_rfl
theorem n_79_2 : ∀ M : Int, yesM M 4 [.int .i64 (.ofNat 2), .int .i64 (.ofNat 79)] = true := by intro M; kernel_rfl
theorem n_79_3 : ∀ M : Int, yesM M 4 [.int .i64 (.ofNat 3), .int .i64 (.ofNat 79)] = true := by intro M; kernel_rfl
theorem n_79_4 : ∀ M : Int, yesM M 4 [.int .i64 (.ofNat 4), .int .i64 (.ofNat 79)] = true := by intro M; kernel_rfl
theorem n_79_5 : ∀ M : Int, yesM M 4 [.int .i64 (.ofNat 5), .int .i64 (.ofNat 79)] = true := by intro M; kernel_rfl
theorem n_79_6 : ∀ M : Int, yesM M 4 [.int .i64 (.ofNat 6), .int .i64 (.ofNat 79)] = true := by intro M; kernel_rfl
theorem n_79_7 : ∀ M : Int, yesM M 4 [.int .i64 (.ofNat 7), .int .i64 (.ofNat 79)] = true := by intro M; kernel_rfl
theorem n_79_8 : ∀ M : Int, yesM M 4 [.int .i64 (.ofNat 8), .int .i64 (.ofNat 79)] = true := by intro M; kernel_rfl
theorem n_79_9 : ∀ M : Int, yesM M 4 [.int .i64 (.ofNat 9), .int .i64 (.ofNat 79)] = true := by intro M; kernel_rfl
theorem n_80_0 : ∀ M : Int, yesM M 4 [.int .i64 (.ofNat 0), .int .i64 (.ofNat 80)] = true := by intro M; kernel_rfl
theorem n_80_1 : ∀ M : Int, yesM M 4 [.int .i64 (.ofNat 1), .int .i64 (.ofNat 80)] = true := by intro M; kernel_rfl
theorem n_80_2 : ∀ M : Int, yesM M 4 [.int .i64 (.ofNat 2), .int .i64 (.ofNat 80)] = true := by intro M; kernel_rfl
theorem n_80_3 : ∀ M : Int, yesM M 4 [.int .i64 (.ofNat 3), .int .i64 (.ofNat 80)] = true := by intro M; kernel_rfl
theorem n_80_4 : ∀ M : Int, yesM M 4 [.int .i64 (.ofNat 4), .int .i64 (.ofNat 80)] = true := by intro M; kernel_rfl
theorem n_80_5 : ∀ M : Int, yesM M 4 [.int .i64 (.ofNat 5), .int .i64 (.ofNat 80)] = true := by intro M; kernel_rfl
theorem n_80_6 : ∀ M : Int, yesM M 4 [.int .i64 (.ofNat 6), .int .i64 (.ofNat 80)] = true := by intro M; kernel_rfl
theorem n_80_7 : ∀ M : Int, yesM M 4 [.int .i64 (.ofNat 7), .int .i64 (.ofNat 80)] = true := by intro M; kernel_rfl
theorem n_80_8 : ∀ M : Int, yesM M 4 [.int .i64 (.ofNat 8), .int .i64 (.ofNat 80)] = true := by intro M; kernel_rfl
theorem n_80_9 : ∀ M : Int, yesM M 4 [.int .i64 (.ofNat 9), .int .i64 (.ofNat 80)] = true := by intro M; kernel_rfl
theorem n_81_0 : ∀ M : Int, yesM M 4 [.int .i64 (.ofNat 0), .int .i64 (.ofNat 81)] = true := by intro M; kernel_rfl
theorem n_81_1 : ∀ M : Int, yesM M 4 [.int .i64 (.ofNat 1), .int .i64 (.ofNat 81)] = true := by intro M; kernel_rfl
theorem n_81_2 : ∀ M : Int, yesM M 4 [.int .i64 (.ofNat 2), .int .i64 (.ofNat 81)] = true := by intro M; kernel_rfl
theorem n_81_3 : ∀ M : Int, yesM M 4 [.int .i64 (.ofNat 3), .int .i64 (.ofNat 81)] = true := by intro M; kernel_rfl
theorem n_81_4 : ∀ M : Int, yesM M 4 [.int .i64 (.ofNat 4), .int .i64 (.ofNat 81)] = true := by intro M; kernel_rfl
theorem n_81_5 : ∀ M : Int, yesM M 4 [.int .i64 (.ofNat 5), .int .i64 (.ofNat 81)] = true := by intro M; kernel_rfl
theorem n_81_6 : ∀ M : Int, yesM M 4 [.int .i64 (.ofNat 6), .int .i64 (.ofNat 81)] = true := by intro M; kernel_rfl
theorem n_81_7 : ∀ M : Int, yesM M 4 [.int .i64 (.ofNat 7), .int .i64 (.ofNat 81)] = true := by intro M; kernel_rfl
theorem n_81_8 : ∀ M : Int, yesM M 4 [.int .i64 (.ofNat 8), .int .i64 (.ofNat 81)] = true := by intro M; kernel_rfl
theorem n_81_9 : ∀ M : Int, yesM M 4 [.int .i64 (.ofNat 9), .int .i64 (.ofNat 81)] = true := by intro M; kernel_rfl
theorem n_82_0 : ∀ M : Int, yesM M 4 [.int .i64 (.ofNat 0), .int .i64 (.ofNat 82)] = true := by intro M; kernel_rfl
theorem n_82_1 : ∀ M : Int, yesM M 4 [.int .i64 (.ofNat 1), .int .i64 (.ofNat 82)] = true := by intro M; kernel_rfl
theorem n_82_2 : ∀ M : Int, yesM M 4 [.int .i64 (.ofNat 2), .int .i64 (.ofNat 82)] = true := by intro M; kernel_rfl
theorem n_82_3 : ∀ M : Int, yesM M 4 [.int .i64 (.ofNat 3), .int .i64 (.ofNat 82)] = true := by intro M; kernel_rfl
theorem n_82_4 : ∀ M : Int, yesM M 4 [.int .i64 (.ofNat 4), .int .i64 (.ofNat 82)] = true := by intro M; kernel_rfl
theorem n_82_5 : ∀ M : Int, yesM M 4 [.int .i64 (.ofNat 5), .int .i64 (.ofNat 82)] = true := by intro M; kernel_rfl
theorem n_82_6 : ∀ M : Int, yesM M 4 [.int .i64 (.ofNat 6), .int .i64 (.ofNat 82)] = true := by intro M; kernel_rfl
theorem n_82_7 : ∀ M : Int, yesM M 4 [.int .i64 (.ofNat 7), .int .i64 (.ofNat 82)] = true := by intro M; kernel_rfl
theorem n_82_8 : ∀ M : Int, yesM M 4 [.int .i64 (.ofNat 8), .int .i64 (.ofNat 82)] = true := by intro M; kernel_rfl
theorem n_82_9 : ∀ M : Int, yesM M 4 [.int .i64 (.ofNat 9), .int .i64 (.ofNat 82)] = true := by intro M; kernel_rfl
theorem n_83_0 : ∀ M : Int, yesM M 4 [.int .i64 (.ofNat 0), .int .i64 (.ofNat 83)] = true := by intro M; kernel_rfl
theorem n_83_1 : ∀ M : Int, yesM M 4 [.int .i64 (.ofNat 1), .int .i64 (.ofNat 83)] = true := by intro M; kernel_rfl
theorem n_83_2 : ∀ M : Int, yesM M 4 [.int .i64 (.ofNat 2), .int .i64 (.ofNat 83)] = true := by intro M; kernel_rfl
theorem n_83_3 : ∀ M : Int, yesM M 4 [.int .i64 (.ofNat 3), .int .i64 (.ofNat 83)] = true := by intro M; kernel_rfl
theorem n_83_4 : ∀ M : Int, yesM M 4 [.int .i64 (.ofNat 4), .int .i64 (.ofNat 83)] = true := by intro M; kernel_rfl
theorem n_83_5 : ∀ M : Int, yesM M 4 [.int .i64 (.ofNat 5), .int .i64 (.ofNat 83)] = true := by intro M; kernel_rfl
theorem n_83_6 : ∀ M : Int, yesM M 4 [.int .i64 (.ofNat 6), .int .i64 (.ofNat 83)] = true := by intro M; kernel_rfl
theorem n_83_7 : ∀ M : Int, yesM M 4 [.int .i64 (.ofNat 7), .int .i64 (.ofNat 83)] = true := by intro M; kernel_rfl
theorem n_83_8 : ∀ M : Int, yesM M 4 [.int .i64 (.ofNat 8), .int .i64 (.ofNat 83)] = true := by intro M; kernel_rfl
theorem n_83_9 : ∀ M : Int, yesM M 4 [.int .i64 (.ofNat 9), .int .i64 (.ofNat 83)] = true := by intro M; kernel_rfl
end Go.Proofs.YtapnnpoljobanabGreatDoor.MachWords
