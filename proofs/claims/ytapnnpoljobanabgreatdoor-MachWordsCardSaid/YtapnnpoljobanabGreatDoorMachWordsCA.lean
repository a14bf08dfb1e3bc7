/- 'MachWords': cases, run by the kernel. Conditions: none. -/
import Derived.Test.YtapnnpoljobanabGreatDoorCw
namespace Go.Proofs.YtapnnpoljobanabGreatDoor.MachWords
open Go.Ex
set_option maxRecDepth 1000000
theorem n_0_0 : ∀ M : Int, yesM M 4 [.int .i64 (.ofNat 0), .int .i64 (.ofNat 0)] = true := by intro M; kernel_rfl
theorem n_0_1 : ∀ M : Int, yesM M 4 [.int .i64 (.ofNat 1), .int .i64 (.ofNat 0)] = true := by intro M; kernel_rfl
theorem n_0_2 : ∀ M : Int, yesM M 4 [.int .i64 (.ofNat 2), .int .i64 (.ofNat 0)] = true := by intro M; kernel_rfl
theorem n_0_3 : ∀ M : Int, yesM M 4 [.int .i64 (.ofNat 3), .int .i64 (.ofNat 0)] = true := by intro M; kernel_rfl
theorem n_0_4 : ∀ M : Int, yesM M 4 [.int .i64 (.ofNat 4), .int .i64 (.ofNat 0)] = true := by intro M; kernel_rfl
theorem n_0_5 : ∀ M : Int, yesM M 4 [.int .i64 (.ofNat 5), .int .i64 (.ofNat 0)] = true := by intro M; kernel_rfl
theorem n_0_6 : ∀ M : Int, yesM M 4 [.int .i64 (.ofNat 6), .int .i64 (.ofNat 0)] = true := by intro M; kernel_rfl
theorem n_0_7 : ∀ M : Int, yesM M 4 [.int .i64 (.ofNat 7), .int .i64 (.ofNat 0)] = true := by intro M; kernel_rfl
theorem n_0_8 : ∀ M : Int, yesM M 4 [.int .i64 (.ofNat 8), .int .i64 (.ofNat 0)] = true := by intro M; kernel_rfl
theorem n_0_9 : ∀ M : Int, yesM M 4 [.int .i64 (.ofNat 9), .int .i64 (.ofNat 0)] = true := by intro M; kernel_rfl
theorem n_1_0 : ∀ M : Int, yesM M 4 [.int .i64 (.ofNat 0), .int .i64 (.ofNat 1)] = true := by intro M; kernel_rfl
theorem n_1_1 : ∀ M : Int, yesM M 4 [.int .i64 (.ofNat 1), .int .i64 (.ofNat 1)] = true := by intro M; kernel_rfl
theorem n_1_2 : ∀ M : Int, yesM M 4 [.int .i64 (.ofNat 2), .int .i64 (.ofNat 1)] = true := by intro M; kernel_rfl
theorem n_1_3 : ∀ M : Int, yesM M 4 [.int .i64 (.ofNat 3), .int .i64 (.ofNat 1)] = true := by intro M; kernel_rfl
theorem n_1_4 : ∀ M : Int, yesM M 4 [.int .i64 (.ofNat 4), .int .i64 (.ofNat 1)] = true := by intro M; kernel_rfl
theorem n_1_5 : ∀ M : Int, yesM M 4 [.int .i64 (.ofNat 5), .int .i64 (.ofNat 1)] = true := by intro M; kernel_rfl
theorem n_1_6 : ∀ M : Int, yesM M 4 [.int .i64 (.ofNat 6), .int .i64 (.ofNat 1)] = true := by intro M; kernel_rfl
theorem n_1_7 : ∀ M : Int, yesM M 4 [.int .i64 (.ofNat 7), .int .i64 (.ofNat 1)] = true := by intro M; kernel_rfl
theorem n_1_8 : ∀ M : Int, yesM M 4 [.int .i64 (.ofNat 8), .int .i64 (.ofNat 1)] = true := by intro M; kernel_rfl
theorem n_1_9 : ∀ M : Int, yesM M 4 [.int .i64 (.ofNat 9), .int .i64 (.ofNat 1)] = true := by intro M; kernel_rfl
theorem n_2_0 : ∀ M : Int, yesM M 4 [.int .i64 (.ofNat 0), .int .i64 (.ofNat 2)] = true := by intro M; kernel_rfl
theorem n_2_1 : ∀ M : Int, yesM M 4 [.int .i64 (.ofNat 1), .int .i64 (.ofNat 2)] = true := by intro M; kernel_rfl
theorem n_2_2 : ∀ M : Int, yesM M 4 [.int .i64 (.ofNat 2), .int .i64 (.ofNat 2)] = true := by intro M; kernel_rfl
theorem n_2_3 : ∀ M : Int, yesM M 4 [.int .i64 (.ofNat 3), .int .i64 (.ofNat 2)] = true := by intro M; kernel_rfl
theorem n_2_4 : ∀ M : Int, yesM M 4 [.int .i64 (.ofNat 4), .int .i64 (.ofNat 2)] = true := by intro M; kernel_rfl
theorem n_2_5 : ∀ M : Int, yesM M 4 [.int .i64 (.ofNat 5), .int .i64 (.ofNat 2)] = true := by intro M; kernel_rfl
theorem n_2_6 : ∀ M : Int, yesM M 4 [.int .i64 (.ofNat 6), .int .i64 (.ofNat 2)] = true := by intro M; kernel_rfl
theorem n_2_7 : ∀ M : Int, yesM M 4 [.int .i64 (.ofNat 7), .int .i64 (.ofNat 2)] = true := by intro M; kernel_rfl
theorem n_2_8 : ∀ M : Int, yesM M 4 [.int .i64 (.ofNat 8), .int .i64 (.ofNat 2)] = true := by intro M; kernel_rfl
theorem n_2_9 : ∀ M : Int, yesM M 4 [.int .i64 (.ofNat 9), .int .i64 (.ofNat 2)] = true := by intro M; kernel_rfl
theorem n_3_0 : ∀ M : Int, yesM M 4 [.int .i64 (.ofNat 0), .int .i64 (.ofNat 3)] = true := by intro M; kernel_rfl
theorem n_3_1 : ∀ M : Int, yesM M 4 [.int .i64 (.ofNat 1), .int .i64 (.ofNat 3)] = true := by intro M; kernel_rfl
theorem n_3_2 : ∀ M : Int, yesM M 4 [.int .i64 (.ofNat 2), .int .i64 (.ofNat 3)] = true := by intro M; kernel_rfl
theorem n_3_3 : ∀ M : Int, yesM M 4 [.int .i64 (.ofNat 3), .int .i64 (.ofNat 3)] = true := by intro M; kernel_rfl
theorem n_3_4 : ∀ M : Int, yesM M 4 [.int .i64 (.ofNat 4), .int .i64 (.ofNat 3)] = true := by intro M; kernel_rfl
theorem n_3_5 : ∀ M : Int, yesM M 4 [.int .i64 (.ofNat 5), .int .i64 (.ofNat 3)] = true := by intro M; kernel_rfl
theorem n_3_6 : ∀ M : Int, yesM M 4 [.int .i64 (.ofNat 6), .int .i64 (.ofNat 3)] = true := by intro M; kernel_rfl
theorem n_3_7 : ∀ M : Int, yesM M 4 [.int .i64 (.ofNat 7), .int .i64 (.ofNat 3)] = true := by intro M; kernel_rfl
theorem n_3_8 : ∀ M : Int, yesM M 4 [.int .i64 (.ofNat 8), .int .i64 (.ofNat 3)] = true := by intro M; kernel_rfl
theorem n_3_9 : ∀ M : Int, yesM M 4 [.int .i64 (.ofNat 9), .int .i64 (.ofNat 3)] = true := by intro M; kernel_rfl
theorem n_4_0 : ∀ M : Int, yesM M 4 [.int .i64 (.ofNat 0), .int .i64 (.ofNat 4)] = true := by intro M; kernel_rfl
theorem n_4_1 : ∀ M : Int, yesM M 4 [.int .i64 (.ofNat 1), .int .i64 (.ofNat 4)] = true := by intro M; kernel_rfl
theorem n_4_2 : ∀ M : Int, yesM M 4 [.int .i64 (.ofNat 2), .int .i64 (.ofNat 4)] = true := by intro M; kernel_rfl
theorem n_4_3 : ∀ M : Int, yesM M 4 [.int .i64 (.ofNat 3), .int .i64 (.ofNat 4)] = true := by intro M; kernel_rfl
theorem n_4_4 : ∀ M : Int, yesM M 4 [.int .i64 (.ofNat 4), .int .i64 (.ofNat 4)] = true := by intro M; kernel_rfl
theorem n_4_5 : ∀ M : Int, yesM M 4 [.int .i64 (.ofNat 5), .int .i64 (.ofNat 4)] = true := by intro M; kernel_rfl
theorem n_4_6 : ∀ M : Int, yesM M 4 [.int .i64 (.ofNat 6), .int .i64 (.ofNat 4)] = true := by intro M; kernel_rfl
theorem n_4_7 : ∀ M : Int, yesM M 4 [.int .i64 (.ofNat 7), .int .i64 (.ofNat 4)] = true := by intro M; kernel_rfl
theorem n_4_8 : ∀ M : Int, yesM M 4 [.int .i64 (.ofNat 8), .int .i64 (.ofNat 4)] = true := by intro M; kernel_rfl
theorem n_4_9 : ∀ M : Int, yesM M 4 [.int .i64 (.ofNat 9), .int .i64 (.ofNat 4)] = true := by intro M; kernel_rfl
theorem n_5_0 : ∀ M : Int, yesM M 4 [.int .i64 (.ofNat 0), .int .i64 (.ofNat 5)] = true := by intro M; kernel_rfl
theorem n_5_1 : ∀ M : Int, yesM M 4 [.int .i64 (.ofNat 1), .int .i64 (.ofNat 5)] = true := by intro M; kernel_rfl
theorem n_5_2 : ∀ M : Int, yesM M 4 [.int .i64 (.ofNat 2), .int .i64 (.ofNat 5)] = true := by intro M; kernel_rfl
theorem n_5_3 : ∀ M : Int, yesM M 4 [.int .i64 (.ofNat 3), .int .i64 (.ofNat 5)] = true := by intro M; kernel_rfl
theorem n_5_4 : ∀ M : Int, yesM M 4 [.int .i64 (.ofNat 4), .int .i64 (.ofNat 5)] = true := by intro M; kernel_rfl
theorem n_5_5 : ∀ M : Int, yesM M 4 [.int .i64 (.ofNat 5), .int .i64 (.ofNat 5)] = true := by intro M; kernel_rfl
theorem n_5_6 : ∀ M : Int, yesM M 4 [.int .i64 (.ofNat 6), .int .i64 (.ofNat 5)] = true := by intro M; kernel_rfl
theorem n_5_7 : ∀ M : Int, yesM M 4 [.int .i64 (.ofNat 7), .int .i64 (.ofNat 5)] = true := by intro M; kernel_rfl
theorem n_5_8 : ∀ M : Int, yesM M 4 [.int .i64 (.ofNat 8), .int .i64 (.ofNat 5)] = true := by intro M; kernel_rfl
theorem n_5_9 : ∀ M : Int, yesM M 4 [.int .i64 (.ofNat 9), .int .i64 (.ofNat 5)] = true := by intro M; kernel_rfl
end Go.Proofs.YtapnnpoljobanabGreatDoor.MachWords
