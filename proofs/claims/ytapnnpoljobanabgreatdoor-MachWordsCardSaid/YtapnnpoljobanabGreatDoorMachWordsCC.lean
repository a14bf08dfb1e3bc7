/- 'MachWords': cases, run by the kernel. Conditions: none. -/
import Derived.Test.YtapnnpoljobanabGreatDoorCw
namespace Go.Proofs.YtapnnpoljobanabGreatDoor.MachWords
open Go.Ex
set_option maxRecDepth 1000000
theorem n_12_0 : ∀ M : Int, yesM M 4 [.int .i64 (.ofNat 0), .int .i64 (.ofNat 12)] = true := by intro M; kernel_rfl
theorem n_12_1 : ∀ M : Int, yesM M 4 [.int .i64 (.ofNat 1), .int .i64 (.ofNat 12)] = true := by intro M; kernel_rfl
theorem n_12_2 : ∀ M : Int, yesM M 4 [.int .i64 (.ofNat 2), .int .i64 (.ofNat 12)] = true := by intro M; kernel_rfl
theorem n_12_3 : ∀ M : Int, yesM M 4 [.int .i64 (.ofNat 3), .int .i64 (.ofNat 12)] = true := by intro M; kernel_rfl
theorem n_12_4 : ∀ M : Int, yesM M 4 [.int .i64 (.ofNat 4), .int .i64 (.ofNat 12)] = true := by intro M; kernel_rfl
theorem n_12_5 : ∀ M : Int, yesM M 4 [.int .i64 (.ofNat 5), .int .i64 (.ofNat 12)] = true := by intro M; kernel_rfl
theorem n_12_6 : ∀ M : Int, yesM M 4 [.int .i64 (.ofNat 6), .int .i64 (.ofNat 12)] = true := by intro M; kernel_rfl
theorem n_12_7 : ∀ M : Int, yesM M 4 [.int .i64 (.ofNat 7), .int .i64 (.ofNat 12)] = true := by intro M; kernel_rfl
theorem n_12_8 : ∀ M : Int, yesM M 4 [.int .i64 (.ofNat 8), .int .i64 (.ofNat 12)] = true := by intro M; kernel_rfl
theorem n_12_9 : ∀ M : Int, yesM M 4 [.int .i64 (.ofNat 9), .int .i64 (.ofNat 12)] = true := by intro M; kernel_rfl
theorem n_13_0 : ∀ M : Int, yesM M 4 [.int .i64 (.ofNat 0), .int .i64 (.ofNat 13)] = true := by intro M; kernel_rfl
theorem n_13_1 : ∀ M : Int, yesM M 4 [.int .i64 (.ofNat 1), .int .i64 (.ofNat 13)] = true := by intro M; kernel_rfl
theorem n_13_2 : ∀ M : Int, yesM M 4 [.int .i64 (.ofNat 2), .int .i64 (.ofNat 13)] = true := by intro M; kernel_rfl
theorem n_13_3 : ∀ M : Int, yesM M 4 [.int .i64 (.ofNat 3), .int .i64 (.ofNat 13)] = true := by intro M; kernel_rfl
theorem n_13_4 : ∀ M : Int, yesM M 4 [.int .i64 (.ofNat 4), .int .i64 (.ofNat 13)] = true := by intro M; kernel_rfl
theorem n_13_5 : ∀ M : Int, yesM M 4 [.int .i64 (.ofNat 5), .int .i64 (.ofNat 13)] = true := by intro M; kernel_rfl
theorem n_13_6 : ∀ M : Int, yesM M 4 [.int .i64 (.ofNat 6), .int .i64 (.ofNat 13)] = true := by intro M; kernel_rfl
theorem n_13_7 : ∀ M : Int, yesM M 4 [.int .i64 (.ofNat 7), .int .i64 (.ofNat 13)] = true := by intro M; kernel_rfl
theorem n_13_8 : ∀ M : Int, yesM M 4 [.int .i64 (.ofNat 8), .int .i64 (.ofNat 13)] = true := by intro M; kernel_rfl
theorem n_13_9 : ∀ M : Int, yesM M 4 [.int .i64 (.ofNat 9), .int .i64 (.ofNat 13)] = true := by intro M; kernel_rfl
theorem n_14_0 : ∀ M : Int, yesM M 4 [.int .i64 (.ofNat 0), .int .i64 (.ofNat 14)] = true := by intro M; kernel_rfl
theorem n_14_1 : ∀ M : Int, yesM M 4 [.int .i64 (.ofNat 1), .int .i64 (.ofNat 14)] = true := by intro M; kernel_rfl
theorem n_14_2 : ∀ M : Int, yesM M 4 [.int .i64 (.ofNat 2), .int .i64 (.ofNat 14)] = true := by intro M; kernel_rfl
theorem n_14_3 : ∀ M : Int, yesM M 4 [.int .i64 (.ofNat 3), .int .i64 (.ofNat 14)] = true := by intro M; kernel_rfl
theorem n_14_4 : ∀ M : Int, yesM M 4 [.int .i64 (.ofNat 4), .int .i64 (.ofNat 14)] = true := by intro M; kernel_rfl
theorem n_14_5 : ∀ M : Int, yesM M 4 [.int .i64 (.ofNat 5), .int .i64 (.ofNat 14)] = true := by intro M; kernel_rfl
theorem n_14_6 : ∀ M : Int, yesM M 4 [.int .i64 (.ofNat 6), .int .i64 (.ofNat 14)] = true := by intro M; kernel_rfl
theorem n_14_7 : ∀ M : Int, yesM M 4 [.int .i64 (.ofNat 7), .int .i64 (.ofNat 14)] = true := by intro M; kernel_rfl
theorem n_14_8 : ∀ M : Int, yesM M 4 [.int .i64 (.ofNat 8), .int .i64 (.ofNat 14)] = true := by intro M; kernel_rfl
theorem n_14_9 : ∀ M : Int, yesM M 4 [.int .i64 (.ofNat 9), .int .i64 (.ofNat 14)] = true := by intro M; kernel_rfl
theorem n_15_0 : ∀ M : Int, yesM M 4 [.int .i64 (.ofNat 0), .int .i64 (.ofNat 15)] = true := by intro M; kernel_rfl
theorem n_15_1 : ∀ M : Int, yesM M 4 [.int .i64 (.ofNat 1), .int .i64 (.ofNat 15)] = true := by intro M; kernel_rfl
theorem n_15_2 : ∀ M : Int, yesM M 4 [.int .i64 (.ofNat 2), .int .i64 (.ofNat 15)] = true := by intro M; kernel_rfl
theorem n_15_3 : ∀ M : Int, yesM M 4 [.int .i64 (.ofNat 3), .int .i64 (.ofNat 15)] = true := by intro M; kernel_rfl
theorem n_15_4 : ∀ M : Int, yesM M 4 [.int .i64 (.ofNat 4), .int .i64 (.ofNat 15)] = true := by intro M; kernel_rfl
theorem n_15_5 : ∀ M : Int, yesM M 4 [.int .i64 (.ofNat 5), .int .i64 (.ofNat 15)] = true := by intro M; kernel_rfl
theorem n_15_6 : ∀ M : Int, yesM M 4 [.int .i64 (.ofNat 6), .int .i64 (.ofNat 15)] = true := by intro M; kernel_rfl
theorem n_15_7 : ∀ M : Int, yesM M 4 [.int .i64 (.ofNat 7), .int .i64 (.ofNat 15)] = true := by intro M; kernel_rfl
theorem n_15_8 : ∀ M : Int, yesM M 4 [.int .i64 (.ofNat 8), .int .i64 (.ofNat 15)] = true := by intro M; kernel_rfl
theorem n_15_9 : ∀ M : Int, yesM M 4 [.int .i64 (.ofNat 9), .int .i64 (.ofNat 15)] = true := by intro M; kernel_rfl
theorem n_16_0 : ∀ M : Int, yesM M 4 [.int .i64 (.ofNat 0), .int .i64 (.ofNat 16)] = true := by intro M; kernel_rfl
theorem n_16_1 : ∀ M : Int, yesM M 4 [.int .i64 (.ofNat 1), .int .i64 (.ofNat 16)] = true := by intro M; kernel_rfl
theorem n_16_2 : ∀ M : Int, yesM M 4 [.int .i64 (.ofNat 2), .int .i64 (.ofNat 16)] = true := by intro M; kernel_rfl
theorem n_16_3 : ∀ M : Int, yesM M 4 [.int .i64 (.ofNat 3), .int .i64 (.ofNat 16)] = true := by intro M; kernel_rfl
theorem n_16_4 : ∀ M : Int, yesM M 4 [.int .i64 (.ofNat 4), .int .i64 (.ofNat 16)] = true := by intro M; kernel_rfl
theorem n_16_5 : ∀ M : Int, yesM M 4 [.int .i64 (.ofNat 5), .int .i64 (.ofNat 16)] = true := by intro M; kernel_rfl
theorem n_16_6 : ∀ M : Int, yesM M 4 [.int .i64 (.ofNat 6), .int .i64 (.ofNat 16)] = true := by intro M; kernel_rfl
theorem n_16_7 : ∀ M : Int, yesM M 4 [.int .i64 (.ofNat 7), .int .i64 (.ofNat 16)] = true := by intro M; kernel_rfl
theorem n_16_8 : ∀ M : Int, yesM M 4 [.int .i64 (.ofNat 8), .int .i64 (.ofNat 16)] = true := by intro M; kernel_rfl
theorem n_16_9 : ∀ M : Int, yesM M 4 [.int .i64 (.ofNat 9), .int .i64 (.ofNat 16)] = true := by intro M; kernel_rfl
theorem n_17_0 : ∀ M : Int, yesM M 4 [.int .i64 (.ofNat 0), .int .i64 (.ofNat 17)] = true := by intro M; kernel_rfl
theorem n_17_1 : ∀ M : Int, yesM M 4 [.int .i64 (.ofNat 1), .int .i64 (.ofNat 17)] = true := by intro M; kernel_rfl
theorem n_17_2 : ∀ M : Int, yesM M 4 [.int .i64 (.ofNat 2), .int .i64 (.ofNat 17)] = true := by intro M; kernel_rfl
theorem n_17_3 : ∀ M : Int, yesM M 4 [.int .i64 (.ofNat 3), .int .i64 (.ofNat 17)] = true := by intro M; kernel_rfl
theorem n_17_4 : ∀ M : Int, yesM M 4 [.int .i64 (.ofNat 4), .int .i64 (.ofNat 17)] = true := by intro M; kernel_rfl
theorem n_17_5 : ∀ M : Int, yesM M 4 [.int .i64 (.ofNat 5), .int .i64 (.ofNat 17)] = true := by intro M; kernel_rfl
theorem n_17_6 : ∀ M : Int, yesM M 4 [.int .i64 (.ofNat 6), .int .i64 (.ofNat 17)] = true := by intro M; kernel_rfl
theorem n_17_7 : ∀ M : Int, yesM M 4 [.int .i64 (.ofNat 7), .int .i64 (.ofNat 17)] = true := by intro M; kernel_rfl
theorem n_17_8 : ∀ M : Int, yesM M 4 [.int .i64 (.ofNat 8), .int .i64 (.ofNat 17)] = true := by intro M; kernel_rfl
theorem n_17_9 : ∀ M : Int, yesM M 4 [.int .i64 (.ofNat 9), .int .i64 (.ofNat 17)] = true := by intro M; kernel_rfl
end Go.Proofs.YtapnnpoljobanabGreatDoor.MachWords
