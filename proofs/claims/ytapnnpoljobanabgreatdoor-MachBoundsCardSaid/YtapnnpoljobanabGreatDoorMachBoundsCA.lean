/- 'MachBounds': cases, run by the kernel. Conditions: none. -/
import Derived.Test.YtapnnpoljobanabGreatDoorCk
namespace Go.Proofs.YtapnnpoljobanabGreatDoor.MachBounds
open Go.Ex
set_option maxRecDepth 1000000
theorem n_0_0 : ∀ M : Int, yesM M 3 [.int .i64 (.ofNat 0), .int .i64 (.ofNat 0)] = true := by intro M; kernel_rfl
theorem n_0_1 : ∀ M : Int, yesM M 3 [.int .i64 (.ofNat 0), .int .i64 (.ofNat 1)] = true := by intro M; kernel_rfl
theorem n_0_2 : ∀ M : Int, yesM M 3 [.int .i64 (.ofNat 0), .int .i64 (.ofNat 2)] = true := by intro M; kernel_rfl
theorem n_1_0 : ∀ M : Int, yesM M 3 [.int .i64 (.ofNat 1), .int .i64 (.ofNat 0)] = true := by intro M; kernel_rfl
theorem n_1_1 : ∀ M : Int, yesM M 3 [.int .i64 (.ofNat 1), .int .i64 (.ofNat 1)] = true := by intro M; kernel_rfl
theorem n_1_2 : ∀ M : Int, yesM M 3 [.int .i64 (.ofNat 1), .int .i64 (.ofNat 2)] = true := by intro M; kernel_rfl
theorem n_1_3 : ∀ M : Int, yesM M 3 [.int .i64 (.ofNat 1), .int .i64 (.ofNat 3)] = true := by intro M; kernel_rfl
theorem n_1_4 : ∀ M : Int, yesM M 3 [.int .i64 (.ofNat 1), .int .i64 (.ofNat 4)] = true := by intro M; kernel_rfl
theorem n_2_0 : ∀ M : Int, yesM M 3 [.int .i64 (.ofNat 2), .int .i64 (.ofNat 0)] = true := by intro M; kernel_rfl
theorem n_2_1 : ∀ M : Int, yesM M 3 [.int .i64 (.ofNat 2), .int .i64 (.ofNat 1)] = true := by intro M; kernel_rfl
theorem n_3_0 : ∀ M : Int, yesM M 3 [.int .i64 (.ofNat 3), .int .i64 (.ofNat 0)] = true := by intro M; kernel_rfl
theorem n_3_1 : ∀ M : Int, yesM M 3 [.int .i64 (.ofNat 3), .int .i64 (.ofNat 1)] = true := by intro M; kernel_rfl
theorem n_3_2 : ∀ M : Int, yesM M 3 [.int .i64 (.ofNat 3), .int .i64 (.ofNat 2)] = true := by intro M; kernel_rfl
theorem n_3_3 : ∀ M : Int, yesM M 3 [.int .i64 (.ofNat 3), .int .i64 (.ofNat 3)] = true := by intro M; kernel_rfl
theorem n_4_m1 : ∀ M : Int, yesM M 3 [.int .i64 (.ofNat 4), .int .i64 (.negSucc 0)] = true := by intro M; kernel_rfl
theorem n_4_0 : ∀ M : Int, yesM M 3 [.int .i64 (.ofNat 4), .int .i64 (.ofNat 0)] = true := by intro M; kernel_rfl
theorem n_5_0 : ∀ M : Int, yesM M 3 [.int .i64 (.ofNat 5), .int .i64 (.ofNat 0)] = true := by intro M; kernel_rfl
theorem n_5_1 : ∀ M : Int, yesM M 3 [.int .i64 (.ofNat 5), .int .i64 (.ofNat 1)] = true := by intro M; kernel_rfl
theorem n_5_2 : ∀ M : Int, yesM M 3 [.int .i64 (.ofNat 5), .int .i64 (.ofNat 2)] = true := by intro M; kernel_rfl
theorem n_5_3 : ∀ M : Int, yesM M 3 [.int .i64 (.ofNat 5), .int .i64 (.ofNat 3)] = true := by intro M; kernel_rfl
theorem n_5_4 : ∀ M : Int, yesM M 3 [.int .i64 (.ofNat 5), .int .i64 (.ofNat 4)] = true := by intro M; kernel_rfl
theorem n_5_5 : ∀ M : Int, yesM M 3 [.int .i64 (.ofNat 5), .int .i64 (.ofNat 5)] = true := by intro M; kernel_rfl
theorem n_5_6 : ∀ M : Int, yesM M 3 [.int .i64 (.ofNat 5), .int .i64 (.ofNat 6)] = true := by intro M; kernel_rfl
theorem n_5_7 : ∀ M : Int, yesM M 3 [.int .i64 (.ofNat 5), .int .i64 (.ofNat 7)] = true := by intro M; kernel_rfl
theorem n_5_8 : ∀ M : Int, yesM M 3 [.int .i64 (.ofNat 5), .int .i64 (.ofNat 8)] = true := by intro M; kernel_rfl
theorem n_5_9 : ∀ M : Int, yesM M 3 [.int .i64 (.ofNat 5), .int .i64 (.ofNat 9)] = true := by intro M; kernel_rfl
theorem n_5_10 : ∀ M : Int, yesM M 3 [.int .i64 (.ofNat 5), .int .i64 (.ofNat 10)] = true := by intro M; kernel_rfl
theorem n_5_11 : ∀ M : Int, yesM M 3 [.int .i64 (.ofNat 5), .int .i64 (.ofNat 11)] = true := by intro M; kernel_rfl
theorem n_5_12 : ∀ M : Int, yesM M 3 [.int .i64 (.ofNat 5), .int .i64 (.ofNat 12)] = true := by intro M; kernel_rfl
theorem n_5_13 : ∀ M : Int, yesM M 3 [.int .i64 (.ofNat 5), .int .i64 (.ofNat 13)] = true := by intro M; kernel_rfl
theorem n_5_14 : ∀ M : Int, yesM M 3 [.int .i64 (.ofNat 5), .int .i64 (.ofNat 14)] = true := by intro M; kernel_rfl
theorem n_5_15 : ∀ M : Int, yesM M 3 [.int .i64 (.ofNat 5), .int .i64 (.ofNat 15)] = true := by intro M; kernel_rfl
theorem n_5_16 : ∀ M : Int, yesM M 3 [.int .i64 (.ofNat 5), .int .i64 (.ofNat 16)] = true := by intro M; kernel_rfl
theorem n_5_17 : ∀ M : Int, yesM M 3 [.int .i64 (.ofNat 5), .int .i64 (.ofNat 17)] = true := by intro M; kernel_rfl
theorem n_5_18 : ∀ M : Int, yesM M 3 [.int .i64 (.ofNat 5), .int .i64 (.ofNat 18)] = true := by intro M; kernel_rfl
end Go.Proofs.YtapnnpoljobanabGreatDoor.MachBounds
