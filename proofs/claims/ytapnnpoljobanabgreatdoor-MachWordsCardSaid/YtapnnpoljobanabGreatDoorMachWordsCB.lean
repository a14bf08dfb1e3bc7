/- 'MachWords': cases, run by the kernel. Conditions: none. -/
import Derived.Test.YtapnnpoljobanabGreatDoorCw
namespace Go.Proofs.YtapnnpoljobanabGreatDoor.MachWords
open Go.Ex
set_option maxRecDepth 1000000
theorem n_6_0 : ∀ M : Int, yesM M 4 [.int .i64 (.ofNat 0), .int .i64 (.ofNat 6)] = true := by intro M; kernel_rfl
theorem n_6_1 : ∀ M : Int, yesM M 4 [.int .i64 (.ofNat 1), .int .i64 (.ofNat 6)] = true := by intro M; kernel_rfl
theorem n_6_2 : ∀ M : Int, yesM M 4 [.int .i64 (.ofNat 2), .int .i64 (.ofNat 6)] = true := by intro M; kernel_rfl
theorem n_6_3 : ∀ M : Int, yesM M 4 [.int .i64 (.ofNat 3), .int .i64 (.ofNat 6)] = true := by intro M; kernel_rfl
theorem n_6_4 : ∀ M : Int, yesM M 4 [.int .i64 (.ofNat 4), .int .i64 (.ofNat 6)] = true := by intro M; kernel_rfl
theorem n_6_5 : ∀ M : Int, yesM M 4 [.int .i64 (.ofNat 5), .int .i64 (.ofNat 6)] = true := by intro M; kernel_rfl
theorem n_6_6 : ∀ M : Int, yesM M 4 [.int .i64 (.ofNat 6), .int .i64 (.ofNat 6)] = true := by intro M; kernel_rfl
theorem n_6_7 : ∀ M : Int, yesM M 4 [.int .i64 (.ofNat 7), .int .i64 (.ofNat 6)] = true := by intro M; kernel_rfl
theorem n_6_8 : ∀ M : Int, yesM M 4 [.int .i64 (.ofNat 8), .int .i64 (.ofNat 6)] = true := by intro M; kernel_rfl
theorem n_6_9 : ∀ M : Int, yesM M 4 [.int .i64 (.ofNat 9), .int .i64 (.ofNat 6)] = true := by intro M; kernel_rfl
theorem n_7_0 : ∀ M : Int, yesM M 4 [.int .i64 (.ofNat 0), .int .i64 (.ofNat 7)] = true := by intro M; kernel_rfl
theorem n_7_1 : ∀ M : Int, yesM M 4 [.int .i64 (.ofNat 1), .int .i64 (.ofNat 7)] = true := by intro M; kernel_rfl
theorem n_7_2 : ∀ M : Int, yesM M 4 [.int .i64 (.ofNat 2), .int .i64 (.ofNat 7)] = true := by intro M; kernel_rfl
theorem n_7_3 : ∀ M : Int, yesM M 4 [.int .i64 (.ofNat 3), .int .i64 (.ofNat 7)] = true := by intro M; kernel_rfl
theorem n_7_4 : ∀ M : Int, yesM M 4 [.int .i64 (.ofNat 4), .int .i64 (.ofNat 7)] = true := by intro M; kernel_rfl
theorem n_7_5 : ∀ M : Int, yesM M 4 [.int .i64 (.ofNat 5), .int .i64 (.ofNat 7)] = true := by intro M; kernel_rfl
theorem n_7_6 : ∀ M : Int, yesM M 4 [.int .i64 (.ofNat 6), .int .i64 (.ofNat 7)] = true := by intro M; kernel_rfl
theorem n_7_7 : ∀ M : Int, yesM M 4 [.int .i64 (.ofNat 7), .int .i64 (.ofNat 7)] = true := by intro M; kernel_rfl
theorem n_7_8 : ∀ M : Int, yesM M 4 [.int .i64 (.ofNat 8), .int .i64 (.ofNat 7)] = true := by intro M; kernel_rfl
theorem n_7_9 : ∀ M : Int, yesM M 4 [.int .i64 (.ofNat 9), .int .i64 (.ofNat 7)] = true := by intro M; kernel_rfl
theorem n_8_0 : ∀ M : Int, yesM M 4 [.int .i64 (.ofNat 0), .int .i64 (.ofNat 8)] = true := by intro M; kernel_rfl
theorem n_8_1 : ∀ M : Int, yesM M 4 [.int .i64 (.ofNat 1), .int .i64 (.ofNat 8)] = true := by intro M; kernel_rfl
theorem n_8_2 : ∀ M : Int, yesM M 4 [.int .i64 (.ofNat 2), .int .i64 (.ofNat 8)] = true := by intro M; kernel_rfl
theorem n_8_3 : ∀ M : Int, yesM M 4 [.int .i64 (.ofNat 3), .int .i64 (.ofNat 8)] = true := by intro M; kernel_rfl
theorem n_8_4 : ∀ M : Int, yesM M 4 [.int .i64 (.ofNat 4), .int .i64 (.ofNat 8)] = true := by intro M; kernel_rfl
theorem n_8_5 : ∀ M : Int, yesM M 4 [.int .i64 (.ofNat 5), .int .i64 (.ofNat 8)] = true := by intro M; kernel_rfl
theorem n_8_6 : ∀ M : Int, yesM M 4 [.int .i64 (.ofNat 6), .int .i64 (.ofNat 8)] = true := by intro M; kernel_rfl
theorem n_8_7 : ∀ M : Int, yesM M 4 [.int .i64 (.ofNat 7), .int .i64 (.ofNat 8)] = true := by intro M; kernel_rfl
theorem n_8_8 : ∀ M : Int, yesM M 4 [.int .i64 (.ofNat 8), .int .i64 (.ofNat 8)] = true := by intro M; kernel_rfl
theorem n_8_9 : ∀ M : Int, yesM M 4 [.int .i64 (.ofNat 9), .int .i64 (.ofNat 8)] = true := by intro M; kernel_rfl
theorem n_9_0 : ∀ M : Int, yesM M 4 [.int .i64 (.ofNat 0), .int .i64 (.ofNat 9)] = true := by intro M; kernel_rfl
theorem n_9_1 : ∀ M : Int, yesM M 4 [.int .i64 (.ofNat 1), .int .i64 (.ofNat 9)] = true := by intro M; kernel_rfl
theorem n_9_2 : ∀ M : Int, yesM M 4 [.int .i64 (.ofNat 2), .int .i64 (.ofNat 9)] = true := by intro M; kernel_rfl
theorem n_9_3 : ∀ M : Int, yesM M 4 [.int .i64 (.ofNat 3), .int .i64 (.ofNat 9)] = true := by intro M; kernel_rfl
theorem n_9_4 : ∀ M : Int, yesM M 4 [.int .i64 (.ofNat 4), .int .i64 (.ofNat 9)] = true := by intro M; kernel_rfl
theorem n_9_5 : ∀ M : Int, yesM M 4 [.int .i64 (.ofNat 5), .int .i64 (.ofNat 9)] = true := by intro M; kernel_rfl
theorem n_9_6 : ∀ M : Int, yesM M 4 [.int .i64 (.ofNat 6), .int .i64 (.ofNat 9)] = true := by intro M; kernel_rfl
theorem n_9_7 : ∀ M : Int, yesM M 4 [.int .i64 (.ofNat 7), .int .i64 (.ofNat 9)] = true := by intro M; kernel_rfl
theorem n_9_8 : ∀ M : Int, yesM M 4 [.int .i64 (.ofNat 8), .int .i64 (.ofNat 9)] = true := by intro M; kernel_rfl
theorem n_9_9 : ∀ M : Int, yesM M 4 [.int .i64 (.ofNat 9), .int .i64 (.ofNat 9)] = true := by intro M; kernel_rfl
theorem n_10_0 : ∀ M : Int, yesM M 4 [.int .i64 (.ofNat 0), .int .i64 (.ofNat 10)] = true := by intro M; kernel_rfl
theorem n_10_1 : ∀ M : Int, yesM M 4 [.int .i64 (.ofNat 1), .int .i64 (.ofNat 10)] = true := by intro M; kernel_rfl
theorem n_10_2 : ∀ M : Int, yesM M 4 [.int .i64 (.ofNat 2), .int .i64 (.ofNat 10)] = true := by intro M; kernel_rfl
theorem n_10_3 : ∀ M : Int, yesM M 4 [.int .i64 (.ofNat 3), .int .i64 (.ofNat 10)] = true := by intro M; kernel_rfl
theorem n_10_4 : ∀ M : Int, yesM M 4 [.int .i64 (.ofNat 4), .int .i64 (.ofNat 10)] = true := by intro M; kernel_rfl
theorem n_10_5 : ∀ M : Int, yesM M 4 [.int .i64 (.ofNat 5), .int .i64 (.ofNat 10)] = true := by intro M; kernel_rfl
theorem n_10_6 : ∀ M : Int, yesM M 4 [.int .i64 (.ofNat 6), .int .i64 (.ofNat 10)] = true := by intro M; kernel_rfl
theorem n_10_7 : ∀ M : Int, yesM M 4 [.int .i64 (.ofNat 7), .int .i64 (.ofNat 10)] = true := by intro M; kernel_rfl
theorem n_10_8 : ∀ M : Int, yesM M 4 [.int .i64 (.ofNat 8), .int .i64 (.ofNat 10)] = true := by intro M; kernel_rfl
theorem n_10_9 : ∀ M : Int, yesM M 4 [.int .i64 (.ofNat 9), .int .i64 (.ofNat 10)] = true := by intro M; kernel_rfl
theorem n_11_0 : ∀ M : Int, yesM M 4 [.int .i64 (.ofNat 0), .int .i64 (.ofNat 11)] = true := by intro M; kernel_rfl
theorem n_11_1 : ∀ M : Int, yesM M 4 [.int .i64 (.ofNat 1), .int .i64 (.ofNat 11)] = true := by intro M; kernel_rfl
theorem n_11_2 : ∀ M : Int, yesM M 4 [.int .i64 (.ofNat 2), .int .i64 (.ofNat 11)] = true := by intro M; kernel_rfl
theorem n_11_3 : ∀ M : Int, yesM M 4 [.int .i64 (.ofNat 3), .int .i64 (.ofNat 11)] = true := by intro M; kernel_rfl
theorem n_11_4 : ∀ M : Int, yesM M 4 [.int .i64 (.ofNat 4), .int .i64 (.ofNat 11)] = true := by intro M; kernel_rfl
theorem n_11_5 : ∀ M : Int, yesM M 4 [.int .i64 (.ofNat 5), .int .i64 (.ofNat 11)] = true := by intro M; kernel_rfl
theorem n_11_6 : ∀ M : Int, yesM M 4 [.int .i64 (.ofNat 6), .int .i64 (.ofNat 11)] = true := by intro M; kernel_rfl
theorem n_11_7 : ∀ M : Int, yesM M 4 [.int .i64 (.ofNat 7), .int .i64 (.ofNat 11)] = true := by intro M; kernel_rfl
theorem n_11_8 : ∀ M : Int, yesM M 4 [.int .i64 (.ofNat 8), .int .i64 (.ofNat 11)] = true := by intro M; kernel_rfl
theorem n_11_9 : ∀ M : Int, yesM M 4 [.int .i64 (.ofNat 9), .int .i64 (.ofNat 11)] = true := by intro M; kernel_rfl
end Go.Proofs.YtapnnpoljobanabGreatDoor.MachWords
