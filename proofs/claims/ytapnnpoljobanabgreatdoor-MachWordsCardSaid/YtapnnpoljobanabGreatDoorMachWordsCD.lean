/- 'MachWords': cases, run by the kernel. Conditions: none. -/
import Derived.Test.YtapnnpoljobanabGreatDoorCw
namespace Go.Proofs.YtapnnpoljobanabGreatDoor.MachWords
open Go.Ex
set_option maxRecDepth 1000000
theorem n_18_0 : ∀ M : Int, yesM M 4 [.int .i64 (.ofNat 0), .int .i64 (.ofNat 18)] = true := by intro M; kernel_rfl
theorem n_18_1 : ∀ M : Int, yesM M 4 [.int .i64 (.ofNat 1), .int .i64 (.ofNat 18)] = true := by intro M; kernel_rfl
theorem n_18_2 : ∀ M : Int, yesM M 4 [.int .i64 (.ofNat 2), .int .i64 (.ofNat 18)] = true := by intro M; kernel_rfl
theorem n_18_3 : ∀ M : Int, yesM M 4 [.int .i64 (.ofNat 3), .int .i64 (.ofNat 18)] = true := by intro M; kernel_rfl
theorem n_18_4 : ∀ M : Int, yesM M 4 [.int .i64 (.ofNat 4), .int .i64 (.ofNat 18)] = true := by intro M; kernel_rfl
theorem n_18_5 : ∀ M : Int, yesM M 4 [.int .i64 (.ofNat 5), .int .i64 (.ofNat 18)] = true := by intro M; kernel_rfl
theorem n_18_6 : ∀ M : Int, yesM M 4 [.int .i64 (.ofNat 6), .int .i64 (.ofNat 18)] = true := by intro M; kernel_rfl
theorem n_18_7 : ∀ M : Int, yesM M 4 [.int .i64 (.ofNat 7), .int .i64 (.ofNat 18)] = true := by intro M; kernel_rfl
theorem n_18_8 : ∀ M : Int, yesM M 4 [.int .i64 (.ofNat 8), .int .i64 (.ofNat 18)] = true := by intro M; kernel_rfl
theorem n_18_9 : ∀ M : Int, yesM M 4 [.int .i64 (.ofNat 9), .int .i64 (.ofNat 18)] = true := by intro M; kernel_rfl
theorem n_19_0 : ∀ M : Int, yesM M 4 [.int .i64 (.ofNat 0), .int .i64 (.ofNat 19)] = true := by intro M; kernel_rfl
theorem n_19_1 : ∀ M : Int, yesM M 4 [.int .i64 (.ofNat 1), .int .i64 (.ofNat 19)] = true := by intro M; kernel_rfl
theorem n_19_2 : ∀ M : Int, yesM M 4 [.int .i64 (.ofNat 2), .int .i64 (.ofNat 19)] = true := by intro M; kernel_rfl
theorem n_19_3 : ∀ M : Int, yesM M 4 [.int .i64 (.ofNat 3), .int .i64 (.ofNat 19)] = true := by intro M; kernel_rfl
theorem n_19_4 : ∀ M : Int, yesM M 4 [.int .i64 (.ofNat 4), .int .i64 (.ofNat 19)] = true := by intro M; kernel_rfl
theorem n_19_5 : ∀ M : Int, yesM M 4 [.int .i64 (.ofNat 5), .int .i64 (.ofNat 19)] = true := by intro M; kernel_rfl
theorem n_19_6 : ∀ M : Int, yesM M 4 [.int .i64 (.ofNat 6), .int .i64 (.ofNat 19)] = true := by intro M; kernel_rfl
theorem n_19_7 : ∀ M : Int, yesM M 4 [.int .i64 (.ofNat 7), .int .i64 (.ofNat 19)] = true := by intro M; kernel_rfl
theorem n_19_8 : ∀ M : Int, yesM M 4 [.int .i64 (.ofNat 8), .int .i64 (.ofNat 19)] = true := by intro M; kernel_rfl
theorem n_19_9 : ∀ M : Int, yesM M 4 [.int .i64 (.ofNat 9), .int .i64 (.ofNat 19)] = true := by intro M; kernel_rfl
theorem n_20_0 : ∀ M : Int, yesM M 4 [.int .i64 (.ofNat 0), .int .i64 (.ofNat 20)] = true := by intro M; kernel_rfl
theorem n_20_1 : ∀ M : Int, yesM M 4 [.int .i64 (.ofNat 1), .int .i64 (.ofNat 20)] = true := by intro M; kernel_rfl
theorem n_20_2 : ∀ M : Int, yesM M 4 [.int .i64 (.ofNat 2), .int .i64 (.ofNat 20)] = true := by intro M; kernel_rfl
theorem n_20_3 : ∀ M : Int, yesM M 4 [.int .i64 (.ofNat 3), .int .i64 (.ofNat 20)] = true := by intro M; kernel_rfl
theorem n_20_4 : ∀ M : Int, yesM M 4 [.int .i64 (.ofNat 4), .int .i64 (.ofNat 20)] = true := by intro M; kernel_rfl
theorem n_20_5 : ∀ M : Int, yesM M 4 [.int .i64 (.ofNat 5), .int .i64 (.ofNat 20)] = true := by intro M; kernel_rfl
theorem n_20_6 : ∀ M : Int, yesM M 4 [.int .i64 (.ofNat 6), .int .i64 (.ofNat 20)] = true := by intro M; kernel_rfl
theorem n_20_7 : ∀ M : Int, yesM M 4 [.int .i64 (.ofNat 7), .int .i64 (.ofNat 20)] = true := by intro M; kernel_rfl
theorem n_20_8 : ∀ M : Int, yesM M 4 [.int .i64 (.ofNat 8), .int .i64 (.ofNat 20)] = true := by intro M; kernel_rfl
theorem n_20_9 : ∀ M : Int, yesM M 4 [.int .i64 (.ofNat 9), .int .i64 (.ofNat 20)] = true := by intro M; kernel_rfl
theorem n_21_0 : ∀ M : Int, yesM M 4 [.int .i64 (.ofNat 0), .int .i64 (.ofNat 21)] = true := by intro M; kernel_rfl
theorem n_21_1 : ∀ M : Int, yesM M 4 [.int .i64 (.ofNat 1), .int .i64 (.ofNat 21)] = true := by intro M; kernel_rfl
theorem n_21_2 : ∀ M : Int, yesM M 4 [.int .i64 (.ofNat 2), .int .i64 (.ofNat 21)] = true := by intro M; kernel_rfl
theorem n_21_3 : ∀ M : Int, yesM M 4 [.int .i64 (.ofNat 3), .int .i64 (.ofNat 21)] = true := by intro M; kernel_rfl
theorem n_21_4 : ∀ M : Int, yesM M 4 [.int .i64 (.ofNat 4), .int .i64 (.ofNat 21)] = true := by intro M; kernel_rfl
theorem n_21_5 : ∀ M : Int, yesM M 4 [.int .i64 (.ofNat 5), .int .i64 (.ofNat 21)] = true := by intro M; kernel_rfl
theorem n_21_6 : ∀ M : Int, yesM M 4 [.int .i64 (.ofNat 6), .int .i64 (.ofNat 21)] = true := by intro M; kernel_rfl
theorem n_21_7 : ∀ M : Int, yesM M 4 [.int .i64 (.ofNat 7), .int .i64 (.ofNat 21)] = true := by intro M; kernel_rfl
theorem n_21_8 : ∀ M : Int, yesM M 4 [.int .i64 (.ofNat 8), .int .i64 (.ofNat 21)] = true := by intro M; kernel_rfl
theorem n_21_9 : ∀ M : Int, yesM M 4 [.int .i64 (.ofNat 9), .int .i64 (.ofNat 21)] = true := by intro M; kernel_rfl
theorem n_22_0 : ∀ M : Int, yesM M 4 [.int .i64 (.ofNat 0), .int .i64 (.ofNat 22)] = true := by intro M; kernel_rfl
theorem n_22_1 : ∀ M : Int, yesM M 4 [.int .i64 (.ofNat 1), .int .i64 (.ofNat 22)] = true := by intro M; kernel_rfl
theorem n_22_2 : ∀ M : Int, yesM M 4 [.int .i64 (.ofNat 2), .int .i64 (.ofNat 22)] = true := by intro M; kernel_rfl
theorem n_22_3 : ∀ M : Int, yesM M 4 [.int .i64 (.ofNat 3), .int .i64 (.ofNat 22)] = true := by intro M; kernel_rfl
theorem n_22_4 : ∀ M : Int, yesM M 4 [.int .i64 (.ofNat 4), .int .i64 (.ofNat 22)] = true := by intro M; kernel_rfl
theorem n_22_5 : ∀ M : Int, yesM M 4 [.int .i64 (.ofNat 5), .int .i64 (.ofNat 22)] = true := by intro M; kernel_rfl
theorem n_22_6 : ∀ M : Int, yesM M 4 [.int .i64 (.ofNat 6), .int .i64 (.ofNat 22)] = true := by intro M; kernel_rfl
theorem n_22_7 : ∀ M : Int, yesM M 4 [.int .i64 (.ofNat 7), .int .i64 (.ofNat 22)] = true := by intro M; kernel_rfl
theorem n_22_8 : ∀ M : Int, yesM M 4 [.int .i64 (.ofNat 8), .int .i64 (.ofNat 22)] = true := by intro M; kernel_rfl
theorem n_22_9 : ∀ M : Int, yesM M 4 [.int .i64 (.ofNat 9), .int .i64 (.ofNat 22)] = true := by intro M; kernel_rfl
theorem n_23_0 : ∀ M : Int, yesM M 4 [.int .i64 (.ofNat 0), .int .i64 (.ofNat 23)] = true := by intro M; kernel_rfl
theorem n_23_1 : ∀ M : Int, yesM M 4 [.int .i64 (.ofNat 1), .int .i64 (.ofNat 23)] = true := by intro M; kernel_rfl
theorem n_23_2 : ∀ M : Int, yesM M 4 [.int .i64 (.ofNat 2), .int .i64 (.ofNat 23)] = true := by intro M; kernel_rfl
theorem n_23_3 : ∀ M : Int, yesM M 4 [.int .i64 (.ofNat 3), .int .i64 (.ofNat 23)] = true := by intro M; kernel_rfl
theorem n_23_4 : ∀ M : Int, yesM M 4 [.int .i64 (.ofNat 4), .int .i64 (.ofNat 23)] = true := by intro M; kernel_rfl
theorem n_23_5 : ∀ M : Int, yesM M 4 [.int .i64 (.ofNat 5), .int .i64 (.ofNat 23)] = true := by intro M; kernel_rfl
theorem n_23_6 : ∀ M : Int, yesM M 4 [.int .i64 (.ofNat 6), .int .i64 (.ofNat 23)] = true := by intro M; kernel_rfl
theorem n_23_7 : ∀ M : Int, yesM M 4 [.int .i64 (.ofNat 7), .int .i64 (.ofNat 23)] = true := by intro M; kernel_rfl
theorem n_23_8 : ∀ M : Int, yesM M 4 [.int .i64 (.ofNat 8), .int .i64 (.ofNat 23)] = true := by intro M; kernel_rfl
theorem n_23_9 : ∀ M : Int, yesM M 4 [.int .i64 (.ofNat 9), .int .i64 (.ofNat 23)] = true := by intro M; kernel_rfl
end Go.Proofs.YtapnnpoljobanabGreatDoor.MachWords
