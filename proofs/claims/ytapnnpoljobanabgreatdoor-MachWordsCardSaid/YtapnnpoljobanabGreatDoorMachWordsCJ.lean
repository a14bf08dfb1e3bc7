/- 'MachWords': cases, run by the kernel. Conditions: none. -/
import Derived.Test.YtapnnpoljobanabGreatDoorCw
namespace Go.Proofs.YtapnnpoljobanabGreatDoor.MachWords
open Go.Ex
set_option maxRecDepth 1000000
theorem n_54_0 : ∀ M : Int, yesM M 4 [.int .i64 (.ofNat 0), .int .i64 (.ofNat 54)] = true := by intro M; kernel_rfl
theorem n_54_1 : ∀ M : Int, yesM M 4 [.int .i64 (.ofNat 1), .int .i64 (.ofNat 54)] = true := by intro M; kernel_rfl
theorem n_54_2 : ∀ M : Int, yesM M 4 [.int .i64 (.ofNat 2), .int .i64 (.ofNat 54)] = true := by intro M; kernel_rfl
theorem n_54_3 : ∀ M : Int, yesM M 4 [.int .i64 (.ofNat 3), .int .i64 (.ofNat 54)] = true := by intro M; kernel_rfl
theorem n_54_4 : ∀ M : Int, yesM M 4 [.int .i64 (.ofNat 4), .int .i64 (.ofNat 54)] = true := by intro M; kernel_rfl
theorem n_54_5 : ∀ M : Int, yesM M 4 [.int .i64 (.ofNat 5), .int .i64 (.ofNat 54)] = true := by intro M; kernel_rfl
theorem n_54_6 : ∀ M : Int, yesM M 4 [.int .i64 (.ofNat 6), .int .i64 (.ofNat 54)] = true := by intro M; kernel_rfl
theorem n_54_7 : ∀ M : Int, yesM M 4 [.int .i64 (.ofNat 7), .int .i64 (.ofNat 54)] = true := by intro M; kernel_rfl
theorem n_54_8 : ∀ M : Int, yesM M 4 [.int .i64 (.ofNat 8), .int .i64 (.ofNat 54)] = true := by intro M; kernel_rfl
theorem n_54_9 : ∀ M : Int, yesM M 4 [.int .i64 (.ofNat 9), .int .i64 (.ofNat 54)] = true := by intro M; kernel_rfl
theorem n_55_0 : ∀ M : Int, yesM M 4 [.int .i64 (.ofNat 0), .int .i64 (.ofNat 55)] = true := by intro M; kernel_rfl
theorem n_55_1 : ∀ M : Int, yesM M 4 [.int .i64 (.ofNat 1), .int .i64 (.ofNat 55)] = true := by intro M; kernel_rfl
theorem n_55_2 : ∀ M : Int, yesM M 4 [.int .i64 (.ofNat 2), .int .i64 (.ofNat 55)] = true := by intro M; kernel_rfl
theorem n_55_3 : ∀ M : Int, yesM M 4 [.int .i64 (.ofNat 3), .int .i64 (.ofNat 55)] = true := by intro M; kernel_rfl
theorem n_55_4 : ∀ M : Int, yesM M 4 [.int .i64 (.ofNat 4), .int .i64 (.ofNat 55)] = true := by intro M; kernel_rfl
theorem n_55_5 : ∀ M : Int, yesM M 4 [.int .i64 (.ofNat 5), .int .i64 (.ofNat 55)] = true := by intro M; kernel_rfl
theorem n_55_6 : ∀ M : Int, yesM M 4 [.int .i64 (.ofNat 6), .int .i64 (.ofNat 55)] = true := by intro M; kernel_rfl
theorem n_55_7 : ∀ M : Int, yesM M 4 [.int .i64 (.ofNat 7), .int .i64 (.ofNat 55)] = true := by intro M; kernel_rfl
theorem n_55_8 : ∀ M : Int, yesM M 4 [.int .i64 (.ofNat 8), .int .i64 (.ofNat 55)] = true := by intro M; kernel_rfl
theorem n_55_9 : ∀ M : Int, yesM M 4 [.int .i64 (.ofNat 9), .int .i64 (.ofNat 55)] = true := by intro M; kernel_rfl
theorem n_56_0 : ∀ M : Int, yesM M 4 [.int .i64 (.ofNat 0), .int .i64 (.ofNat 56)] = true := by intro M; kernel_rfl
theorem n_56_1 : ∀ M : Int, yesM M 4 [.int .i64 (.ofNat 1), .int .i64 (.ofNat 56)] = true := by intro M; kernel_rfl
theorem n_56_2 : ∀ M : Int, yesM M 4 [.int .i64 (.ofNat 2), .int .i64 (.ofNat 56)] = true := by intro M; kernel_rfl
theorem n_56_3 : ∀ M : Int, yesM M 4 [.int .i64 (.ofNat 3), .int .i64 (.ofNat 56)] = true := by intro M; kernel_rfl
theorem n_56_4 : ∀ M : Int, yesM M 4 [.int .i64 (.ofNat 4), .int .i64 (.ofNat 56)] = true := by intro M; kernel_rfl
theorem n_56_5 : ∀ M : Int, yesM M 4 [.int .i64 (.ofNat 5), .int .i64 (.ofNat 56)] = true := by intro M; kernel_rfl
theorem n_56_6 : ∀ M : Int, yesM M 4 [.int .i64 (.ofNat 6), .int .i64 (.ofNat 56)] = true := by intro M; kernel_rfl
theorem n_56_7 : ∀ M : Int, yesM M 4 [.int .i64 (.ofNat 7), .int .i64 (.ofNat 56)] = true := by intro M; kernel_rfl
theorem n_56_8 : ∀ M : Int, yesM M 4 [.int .i64 (.ofNat 8), .int .i64 (.ofNat 56)] = true := by intro M; kernel_rfl
theorem n_56_9 : ∀ M : Int, yesM M 4 [.int .i64 (.ofNat 9), .int .i64 (.ofNat 56)] = true := by intro M; kernel_rfl
theorem n_57_0 : ∀ M : Int, yesM M 4 [.int .i64 (.ofNat 0), .int .i64 (.ofNat 57)] = true := by intro M; kernel_rfl
theorem n_57_1 : ∀ M : Int, yesM M 4 [.int .i64 (.ofNat 1), .int .i64 (.ofNat 57)] = true := by intro M; kernel_rfl
theorem n_57_2 : ∀ M : Int, yesM M 4 [.int .i64 (.ofNat 2), .int .i64 (.ofNat 57)] = true := by intro M; kernel_rfl
theorem n_57_3 : ∀ M : Int, yesM M 4 [.int .i64 (.ofNat 3), .int .i64 (.ofNat 57)] = true := by intro M; kernel_rfl
theorem n_57_4 : ∀ M : Int, yesM M 4 [.int .i64 (.ofNat 4), .int .i64 (.ofNat 57)] = true := by intro M; kernel_rfl
theorem n_57_5 : ∀ M : Int, yesM M 4 [.int .i64 (.ofNat 5), .int .i64 (.ofNat 57)] = true := by intro M; kernel_rfl
theorem n_57_6 : ∀ M : Int, yesM M 4 [.int .i64 (.ofNat 6), .int .i64 (.ofNat 57)] = true := by intro M; kernel_rfl
theorem n_57_7 : ∀ M : Int, yesM M 4 [.int .i64 (.ofNat 7), .int .i64 (.ofNat 57)] = true := by intro M; kernel_rfl
theorem n_57_8 : ∀ M : Int, yesM M 4 [.int .i64 (.ofNat 8), .int .i64 (.ofNat 57)] = true := by intro M; kernel_rfl
theorem n_57_9 : ∀ M : Int, yesM M 4 [.int .i64 (.ofNat 9), .int .i64 (.ofNat 57)] = true := by intro M; kernel_rfl
theorem n_58_0 : ∀ M : Int, yesM M 4 [.int .i64 (.ofNat 0), .int .i64 (.ofNat 58)] = true := by intro M; kernel_rfl
theorem n_58_1 : ∀ M : Int, yesM M 4 [.int .i64 (.ofNat 1), .int .i64 (.ofNat 58)] = true := by intro M; kernel_rfl
theorem n_58_2 : ∀ M : Int, yesM M 4 [.int .i64 (.ofNat 2), .int .i64 (.ofNat 58)] = true := by intro M; kernel_rfl
theorem n_58_3 : ∀ M : Int, yesM M 4 [.int .i64 (.ofNat 3), .int .i64 (.ofNat 58)] = true := by intro M; kernel_rfl
theorem n_58_4 : ∀ M : Int, yesM M 4 [.int .i64 (.ofNat 4), .int .i64 (.ofNat 58)] = true := by intro M; kernel_rfl
theorem n_58_5 : ∀ M : Int, yesM M 4 [.int .i64 (.ofNat 5), .int .i64 (.ofNat 58)] = true := by intro M; kernel_rfl
theorem n_58_6 : ∀ M : Int, yesM M 4 [.int .i64 (.ofNat 6), .int .i64 (.ofNat 58)] = true := by intro M; kernel_rfl
theorem n_58_7 : ∀ M : Int, yesM M 4 [.int .i64 (.ofNat 7), .int .i64 (.ofNat 58)] = true := by intro M; kernel_rfl
theorem n_58_8 : ∀ M : Int, yesM M 4 [.int .i64 (.ofNat 8), .int .i64 (.ofNat 58)] = true := by intro M; kernel_rfl
theorem n_58_9 : ∀ M : Int, yesM M 4 [.int .i64 (.ofNat 9), .int .i64 (.ofNat 58)] = true := by intro M; kernel_rfl
theorem n_59_0 : ∀ M : Int, yesM M 4 [.int .i64 (.ofNat 0), .int .i64 (.ofNat 59)] = true := by intro M; kernel_rfl
theorem n_59_1 : ∀ M : Int, yesM M 4 [.int .i64 (.ofNat 1), .int .i64 (.ofNat 59)] = true := by intro M; kernel_rfl
theorem n_59_2 : ∀ M : Int, yesM M 4 [.int .i64 (.ofNat 2), .int .i64 (.ofNat 59)] = true := by intro M; kernel_rfl
theorem n_59_3 : ∀ M : Int, yesM M 4 [.int .i64 (.ofNat 3), .int .i64 (.ofNat 59)] = true := by intro M; kernel_rfl
theorem n_59_4 : ∀ M : Int, yesM M 4 [.int .i64 (.ofNat 4), .int .i64 (.ofNat 59)] = true := by intro M; kernel_rfl
theorem n_59_5 : ∀ M : Int, yesM M 4 [.int .i64 (.ofNat 5), .int .i64 (.ofNat 59)] = true := by intro M; kernel_rfl
theorem n_59_6 : ∀ M : Int, yesM M 4 [.int .i64 (.ofNat 6), .int .i64 (.ofNat 59)] = true := by intro M; kernel_rfl
theorem n_59_7 : ∀ M : Int, yesM M 4 [.int .i64 (.ofNat 7), .int .i64 (.ofNat 59)] = true := by intro M; kernel_rfl
theorem n_59_8 : ∀ M : Int, yesM M 4 [.int .i64 (.ofNat 8), .int .i64 (.ofNat 59)] = true := by intro M; kernel_rfl
theorem n_59_9 : ∀ M : Int, yesM M 4 [.int .i64 (.ofNat 9), .int .i64 (.ofNat 59)] = true := by intro M; kernel_rfl
end Go.Proofs.YtapnnpoljobanabGreatDoor.MachWords
