/- 'MachWords': cases, run by the kernel. Conditions: none. -/
import Derived.Test.YtapnnpoljobanabGreatDoorCw
namespace Go.Proofs.YtapnnpoljobanabGreatDoor.MachWords
open Go.Ex
set_option maxRecDepth 1000000
theorem n_48_0 : ∀ M : Int, yesM M 4 [.int .i64 (.ofNat 0), .int .i64 (.ofNat 48)] = true := by intro M; kernel_rfl
theorem n_48_1 : ∀ M : Int, yesM M 4 [.int .i64 (.ofNat 1), .int .i64 (.ofNat 48)] = true := by intro M; kernel_rfl
theorem n_48_2 : ∀ M : Int, yesM M 4 [.int .i64 (.ofNat 2), .int .i64 (.ofNat 48)] = true := by intro M; kernel_rfl
theorem n_48_3 : ∀ M : Int, yesM M 4 [.int .i64 (.ofNat 3), .int .i64 (.ofNat 48)] = true := by intro M; kernel_rfl
theorem n_48_4 : ∀ M : Int, yesM M 4 [.int .i64 (.ofNat 4), .int .i64 (.ofNat 48)] = true := by intro M; kernel_rfl
theorem n_48_5 : ∀ M : Int, yesM M 4 [.int .i64 (.ofNat 5), .int .i64 (.ofNat 48)] = true := by intro M; kernel_rfl
theorem n_48_6 : ∀ M : Int, yesM M 4 [.int .i64 (.ofNat 6), .int .i64 (.ofNat 48)] = true := by intro M; kernel_rfl
theorem n_48_7 : ∀ M : Int, yesM M 4 [.int .i64 (.ofNat 7), .int .i64 (.ofNat 48)] = true := by intro M; kernel_rfl
theorem n_48_8 : ∀ M : Int, yesM M 4 [.int .i64 (.ofNat 8), .int .i64 (.ofNat 48)] = true := by intro M; kernel_rfl
theorem n_48_9 : ∀ M : Int, yesM M 4 [.int .i64 (.ofNat 9), .int .i64 (.ofNat 48)] = true := by intro M; kernel_rfl
theorem n_49_0 : ∀ M : Int, yesM M 4 [.int .i64 (.ofNat 0), .int .i64 (.ofNat 49)] = true := by intro M; kernel_rfl
theorem n_49_1 : ∀ M : Int, yesM M 4 [.int .i64 (.ofNat 1), .int .i64 (.ofNat 49)] = true := by intro M; kernel_rfl
theorem n_49_2 : ∀ M : Int, yesM M 4 [.int .i64 (.ofNat 2), .int .i64 (.ofNat 49)] = true := by intro M; kernel_rfl
theorem n_49_3 : ∀ M : Int, yesM M 4 [.int .i64 (.ofNat 3), .int .i64 (.ofNat 49)] = true := by intro M; kernel_rfl
theorem n_49_4 : ∀ M : Int, yesM M 4 [.int .i64 (.ofNat 4), .int .i64 (.ofNat 49)] = true := by intro M; kernel_rfl
theorem n_49_5 : ∀ M : Int, yesM M 4 [.int .i64 (.ofNat 5), .int .i64 (.ofNat 49)] = true := by intro M; kernel_rfl
theorem n_49_6 : ∀ M : Int, yesM M 4 [.int .i64 (.ofNat 6), .int .i64 (.ofNat 49)] = true := by intro M; kernel_rfl
theorem n_49_7 : ∀ M : Int, yesM M 4 [.int .i64 (.ofNat 7), .int .i64 (.ofNat 49)] = true := by intro M; kernel_rfl
theorem n_49_8 : ∀ M : Int, yesM M 4 [.int .i64 (.ofNat 8), .int .i64 (.ofNat 49)] = true := by intro M; kernel_rfl
theorem n_49_9 : ∀ M : Int, yesM M 4 [.int .i64 (.ofNat 9), .int .i64 (.ofNat 49)] = true := by intro M; kernel_rfl
theorem n_50_0 : ∀ M : Int, yesM M 4 [.int .i64 (.ofNat 0), .int .i64 (.ofNat 50)] = true := by intro M; kernel_rfl
theorem n_50_1 : ∀ M : Int, yesM M 4 [.int .i64 (.ofNat 1), .int .i64 (.ofNat 50)] = true := by intro M; kernel_rfl
theorem n_50_2 : ∀ M : Int, yesM M 4 [.int .i64 (.ofNat 2), .int .i64 (.ofNat 50)] = true := by intro M; kernel_rfl
theorem n_50_3 : ∀ M : Int, yesM M 4 [.int .i64 (.ofNat 3), .int .i64 (.ofNat 50)] = true := by intro M; kernel_rfl
theorem n_50_4 : ∀ M : Int, yesM M 4 [.int .i64 (.ofNat 4), .int .i64 (.ofNat 50)] = true := by intro M; kernel_rfl
theorem n_50_5 : ∀ M : Int, yesM M 4 [.int .i64 (.ofNat 5), .int .i64 (.ofNat 50)] = true := by intro M; kernel_rfl
theorem n_50_6 : ∀ M : Int, yesM M 4 [.int .i64 (.ofNat 6), .int .i64 (.ofNat 50)] = true := by intro M; kernel_rfl
theorem n_50_7 : ∀ M : Int, yesM M 4 [.int .i64 (.ofNat 7), .int .i64 (.ofNat 50)] = true := by intro M; kernel_rfl
theorem n_50_8 : ∀ M : Int, yesM M 4 [.int .i64 (.ofNat 8), .int .i64 (.ofNat 50)] = true := by intro M; kernel_rfl
theorem n_50_9 : ∀ M : Int, yesM M 4 [.int .i64 (.ofNat 9), .int .i64 (.ofNat 50)] = true := by intro M; kernel_rfl
theorem n_51_0 : ∀ M : Int, yesM M 4 [.int .i64 (.ofNat 0), .int .i64 (.ofNat 51)] = true := by intro M; kernel_rfl
theorem n_51_1 : ∀ M : Int, yesM M 4 [.int .i64 (.ofNat 1), .int .i64 (.ofNat 51)] = true := by intro M; kernel_rfl
theorem n_51_2 : ∀ M : Int, yesM M 4 [.int .i64 (.ofNat 2), .int .i64 (.ofNat 51)] = true := by intro M; kernel_rfl
theorem n_51_3 : ∀ M : Int, yesM M 4 [.int .i64 (.ofNat 3), .int .i64 (.ofNat 51)] = true := by intro M; kernel_rfl
theorem n_51_4 : ∀ M : Int, yesM M 4 [.int .i64 (.ofNat 4), .int .i64 (.ofNat 51)] = true := by intro M; kernel_rfl
theorem n_51_5 : ∀ M : Int, yesM M 4 [.int .i64 (.ofNat 5), .int .i64 (.ofNat 51)] = true := by intro M; kernel_rfl
theorem n_51_6 : ∀ M : Int, yesM M 4 [.int .i64 (.ofNat 6), .int .i64 (.ofNat 51)] = true := by intro M; kernel_rfl
theorem n_51_7 : ∀ M : Int, yesM M 4 [.int .i64 (.ofNat 7), .int .i64 (.ofNat 51)] = true := by intro M; kernel_rfl
theorem n_51_8 : ∀ M : Int, yesM M 4 [.int .i64 (.ofNat 8), .int .i64 (.ofNat 51)] = true := by intro M; kernel_rfl
theorem n_51_9 : ∀ M : Int, yesM M 4 [.int .i64 (.ofNat 9), .int .i64 (.ofNat 51)] = true := by intro M; kernel_rfl
theorem n_52_0 : ∀ M : Int, yesM M 4 [.int .i64 (.ofNat 0), .int .i64 (.ofNat 52)] = true := by intro M; kernel_rfl
theorem n_52_1 : ∀ M : Int, yesM M 4 [.int .i64 (.ofNat 1), .int .i64 (.ofNat 52)] = true := by intro M; kernel_rfl
theorem n_52_2 : ∀ M : Int, yesM M 4 [.int .i64 (.ofNat 2), .int .i64 (.ofNat 52)] = true := by intro M; kernel_rfl
theorem n_52_3 : ∀ M : Int, yesM M 4 [.int .i64 (.ofNat 3), .int .i64 (.ofNat 52)] = true := by intro M; kernel_rfl
theorem n_52_4 : ∀ M : Int, yesM M 4 [.int .i64 (.ofNat 4), .int .i64 (.ofNat 52)] = true := by intro M; kernel_rfl
theorem n_52_5 : ∀ M : Int, yesM M 4 [.int .i64 (.ofNat 5), .int .i64 (.ofNat 52)] = true := by intro M; kernel_rfl
theorem n_52_6 : ∀ M : Int, yesM M 4 [.int .i64 (.ofNat 6), .int .i64 (.ofNat 52)] = true := by intro M; kernel_rfl
theorem n_52_7 : ∀ M : Int, yesM M 4 [.int .i64 (.ofNat 7), .int .i64 (.ofNat 52)] = true := by intro M; kernel_rfl
theorem n_52_8 : ∀ M : Int, yesM M 4 [.int .i64 (.ofNat 8), .int .i64 (.ofNat 52)] = true := by intro M; kernel_rfl
theorem n_52_9 : ∀ M : Int, yesM M 4 [.int .i64 (.ofNat 9), .int .i64 (.ofNat 52)] = true := by intro M; kernel_rfl
theorem n_53_0 : ∀ M : Int, yesM M 4 [.int .i64 (.ofNat 0), .int .i64 (.ofNat 53)] = true := by intro M; kernel_rfl
theorem n_53_1 : ∀ M : Int, yesM M 4 [.int .i64 (.ofNat 1), .int .i64 (.ofNat 53)] = true := by intro M; kernel_rfl
theorem n_53_2 : ∀ M : Int, yesM M 4 [.int .i64 (.ofNat 2), .int .i64 (.ofNat 53)] = true := by intro M; kernel_rfl
theorem n_53_3 : ∀ M : Int, yesM M 4 [.int .i64 (.ofNat 3), .int .i64 (.ofNat 53)] = true := by intro M; kernel_rfl
theorem n_53_4 : ∀ M : Int, yesM M 4 [.int .i64 (.ofNat 4), .int .i64 (.ofNat 53)] = true := by intro M; kernel_rfl
theorem n_53_5 : ∀ M : Int, yesM M 4 [.int .i64 (.ofNat 5), .int .i64 (.ofNat 53)] = true := by intro M; kernel_rfl
theorem n_53_6 : ∀ M : Int, yesM M 4 [.int .i64 (.ofNat 6), .int .i64 (.ofNat 53)] = true := by intro M; kernel_rfl
theorem n_53_7 : ∀ M : Int, yesM M 4 [.int .i64 (.ofNat 7), .int .i64 (.ofNat 53)] = true := by intro M; kernel_rfl
theorem n_53_8 : ∀ M : Int, yesM M 4 [.int .i64 (.ofNat 8), .int .i64 (.ofNat 53)] = true := by intro M; kernel_rfl
theorem n_53_9 : ∀ M : Int, yesM M 4 [.int .i64 (.ofNat 9), .int .i64 (.ofNat 53)] = true := by intro M; kernel_rfl
end Go.Proofs.YtapnnpoljobanabGreatDoor.MachWords
