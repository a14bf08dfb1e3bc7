/- 'MachWords': cases, run by the kernel. Conditions: none. -/
import Derived.Test.YtapnnpoljobanabGreatDoorCw
namespace Go.Proofs.YtapnnpoljobanabGreatDoor.MachWords
open Go.Ex
set_option maxRecDepth 1000000
theorem n_66_0 : ∀ M : Int, yesM M 4 [.int .i64 (.ofNat 0), .int .i64 (.ofNat 66)] = true := by intro M; kernel_rfl
theorem n_66_1 : ∀ M : Int, yesM M 4 [.int .i64 (.ofNat 1), .int .i64 (.ofNat 66)] = true := by intro M; kernel_rfl
theorem n_66_2 : ∀ M : Int, yesM M 4 [.int .i64 (.ofNat 2), .int .i64 (.ofNat 66)] = true := by intro M; kernel_rfl
theorem n_66_3 : ∀ M : Int, yesM M 4 [.int .i64 (.ofNat 3), .int .i64 (.ofNat 66)] = true := by intro M; kernel_rfl
theorem n_66_4 : ∀ M : Int, yesM M 4 [.int .i64 (.ofNat 4), .int .i64 (.ofNat 66)] = true := by intro M; kernel_rfl
theorem n_66_5 : ∀ M : Int, yesM M 4 [.int .i64 (.ofNat 5), .int .i64 (.ofNat 66)] = true := by intro M; kernel_rfl
theorem n_66_6 : ∀ M : Int, yesM M 4 [.int .i64 (.ofNat 6), .int .i64 (.ofNat 66)] = true := by intro M; kernel_rfl
theorem n_66_7 : ∀ M : Int, yesM M 4 [.int .i64 (.ofNat 7), .int .i64 (.ofNat 66)] = true := by intro M; kernel_rfl
theorem n_66_8 : ∀ M : Int, yesM M 4 [.int .i64 (.ofNat 8), .int .i64 (.ofNat 66)] = true := by intro M; kernel_rfl
theorem n_66_9 : ∀ M : Int, yesM M 4 [.int .i64 (.ofNat 9), .int .i64 (.ofNat 66)] = true := by intro M; kernel_rfl
theorem n_67_0 : ∀ M : Int, yesM M 4 [.int .i64 (.ofNat 0), .int .i64 (.ofNat 67)] = true := by intro M; kernel_rfl
theorem n_67_1 : ∀ M : Int, yesM M 4 [.int .i64 (.ofNat 1), .int .i64 (.ofNat 67)] = true := by intro M; kernel_rfl
theorem n_67_2 : ∀ M : Int, yesM M 4 [.int .i64 (.ofNat 2), .int .i64 (.ofNat 67)] = true := by intro M; kernel_rfl
theorem n_67_3 : ∀ M : Int, yesM M 4 [.int .i64 (.ofNat 3), .int .i64 (.ofNat 67)] = true := by intro M; kernel_rfl
theorem n_67_4 : ∀ M : Int, yesM M 4 [.int .i64 (.ofNat 4), .int .i64 (.ofNat 67)] = true := by intro M; kernel_rfl
theorem n_67_5 : ∀ M : Int, yesM M 4 [.int .i64 (.ofNat 5), .int .i64 (.ofNat 67)] = true := by intro M; kernel_rfl
theorem n_67_6 : ∀ M : Int, yesM M 4 [.int .i64 (.ofNat 6), .int .i64 (.ofNat 67)] = true := by intro M; kernel_rfl
theorem n_67_7 : ∀ M : Int, yesM M 4 [.int .i64 (.ofNat 7), .int .i64 (.ofNat 67)] = true := by intro M; kernel_rfl
theorem n_67_8 : ∀ M : Int, yesM M 4 [.int .i64 (.ofNat 8), .int .i64 (.ofNat 67)] = true := by intro M; kernel_rfl
theorem n_67_9 : ∀ M : Int, yesM M 4 [.int .i64 (.ofNat 9), .int .i64 (.ofNat 67)] = true := by intro M; kernel_rfl
theorem n_68_0 : ∀ M : Int, yesM M 4 [.int .i64 (.ofNat 0), .int .i64 (.ofNat 68)] = true := by intro M; kernel_rfl
theorem n_68_1 : ∀ M : Int, yesM M 4 [.int .i64 (.ofNat 1), .int .i64 (.ofNat 68)] = true := by intro M; kernel_rfl
theorem n_68_2 : ∀ M : Int, yesM M 4 [.int .i64 (.ofNat 2), .int .i64 (.ofNat 68)] = true := by intro M; kernel_rfl
theorem n_68_3 : ∀ M : Int, yesM M 4 [.int .i64 (.ofNat 3), .int .i64 (.ofNat 68)] = true := by intro M; kernel_rfl
theorem n_68_4 : ∀ M : Int, yesM M 4 [.int .i64 (.ofNat 4), .int .i64 (.ofNat 68)] = true := by intro M; kernel_rfl
theorem n_68_5 : ∀ M : Int, yesM M 4 [.int .i64 (.ofNat 5), .int .i64 (.ofNat 68)] = true := by intro M; kernel_rfl
theorem n_68_6 : ∀ M : Int, yesM M 4 [.int .i64 (.ofNat 6), .int .i64 (.ofNat 68)] = true := by intro M; kernel_rfl
theorem n_68_7 : ∀ M : Int, yesM M 4 [.int .i64 (.ofNat 7), .int .i64 (.ofNat 68)] = true := by intro M; kernel_rfl
theorem n_68_8 : ∀ M : Int, yesM M 4 [.int .i64 (.ofNat 8), .int .i64 (.ofNat 68)] = true := by intro M; kernel_rfl
theorem n_68_9 : ∀ M : Int, yesM M 4 [.int .i64 (.ofNat 9), .int .i64 (.ofNat 68)] = true := by intro M; kernel_rfl
theorem n_69_0 : ∀ M : Int, yesM M 4 [.int .i64 (.ofNat 0), .int .i64 (.ofNat 69)] = true := by intro M; kernel_rfl
theorem n_69_1 : ∀ M : Int, yesM M 4 [.int .i64 (.ofNat 1), .int .i64 (.ofNat 69)] = true := by intro M; kernel_rfl
theorem n_69_2 : ∀ M : Int, yesM M 4 [.int .i64 (.ofNat 2), .int .i64 (.ofNat 69)] = true := by intro M; kernel_rfl
theorem n_69_3 : ∀ M : Int, yesM M 4 [.int .i64 (.ofNat 3), .int .i64 (.ofNat 69)] = true := by intro M; kernel_rfl
theorem n_69_4 : ∀ M : Int, yesM M 4 [.int .i64 (.ofNat 4), .int .i64 (.ofNat 69)] = true := by intro M; kernel_rfl
theorem n_69_5 : ∀ M : Int, yesM M 4 [.int .i64 (.ofNat 5), .int .i64 (.ofNat 69)] = true := by intro M; kernel_rfl
theorem n_69_6 : ∀ M : Int, yesM M 4 [.int .i64 (.ofNat 6), .int .i64 (.ofNat 69)] = true := by intro M; kernel_rfl
theorem n_69_7 : ∀ M : Int, yesM M 4 [.int .i64 (.ofNat 7), .int .i64 (.ofNat 69)] = true := by intro M; kernel_rfl
theorem n_69_8 : ∀ M : Int, yesM M 4 [.int .i64 (.ofNat 8), .int .i64 (.ofNat 69)] = true := by intro M; kernel_rfl
theorem n_69_9 : ∀ M : Int, yesM M 4 [.int .i64 (.ofNat 9), .int .i64 (.ofNat 69)] = true := by intro M; kernel_rfl
theorem n_70_0 : ∀ M : Int, yesM M 4 [.int .i64 (.ofNat 0), .int .i64 (.ofNat 70)] = true := by intro M; kernel_rfl
theorem n_70_1 : ∀ M : Int, yesM M 4 [.int .i64 (.ofNat 1), .int .i64 (.ofNat 70)] = true := by intro M; kernel_rfl
theorem n_70_2 : ∀ M : Int, yesM M 4 [.int .i64 (.ofNat 2), .int .i64 (.ofNat 70)] = true := by intro M; kernel_rfl
theorem n_70_3 : ∀ M : Int, yesM M 4 [.int .i64 (.ofNat 3), .int .i64 (.ofNat 70)] = true := by intro M; kernel_rfl
theorem n_70_4 : ∀ M : Int, yesM M 4 [.int .i64 (.ofNat 4), .int .i64 (.ofNat 70)] = true := by intro M; kernel_rfl
theorem n_70_5 : ∀ M : Int, yesM M 4 [.int .i64 (.ofNat 5), .int .i64 (.ofNat 70)] = true := by intro M; kernel_rfl
theorem n_70_6 : ∀ M : Int, yesM M 4 [.int .i64 (.ofNat 6), .int .i64 (.ofNat 70)] = true := by intro M; kernel_rfl
theorem n_70_7 : ∀ M : Int, yesM M 4 [.int .i64 (.ofNat 7), .int .i64 (.ofNat 70)] = true := by intro M; kernel_rfl
theorem n_70_8 : ∀ M : Int, yesM M 4 [.int .i64 (.ofNat 8), .int .i64 (.ofNat 70)] = true := by intro M; kernel_rfl
theorem n_70_9 : ∀ M : Int, yesM M 4 [.int .i64 (.ofNat 9), .int .i64 (.ofNat 70)] = true := by intro M; kernel_rfl
theorem n_71_0 : ∀ M : Int, yesM M 4 [.int .i64 (.ofNat 0), .int .i64 (.ofNat 71)] = true := by intro M; kernel_rfl
theorem n_71_1 : ∀ M : Int, yesM M 4 [.int .i64 (.ofNat 1), .int .i64 (.ofNat 71)] = true := by intro M; kernel_rfl
theorem n_71_2 : ∀ M : Int, yesM M 4 [.int .i64 (.ofNat 2), .int .i64 (.ofNat 71)] = true := by intro M; kernel_rfl
theorem n_71_3 : ∀ M : Int, yesM M 4 [.int .i64 (.ofNat 3), .int .i64 (.ofNat 71)] = true := by intro M; kernel_rfl
theorem n_71_4 : ∀ M : Int, yesM M 4 [.int .i64 (.ofNat 4), .int .i64 (.ofNat 71)] = true := by intro M; kernel_rfl
theorem n_71_5 : ∀ M : Int, yesM M 4 [.int .i64 (.ofNat 5), .int .i64 (.ofNat 71)] = true := by intro M; kernel_rfl
theorem n_71_6 : ∀ M : Int, yesM M 4 [.int .i64 (.ofNat 6), .int .i64 (.ofNat 71)] = true := by intro M; kernel_rfl
theorem n_71_7 : ∀ M : Int, yesM M 4 [.int .i64 (.ofNat 7), .int .i64 (.ofNat 71)] = true := by intro M; kernel_rfl
theorem n_71_8 : ∀ M : Int, yesM M 4 [.int .i64 (.ofNat 8), .int .i64 (.ofNat 71)] = true := by intro M; kernel_rfl
theorem n_71_9 : ∀ M : Int, yesM M 4 [.int .i64 (.ofNat 9), .int .i64 (.ofNat 71)] = true := by intro M; kernel_rfl
end Go.Proofs.YtapnnpoljobanabGreatDoor.MachWords
