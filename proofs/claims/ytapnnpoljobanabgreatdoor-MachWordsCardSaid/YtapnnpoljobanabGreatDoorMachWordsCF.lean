/- 'MachWords': cases, run by the kernel. Conditions: none. -/
import Derived.Test.YtapnnpoljobanabGreatDoorCw
namespace Go.Proofs.YtapnnpoljobanabGreatDoor.MachWords
open Go.Ex
set_option maxRecDepth 1000000
theorem n_30_0 : ∀ M : Int, yesM M 4 [.int .i64 (.ofNat 0), .int .i64 (.ofNat 30)] = true := by intro M; kernel_rfl
theorem n_30_1 : ∀ M : Int, yesM M 4 [.int .i64 (.ofNat 1), .int .i64 (.ofNat 30)] = true := by intro M; kernel_rfl
theorem n_30_2 : ∀ M : Int, yesM M 4 [.int .i64 (.ofNat 2), .int .i64 (.ofNat 30)] = true := by intro M; kernel_rfl
theorem n_30_3 : ∀ M : Int, yesM M 4 [.int .i64 (.ofNat 3), .int .i64 (.ofNat 30)] = true := by intro M; kernel_rfl
theorem n_30_4 : ∀ M : Int, yesM M 4 [.int .i64 (.ofNat 4), .int .i64 (.ofNat 30)] = true := by intro M; kernel_rfl
theorem n_30_5 : ∀ M : Int, yesM M 4 [.int .i64 (.ofNat 5), .int .i64 (.ofNat 30)] = true := by intro M; kernel_rfl
theorem n_30_6 : ∀ M : Int, yesM M 4 [.int .i64 (.ofNat 6), .int .i64 (.ofNat 30)] = true := by intro M; kernel_rfl
theorem n_30_7 : ∀ M : Int, yesM M 4 [.int .i64 (.ofNat 7), .int .i64 (.ofNat 30)] = true := by intro M; kernel_rfl
theorem n_30_8 : ∀ M : Int, yesM M 4 [.int .i64 (.ofNat 8), .int .i64 (.ofNat 30)] = true := by intro M; kernel_rfl
theorem n_30_9 : ∀ M : Int, yesM M 4 [.int .i64 (.ofNat 9), .int .i64 (.ofNat 30)] = true := by intro M; kernel_rfl
theorem n_31_0 : ∀ M : Int, yesM M 4 [.int .i64 (.ofNat 0), .int .i64 (.ofNat 31)] = true := by intro M; kernel_rfl
theorem n_31_1 : ∀ M : Int, yesM M 4 [.int .i64 (.ofNat 1), .int .i64 (.ofNat 31)] = true := by intro M; kernel_rfl
theorem n_31_2 : ∀ M : Int, yesM M 4 [.int .i64 (.ofNat 2), .int .i64 (.ofNat 31)] = true := by intro M; kernel_rfl
theorem n_31_3 : ∀ M : Int, yesM M 4 [.int .i64 (.ofNat 3), .int .i64 (.ofNat 31)] = true := by intro M; kernel_rfl
theorem n_31_4 : ∀ M : Int, yesM M 4 [.int .i64 (.ofNat 4), .int .i64 (.ofNat 31)] = true := by intro M; kernel_rfl
theorem n_31_5 : ∀ M : Int, yesM M 4 [.int .i64 (.ofNat 5), .int .i64 (.ofNat 31)] = true := by intro M; kernel_rfl
theorem n_31_6 : ∀ M : Int, yesM M 4 [.int .i64 (.ofNat 6), .int .i64 (.ofNat 31)] = true := by intro M; kernel_rfl
theorem n_31_7 : ∀ M : Int, yesM M 4 [.int .i64 (.ofNat 7), .int .i64 (.ofNat 31)] = true := by intro M; kernel_rfl
theorem n_31_8 : ∀ M : Int, yesM M 4 [.int .i64 (.ofNat 8), .int .i64 (.ofNat 31)] = true := by intro M; kernel_rfl
theorem n_31_9 : ∀ M : Int, yesM M 4 [.int .i64 (.ofNat 9), .int .i64 (.ofNat 31)] = true := by intro M; kernel_rfl
theorem n_32_0 : ∀ M : Int, yesM M 4 [.int .i64 (.ofNat 0), .int .i64 (.ofNat 32)] = true := by intro M; kernel_rfl
theorem n_32_1 : ∀ M : Int, yesM M 4 [.int .i64 (.ofNat 1), .int .i64 (.ofNat 32)] = true := by intro M; kernel_rfl
theorem n_32_2 : ∀ M : Int, yesM M 4 [.int .i64 (.ofNat 2), .int .i64 (.ofNat 32)] = true := by intro M; kernel_rfl
theorem n_32_3 : ∀ M : Int, yesM M 4 [.int .i64 (.ofNat 3), .int .i64 (.ofNat 32)] = true := by intro M; kernel_rfl
theorem n_32_4 : ∀ M : Int, yesM M 4 [.int .i64 (.ofNat 4), .int .i64 (.ofNat 32)] = true := by intro M; kernel_rfl
theorem n_32_5 : ∀ M : Int, yesM M 4 [.int .i64 (.ofNat 5), .int .i64 (.ofNat 32)] = true := by intro M; kernel_rfl
theorem n_32_6 : ∀ M : Int, yesM M 4 [.int .i64 (.ofNat 6), .int .i64 (.ofNat 32)] = true := by intro M; kernel_rfl
theorem n_32_7 : ∀ M : Int, yesM M 4 [.int .i64 (.ofNat 7), .int .i64 (.ofNat 32)] = true := by intro M; kernel_rfl
theorem n_32_8 : ∀ M : Int, yesM M 4 [.int .i64 (.ofNat 8), .int .i64 (.ofNat 32)] = true := by intro M; kernel_rfl
theorem n_32_9 : ∀ M : Int, yesM M 4 [.int .i64 (.ofNat 9), .int .i64 (.ofNat 32)] = true := by intro M; kernel_rfl
theorem n_33_0 : ∀ M : Int, yesM M 4 [.int .i64 (.ofNat 0), .int .i64 (.ofNat 33)] = true := by intro M; kernel_rfl
theorem n_33_1 : ∀ M : Int, yesM M 4 [.int .i64 (.ofNat 1), .int .i64 (.ofNat 33)] = true := by intro M; kernel_rfl
theorem n_33_2 : ∀ M : Int, yesM M 4 [.int .i64 (.ofNat 2), .int .i64 (.ofNat 33)] = true := by intro M; kernel_rfl
theorem n_33_3 : ∀ M : Int, yesM M 4 [.int .i64 (.ofNat 3), .int .i64 (.ofNat 33)] = true := by intro M; kernel_rfl
theorem n_33_4 : ∀ M : Int, yesM M 4 [.int .i64 (.ofNat 4), .int .i64 (.ofNat 33)] = true := by intro M; kernel_rfl
theorem n_33_5 : ∀ M : Int, yesM M 4 [.int .i64 (.ofNat 5), .int .i64 (.ofNat 33)] = true := by intro M; kernel_rfl
theorem n_33_6 : ∀ M : Int, yesM M 4 [.int .i64 (.ofNat 6), .int .i64 (.ofNat 33)] = true := by intro M; kernel_rfl
theorem n_33_7 : ∀ M : Int, yesM M 4 [.int .i64 (.ofNat 7), .int .i64 (.ofNat 33)] = true := by intro M; kernel_rfl
theorem n_33_8 : ∀ M : Int, yesM M 4 [.int .i64 (.ofNat 8), .int .i64 (.ofNat 33)] = true := by intro M; kernel_rfl
theorem n_33_9 : ∀ M : Int, yesM M 4 [.int .i64 (.ofNat 9), .int .i64 (.ofNat 33)] = true := by intro M; kernel_rfl
theorem n_34_0 : ∀ M : Int, yesM M 4 [.int .i64 (.ofNat 0), .int .i64 (.ofNat 34)] = true := by intro M; kernel_rfl
theorem n_34_1 : ∀ M : Int, yesM M 4 [.int .i64 (.ofNat 1), .int .i64 (.ofNat 34)] = true := by intro M; kernel_rfl
theorem n_34_2 : ∀ M : Int, yesM M 4 [.int .i64 (.ofNat 2), .int .i64 (.ofNat 34)] = true := by intro M; kernel_rfl
theorem n_34_3 : ∀ M : Int, yesM M 4 [.int .i64 (.ofNat 3), .int .i64 (.ofNat 34)] = true := by intro M; kernel_rfl
theorem n_34_4 : ∀ M : Int, yesM M 4 [.int .i64 (.ofNat 4), .int .i64 (.ofNat 34)] = true := by intro M; kernel_rfl
theorem n_34_5 : ∀ M : Int, yesM M 4 [.int .i64 (.ofNat 5), .int .i64 (.ofNat 34)] = true := by intro M; kernel_rfl
theorem n_34_6 : ∀ M : Int, yesM M 4 [.int .i64 (.ofNat 6), .int .i64 (.ofNat 34)] = true := by intro M; kernel_rfl
theorem n_34_7 : ∀ M : Int, yesM M 4 [.int .i64 (.ofNat 7), .int .i64 (.ofNat 34)] = true := by intro M; kernel_rfl
theorem n_34_8 : ∀ M : Int, yesM M 4 [.int .i64 (.ofNat 8), .int .i64 (.ofNat 34)] = true := by intro M; kernel_rfl
theorem n_34_9 : ∀ M : Int, yesM M 4 [.int .i64 (.ofNat 9), .int .i64 (.ofNat 34)] = true := by intro M; kernel_rfl
theorem n_35_0 : ∀ M : Int, yesM M 4 [.int .i64 (.ofNat 0), .int .i64 (.ofNat 35)] = true := by intro M; kernel_rfl
theorem n_35_1 : ∀ M : Int, yesM M 4 [.int .i64 (.ofNat 1), .int .i64 (.ofNat 35)] = true := by intro M; kernel_rfl
theorem n_35_2 : ∀ M : Int, yesM M 4 [.int .i64 (.ofNat 2), .int .i64 (.ofNat 35)] = true := by intro M; kernel_rfl
theorem n_35_3 : ∀ M : Int, yesM M 4 [.int .i64 (.ofNat 3), .int .i64 (.ofNat 35)] = true := by intro M; kernel_rfl
theorem n_35_4 : ∀ M : Int, yesM M 4 [.int .i64 (.ofNat 4), .int .i64 (.ofNat 35)] = true := by intro M; kernel_rfl
theorem n_35_5 : ∀ M : Int, yesM M 4 [.int .i64 (.ofNat 5), .int .i64 (.ofNat 35)] = true := by intro M; kernel_rfl
theorem n_35_6 : ∀ M : Int, yesM M 4 [.int .i64 (.ofNat 6), .int .i64 (.ofNat 35)] = true := by intro M; kernel_rfl
theorem n_35_7 : ∀ M : Int, yesM M 4 [.int .i64 (.ofNat 7), .int .i64 (.ofNat 35)] = true := by intro M; kernel_rfl
theorem n_35_8 : ∀ M : Int, yesM M 4 [.int .i64 (.ofNat 8), .int .i64 (.ofNat 35)] = true := by intro M; kernel_rfl
theorem n_35_9 : ∀ M : Int, yesM M 4 [.int .i64 (.ofNat 9), .int .i64 (.ofNat 35)] = true := by intro M; kernel_rfl
end Go.Proofs.YtapnnpoljobanabGreatDoor.MachWords
