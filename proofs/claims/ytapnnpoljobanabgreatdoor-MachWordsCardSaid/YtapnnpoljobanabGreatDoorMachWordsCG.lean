/- 'MachWords': cases, run by the kernel. Conditions: none. -/
import Derived.Test.YtapnnpoljobanabGreatDoorCw
namespace Go.Proofs.YtapnnpoljobanabGreatDoor.MachWords
open Go.Ex
set_option maxRecDepth 1000000
theorem n_36_0 : ∀ M : Int, yesM M 4 [.int .i64 (.ofNat 0), .int .i64 (.ofNat 36)] = true := by intro M; kernel_rfl
theorem n_36_1 : ∀ M : Int, yesM M 4 [.int .i64 (.ofNat 1), .int .i64 (.ofNat 36)] = true := by intro M; kernel_rfl
theorem n_36_2 : ∀ M : Int, yesM M 4 [.int .i64 (.ofNat 2), .int .i64 (.ofNat 36)] = true := by intro M; kernel_rfl
theorem n_36_3 : ∀ M : Int, yesM M 4 [.int .i64 (.ofNat 3), .int .i64 (.ofNat 36)] = true := by intro M; kernel_rfl
theorem n_36_4 : ∀ M : Int, yesM M 4 [.int .i64 (.ofNat 4), .int .i64 (.ofNat 36)] = true := by intro M; kernel_rfl
theorem n_36_5 : ∀ M : Int, yesM M 4 [.int .i64 (.ofNat 5), .int .i64 (.ofNat 36)] = true := by intro M; kernel_rfl
theorem n_36_6 : ∀ M : Int, yesM M 4 [.int .i64 (.ofNat 6), .int .i64 (.ofNat 36)] = true := by intro M; kernel_rfl
theorem n_36_7 : ∀ M : Int, yesM M 4 [.int .i64 (.ofNat 7), .int .i64 (.ofNat 36)] = true := by intro M; kernel_rfl
theorem n_36_8 : ∀ M : Int, yesM M 4 [.int .i64 (.ofNat 8), .int .i64 (.ofNat 36)] = true := by intro M; kernel_rfl
theorem n_36_9 : ∀ M : Int, yesM M 4 [.int .i64 (.ofNat 9), .int .i64 (.ofNat 36)] = true := by intro M; kernel_rfl
theorem n_37_0 : ∀ M : Int, yesM M 4 [.int .i64 (.ofNat 0), .int .i64 (.ofNat 37)] = true := by intro M; kernel_rfl
theorem n_37_1 : ∀ M : Int, yesM M 4 [.int .i64 (.ofNat 1), .int .i64 (.ofNat 37)] = true := by intro M; kernel_rfl
theorem n_37_2 : ∀ M : Int, yesM M 4 [.int .i64 (.ofNat 2), .int .i64 (.ofNat 37)] = true := by intro M; kernel_rfl
theorem n_37_3 : ∀ M : Int, yesM M 4 [.int .i64 (.ofNat 3), .int .i64 (.ofNat 37)] = true := by intro M; kernel_rfl
theorem n_37_4 : ∀ M : Int, yesM M 4 [.int .i64 (.ofNat 4), .int .i64 (.ofNat 37)] = true := by intro M; kernel_rfl
theorem n_37_5 : ∀ M : Int, yesM M 4 [.int .i64 (.ofNat 5), .int .i64 (.ofNat 37)] = true := by intro M; kernel_rfl
theorem n_37_6 : ∀ M : Int, yesM M 4 [.int .i64 (.ofNat 6), .int .i64 (.ofNat 37)] = true := by intro M; kernel_rfl
theorem n_37_7 : ∀ M : Int, yesM M 4 [.int .i64 (.ofNat 7), .int .i64 (.ofNat 37)] = true := by intro M; kernel_rfl
theorem n_37_8 : ∀ M : Int, yesM M 4 [.int .i64 (.ofNat 8), .int .i64 (.ofNat 37)] = true := by intro M; kernel_rfl
theorem n_37_9 : ∀ M : Int, yesM M 4 [.int .i64 (.ofNat 9), .int .i64 (.ofNat 37)] = true := by intro M; kernel_rfl
theorem n_38_0 : ∀ M : Int, yesM M 4 [.int .i64 (.ofNat 0), .int .i64 (.ofNat 38)] = true := by intro M; kernel_rfl
theorem n_38_1 : ∀ M : Int, yesM M 4 [.int .i64 (.ofNat 1), .int .i64 (.ofNat 38)] = true := by intro M; kernel_rfl
theorem n_38_2 : ∀ M : Int, yesM M 4 [.int .i64 (.ofNat 2), .int .i64 (.ofNat 38)] = true := by intro M; kernel_rfl
theorem n_38_3 : ∀ M : Int, yesM M 4 [.int .i64 (.ofNat 3), .int .i64 (.ofNat 38)] = true := by intro M; kernel_rfl
theorem n_38_4 : ∀ M : Int, yesM M 4 [.int .i64 (.ofNat 4), .int .i64 (.ofNat 38)] = true := by intro M; kernel_rfl
theorem n_38_5 : ∀ M : Int, yesM M 4 [.int .i64 (.ofNat 5), .int .i64 (.ofNat 38)] = true := by intro M; kernel_rfl
theorem n_38_6 : ∀ M : Int, yesM M 4 [.int .i64 (.ofNat 6), .int .i64 (.ofNat 38)] = true := by intro M; kernel_rfl
theorem n_38_7 : ∀ M : Int, yesM M 4 [.int .i64 (.ofNat 7), .int .i64 (.ofNat 38)] = true := by intro M; kernel_rfl
theorem n_38_8 : ∀ M : Int, yesM M 4 [.int .i64 (.ofNat 8), .int .i64 (.ofNat 38)] = true := by intro M; kernel_rfl
theorem n_38_9 : ∀ M : Int, yesM M 4 [.int .i64 (.ofNat 9), .int .i64 (.ofNat 38)] = true := by intro M; kernel_rfl
theorem n_39_0 : ∀ M : Int, yesM M 4 [.int .i64 (.ofNat 0), .int .i64 (.ofNat 39)] = true := by intro M; kernel_rfl
theorem n_39_1 : ∀ M : Int, yesM M 4 [.int .i64 (.ofNat 1), .int .i64 (.ofNat 39)] = true := by intro M; kernel_rfl
theorem n_39_2 : ∀ M : Int, yesM M 4 [.int .i64 (.ofNat 2), .int .i64 (.ofNat 39)] = true := by intro M; kernel_rfl
theorem n_39_3 : ∀ M : Int, yesM M 4 [.int .i64 (.ofNat 3), .int .i64 (.ofNat 39)] = true := by intro M; kernel_rfl
theorem n_39_4 : ∀ M : Int, yesM M 4 [.int .i64 (.ofNat 4), .int .i64 (.ofNat 39)] = true := by intro M; kernel_rfl
theorem n_39_5 : ∀ M : Int, yesM M 4 [.int .i64 (.ofNat 5), .int .i64 (.ofNat 39)] = true := by intro M; kernel_rfl
theorem n_39_6 : ∀ M : Int, yesM M 4 [.int .i64 (.ofNat 6), .int .i64 (.ofNat 39)] = true := by intro M; kernel_rfl
theorem n_39_7 : ∀ M : Int, yesM M 4 [.int .i64 (.ofNat 7), .int .i64 (.ofNat 39)] = true := by intro M; kernel_rfl
theorem n_39_8 : ∀ M : Int, yesM M 4 [.int .i64 (.ofNat 8), .int .i64 (.ofNat 39)] = true := by intro M; kernel_rfl
theorem n_39_9 : ∀ M : Int, yesM M 4 [.int .i64 (.ofNat 9), .int .i64 (.ofNat 39)] = true := by intro M; kernel_rfl
theorem n_40_0 : ∀ M : Int, yesM M 4 [.int .i64 (.ofNat 0), .int .i64 (.ofNat 40)] = true := by intro M; kernel_rfl
theorem n_40_1 : ∀ M : Int, yesM M 4 [.int .i64 (.ofNat 1), .int .i64 (.ofNat 40)] = true := by intro M; kernel_rfl
theorem n_40_2 : ∀ M : Int, yesM M 4 [.int .i64 (.ofNat 2), .int .i64 (.ofNat 40)] = true := by intro M; kernel_rfl
theorem n_40_3 : ∀ M : Int, yesM M 4 [.int .i64 (.ofNat 3), .int .i64 (.ofNat 40)] = true := by intro M; kernel_rfl
theorem n_40_4 : ∀ M : Int, yesM M 4 [.int .i64 (.ofNat 4), .int .i64 (.ofNat 40)] = true := by intro M; kernel_rfl
theorem n_40_5 : ∀ M : Int, yesM M 4 [.int .i64 (.ofNat 5), .int .i64 (.ofNat 40)] = true := by intro M; kernel_rfl
theorem n_40_6 : ∀ M : Int, yesM M 4 [.int .i64 (.ofNat 6), .int .i64 (.ofNat 40)] = true := by intro M; kernel_rfl
theorem n_40_7 : ∀ M : Int, yesM M 4 [.int .i64 (.ofNat 7), .int .i64 (.ofNat 40)] = true := by intro M; kernel_rfl
theorem n_40_8 : ∀ M : Int, yesM M 4 [.int .i64 (.ofNat 8), .int .i64 (.ofNat 40)] = true := by intro M; kernel_rfl
theorem n_40_9 : ∀ M : Int, yesM M 4 [.int .i64 (.ofNat 9), .int .i64 (.ofNat 40)] = true := by intro M; kernel_rfl
theorem n_41_0 : ∀ M : Int, yesM M 4 [.int .i64 (.ofNat 0), .int .i64 (.ofNat 41)] = true := by intro M; kernel_rfl
theorem n_41_1 : ∀ M : Int, yesM M 4 [.int .i64 (.ofNat 1), .int .i64 (.ofNat 41)] = true := by intro M; kernel_rfl
theorem n_41_2 : ∀ M : Int, yesM M 4 [.int .i64 (.ofNat 2), .int .i64 (.ofNat 41)] = true := by intro M; kernel_rfl
theorem n_41_3 : ∀ M : Int, yesM M 4 [.int .i64 (.ofNat 3), .int .i64 (.ofNat 41)] = true := by intro M; kernel_rfl
theorem n_41_4 : ∀ M : Int, yesM M 4 [.int .i64 (.ofNat 4), .int .i64 (.ofNat 41)] = true := by intro M; kernel_rfl
theorem n_41_5 : ∀ M : Int, yesM M 4 [.int .i64 (.ofNat 5), .int .i64 (.ofNat 41)] = true := by intro M; kernel_rfl
theorem n_41_6 : ∀ M : Int, yesM M 4 [.int .i64 (.ofNat 6), .int .i64 (.ofNat 41)] = true := by intro M; kernel_rfl
theorem n_41_7 : ∀ M : Int, yesM M 4 [.int .i64 (.ofNat 7), .int .i64 (.ofNat 41)] = true := by intro M; kernel_rfl
theorem n_41_8 : ∀ M : Int, yesM M 4 [.int .i64 (.ofNat 8), .int .i64 (.ofNat 41)] = true := by intro M; kernel_rfl
theorem n_41_9 : ∀ M : Int, yesM M 4 [.int .i64 (.ofNat 9), .int .i64 (.ofNat 41)] = true := by intro M; kernel_rfl
end Go.Proofs.YtapnnpoljobanabGreatDoor.MachWords
