/- 'MachWords': cases, run by the kernel. Conditions: none. -/
import Derived.Test.YtapnnpoljobanabGreatDoorCw
namespace Go.Proofs.YtapnnpoljobanabGreatDoor.MachWords
open Go.Ex
set_option maxRecDepth 1000000
theorem n_24_0 : ∀ M : Int, yesM M 4 [.int .i64 (.ofNat 0), .int .i64 (.ofNat 24)] = true := by intro M; kernel_rfl
theorem n_24_1 : ∀ M : Int, yesM M 4 [.int .i64 (.ofNat 1), .int .i64 (.ofNat 24)] = true := by intro M; kernel_rfl
theorem n_24_2 : ∀ M : Int, yesM M 4 [.int .i64 (.ofNat 2), .int .i64 (.ofNat 24)] = true := by intro M; kernel_rfl
theorem n_24_3 : ∀ M : Int, yesM M 4 [.int .i64 (.ofNat 3), .int .i64 (.ofNat 24)] = true := by intro M; kernel_rfl
theorem n_24_4 : ∀ M : Int, yesM M 4 [.int .i64 (.ofNat 4), .int .i64 (.ofNat 24)] = true := by intro M; kernel_rfl
theorem n_24_5 : ∀ M : Int, yesM M 4 [.int .i64 (.ofNat 5), .int .i64 (.ofNat 24)] = true := by intro M; kernel_rfl
theorem n_24_6 : ∀ M : Int, yesM M 4 [.int .i64 (.ofNat 6), .int .i64 (.ofNat 24)] = true := by intro M; kernel_rfl
theorem n_24_7 : ∀ M : Int, yesM M 4 [.int .i64 (.ofNat 7), .int .i64 (.ofNat 24)] = true := by intro M; kernel_rfl
theorem n_24_8 : ∀ M : Int, yesM M 4 [.int .i64 (.ofNat 8), .int .i64 (.ofNat 24)] = true := by intro M; kernel_rfl
theorem n_24_9 : ∀ M : Int, yesM M 4 [.int .i64 (.ofNat 9), .int .i64 (.ofNat 24)] = true := by intro M; kernel_rfl
theorem n_25_0 : ∀ M : Int, yesM M 4 [.int .i64 (.ofNat 0), .int .i64 (.ofNat 25)] = true := by intro M; kernel_rfl
theorem n_25_1 : ∀ M : Int, yesM M 4 [.int .i64 (.ofNat 1), .int .i64 (.ofNat 25)] = true := by intro M; kernel_rfl
theorem n_25_2 : ∀ M : Int, yesM M 4 [.int .i64 (.ofNat 2), .int .i64 (.ofNat 25)] = true := by intro M; kernel_rfl
theorem n_25_3 : ∀ M : Int, yesM M 4 [.int .i64 (.ofNat 3), .int .i64 (.ofNat 25)] = true := by intro M; kernel_rfl
theorem n_25_4 : ∀ M : Int, yesM M 4 [.int .i64 (.ofNat 4), .int .i64 (.ofNat 25)] = true := by intro M; kernel_rfl
theorem n_25_5 : ∀ M : Int, yesM M 4 [.int .i64 (.ofNat 5), .int .i64 (.ofNat 25)] = true := by intro M; kernel_rfl
theorem n_25_6 : ∀ M : Int, yesM M 4 [.int .i64 (.ofNat 6), .int .i64 (.ofNat 25)] = true := by intro M; kernel_rfl
theorem n_25_7 : ∀ M : Int, yesM M 4 [.int .i64 (.ofNat 7), .int .i64 (.ofNat 25)] = true := by intro M; kernel_rfl
theorem n_25_8 : ∀ M : Int, yesM M 4 [.int .i64 (.ofNat 8), .int .i64 (.ofNat 25)] = true := by intro M; kernel_rfl
theorem n_25_9 : ∀ M : Int, yesM M 4 [.int .i64 (.ofNat 9), .int .i64 (.ofNat 25)] = true := by intro M; kernel_rfl
theorem n_26_0 : ∀ M : Int, yesM M 4 [.int .i64 (.ofNat 0), .int .i64 (.ofNat 26)] = true := by intro M; kernel_rfl
theorem n_26_1 : ∀ M : Int, yesM M 4 [.int .i64 (.ofNat 1), .int .i64 (.ofNat 26)] = true := by intro M; kernel_rfl
theorem n_26_2 : ∀ M : Int, yesM M 4 [.int .i64 (.ofNat 2), .int .i64 (.ofNat 26)] = true := by intro M; kernel_rfl
theorem n_26_3 : ∀ M : Int, yesM M 4 [.int .i64 (.ofNat 3), .int .i64 (.ofNat 26)] = true := by intro M; kernel_rfl
theorem n_26_4 : ∀ M : Int, yesM M 4 [.int .i64 (.ofNat 4), .int .i64 (.ofNat 26)] = true := by intro M; kernel_rfl
theorem n_26_5 : ∀ M : Int, yesM M 4 [.int .i64 (.ofNat 5), .int .i64 (.ofNat 26)] = true := by intro M; kernel_rfl
theorem n_26_6 : ∀ M : Int, yesM M 4 [.int .i64 (.ofNat 6), .int .i64 (.ofNat 26)] = true := by intro M; kernel_rfl
theorem n_26_7 : ∀ M : Int, yesM M 4 [.int .i64 (.ofNat 7), .int .i64 (.ofNat 26)] = true := by intro M; kernel_rfl
theorem n_26_8 : ∀ M : Int, yesM M 4 [.int .i64 (.ofNat 8), .int .i64 (.ofNat 26)] = true := by intro M; kernel_rfl
theorem n_26_9 : ∀ M : Int, yesM M 4 [.int .i64 (.ofNat 9), .int .i64 (.ofNat 26)] = true := by intro M; kernel_rfl
theorem n_27_0 : ∀ M : Int, yesM M 4 [.int .i64 (.ofNat 0), .int .i64 (.ofNat 27)] = true := by intro M; kernel_rfl
theorem n_27_1 : ∀ M : Int, yesM M 4 [.int .i64 (.ofNat 1), .int .i64 (.ofNat 27)] = true := by intro M; kernel_rfl
theorem n_27_2 : ∀ M : Int, yesM M 4 [.int .i64 (.ofNat 2), .int .i64 (.ofNat 27)] = true := by intro M; kernel_rfl
theorem n_27_3 : ∀ M : Int, yesM M 4 [.int .i64 (.ofNat 3), .int .i64 (.ofNat 27)] = true := by intro M; kernel_rfl
theorem n_27_4 : ∀ M : Int, yesM M 4 [.int .i64 (.ofNat 4), .int .i64 (.ofNat 27)] = true := by intro M; kernel_rfl
theorem n_27_5 : ∀ M : Int, yesM M 4 [.int .i64 (.ofNat 5), .int .i64 (.ofNat 27)] = true := by intro M; kernel_rfl
theorem n_27_6 : ∀ M : Int, yesM M 4 [.int .i64 (.ofNat 6), .int .i64 (.ofNat 27)] = true := by intro M; kernel_rfl
theorem n_27_7 : ∀ M : Int, yesM M 4 [.int .i64 (.ofNat 7), .int .i64 (.ofNat 27)] = true := by intro M; kernel_rfl
theorem n_27_8 : ∀ M : Int, yesM M 4 [.int .i64 (.ofNat 8), .int .i64 (.ofNat 27)] = true := by intro M; kernel_rfl
theorem n_27_9 : ∀ M : Int, yesM M 4 [.int .i64 (.ofNat 9), .int .i64 (.ofNat 27)] = true := by intro M; kernel_rfl
theorem n_28_0 : ∀ M : Int, yesM M 4 [.int .i64 (.ofNat 0), .int .i64 (.ofNat 28)] = true := by intro M; kernel_rfl
theorem n_28_1 : ∀ M : Int, yesM M 4 [.int .i64 (.ofNat 1), .int .i64 (.ofNat 28)] = true := by intro M; kernel_rfl
theorem n_28_2 : ∀ M : Int, yesM M 4 [.int .i64 (.ofNat 2), .int .i64 (.ofNat 28)] = true := by intro M; kernel_rfl
theorem n_28_3 : ∀ M : Int, yesM M 4 [.int .i64 (.ofNat 3), .int .i64 (.ofNat 28)] = true := by intro M; kernel_rfl
theorem n_28_4 : ∀ M : Int, yesM M 4 [.int .i64 (.ofNat 4), .int .i64 (.ofNat 28)] = true := by intro M; kernel_rfl
theorem n_28_5 : ∀ M : Int, yesM M 4 [.int .i64 (.ofNat 5), .int .i64 (.ofNat 28)] = true := by intro M; kernel_rfl
theorem n_28_6 : ∀ M : Int, yesM M 4 [.int .i64 (.ofNat 6), .int .i64 (.ofNat 28)] = true := by intro M; kernel_rfl
theorem n_28_7 : ∀ M : Int, yesM M 4 [.int .i64 (.ofNat 7), .int .i64 (.ofNat 28)] = true := by intro M; kernel_rfl
theorem n_28_8 : ∀ M : Int, yesM M 4 [.int .i64 (.ofNat 8), .int .i64 (.ofNat 28)] = true := by intro M; kernel_rfl
theorem n_28_9 : ∀ M : Int, yesM M 4 [.int .i64 (.ofNat 9), .int .i64 (.ofNat 28)] = true := by intro M; kernel_rfl
theorem n_29_0 : ∀ M : Int, yesM M 4 [.int .i64 (.ofNat 0), .int .i64 (.ofNat 29)] = true := by intro M; kernel_rfl
theorem n_29_1 : ∀ M : Int, yesM M 4 [.int .i64 (.ofNat 1), .int .i64 (.ofNat 29)] = true := by intro M; kernel_rfl
theorem n_29_2 : ∀ M : Int, yesM M 4 [.int .i64 (.ofNat 2), .int .i64 (.ofNat 29)] = true := by intro M; kernel_rfl
theorem n_29_3 : ∀ M : Int, yesM M 4 [.int .i64 (.ofNat 3), .int .i64 (.ofNat 29)] = true := by intro M; kernel_rfl
theorem n_29_4 : ∀ M : Int, yesM M 4 [.int .i64 (.ofNat 4), .int .i64 (.ofNat 29)] = true := by intro M; kernel_rfl
theorem n_29_5 : ∀ M : Int, yesM M 4 [.int .i64 (.ofNat 5), .int .i64 (.ofNat 29)] = true := by intro M; kernel_rfl
theorem n_29_6 : ∀ M : Int, yesM M 4 [.int .i64 (.ofNat 6), .int .i64 (.ofNat 29)] = true := by intro M; kernel_rfl
theorem n_29_7 : ∀ M : Int, yesM M 4 [.int .i64 (.ofNat 7), .int .i64 (.ofNat 29)] = true := by intro M; kernel_rfl
theorem n_29_8 : ∀ M : Int, yesM M 4 [.int .i64 (.ofNat 8), .int .i64 (.ofNat 29)] = true := by intro M; kernel_rfl
theorem n_29_9 : ∀ M : Int, yesM M 4 [.int .i64 (.ofNat 9), .int .i64 (.ofNat 29)] = true := by intro M; kernel_rfl
end Go.Proofs.YtapnnpoljobanabGreatDoor.MachWords
