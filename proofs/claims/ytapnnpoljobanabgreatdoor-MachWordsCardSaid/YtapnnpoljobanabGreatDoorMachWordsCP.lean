/- 'MachWords': cases, run by the kernel. Conditions: none. -/
import Derived.Test.YtapnnpoljobanabGreatDoorCw
namespace Go.Proofs.YtapnnpoljobanabGreatDoor.MachWords
open Go.Ex
set_option maxRecDepth 1000000
theorem n_84_0 : ∀ M : Int, yesM M 4 [.int .i64 (.ofNat 0), .int .i64 (.ofNat 84)] = true := by intro M; kernel_rfl
theorem n_84_1 : ∀ M : Int, yesM M 4 [.int .i64 (.ofNat 1), .int .i64 (.ofNat 84)] = true := by intro M; kernel_rfl
theorem n_84_2 : ∀ M : Int, yesM M 4 [.int .i64 (.ofNat 2), .int .i64 (.ofNat 84)] = true := by intro M; kernel_rfl
theorem n_84_3 : ∀ M : Int, yesM M 4 [.int .i64 (.ofNat 3), .int .i64 (.ofNat 84)] = true := by intro M; kernel_rfl
theorem n_84_4 : ∀ M : Int, yesM M 4 [.int .i64 (.ofNat 4), .int .i64 (.ofNat 84)] = true := by intro M; kernel_rfl
theorem n_84_5 : ∀ M : Int, yesM M 4 [.int .i64 (.ofNat 5), .int .i64 (.ofNat 84)] = true := by intro M; kernel_rfl
theorem n_84_6 : ∀ M : Int, yesM M 4 [.int .i64 (.ofNat 6), .int .i64 (.ofNat 84)] = true := by intro M; kernel_rfl
theorem n_84_7 : ∀ M : Int, yesM M 4 [.int .i64 (.ofNat 7), .int .i64 (.ofNat 84)] = true := by intro M; kernel_rfl
theorem n_84_8 : ∀ M : Int, yesM M 4 [.int .i64 (.ofNat 8), .int .i64 (.ofNat 84)] = true := by intro M; kernel_rfl
theorem n_84_9 : ∀ M : Int, yesM M 4 [.int .i64 (.ofNat 9), .int .i64 (.ofNat 84)] = true := by intro M; kernel_rfl
theorem n_85_0 : ∀ M : Int, yesM M 4 [.int .i64 (.ofNat 0), .int .i64 (.ofNat 85)] = true := by intro M; kernel_rfl
theorem n_85_1 : ∀ M : Int, yesM M 4 [.int .i64 (.ofNat 1), .int .i64 (.ofNat 85)] = true := by intro M; kernel_rfl
theorem n_85_2 : ∀ M : Int, yesM M 4 [.int .i64 (.ofNat 2), .int .i64 (.ofNat 85)] = true := by intro M; kernel_rfl
theorem n_85_3 : ∀ M : Int, yesM M 4 [.int .i64 (.ofNat 3), .int .i64 (.ofNat 85)] = true := by intro M; kernel_rfl
theorem n_85_4 : ∀ M : Int, yesM M 4 [.int .i64 (.ofNat 4), .int .i64 (.ofNat 85)] = true := by intro M; kernel_rfl
theorem n_85_5 : ∀ M : Int, yesM M 4 [.int .i64 (.ofNat 5), .int .i64 (.ofNat 85)] = true := by intro M; kernel_rfl
theorem n_85_6 : ∀ M : Int, yesM M 4 [.int .i64 (.ofNat 6), .int .i64 (.ofNat 85)] = true := by intro M; kernel_rfl
theorem n_85_7 : ∀ M : Int, yesM M 4 [.int .i64 (.ofNat 7), .int .i64 (.ofNat 85)] = true := by intro M; kernel_rfl
theorem n_85_8 : ∀ M : Int, yesM M 4 [.int .i64 (.ofNat 8), .int .i64 (.ofNat 85)] = true := by intro M; kernel_rfl
theorem n_85_9 : ∀ M : Int, yesM M 4 [.int .i64 (.ofNat 9), .int .i64 (.ofNat 85)] = true := by intro M; kernel_rfl
theorem n_86_0 : ∀ M : Int, yesM M 4 [.int .i64 (.ofNat 0), .int .i64 (.ofNat 86)] = true := by intro M; kernel_rfl
theorem n_86_1 : ∀ M : Int, yesM M 4 [.int .i64 (.ofNat 1), .int .i64 (.ofNat 86)] = true := by intro M; kernel_rfl
theorem n_86_2 : ∀ M : Int, yesM M 4 [.int .i64 (.ofNat 2), .int .i64 (.ofNat 86)] = true := by intro M; kernel_rfl
theorem n_86_3 : ∀ M : Int, yesM M 4 [.int .i64 (.ofNat 3), .int .i64 (.ofNat 86)] = true := by intro M; kernel_rfl
theorem n_86_4 : ∀ M : Int, yesM M 4 [.int .i64 (.ofNat 4), .int .i64 (.ofNat 86)] = true := by intro M; kernel_rfl
theorem n_86_5 : ∀ M : Int, yesM M 4 [.int .i64 (.ofNat 5), .int .i64 (.ofNat 86)] = true := by intro M; kernel_rfl
theorem n_86_6 : ∀ M : Int, yesM M 4 [.int .i64 (.ofNat 6), .int .i64 (.ofNat 86)] = true := by intro M; kernel_rfl
theorem n_86_7 : ∀ M : Int, yesM M 4 [.int .i64 (.ofNat 7), .int .i64 (.ofNat 86)] = true := by intro M; kernel_rfl
theorem n_86_8 : ∀ M : Int, yesM M 4 [.int .i64 (.ofNat 8), .int .i64 (.ofNat 86)] = true := by intro M; kernel_rfl
theorem n_86_9 : ∀ M : Int, yesM M 4 [.int .i64 (.ofNat 9), .int .i64 (.ofNat 86)] = true := by intro M; kernel_rfl
theorem n_87_0 : ∀ M : Int, yesM M 4 [.int .i64 (.ofNat 0), .int .i64 (.ofNat 87)] = true := by intro M; kernel_rfl
theorem n_87_1 : ∀ M : Int, yesM M 4 [.int .i64 (.ofNat 1), .int .i64 (.ofNat 87)] = true := by intro M; kernel_rfl
theorem n_87_2 : ∀ M : Int, yesM M 4 [.int .i64 (.ofNat 2), .int .i64 (.ofNat 87)] = true := by intro M; kernel_rfl
theorem n_87_3 : ∀ M : Int, yesM M 4 [.int .i64 (.ofNat 3), .int .i64 (.ofNat 87)] = true := by intro M; kernel_rfl
theorem n_87_4 : ∀ M : Int, yesM M 4 [.int .i64 (.ofNat 4), .int .i64 (.ofNat 87)] = true := by intro M; kernel_rfl
theorem n_87_5 : ∀ M : Int, yesM M 4 [.int .i64 (.ofNat 5), .int .i64 (.ofNat 87)] = true := by intro M; kernel_rfl
theorem n_87_6 : ∀ M : Int, yesM M 4 [.int .i64 (.ofNat 6), .int .i64 (.ofNat 87)] = true := by intro M; kernel_rfl
theorem n_87_7 : ∀ M : Int, yesM M 4 [.int .i64 (.ofNat 7), .int .i64 (.ofNat 87)] = true := by intro M; kernel_rfl
theorem n_87_8 : ∀ M : Int, yesM M 4 [.int .i64 (.ofNat 8), .int .i64 (.ofNat 87)] = true := by intro M; kernel_rfl
theorem n_87_9 : ∀ M : Int, yesM M 4 [.int .i64 (.ofNat 9), .int .i64 (.ofNat 87)] = true := by intro M; kernel_rfl
theorem n_88_0 : ∀ M : Int, yesM M 4 [.int .i64 (.ofNat 0), .int .i64 (.ofNat 88)] = true := by intro M; kernel_rfl
theorem n_88_1 : ∀ M : Int, yesM M 4 [.int .i64 (.ofNat 1), .int .i64 (.ofNat 88)] = true := by intro M; kernel_rfl
theorem n_88_2 : ∀ M : Int, yesM M 4 [.int .i64 (.ofNat 2), .int .i64 (.ofNat 88)] = true := by intro M; kernel_rfl
theorem n_88_3 : ∀ M : Int, yesM M 4 [.int .i64 (.ofNat 3), .int .i64 (.ofNat 88)] = true := by intro M; kernel_rfl
theorem n_88_4 : ∀ M : Int, yesM M 4 [.int .i64 (.ofNat 4), .int .i64 (.ofNat 88)] = true := by intro M; kernel_rfl
theorem n_88_5 : ∀ M : Int, yesM M 4 [.int .i64 (.ofNat 5), .int .i64 (.ofNat 88)] = true := by intro M; kernel_rfl
theorem n_88_6 : ∀ M : Int, yesM M 4 [.int .i64 (.ofNat 6), .int .i64 (.ofNat 88)] = true := by intro M; kernel_rfl
theorem n_88_7 : ∀ M : Int, yesM M 4 [.int .i64 (.ofNat 7), .int .i64 (.ofNat 88)] = true := by intro M; kernel_rfl
theorem n_88_8 : ∀ M : Int, yesM M 4 [.int .i64 (.ofNat 8), .int .i64 (.ofNat 88)] = true := by intro M; kernel_rfl
theorem n_88_9 : ∀ M : Int, yesM M 4 [.int .i64 (.ofNat 9), .int .i64 (.ofNat 88)] = true := by intro M; kernel_rfl
theorem n_89_0 : ∀ M : Int, yesM M 4 [.int .i64 (.ofNat 0), .int .i64 (.ofNat 89)] = true := by intro M; kernel_rfl
theorem n_89_1 : ∀ M : Int, yesM M 4 [.int .i64 (.ofNat 1), .int .i64 (.ofNat 89)] = true := by intro M; kernel_rfl
theorem n_89_2 : ∀ M : Int, yesM M 4 [.int .i64 (.ofNat 2), .int .i64 (.ofNat 89)] = true := by intro M; kernel_rfl
theorem n_89_3 : ∀ M : Int, yesM M 4 [.int .i64 (.ofNat 3), .int .i64 (.ofNat 89)] = true := by intro M; kernel_rfl
theorem n_89_4 : ∀ M : Int, yesM M 4 [.int .i64 (.ofNat 4), .int .i64 (.ofNat 89)] = true := by intro M; kernel_rfl
theorem n_89_5 : ∀ M : Int, yesM M 4 [.int .i64 (.ofNat 5), .int .i64 (.ofNat 89)] = true := by intro M; kernel_rfl
theorem n_89_6 : ∀ M : Int, yesM M 4 [.int .i64 (.ofNat 6), .int .i64 (.ofNat 89)] = true := by intro M; kernel_rfl
theorem n_89_7 : ∀ M : Int, yesM M 4 [.int .i64 (.ofNat 7), .int .i64 (.ofNat 89)] = true := by intro M; kernel_rfl
theorem n_89_8 : ∀ M : Int, yesM M 4 [.int .i64 (.ofNat 8), .int .i64 (.ofNat 89)] = true := by intro M; kernel_rfl
theorem n_89_9 : ∀ M : Int, yesM M 4 [.int .i64 (.ofNat 9), .int .i64 (.ofNat 89)] = true := by intro M; kernel_rfl
end Go.Proofs.YtapnnpoljobanabGreatDoor.MachWords
