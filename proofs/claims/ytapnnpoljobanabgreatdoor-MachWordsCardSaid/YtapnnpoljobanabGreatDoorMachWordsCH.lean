/- 'MachWords': cases, run by the kernel. Conditions: none. -/
import Derived.Test.YtapnnpoljobanabGreatDoorCw
namespace Go.Proofs.YtapnnpoljobanabGreatDoor.MachWords
open Go.Ex
set_option maxRecDepth 1000000
theorem n_42_0 : ∀ M : Int, yesM M 4 [.int .i64 (.ofNat 0), .int .i64 (.ofNat 42)] = true := by intro M; kernel_rfl
theorem n_42_1 : ∀ M : Int, yesM M 4 [.int .i64 (.ofNat 1), .int .i64 (.ofNat 42)] = true := by intro M; kernel_rfl
theorem n_42_2 : ∀ M : Int, yesM M 4 [.int .i64 (.ofNat 2), .int .i64 (.ofNat 42)] = true := by intro M; kernel_rfl
theorem n_42_3 : ∀ M : Int, yesM M 4 [.int .i64 (.ofNat 3), .int .i64 (.ofNat 42)] = true := by intro M; kernel_rfl
theorem n_42_4 : ∀ M : Int, yesM M 4 [.int .i64 (.ofNat 4), .int .i64 (.ofNat 42)] = true := by intro M; kernel_rfl
theorem n_42_5 : ∀ M : Int, yesM M 4 [.int .i64 (.ofNat 5), .int .i64 (.ofNat 42)] = true := by intro M; kernel_rfl
theorem n_42_6 : ∀ M : Int, yesM M 4 [.int .i64 (.ofNat 6), .int .i64 (.ofNat 42)] = true := by intro M; kernel_rfl
theorem n_42_7 : ∀ M : Int, yesM M 4 [.int .i64 (.ofNat 7), .int .i64 (.ofNat 42)] = true := by intro M; kernel_rfl
theorem n_42_8 : ∀ M : Int, yesM M 4 [.int .i64 (.ofNat 8), .int .i64 (.ofNat 42)] = true := by intro M; kernel_rfl
theorem n_42_9 : ∀ M : Int, yesM M 4 [.int .i64 (.ofNat 9), .int .i64 (.ofNat 42)] = true := by intro M; kernel_rfl
theorem n_43_0 : ∀ M : Int, yesM M 4 [.int .i64 (.ofNat 0), .int .i64 (.ofNat 43)] = true := by intro M; kernel_rfl
theorem n_43_1 : ∀ M : Int, yesM M 4 [.int .i64 (.ofNat 1), .int .i64 (.ofNat 43)] = true := by intro M; kernel_rfl
theorem n_43_2 : ∀ M : Int, yesM M 4 [.int .i64 (.ofNat 2), .int .i64 (.ofNat 43)] = true := by intro M; kernel_rfl
theorem n_43_3 : ∀ M : Int, yesM M 4 [.int .i64 (.ofNat 3), .int .i64 (.ofNat 43)] = true := by intro M; kernel_rfl
theorem n_43_4 : ∀ M : Int, yesM M 4 [.int .i64 (.ofNat 4), .int .i64 (.ofNat 43)] = true := by intro M; kernel_rfl
theorem n_43_5 : ∀ M : Int, yesM M 4 [.int .i64 (.ofNat 5), .int .i64 (.ofNat 43)] = true := by intro M; kernel_rfl
theorem n_43_6 : ∀ M : Int, yesM M 4 [.int .i64 (.ofNat 6), .int .i64 (.ofNat 43)] = true := by intro M; kernel_rfl
theorem n_43_7 : ∀ M : Int, yesM M 4 [.int .i64 (.ofNat 7), .int .i64 (.ofNat 43)] = true := by intro M; kernel_rfl
theorem n_43_8 : ∀ M : Int, yesM M 4 [.int .i64 (.ofNat 8), .int .i64 (.ofNat 43)] = true := by intro M; kernel_rfl
theorem n_43_9 : ∀ M : Int, yesM M 4 [.int .i64 (.ofNat 9), .int .i64 (.ofNat 43)] = true := by intro M; kernel_rfl
theorem n_44_0 : ∀ M : Int, yesM M 4 [.int .i64 (.ofNat 0), .int .i64 (.ofNat 44)] = true := by intro M; kernel_rfl
theorem n_44_1 : ∀ M : Int, yesM M 4 [.int .i64 (.ofNat 1), .int .i64 (.ofNat 44)] = true := by intro M; kernel_rfl
theorem n_44_2 : ∀ M : Int, yesM M 4 [.int .i64 (.ofNat 2), .int .i64 (.ofNat 44)] = true := by intro M; kernel_rfl
theorem n_44_3 : ∀ M : Int, yesM M 4 [.int .i64 (.ofNat 3), .int .i64 (.ofNat 44)] = true := by intro M; kernel_rfl
theorem n_44_4 : ∀ M : Int, yesM M 4 [.int .i64 (.ofNat 4), .int .i64 (.ofNat 44)] = true := by intro M; kernel_rfl
theorem n_44_5 : ∀ M : Int, yesM M 4 [.int .i64 (.ofNat 5), .int .i64 (.ofNat 44)] = true := by intro M; kernel_rfl
theorem n_44_6 : ∀ M : Int, yesM M 4 [.int .i64 (.ofNat 6), .int .i64 (.ofNat 44)] = true := by intro M; kernel_rfl
theorem n_44_7 : ∀ M : Int, yesM M 4 [.int .i64 (.ofNat 7), .int .i64 (.ofNat 44)] = true := by intro M; kernel_rfl
theorem n_44_8 : ∀ M : Int, yesM M 4 [.int .i64 (.ofNat 8), .int .i64 (.ofNat 44)] = true := by intro M; kernel_rfl
theorem n_44_9 : ∀ M : Int, yesM M 4 [.int .i64 (.ofNat 9), .int .i64 (.ofNat 44)] = true := by intro M; kernel_rfl
theorem n_45_0 : ∀ M : Int, yesM M 4 [.int .i64 (.ofNat 0), .int .i64 (.ofNat 45)] = true := by intro M; kernel_rfl
theorem n_45_1 : ∀ M : Int, yesM M 4 [.int .i64 (.ofNat 1), .int .i64 (.ofNat 45)] = true := by intro M; kernel_rfl
theorem n_45_2 : ∀ M : Int, yesM M 4 [.int .i64 (.ofNat 2), .int .i64 (.ofNat 45)] = true := by intro M; kernel_rfl
theorem n_45_3 : ∀ M : Int, yesM M 4 [.int .i64 (.ofNat 3), .int .i64 (.ofNat 45)] = true := by intro M; kernel_rfl
theorem n_45_4 : ∀ M : Int, yesM M 4 [.int .i64 (.ofNat 4), .int .i64 (.ofNat 45)] = true := by intro M; kernel_rfl
theorem n_45_5 : ∀ M : Int, yesM M 4 [.int .i64 (.ofNat 5), .int .i64 (.ofNat 45)] = true := by intro M; kernel_rfl
theorem n_45_6 : ∀ M : Int, yesM M 4 [.int .i64 (.ofNat 6), .int .i64 (.ofNat 45)] = true := by intro M; kernel_rfl
theorem n_45_7 : ∀ M : Int, yesM M 4 [.int .i64 (.ofNat 7), .int .i64 (.ofNat 45)] = true := by intro M; kernel_rfl
theorem n_45_8 : ∀ M : Int, yesM M 4 [.int .i64 (.ofNat 8), .int .i64 (.ofNat 45)] = true := by intro M; kernel_rfl
theorem n_45_9 : ∀ M : Int, yesM M 4 [.int .i64 (.ofNat 9), .int .i64 (.ofNat 45)] = true := by intro M; kernel_rfl
theorem n_46_0 : ∀ M : Int, yesM M 4 [.int .i64 (.ofNat 0), .int .i64 (.ofNat 46)] = true := by intro M; kernel_rfl
theorem n_46_1 : ∀ M : Int, yesM M 4 [.int .i64 (.ofNat 1), .int .i64 (.ofNat 46)] = true := by intro M; kernel_rfl
theorem n_46_2 : ∀ M : Int, yesM M 4 [.int .i64 (.ofNat 2), .int .i64 (.ofNat 46)] = true := by intro M; kernel_rfl
theorem n_46_3 : ∀ M : Int, yesM M 4 [.int .i64 (.ofNat 3), .int .i64 (.ofNat 46)] = true := by intro M; kernel_rfl
theorem n_46_4 : ∀ M : Int, yesM M 4 [.int .i64 (.ofNat 4), .int .i64 (.ofNat 46)] = true := by intro M; kernel_rfl
theorem n_46_5 : ∀ M : Int, yesM M 4 [.int .i64 (.ofNat 5), .int .i64 (.ofNat 46)] = true := by intro M; kernel_rfl
theorem n_46_6 : ∀ M : Int, yesM M 4 [.int .i64 (.ofNat 6), .int .i64 (.ofNat 46)] = true := by intro M; kernel_rfl
theorem n_46_7 : ∀ M : Int, yesM M 4 [.int .i64 (.ofNat 7), .int .i64 (.ofNat 46)] = true := by intro M; kernel_rfl
theorem n_46_8 : ∀ M : Int, yesM M 4 [.int .i64 (.ofNat 8), .int .i64 (.ofNat 46)] = true := by intro M; kernel_rfl
theorem n_46_9 : ∀ M : Int, yesM M 4 [.int .i64 (.ofNat 9), .int .i64 (.ofNat 46)] = true := by intro M; kernel_rfl
theorem n_47_0 : ∀ M : Int, yesM M 4 [.int .i64 (.ofNat 0), .int .i64 (.ofNat 47)] = true := by intro M; kernel_rfl
theorem n_47_1 : ∀ M : Int, yesM M 4 [.int .i64 (.ofNat 1), .int .i64 (.ofNat 47)] = true := by intro M; kernel_rfl
theorem n_47_2 : ∀ M : Int, yesM M 4 [.int .i64 (.ofNat 2), .int .i64 (.ofNat 47)] = true := by intro M; kernel_rfl
theorem n_47_3 : ∀ M : Int, yesM M 4 [.int .i64 (.ofNat 3), .int .i64 (.ofNat 47)] = true := by intro M; kernel_rfl
theorem n_47_4 : ∀ M : Int, yesM M 4 [.int .i64 (.ofNat 4), .int .i64 (.ofNat 47)] = true := by intro M; kernel_rfl
theorem n_47_5 : ∀ M : Int, yesM M 4 [.int .i64 (.ofNat 5), .int .i64 (.ofNat 47)] = true := by intro M; kernel_rfl
theorem n_47_6 : ∀ M : Int, yesM M 4 [.int .i64 (.ofNat 6), .int .i64 (.ofNat 47)] = true := by intro M; kernel_rfl
theorem n_47_7 : ∀ M : Int, yesM M 4 [.int .i64 (.ofNat 7), .int .i64 (.ofNat 47)] = true := by intro M; kernel_rfl
theorem n_47_8 : ∀ M : Int, yesM M 4 [.int .i64 (.ofNat 8), .int .i64 (.ofNat 47)] = true := by intro M; kernel_rfl
theorem n_47_9 : ∀ M : Int, yesM M 4 [.int .i64 (.ofNat 9), .int .i64 (.ofNat 47)] = true := by intro M; kernel_rfl
end Go.Proofs.YtapnnpoljobanabGreatDoor.MachWords
