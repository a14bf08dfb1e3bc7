/- 'MachWords': cases, run by the kernel. Conditions: none. -/
import Derived.Test.YtapnnpoljobanabGreatDoorCw
namespace Go.Proofs.YtapnnpoljobanabGreatDoor.MachWords
open Go.Ex
set_option maxRecDepth 1000000
theorem n_72_0 : ∀ M : Int, yesM M 4 [.int .i64 (.ofNat 0), .int .i64 (.ofNat 72)] = true := by intro M; kernel_rfl
theorem n_72_1 : ∀ M : Int, yesM M 4 [.int .i64 (.ofNat 1), .int .i64 (.ofNat 72)] = true := by intro M; kernel_rfl
theorem n_72_2 : ∀ M : Int, yesM M 4 [.int .i64 (.ofNat 2), .int .i64 (.ofNat 72)] = true := by intro M; kernel_rfl
theorem n_72_3 : ∀ M : Int, yesM M 4 [.int .i64 (.ofNat 3), .int .i64 (.ofNat 72)] = true := by intro M; kernel_rfl
theorem n_72_4 : ∀ M : Int, yesM M 4 [.int .i64 (.ofNat 4), .int .i64 (.ofNat 72)] = true := by intro M; kernel_rfl
theorem n_72_5 : ∀ M : Int, yesM M 4 [.int .i64 (.ofNat 5), .int .i64 (.ofNat 72)] = true := by intro M; kernel_rfl
theorem n_72_6 : ∀ M : Int, yesM M 4 [.int .i64 (.ofNat 6), .int .i64 (.ofNat 72)] = true := by intro M; kernel_rfl
theorem n_72_7 : ∀ M : Int, yesM M 4 [.int .i64 (.ofNat 7), .int .i64 (.ofNat 72)] = true := by intro M; kernel_rfl
theorem n_72_8 : ∀ M : Int, yesM M 4 [.int .i64 (.ofNat 8), .int .i64 (.ofNat 72)] = true := by intro M; kernel_rfl
theorem n_72_9 : ∀ M : Int, yesM M 4 [.int .i64 (.ofNat 9), .int .i64 (.ofNat 72)] = true := by intro M; kernel_rfl
theorem n_73_0 : ∀ M : Int, yesM M 4 [.int .i64 (.ofNat 0), .int .i64 (.ofNat 73)] = true := by intro M; kernel_rfl
theorem n_73_1 : ∀ M : Int, yesM M 4 [.int .i64 (.ofNat 1), .int .i64 (.ofNat 73)] = true := by intro M; kernel_rfl
theorem n_73_2 : ∀ M : Int, yesM M 4 [.int .i64 (.ofNat 2), .int .i64 (.ofNat 73)] = true := by intro M; kernel_rfl
theorem n_73_3 : ∀ M : Int, yesM M 4 [.int .i64 (.ofNat 3), .int .i64 (.ofNat 73)] = true := by intro M; kernel_rfl
theorem n_73_4 : ∀ M : Int, yesM M 4 [.int .i64 (.ofNat 4), .int .i64 (.ofNat 73)] = true := by intro M; kernel_rfl
theorem n_73_5 : ∀ M : Int, yesM M 4 [.int .i64 (.ofNat 5), .int .i64 (.ofNat 73)] = true := by intro M; kernel_rfl
theorem n_73_6 : ∀ M : Int, yesM M 4 [.int .i64 (.ofNat 6), .int .i64 (.ofNat 73)] = true := by intro M; kernel_rfl
theorem n_73_7 : ∀ M : Int, yesM M 4 [.int .i64 (.ofNat 7), .int .i64 (.ofNat 73)] = true := by intro M; kernel_rfl
theorem n_73_8 : ∀ M : Int, yesM M 4 [.int .i64 (.ofNat 8), .int .i64 (.ofNat 73)] = true := by intro M; kernel_rfl
theorem n_73_9 : ∀ M : Int, yesM M 4 [.int .i64 (.ofNat 9), .int .i64 (.ofNat 73)] = true := by intro M; kernel_rfl
theorem n_74_0 : ∀ M : Int, yesM M 4 [.int .i64 (.ofNat 0), .int .i64 (.ofNat 74)] = true := by intro M; kernel_rfl
theorem n_74_1 : ∀ M : Int, yesM M 4 [.int .i64 (.ofNat 1), .int .i64 (.ofNat 74)] = true := by intro M; kernel_rfl
theorem n_74_2 : ∀ M : Int, yesM M 4 [.int .i64 (.ofNat 2), .int .i64 (.ofNat 74)] = true := by intro M; kernel_rfl
theorem n_74_3 : ∀ M : Int, yesM M 4 [.int .i64 (.ofNat 3), .int .i64 (.ofNat 74)] = true := by intro M; kernel_rfl
theorem n_74_4 : ∀ M : Int, yesM M 4 [.int .i64 (.ofNat 4), .int .i64 (.ofNat 74)] = true := by intro M; kernel_rfl
theorem n_74_5 : ∀ M : Int, yesM M 4 [.int .i64 (.ofNat 5), .int .i64 (.ofNat 74)] = true := by intro M; kernel_rfl
theorem n_74_6 : ∀ M : Int, yesM M 4 [.int .i64 (.ofNat 6), .int .i64 (.ofNat 74)] = true := by intro M; kernel_rfl
theorem n_74_7 : ∀ M : Int, yesM M 4 [.int .i64 (.ofNat 7), .int .i64 (.ofNat 74)] = true := by intro M; kernel_rfl
theorem n_74_8 : ∀ M : Int, yesM M 4 [.int .i64 (.ofNat 8), .int .i64 (.ofNat 74)] = true := by intro M; kernel_rfl
theorem n_74_9 : ∀ M : Int, yesM M 4 [.int .i64 (.ofNat 9), .int .i64 (.ofNat 74)] = true := by intro M; kernel_rfl
theorem n_75_0 : ∀ M : Int, yesM M 4 [.int .i64 (.ofNat 0), .int .i64 (.ofNat 75)] = true := by intro M; kernel_rfl
theorem n_75_1 : ∀ M : Int, yesM M 4 [.int .i64 (.ofNat 1), .int .i64 (.ofNat 75)] = true := by intro M; kernel_rfl
theorem n_75_2 : ∀ M : Int, yesM M 4 [.int .i64 (.ofNat 2), .int .i64 (.ofNat 75)] = true := by intro M; kernel_rfl
theorem n_75_3 : ∀ M : Int, yesM M 4 [.int .i64 (.ofNat 3), .int .i64 (.ofNat 75)] = true := by intro M; kernel_rfl
theorem n_75_4 : ∀ M : Int, yesM M 4 [.int .i64 (.ofNat 4), .int .i64 (.ofNat 75)] = true := by intro M; kernel_rfl
theorem n_75_5 : ∀ M : Int, yesM M 4 [.int .i64 (.ofNat 5), .int .i64 (.ofNat 75)] = true := by intro M; kernel_rfl
theorem n_75_6 : ∀ M : Int, yesM M 4 [.int .i64 (.ofNat 6), .int .i64 (.ofNat 75)] = true := by intro M; kernel_rfl
theorem n_75_7 : ∀ M : Int, yesM M 4 [.int .i64 (.ofNat 7), .int .i64 (.ofNat 75)] = true := by intro M; kernel_rfl
theorem n_75_8 : ∀ M : Int, yesM M 4 [.int .i64 (.ofNat 8), .int .i64 (.ofNat 75)] = true := by intro M; kernel_rfl
theorem n_75_9 : ∀ M : Int, yesM M 4 [.int .i64 (.ofNat 9), .int .i64 (.ofNat 75)] = true := by intro M; kernel_rfl
theorem n_76_0 : ∀ M : Int, yesM M 4 [.int .i64 (.ofNat 0), .int .i64 (.ofNat 76)] = true := by intro M; kernel_rfl
theorem n_76_1 : ∀ M : Int, yesM M 4 [.int .i64 (.ofNat 1), .int .i64 (.ofNat 76)] = true := by intro M; kernel_rfl
theorem n_76_2 : ∀ M : Int, yesM M 4 [.int .i64 (.ofNat 2), .int .i64 (.ofNat 76)] = true := by intro M; kernel_rfl
theorem n_76_3 : ∀ M : Int, yesM M 4 [.int .i64 (.ofNat 3), .int .i64 (.ofNat 76)] = true := by intro M; kernel_rfl
theorem n_76_4 : ∀ M : Int, yesM M 4 [.int .i64 (.ofNat 4), .int .i64 (.ofNat 76)] = true := by intro M; kernel_rfl
theorem n_76_5 : ∀ M : Int, yesM M 4 [.int .i64 (.ofNat 5), .int .i64 (.ofNat 76)] = true := by intro M; kernel_rfl
theorem n_76_6 : ∀ M : Int, yesM M 4 [.int .i64 (.ofNat 6), .int .i64 (.ofNat 76)] = true := by intro M; kernel_rfl
theorem n_76_7 : ∀ M : Int, yesM M 4 [.int .i64 (.ofNat 7), .int .i64 (.ofNat 76)] = true := by intro M; kernel_rfl
theorem n_76_8 : ∀ M : Int, yesM M 4 [.int .i64 (.ofNat 8), .int .i64 (.ofNat 76)] = true := by intro M; kernel_rfl
theorem n_76_9 : ∀ M : Int, yesM M 4 [.int .i64 (.ofNat 9), .int .i64 (.ofNat 76)] = true := by intro M; kernel_rfl
theorem n_77_0 : ∀ M : Int, yesM M 4 [.int .i64 (.ofNat 0), .int .i64 (.ofNat 77)] = true := by intro M; kernel_rfl
theorem n_77_1 : ∀ M : Int, yesM M 4 [.int .i64 (.ofNat 1), .int .i64 (.ofNat 77)] = true := by intro M; kernel_rfl
theorem n_77_2 : ∀ M : Int, yesM M 4 [.int .i64 (.ofNat 2), .int .i64 (.ofNat 77)] = true := by intro M; kernel_rfl
theorem n_77_3 : ∀ M : Int, yesM M 4 [.int .i64 (.ofNat 3), .int .i64 (.ofNat 77)] = true := by intro M; kernel_rfl
theorem n_77_4 : ∀ M : Int, yesM M 4 [.int .i64 (.ofNat 4), .int .i64 (.ofNat 77)] = true := by intro M; kernel_rfl
theorem n_77_5 : ∀ M : Int, yesM M 4 [.int .i64 (.ofNat 5), .int .i64 (.ofNat 77)] = true := by intro M; kernel_rfl
theorem n_77_6 : ∀ M : Int, yesM M 4 [.int .i64 (.ofNat 6), .int .i64 (.ofNat 77)] = true := by intro M; kernel_rfl
theorem n_77_7 : ∀ M : Int, yesM M 4 [.int .i64 (.ofNat 7), .int .i64 (.ofNat 77)] = true := by intro M; kernel_rfl
theorem n_77_8 : ∀ M : Int, yesM M 4 [.int .i64 (.ofNat 8), .int .i64 (.ofNat 77)] = true := by intro M; kernel_rfl
theorem n_77_9 : ∀ M : Int, yesM M 4 [.int .i64 (.ofNat 9), .int .i64 (.ofNat 77)] = true := by intro M; kernel_rfl
end Go.Proofs.YtapnnpoljobanabGreatDoor.MachWords
