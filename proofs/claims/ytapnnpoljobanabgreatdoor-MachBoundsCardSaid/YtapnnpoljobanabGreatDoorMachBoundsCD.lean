/- 'MachBounds': cases, run by the kernel. Conditions: none. -/
import Derived.Test.YtapnnpoljobanabGreatDoorCk
namespace Go.Proofs.YtapnnpoljobanabGreatDoor.MachBounds
open Go.Ex
set_option maxRecDepth 1000000
theorem n_5_89 : ∀ M : Int, yesM M 3 [.int .i64 (.ofNat 5), .int .i64 (.ofNat 89)] = true := by intro M; kernel_rfl
theorem n_5_90 : ∀ M : Int, yesM M 3 [.int .i64 (.ofNat 5), .int .i64 (.ofNat 90)] = true := by intro M; kernel_rfl
theorem n_5_91 : ∀ M : Int, yesM M 3 [.int .i64 (.ofNat 5), .int .i64 (.ofNat 91)] = true := by intro M; kernel_rfl
theorem n_5_92 : ∀ M : Int, yesM M 3 [.int .i64 (.ofNat 5), .int .i64 (.ofNat 92)] = true := by intro M; kernel_rfl
theorem n_5_93 : ∀ M : Int, yesM M 3 [.int .i64 (.ofNat 5), .int .i64 (.ofNat 93)] = true := by intro M; kernel_rfl
theorem n_5_94 : ∀ M : Int, yesM M 3 [.int .i64 (.ofNat 5), .int .i64 (.ofNat 94)] = true := by intro M; kernel_rfl
theorem n_5_95 : ∀ M : Int, yesM M 3 [.int .i64 (.ofNat 5), .int .i64 (.ofNat 95)] = true := by intro M; kernel_rfl
theorem n_5_96 : ∀ M : Int, yesM M 3 [.int .i64 (.ofNat 5), .int .i64 (.ofNat 96)] = true := by intro M; kernel_rfl
theorem n_5_97 : ∀ M : Int, yesM M 3 [.int .i64 (.ofNat 5), .int .i64 (.ofNat 97)] = true := by intro M; kernel_rfl
theorem n_5_98 : ∀ M : Int, yesM M 3 [.int .i64 (.ofNat 5), .int .i64 (.ofNat 98)] = true := by intro M; kernel_rfl
theorem n_5_99 : ∀ M : Int, yesM M 3 [.int .i64 (.ofNat 5), .int .i64 (.ofNat 99)] = true := by intro M; kernel_rfl
theorem n_5_100 : ∀ M : Int, yesM M 3 [.int .i64 (.ofNat 5), .int .i64 (.ofNat 100)] = true := by intro M; kernel_rfl
theorem n_6_0 : ∀ M : Int, yesM M 3 [.int .i64 (.ofNat 6), .int .i64 (.ofNat 0)] = true := by intro M; kernel_rfl
theorem n_6_1 : ∀ M : Int, yesM M 3 [.int .i64 (.ofNat 6), .int .i64 (.ofNat 1)] = true := by intro M; kernel_rfl
theorem n_6_2 : ∀ M : Int, yesM M 3 [.int .i64 (.ofNat 6), .int .i64 (.ofNat 2)] = true := by intro M; kernel_rfl
theorem n_6_3 : ∀ M : Int, yesM M 3 [.int .i64 (.ofNat 6), .int .i64 (.ofNat 3)] = true := by intro M; kernel_rfl
theorem n_6_4 : ∀ M : Int, yesM M 3 [.int .i64 (.ofNat 6), .int .i64 (.ofNat 4)] = true := by intro M; kernel_rfl
theorem n_7_0 : ∀ M : Int, yesM M 3 [.int .i64 (.ofNat 7), .int .i64 (.ofNat 0)] = true := by intro M; kernel_rfl
theorem n_7_1 : ∀ M : Int, yesM M 3 [.int .i64 (.ofNat 7), .int .i64 (.ofNat 1)] = true := by intro M; kernel_rfl
theorem n_7_2 : ∀ M : Int, yesM M 3 [.int .i64 (.ofNat 7), .int .i64 (.ofNat 2)] = true := by intro M; kernel_rfl
theorem n_7_3 : ∀ M : Int, yesM M 3 [.int .i64 (.ofNat 7), .int .i64 (.ofNat 3)] = true := by intro M; kernel_rfl
theorem n_7_4 : ∀ M : Int, yesM M 3 [.int .i64 (.ofNat 7), .int .i64 (.ofNat 4)] = true := by intro M; kernel_rfl
theorem n_7_5 : ∀ M : Int, yesM M 3 [.int .i64 (.ofNat 7), .int .i64 (.ofNat 5)] = true := by intro M; kernel_rfl
theorem n_7_6 : ∀ M : Int, yesM M 3 [.int .i64 (.ofNat 7), .int .i64 (.ofNat 6)] = true := by intro M; kernel_rfl
theorem n_7_7 : ∀ M : Int, yesM M 3 [.int .i64 (.ofNat 7), .int .i64 (.ofNat 7)] = true := by intro M; kernel_rfl
theorem n_7_8 : ∀ M : Int, yesM M 3 [.int .i64 (.ofNat 7), .int .i64 (.ofNat 8)] = true := by intro M; kernel_rfl
theorem n_7_9 : ∀ M : Int, yesM M 3 [.int .i64 (.ofNat 7), .int .i64 (.ofNat 9)] = true := by intro M; kernel_rfl
theorem n_7_10 : ∀ M : Int, yesM M 3 [.int .i64 (.ofNat 7), .int .i64 (.ofNat 10)] = true := by intro M; kernel_rfl
theorem n_7_11 : ∀ M : Int, yesM M 3 [.int .i64 (.ofNat 7), .int .i64 (.ofNat 11)] = true := by intro M; kernel_rfl
end Go.Proofs.YtapnnpoljobanabGreatDoor.MachBounds
