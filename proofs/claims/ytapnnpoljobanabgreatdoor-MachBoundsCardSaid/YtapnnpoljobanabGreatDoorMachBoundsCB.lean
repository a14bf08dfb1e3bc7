/- 'MachBounds': cases, run by the kernel. Conditions: none. -/
import Derived.Test.YtapnnpoljobanabGreatDoorCk
namespace Go.Proofs.YtapnnpoljobanabGreatDoor.MachBounds
open Go.Ex
set_option maxRecDepth 1000000
theorem n_5_19 : ∀ M : Int, yesM M 3 [.int .i64 (.ofNat 5), .int .i64 (.ofNat 19)] = true := by intro M; kernel_rfl
theorem n_5_20 : ∀ M : Int, yesM M 3 [.int .i64 (.ofNat 5), .int .i64 (.ofNat 20)] = true := by intro M; kernel_rfl
theorem n_5_21 : ∀ M : Int, yesM M 3 [.int .i64 (.ofNat 5), .int .i64 (.ofNat 21)] = true := by intro M; kernel_rfl
theorem n_5_22 : ∀ M : Int, yesM M 3 [.int .i64 (.ofNat 5), .int .i64 (.ofNat 22)] = true := by intro M; kernel_rfl
theorem n_5_23 : ∀ M : Int, yesM M 3 [.int .i64 (.ofNat 5), .int .i64 (.ofNat 23)] = true := by intro M; kernel_rfl
theorem n_5_24 : ∀ M : Int, yesM M 3 [.int .i64 (.ofNat 5), .int .i64 (.ofNat 24)] = true := by intro M; kernel_rfl
theorem n_5_25 : ∀ M : Int, yesM M 3 [.int .i64 (.ofNat 5), .int .i64 (.ofNat 25)] = true := by intro M; kernel_rfl
theorem n_5_26 : ∀ M : Int, yesM M 3 [.int .i64 (.ofNat 5), .int .i64 (.ofNat 26)] = true := by intro M; kernel_rfl
theorem n_5_27 : ∀ M : Int, yesM M 3 [.int .i64 (.ofNat 5), .int .i64 (.ofNat 27)] = true := by intro M; kernel_rfl
theorem n_5_28 : ∀ M : Int, yesM M 3 [.int .i64 (.ofNat 5), .int .i64 (.ofNat 28)] = true := by intro M; kernel_rfl
theorem n_5_29 : ∀ M : Int, yesM M 3 [.int .i64 (.ofNat 5), .int .i64 (.ofNat 29)] = true := by intro M; kernel_rfl
theorem n_5_30 : ∀ M : Int, yesM M 3 [.int .i64 (.ofNat 5), .int .i64 (.ofNat 30)] = true := by intro M; kernel_rfl
theorem n_5_31 : ∀ M : Int, yesM M 3 [.int .i64 (.ofNat 5), .int .i64 (.ofNat 31)] = true := by intro M; kernel_rfl
theorem n_5_32 : ∀ M : Int, yesM M 3 [.int .i64 (.ofNat 5), .int .i64 (.ofNat 32)] = true := by intro M; kernel_rfl
theorem n_5_33 : ∀ M : Int, yesM M 3 [.int .i64 (.ofNat 5), .int .i64 (.ofNat 33)] = true := by intro M; kernel_rfl
theorem n_5_34 : ∀ M : Int, yesM M 3 [.int .i64 (.ofNat 5), .int .i64 (.ofNat 34)] = true := by intro M; kernel_rfl
theorem n_5_35 : ∀ M : Int, yesM M 3 [.int .i64 (.ofNat 5), .int .i64 (.ofNat 35)] = true := by intro M; kernel_rfl
theorem n_5_36 : ∀ M : Int, yesM M 3 [.int .i64 (.ofNat 5), .int .i64 (.ofNat 36)] = true := by intro M; kernel_rfl
theorem n_5_37 : ∀ M : Int, yesM M 3 [.int .i64 (.ofNat 5), .int .i64 (.ofNat 37)] = true := by intro M; kernel_rfl
theorem n_5_38 : ∀ M : Int, yesM M 3 [.int .i64 (.ofNat 5), .int .i64 (.ofNat 38)] = true := by intro M; kernel_rfl
theorem n_5_39 : ∀ M : Int, yesM M 3 [.int .i64 (.ofNat 5), .int .i64 (.ofNat 39)] = true := by intro M; kernel_rfl
theorem n_5_40 : ∀ M : Int, yesM M 3 [.int .i64 (.ofNat 5), .int .i64 (.ofNat 40)] = true := by intro M; kernel_rfl
theorem n_5_41 : ∀ M : Int, yesM M 3 [.int .i64 (.ofNat 5), .int .i64 (.ofNat 41)] = true := by intro M; kernel_rfl
theorem n_5_42 : ∀ M : Int, yesM M 3 [.int .i64 (.ofNat 5), .int .i64 (.ofNat 42)] = true := by intro M; kernel_rfl
theorem n_5_43 : ∀ M : Int, yesM M 3 [.int .i64 (.ofNat 5), .int .i64 (.ofNat 43)] = true := by intro M; kernel_rfl
theorem n_5_44 : ∀ M : Int, yesM M 3 [.int .i64 (.ofNat 5), .int .i64 (.ofNat 44)] = true := by intro M; kernel_rfl
theorem n_5_45 : ∀ M : Int, yesM M 3 [.int .i64 (.ofNat 5), .int .i64 (.ofNat 45)] = true := by intro M; kernel_rfl
theorem n_5_46 : ∀ M : Int, yesM M 3 [.int .i64 (.ofNat 5), .int .i64 (.ofNat 46)] = true := by intro M; kernel_rfl
theorem n_5_47 : ∀ M : Int, yesM M 3 [.int .i64 (.ofNat 5), .int .i64 (.ofNat 47)] = true := by intro M; kernel_rfl
theorem n_5_48 : ∀ M : Int, yesM M 3 [.int .i64 (.ofNat 5), .int .i64 (.ofNat 48)] = true := by intro M; kernel_rfl
theorem n_5_49 : ∀ M : Int, yesM M 3 [.int .i64 (.ofNat 5), .int .i64 (.ofNat 49)] = true := by intro M; kernel_rfl
theorem n_5_50 : ∀ M : Int, yesM M 3 [.int .i64 (.ofNat 5), .int .i64 (.ofNat 50)] = true := by intro M; kernel_rfl
theorem n_5_51 : ∀ M : Int, yesM M 3 [.int .i64 (.ofNat 5), .int .i64 (.ofNat 51)] = true := by intro M; kernel_rfl
theorem n_5_52 : ∀ M : Int, yesM M 3 [.int .i64 (.ofNat 5), .int .i64 (.ofNat 52)] = true := by intro M; kernel_rfl
theorem n_5_53 : ∀ M : Int, yesM M 3 [.int .i64 (.ofNat 5), .int .i64 (.ofNat 53)] = true := by intro M; kernel_rfl
end Go.Proofs.YtapnnpoljobanabGreatDoor.MachBounds
