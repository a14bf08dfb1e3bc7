/- 'MachBounds': cases, run by the kernel. Conditions: none. -/
import Derived.Test.YtapnnpoljobanabGreatDoorCk
namespace Go.Proofs.YtapnnpoljobanabGreatDoor.MachBounds
open Go.Ex
set_option maxRecDepth 1000000
theorem n_5_54 : ∀ M : Int, yesM M 3 [.int .i64 (.ofNat 5), .int .i64 (.ofNat 54)] = true := by intro M; kernel_rfl
theorem n_5_55 : ∀ M : Int, yesM M 3 [.int .i64 (.ofNat 5), .int .i64 (.ofNat 55)] = true := by intro M; kernel_rfl
theorem n_5_56 : ∀ M : Int, yesM M 3 [.int .i64 (.ofNat 5), .int .i64 (.ofNat 56)] = true := by intro M; kernel_rfl
theorem n_5_57 : ∀ M : Int, yesM M 3 [.int .i64 (.ofNat 5), .int .i64 (.ofNat 57)] = true := by intro M; kernel_rfl
theorem n_5_58 : ∀ M : Int, yesM M 3 [.int .i64 (.ofNat 5), .int .i64 (.ofNat 58)] = true := by intro M; kernel_rfl
theorem n_5_59 : ∀ M : Int, yesM M 3 [.int .i64 (.ofNat 5), .int .i64 (.ofNat 59)] = true := by intro M; kernel_rfl
theorem n_5_60 : ∀ M : Int, yesM M 3 [.int .i64 (.ofNat 5), .int .i64 (.ofNat 60)] = true := by intro M; kernel_rfl
theorem n_5_61 : ∀ M : Int, yesM M 3 [.int .i64 (.ofNat 5), .int .i64 (.ofNat 61)] = true := by intro M; kernel_rfl
theorem n_5_62 : ∀ M : Int, yesM M 3 [.int .i64 (.ofNat 5), .int .i64 (.ofNat 62)] = true := by intro M; kernel_rfl
theorem n_5_63 : ∀ M : Int, yesM M 3 [.int .i64 (.ofNat 5), .int .i64 (.ofNat 63)] = true := by intro M; kernel_rfl
theorem n_5_64 : ∀ M : Int, yesM M 3 [.int .i64 (.ofNat 5), .int .i64 (.ofNat 64)] = true := by intro M; kernel_rfl
theorem n_5_65 : ∀ M : Int, yesM M 3 [.int .i64 (.ofNat 5), .int .i64 (.ofNat 65)] = true := by intro M; kernel_rfl
theorem n_5_66 : ∀ M : Int, yesM M 3 [.int .i64 (.ofNat 5), .int .i64 (.ofNat 66)] = true := by intro M; kernel_rfl
theorem n_5_67 : ∀ M : Int, yesM M 3 [.int .i64 (.ofNat 5), .int .i64 (.ofNat 67)] = true := by intro M; kernel_rfl
theorem n_5_68 : ∀ M : Int, yesM M 3 [.int .i64 (.ofNat 5), .int .i64 (.ofNat 68)] = true := by intro M; kernel_rfl
theorem n_5_69 : ∀ M : Int, yesM M 3 [.int .i64 (.ofNat 5), .int .i64 (.ofNat 69)] = true := by intro M; kernel_rfl
theorem n_5_70 : ∀ M : Int, yesM M 3 [.int .i64 (.ofNat 5), .int .i64 (.ofNat 70)] = true := by intro M; kernel_rfl
theorem n_5_71 : ∀ M : Int, yesM M 3 [.int .i64 (.ofNat 5), .int .i64 (.ofNat 71)] = true := by intro M; kernel_rfl
theorem n_5_72 : ∀ M : Int, yesM M 3 [.int .i64 (.ofNat 5), .int .i64 (.ofNat 72)] = true := by intro M; kernel_rfl
theorem n_5_73 : ∀ M : Int, yesM M 3 [.int .i64 (.ofNat 5), .int .i64 (.ofNat 73)] = true := by intro M; kernel_rfl
theorem n_5_74 : ∀ M : Int, yesM M 3 [.int .i64 (.ofNat 5), .int .i64 (.ofNat 74)] = true := by intro M; kernel_rfl
theorem n_5_75 : ∀ M : Int, yesM M 3 [.int .i64 (.ofNat 5), .int .i64 (.ofNat 75)] = true := by intro M; kernel_rfl
theorem n_5_76 : ∀ M : Int, yesM M 3 [.int .i64 (.ofNat 5), .int .i64 (.ofNat 76)] = true := by intro M; kernel_rfl
theorem n_5_77 : ∀ M : Int, yesM M 3 [.int .i64 (.ofNat 5), .int .i64 (.ofNat 77)] = true := by intro M; kernel_rfl
theorem n_5_78 : ∀ M : Int, yesM M 3 [.int .i64 (.ofNat 5), .int .i64 (.ofNat 78)] = true := by intro M; kernel_rfl
theorem n_5_79 : ∀ M : Int, yesM M 3 [.int .i64 (.ofNat 5), .int .i64 (.ofNat 79)] = true := by intro M; kernel_rfl
theorem n_5_80 : ∀ M : Int, yesM M 3 [.int .i64 (.ofNat 5), .int .i64 (.ofNat 80)] = true := by intro M; kernel_rfl
theorem n_5_81 : ∀ M : Int, yesM M 3 [.int .i64 (.ofNat 5), .int .i64 (.ofNat 81)] = true := by intro M; kernel_rfl
theorem n_5_82 : ∀ M : Int, yesM M 3 [.int .i64 (.ofNat 5), .int .i64 (.ofNat 82)] = true := by intro M; kernel_rfl
theorem n_5_83 : ∀ M : Int, yesM M 3 [.int .i64 (.ofNat 5), .int .i64 (.ofNat 83)] = true := by intro M; kernel_rfl
theorem n_5_84 : ∀ M : Int, yesM M 3 [.int .i64 (.ofNat 5), .int .i64 (.ofNat 84)] = true := by intro M; kernel_rfl
theorem n_5_85 : ∀ M : Int, yesM M 3 [.int .i64 (.ofNat 5), .int .i64 (.ofNat 85)] = true := by intro M; kernel_rfl
theorem n_5_86 : ∀ M : Int, yesM M 3 [.int .i64 (.ofNat 5), .int .i64 (.ofNat 86)] = true := by intro M; kernel_rfl
theorem n_5_87 : ∀ M : Int, yesM M 3 [.int .i64 (.ofNat 5), .int .i64 (.ofNat 87)] = true := by intro M; kernel_rfl
theorem n_5_88 : ∀ M : Int, yesM M 3 [.int .i64 (.ofNat 5), .int .i64 (.ofNat 88)] = true := by intro M; kernel_rfl
end Go.Proofs.YtapnnpoljobanabGreatDoor.MachBounds
