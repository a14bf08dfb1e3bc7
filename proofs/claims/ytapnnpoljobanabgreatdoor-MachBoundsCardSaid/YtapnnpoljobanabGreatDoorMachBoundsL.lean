/- 'MachBounds': what lies outside its bounds, run by the kernel. Conditions: none. -/
import Derived.Test.YtapnnpoljobanabGreatDoorCk
namespace Go.Proofs.YtapnnpoljobanabGreatDoor.MachBounds
open Go.Ex
set_option maxRecDepth 1000000
theorem n_lo (m : Nat) (x1 : Int) : ∀ M : Int, yesM M 3 [.int .i64 (.negSucc m), .int .i64 x1] = true := by intro M; kernel_rfl
theorem n_hi (m : Nat) (x1 : Int) : ∀ M : Int, yesM M 3 [.int .i64 (.ofNat (m + 8)), .int .i64 x1] = true := by intro M; kernel_rfl
theorem n_0_lo (m : Nat) : ∀ M : Int, yesM M 3 [.int .i64 (.ofNat 0), .int .i64 (.negSucc m)] = true := by intro M; kernel_rfl
theorem n_0_hi (m : Nat) : ∀ M : Int, yesM M 3 [.int .i64 (.ofNat 0), .int .i64 (.ofNat (m + 3))] = true := by intro M; kernel_rfl
theorem n_1_lo (m : Nat) : ∀ M : Int, yesM M 3 [.int .i64 (.ofNat 1), .int .i64 (.negSucc m)] = true := by intro M; kernel_rfl
theorem n_1_hi (m : Nat) : ∀ M : Int, yesM M 3 [.int .i64 (.ofNat 1), .int .i64 (.ofNat (m + 5))] = true := by intro M; kernel_rfl
theorem n_2_lo (m : Nat) : ∀ M : Int, yesM M 3 [.int .i64 (.ofNat 2), .int .i64 (.negSucc m)] = true := by intro M; kernel_rfl
theorem n_2_hi (m : Nat) : ∀ M : Int, yesM M 3 [.int .i64 (.ofNat 2), .int .i64 (.ofNat (m + 2))] = true := by intro M; kernel_rfl
theorem n_3_lo (m : Nat) : ∀ M : Int, yesM M 3 [.int .i64 (.ofNat 3), .int .i64 (.negSucc m)] = true := by intro M; kernel_rfl
theorem n_3_hi (m : Nat) : ∀ M : Int, yesM M 3 [.int .i64 (.ofNat 3), .int .i64 (.ofNat (m + 4))] = true := by
  intro M
  refine yesM_of ?_
  have k : lo.call 3 [.int .i64 (.ofNat 3), .int .i64 (.ofNat (m + 4))] false none (heap0 (tabs M)) 8 (finV (.bool true)) = (R true (R true (R true (R true (R true (R true (R (R true (R true (R true (R true (R (R true (Nat.beq m m)) (Nat.beq m m)))))) (R true (R (R true (Nat.beq m m)) (Nat.beq m m)))))))))) := by kernel_rfl
  exact k.trans (by rw [Nat.beq_refl m]; rfl)
theorem n_4_lo (m : Nat) : ∀ M : Int, yesM M 3 [.int .i64 (.ofNat 4), .int .i64 (.negSucc (m + 1))] = true := by intro M; kernel_rfl
theorem n_4_hi (m : Nat) : ∀ M : Int, yesM M 3 [.int .i64 (.ofNat 4), .int .i64 (.ofNat (m + 1))] = true := by intro M; kernel_rfl
theorem n_5_lo (m : Nat) : ∀ M : Int, yesM M 3 [.int .i64 (.ofNat 5), .int .i64 (.negSucc m)] = true := by intro M; kernel_rfl
theorem n_5_hi (m : Nat) : ∀ M : Int, yesM M 3 [.int .i64 (.ofNat 5), .int .i64 (.ofNat (m + 101))] = true := by
  intro M
  refine yesM_of ?_
  have k : lo.call 3 [.int .i64 (.ofNat 5), .int .i64 (.ofNat (m + 101))] false none (heap0 (tabs M)) 8 (finV (.bool true)) = (R true (R true (R true (R true (R true (R (R true (R true (R true (R (R true (Nat.beq m m)) (Nat.beq m m))))) (R true (R (R true (Nat.beq m m)) (Nat.beq m m))))))))) := by kernel_rfl
  exact k.trans (by rw [Nat.beq_refl m]; rfl)
theorem n_6_lo (m : Nat) : ∀ M : Int, yesM M 3 [.int .i64 (.ofNat 6), .int .i64 (.negSucc m)] = true := by intro M; kernel_rfl
theorem n_6_hi (m : Nat) : ∀ M : Int, yesM M 3 [.int .i64 (.ofNat 6), .int .i64 (.ofNat (m + 5))] = true := by intro M; kernel_rfl
theorem n_7_lo (m : Nat) : ∀ M : Int, yesM M 3 [.int .i64 (.ofNat 7), .int .i64 (.negSucc m)] = true := by intro M; kernel_rfl
theorem n_7_hi (m : Nat) : ∀ M : Int, yesM M 3 [.int .i64 (.ofNat 7), .int .i64 (.ofNat (m + 12))] = true := by intro M; kernel_rfl
end Go.Proofs.YtapnnpoljobanabGreatDoor.MachBounds
