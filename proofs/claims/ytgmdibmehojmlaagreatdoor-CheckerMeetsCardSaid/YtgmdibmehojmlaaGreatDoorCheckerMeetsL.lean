/- 'CheckerMeets': what lies outside its bounds, run by the kernel. Conditions: none. -/
import Derived.Test.YtgmdibmehojmlaaGreatDoorCk
namespace Go.Proofs.YtgmdibmehojmlaaGreatDoor.CheckerMeets
open Go.Ex
set_option maxRecDepth 1000000
theorem n_lo (m : Nat) (x1 : Int) (x2 : Int) : yes 9 [.int .i64 (.negSucc m), .int .i64 x1, .int .i64 x2] = true := by kernel_rfl
theorem n_hi (m : Nat) (x1 : Int) (x2 : Int) : yes 9 [.int .i64 (.ofNat (m + 6)), .int .i64 x1, .int .i64 x2] = true := by kernel_rfl
theorem n_z0 (x1 : Int) (x2 : Int) : yes 9 [.int .i64 (.ofNat 0), .int .i64 x1, .int .i64 x2] = true := by kernel_rfl
theorem n_1_lo (m : Nat) (x2 : Int) : yes 9 [.int .i64 (.ofNat 1), .int .i64 (.negSucc m), .int .i64 x2] = true := by kernel_rfl
theorem n_1_hi (m : Nat) (x2 : Int) : yes 9 [.int .i64 (.ofNat 1), .int .i64 (.ofNat (m + 6)), .int .i64 x2] = true := by kernel_rfl
theorem n_1_z0 (x2 : Int) : yes 9 [.int .i64 (.ofNat 1), .int .i64 (.ofNat 0), .int .i64 x2] = true := by kernel_rfl
theorem n_1_1_lo (m : Nat) : yes 9 [.int .i64 (.ofNat 1), .int .i64 (.ofNat 1), .int .i64 (.negSucc m)] = true := by kernel_rfl
theorem n_1_1_hi (m : Nat) : yes 9 [.int .i64 (.ofNat 1), .int .i64 (.ofNat 1), .int .i64 (.ofNat (m + 6))] = true := by kernel_rfl
theorem n_1_1_z0 : yes 9 [.int .i64 (.ofNat 1), .int .i64 (.ofNat 1), .int .i64 (.ofNat 0)] = true := by kernel_rfl
theorem n_1_2_lo (m : Nat) : yes 9 [.int .i64 (.ofNat 1), .int .i64 (.ofNat 2), .int .i64 (.negSucc m)] = true := by kernel_rfl
theorem n_1_2_hi (m : Nat) : yes 9 [.int .i64 (.ofNat 1), .int .i64 (.ofNat 2), .int .i64 (.ofNat (m + 6))] = true := by kernel_rfl
theorem n_1_2_z0 : yes 9 [.int .i64 (.ofNat 1), .int .i64 (.ofNat 2), .int .i64 (.ofNat 0)] = true := by kernel_rfl
theorem n_1_3_lo (m : Nat) : yes 9 [.int .i64 (.ofNat 1), .int .i64 (.ofNat 3), .int .i64 (.negSucc m)] = true := by kernel_rfl
theorem n_1_3_hi (m : Nat) : yes 9 [.int .i64 (.ofNat 1), .int .i64 (.ofNat 3), .int .i64 (.ofNat (m + 6))] = true := by kernel_rfl
theorem n_1_3_z0 : yes 9 [.int .i64 (.ofNat 1), .int .i64 (.ofNat 3), .int .i64 (.ofNat 0)] = true := by kernel_rfl
theorem n_1_4_lo (m : Nat) : yes 9 [.int .i64 (.ofNat 1), .int .i64 (.ofNat 4), .int .i64 (.negSucc m)] = true := by kernel_rfl
theorem n_1_4_hi (m : Nat) : yes 9 [.int .i64 (.ofNat 1), .int .i64 (.ofNat 4), .int .i64 (.ofNat (m + 6))] = true := by kernel_rfl
theorem n_1_4_z0 : yes 9 [.int .i64 (.ofNat 1), .int .i64 (.ofNat 4), .int .i64 (.ofNat 0)] = true := by kernel_rfl
theorem n_1_5_lo (m : Nat) : yes 9 [.int .i64 (.ofNat 1), .int .i64 (.ofNat 5), .int .i64 (.negSucc m)] = true := by kernel_rfl
theorem n_1_5_hi (m : Nat) : yes 9 [.int .i64 (.ofNat 1), .int .i64 (.ofNat 5), .int .i64 (.ofNat (m + 6))] = true := by kernel_rfl
theorem n_1_5_z0 : yes 9 [.int .i64 (.ofNat 1), .int .i64 (.ofNat 5), .int .i64 (.ofNat 0)] = true := by kernel_rfl
theorem n_2_lo (m : Nat) (x2 : Int) : yes 9 [.int .i64 (.ofNat 2), .int .i64 (.negSucc m), .int .i64 x2] = true := by kernel_rfl
theorem n_2_hi (m : Nat) (x2 : Int) : yes 9 [.int .i64 (.ofNat 2), .int .i64 (.ofNat (m + 6)), .int .i64 x2] = true := by kernel_rfl
theorem n_2_z0 (x2 : Int) : yes 9 [.int .i64 (.ofNat 2), .int .i64 (.ofNat 0), .int .i64 x2] = true := by kernel_rfl
theorem n_2_1_lo (m : Nat) : yes 9 [.int .i64 (.ofNat 2), .int .i64 (.ofNat 1), .int .i64 (.negSucc m)] = true := by kernel_rfl
theorem n_2_1_hi (m : Nat) : yes 9 [.int .i64 (.ofNat 2), .int .i64 (.ofNat 1), .int .i64 (.ofNat (m + 6))] = true := by kernel_rfl
theorem n_2_1_z0 : yes 9 [.int .i64 (.ofNat 2), .int .i64 (.ofNat 1), .int .i64 (.ofNat 0)] = true := by kernel_rfl
theorem n_2_2_lo (m : Nat) : yes 9 [.int .i64 (.ofNat 2), .int .i64 (.ofNat 2), .int .i64 (.negSucc m)] = true := by kernel_rfl
theorem n_2_2_hi (m : Nat) : yes 9 [.int .i64 (.ofNat 2), .int .i64 (.ofNat 2), .int .i64 (.ofNat (m + 6))] = true := by kernel_rfl
theorem n_2_2_z0 : yes 9 [.int .i64 (.ofNat 2), .int .i64 (.ofNat 2), .int .i64 (.ofNat 0)] = true := by kernel_rfl
theorem n_2_3_lo (m : Nat) : yes 9 [.int .i64 (.ofNat 2), .int .i64 (.ofNat 3), .int .i64 (.negSucc m)] = true := by kernel_rfl
theorem n_2_3_hi (m : Nat) : yes 9 [.int .i64 (.ofNat 2), .int .i64 (.ofNat 3), .int .i64 (.ofNat (m + 6))] = true := by kernel_rfl
theorem n_2_3_z0 : yes 9 [.int .i64 (.ofNat 2), .int .i64 (.ofNat 3), .int .i64 (.ofNat 0)] = true := by kernel_rfl
theorem n_2_4_lo (m : Nat) : yes 9 [.int .i64 (.ofNat 2), .int .i64 (.ofNat 4), .int .i64 (.negSucc m)] = true := by kernel_rfl
theorem n_2_4_hi (m : Nat) : yes 9 [.int .i64 (.ofNat 2), .int .i64 (.ofNat 4), .int .i64 (.ofNat (m + 6))] = true := by kernel_rfl
theorem n_2_4_z0 : yes 9 [.int .i64 (.ofNat 2), .int .i64 (.ofNat 4), .int .i64 (.ofNat 0)] = true := by kernel_rfl
theorem n_2_5_lo (m : Nat) : yes 9 [.int .i64 (.ofNat 2), .int .i64 (.ofNat 5), .int .i64 (.negSucc m)] = true := by kernel_rfl
theorem n_2_5_hi (m : Nat) : yes 9 [.int .i64 (.ofNat 2), .int .i64 (.ofNat 5), .int .i64 (.ofNat (m + 6))] = true := by kernel_rfl
theorem n_2_5_z0 : yes 9 [.int .i64 (.ofNat 2), .int .i64 (.ofNat 5), .int .i64 (.ofNat 0)] = true := by kernel_rfl
theorem n_3_lo (m : Nat) (x2 : Int) : yes 9 [.int .i64 (.ofNat 3), .int .i64 (.negSucc m), .int .i64 x2] = true := by kernel_rfl
theorem n_3_hi (m : Nat) (x2 : Int) : yes 9 [.int .i64 (.ofNat 3), .int .i64 (.ofNat (m + 6)), .int .i64 x2] = true := by kernel_rfl
theorem n_3_z0 (x2 : Int) : yes 9 [.int .i64 (.ofNat 3), .int .i64 (.ofNat 0), .int .i64 x2] = true := by kernel_rfl
theorem n_3_1_lo (m : Nat) : yes 9 [.int .i64 (.ofNat 3), .int .i64 (.ofNat 1), .int .i64 (.negSucc m)] = true := by kernel_rfl
theorem n_3_1_hi (m : Nat) : yes 9 [.int .i64 (.ofNat 3), .int .i64 (.ofNat 1), .int .i64 (.ofNat (m + 6))] = true := by kernel_rfl
theorem n_3_1_z0 : yes 9 [.int .i64 (.ofNat 3), .int .i64 (.ofNat 1), .int .i64 (.ofNat 0)] = true := by kernel_rfl
theorem n_3_2_lo (m : Nat) : yes 9 [.int .i64 (.ofNat 3), .int .i64 (.ofNat 2), .int .i64 (.negSucc m)] = true := by kernel_rfl
theorem n_3_2_hi (m : Nat) : yes 9 [.int .i64 (.ofNat 3), .int .i64 (.ofNat 2), .int .i64 (.ofNat (m + 6))] = true := by kernel_rfl
theorem n_3_2_z0 : yes 9 [.int .i64 (.ofNat 3), .int .i64 (.ofNat 2), .int .i64 (.ofNat 0)] = true := by kernel_rfl
theorem n_3_3_lo (m : Nat) : yes 9 [.int .i64 (.ofNat 3), .int .i64 (.ofNat 3), .int .i64 (.negSucc m)] = true := by kernel_rfl
theorem n_3_3_hi (m : Nat) : yes 9 [.int .i64 (.ofNat 3), .int .i64 (.ofNat 3), .int .i64 (.ofNat (m + 6))] = true := by kernel_rfl
theorem n_3_3_z0 : yes 9 [.int .i64 (.ofNat 3), .int .i64 (.ofNat 3), .int .i64 (.ofNat 0)] = true := by kernel_rfl
theorem n_3_4_lo (m : Nat) : yes 9 [.int .i64 (.ofNat 3), .int .i64 (.ofNat 4), .int .i64 (.negSucc m)] = true := by kernel_rfl
theorem n_3_4_hi (m : Nat) : yes 9 [.int .i64 (.ofNat 3), .int .i64 (.ofNat 4), .int .i64 (.ofNat (m + 6))] = true := by kernel_rfl
theorem n_3_4_z0 : yes 9 [.int .i64 (.ofNat 3), .int .i64 (.ofNat 4), .int .i64 (.ofNat 0)] = true := by kernel_rfl
theorem n_3_5_lo (m : Nat) : yes 9 [.int .i64 (.ofNat 3), .int .i64 (.ofNat 5), .int .i64 (.negSucc m)] = true := by kernel_rfl
theorem n_3_5_hi (m : Nat) : yes 9 [.int .i64 (.ofNat 3), .int .i64 (.ofNat 5), .int .i64 (.ofNat (m + 6))] = true := by kernel_rfl
theorem n_3_5_z0 : yes 9 [.int .i64 (.ofNat 3), .int .i64 (.ofNat 5), .int .i64 (.ofNat 0)] = true := by kernel_rfl
theorem n_4_lo (m : Nat) (x2 : Int) : yes 9 [.int .i64 (.ofNat 4), .int .i64 (.negSucc m), .int .i64 x2] = true := by kernel_rfl
theorem n_4_hi (m : Nat) (x2 : Int) : yes 9 [.int .i64 (.ofNat 4), .int .i64 (.ofNat (m + 6)), .int .i64 x2] = true := by kernel_rfl
theorem n_4_z0 (x2 : Int) : yes 9 [.int .i64 (.ofNat 4), .int .i64 (.ofNat 0), .int .i64 x2] = true := by kernel_rfl
theorem n_4_1_lo (m : Nat) : yes 9 [.int .i64 (.ofNat 4), .int .i64 (.ofNat 1), .int .i64 (.negSucc m)] = true := by kernel_rfl
theorem n_4_1_hi (m : Nat) : yes 9 [.int .i64 (.ofNat 4), .int .i64 (.ofNat 1), .int .i64 (.ofNat (m + 6))] = true := by kernel_rfl
theorem n_4_1_z0 : yes 9 [.int .i64 (.ofNat 4), .int .i64 (.ofNat 1), .int .i64 (.ofNat 0)] = true := by kernel_rfl
theorem n_4_2_lo (m : Nat) : yes 9 [.int .i64 (.ofNat 4), .int .i64 (.ofNat 2), .int .i64 (.negSucc m)] = true := by kernel_rfl
theorem n_4_2_hi (m : Nat) : yes 9 [.int .i64 (.ofNat 4), .int .i64 (.ofNat 2), .int .i64 (.ofNat (m + 6))] = true := by kernel_rfl
theorem n_4_2_z0 : yes 9 [.int .i64 (.ofNat 4), .int .i64 (.ofNat 2), .int .i64 (.ofNat 0)] = true := by kernel_rfl
theorem n_4_3_lo (m : Nat) : yes 9 [.int .i64 (.ofNat 4), .int .i64 (.ofNat 3), .int .i64 (.negSucc m)] = true := by kernel_rfl
theorem n_4_3_hi (m : Nat) : yes 9 [.int .i64 (.ofNat 4), .int .i64 (.ofNat 3), .int .i64 (.ofNat (m + 6))] = true := by kernel_rfl
theorem n_4_3_z0 : yes 9 [.int .i64 (.ofNat 4), .int .i64 (.ofNat 3), .int .i64 (.ofNat 0)] = true := by kernel_rfl
theorem n_4_4_lo (m : Nat) : yes 9 [.int .i64 (.ofNat 4), .int .i64 (.ofNat 4), .int .i64 (.negSucc m)] = true := by kernel_rfl
theorem n_4_4_hi (m : Nat) : yes 9 [.int .i64 (.ofNat 4), .int .i64 (.ofNat 4), .int .i64 (.ofNat (m + 6))] = true := by kernel_rfl
theorem n_4_4_z0 : yes 9 [.int .i64 (.ofNat 4), .int .i64 (.ofNat 4), .int .i64 (.ofNat 0)] = true := by kernel_rfl
theorem n_4_5_lo (m : Nat) : yes 9 [.int .i64 (.ofNat 4), .int .i64 (.ofNat 5), .int .i64 (.negSucc m)] = true := by kernel_rfl
theorem n_4_5_hi (m : Nat) : yes 9 [.int .i64 (.ofNat 4), .int .i64 (.ofNat 5), .int .i64 (.ofNat (m + 6))] = true := by kernel_rfl
theorem n_4_5_z0 : yes 9 [.int .i64 (.ofNat 4), .int .i64 (.ofNat 5), .int .i64 (.ofNat 0)] = true := by kernel_rfl
theorem n_5_lo (m : Nat) (x2 : Int) : yes 9 [.int .i64 (.ofNat 5), .int .i64 (.negSucc m), .int .i64 x2] = true := by kernel_rfl
theorem n_5_hi (m : Nat) (x2 : Int) : yes 9 [.int .i64 (.ofNat 5), .int .i64 (.ofNat (m + 6)), .int .i64 x2] = true := by kernel_rfl
theorem n_5_z0 (x2 : Int) : yes 9 [.int .i64 (.ofNat 5), .int .i64 (.ofNat 0), .int .i64 x2] = true := by kernel_rfl
theorem n_5_1_lo (m : Nat) : yes 9 [.int .i64 (.ofNat 5), .int .i64 (.ofNat 1), .int .i64 (.negSucc m)] = true := by kernel_rfl
theorem n_5_1_hi (m : Nat) : yes 9 [.int .i64 (.ofNat 5), .int .i64 (.ofNat 1), .int .i64 (.ofNat (m + 6))] = true := by kernel_rfl
theorem n_5_1_z0 : yes 9 [.int .i64 (.ofNat 5), .int .i64 (.ofNat 1), .int .i64 (.ofNat 0)] = true := by kernel_rfl
theorem n_5_2_lo (m : Nat) : yes 9 [.int .i64 (.ofNat 5), .int .i64 (.ofNat 2), .int .i64 (.negSucc m)] = true := by kernel_rfl
theorem n_5_2_hi (m : Nat) : yes 9 [.int .i64 (.ofNat 5), .int .i64 (.ofNat 2), .int .i64 (.ofNat (m + 6))] = true := by kernel_rfl
theorem n_5_2_z0 : yes 9 [.int .i64 (.ofNat 5), .int .i64 (.ofNat 2), .int .i64 (.ofNat 0)] = true := by kernel_rfl
theorem n_5_3_lo (m : Nat) : yes 9 [.int .i64 (.ofNat 5), .int .i64 (.ofNat 3), .int .i64 (.negSucc m)] = true := by kernel_rfl
theorem n_5_3_hi (m : Nat) : yes 9 [.int .i64 (.ofNat 5), .int .i64 (.ofNat 3), .int .i64 (.ofNat (m + 6))] = true := by kernel_rfl
theorem n_5_3_z0 : yes 9 [.int .i64 (.ofNat 5), .int .i64 (.ofNat 3), .int .i64 (.ofNat 0)] = true := by kernel_rfl
theorem n_5_4_lo (m : Nat) : yes 9 [.int .i64 (.ofNat 5), .int .i64 (.ofNat 4), .int .i64 (.negSucc m)] = true := by kernel_rfl
theorem n_5_4_hi (m : Nat) : yes 9 [.int .i64 (.ofNat 5), .int .i64 (.ofNat 4), .int .i64 (.ofNat (m + 6))] = true := by kernel_rfl
theorem n_5_4_z0 : yes 9 [.int .i64 (.ofNat 5), .int .i64 (.ofNat 4), .int .i64 (.ofNat 0)] = true := by kernel_rfl
theorem n_5_5_lo (m : Nat) : yes 9 [.int .i64 (.ofNat 5), .int .i64 (.ofNat 5), .int .i64 (.negSucc m)] = true := by kernel_rfl
theorem n_5_5_hi (m : Nat) : yes 9 [.int .i64 (.ofNat 5), .int .i64 (.ofNat 5), .int .i64 (.ofNat (m + 6))] = true := by kernel_rfl
theorem n_5_5_z0 : yes 9 [.int .i64 (.ofNat 5), .int .i64 (.ofNat 5), .int .i64 (.ofNat 0)] = true := by kernel_rfl
end Go.Proofs.YtgmdibmehojmlaaGreatDoor.CheckerMeets
