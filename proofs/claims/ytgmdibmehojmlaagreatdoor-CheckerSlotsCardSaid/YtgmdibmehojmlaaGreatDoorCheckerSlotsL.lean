/- 'CheckerSlots': what lies outside its bounds, run by the kernel. Conditions: none. -/
import Derived.Test.YtgmdibmehojmlaaGreatDoorCk
namespace Go.Proofs.YtgmdibmehojmlaaGreatDoor.CheckerSlots
open Go.Ex
set_option maxRecDepth 1000000
theorem n_lo (m : Nat) (x1 : Int) (x2 : Int) (x3 : Bool) : yes 4 [.int .i64 (.negSucc m), .int .i64 x1, .int .i64 x2, .bool x3] = true := by kernel_rfl
theorem n_hi (m : Nat) (x1 : Int) (x2 : Int) (x3 : Bool) : yes 4 [.int .i64 (.ofNat (m + 4)), .int .i64 x1, .int .i64 x2, .bool x3] = true := by kernel_rfl
theorem n_0_lo (m : Nat) (x2 : Int) (x3 : Bool) : yes 4 [.int .i64 (.ofNat 0), .int .i64 (.negSucc m), .int .i64 x2, .bool x3] = true := by kernel_rfl
theorem n_0_hi (m : Nat) (x2 : Int) (x3 : Bool) : yes 4 [.int .i64 (.ofNat 0), .int .i64 (.ofNat (m + 4)), .int .i64 x2, .bool x3] = true := by kernel_rfl
theorem n_0_0_lo (m : Nat) (x3 : Bool) : yes 4 [.int .i64 (.ofNat 0), .int .i64 (.ofNat 0), .int .i64 (.negSucc m), .bool x3] = true := by kernel_rfl
theorem n_0_0_hi (m : Nat) (x3 : Bool) : yes 4 [.int .i64 (.ofNat 0), .int .i64 (.ofNat 0), .int .i64 (.ofNat (m + 4)), .bool x3] = true := by kernel_rfl
theorem n_0_1_lo (m : Nat) (x3 : Bool) : yes 4 [.int .i64 (.ofNat 0), .int .i64 (.ofNat 1), .int .i64 (.negSucc m), .bool x3] = true := by kernel_rfl
theorem n_0_1_hi (m : Nat) (x3 : Bool) : yes 4 [.int .i64 (.ofNat 0), .int .i64 (.ofNat 1), .int .i64 (.ofNat (m + 4)), .bool x3] = true := by kernel_rfl
theorem n_0_2_lo (m : Nat) (x3 : Bool) : yes 4 [.int .i64 (.ofNat 0), .int .i64 (.ofNat 2), .int .i64 (.negSucc m), .bool x3] = true := by kernel_rfl
theorem n_0_2_hi (m : Nat) (x3 : Bool) : yes 4 [.int .i64 (.ofNat 0), .int .i64 (.ofNat 2), .int .i64 (.ofNat (m + 4)), .bool x3] = true := by kernel_rfl
theorem n_0_3_lo (m : Nat) (x3 : Bool) : yes 4 [.int .i64 (.ofNat 0), .int .i64 (.ofNat 3), .int .i64 (.negSucc m), .bool x3] = true := by kernel_rfl
theorem n_0_3_hi (m : Nat) (x3 : Bool) : yes 4 [.int .i64 (.ofNat 0), .int .i64 (.ofNat 3), .int .i64 (.ofNat (m + 4)), .bool x3] = true := by kernel_rfl
theorem n_1_lo (m : Nat) (x2 : Int) (x3 : Bool) : yes 4 [.int .i64 (.ofNat 1), .int .i64 (.negSucc m), .int .i64 x2, .bool x3] = true := by kernel_rfl
theorem n_1_hi (m : Nat) (x2 : Int) (x3 : Bool) : yes 4 [.int .i64 (.ofNat 1), .int .i64 (.ofNat (m + 4)), .int .i64 x2, .bool x3] = true := by kernel_rfl
theorem n_1_0_lo (m : Nat) (x3 : Bool) : yes 4 [.int .i64 (.ofNat 1), .int .i64 (.ofNat 0), .int .i64 (.negSucc m), .bool x3] = true := by kernel_rfl
theorem n_1_0_hi (m : Nat) (x3 : Bool) : yes 4 [.int .i64 (.ofNat 1), .int .i64 (.ofNat 0), .int .i64 (.ofNat (m + 4)), .bool x3] = true := by kernel_rfl
theorem n_1_1_lo (m : Nat) (x3 : Bool) : yes 4 [.int .i64 (.ofNat 1), .int .i64 (.ofNat 1), .int .i64 (.negSucc m), .bool x3] = true := by kernel_rfl
theorem n_1_1_hi (m : Nat) (x3 : Bool) : yes 4 [.int .i64 (.ofNat 1), .int .i64 (.ofNat 1), .int .i64 (.ofNat (m + 4)), .bool x3] = true := by kernel_rfl
theorem n_1_2_lo (m : Nat) (x3 : Bool) : yes 4 [.int .i64 (.ofNat 1), .int .i64 (.ofNat 2), .int .i64 (.negSucc m), .bool x3] = true := by kernel_rfl
theorem n_1_2_hi (m : Nat) (x3 : Bool) : yes 4 [.int .i64 (.ofNat 1), .int .i64 (.ofNat 2), .int .i64 (.ofNat (m + 4)), .bool x3] = true := by kernel_rfl
theorem n_1_3_lo (m : Nat) (x3 : Bool) : yes 4 [.int .i64 (.ofNat 1), .int .i64 (.ofNat 3), .int .i64 (.negSucc m), .bool x3] = true := by kernel_rfl
theorem n_1_3_hi (m : Nat) (x3 : Bool) : yes 4 [.int .i64 (.ofNat 1), .int .i64 (.ofNat 3), .int .i64 (.ofNat (m + 4)), .bool x3] = true := by kernel_rfl
theorem n_2_lo (m : Nat) (x2 : Int) (x3 : Bool) : yes 4 [.int .i64 (.ofNat 2), .int .i64 (.negSucc m), .int .i64 x2, .bool x3] = true := by kernel_rfl
theorem n_2_hi (m : Nat) (x2 : Int) (x3 : Bool) : yes 4 [.int .i64 (.ofNat 2), .int .i64 (.ofNat (m + 4)), .int .i64 x2, .bool x3] = true := by kernel_rfl
theorem n_2_0_lo (m : Nat) (x3 : Bool) : yes 4 [.int .i64 (.ofNat 2), .int .i64 (.ofNat 0), .int .i64 (.negSucc m), .bool x3] = true := by kernel_rfl
theorem n_2_0_hi (m : Nat) (x3 : Bool) : yes 4 [.int .i64 (.ofNat 2), .int .i64 (.ofNat 0), .int .i64 (.ofNat (m + 4)), .bool x3] = true := by kernel_rfl
theorem n_2_1_lo (m : Nat) (x3 : Bool) : yes 4 [.int .i64 (.ofNat 2), .int .i64 (.ofNat 1), .int .i64 (.negSucc m), .bool x3] = true := by kernel_rfl
theorem n_2_1_hi (m : Nat) (x3 : Bool) : yes 4 [.int .i64 (.ofNat 2), .int .i64 (.ofNat 1), .int .i64 (.ofNat (m + 4)), .bool x3] = true := by kernel_rfl
theorem n_2_2_lo (m : Nat) (x3 : Bool) : yes 4 [.int .i64 (.ofNat 2), .int .i64 (.ofNat 2), .int .i64 (.negSucc m), .bool x3] = true := by kernel_rfl
theorem n_2_2_hi (m : Nat) (x3 : Bool) : yes 4 [.int .i64 (.ofNat 2), .int .i64 (.ofNat 2), .int .i64 (.ofNat (m + 4)), .bool x3] = true := by kernel_rfl
theorem n_2_3_lo (m : Nat) (x3 : Bool) : yes 4 [.int .i64 (.ofNat 2), .int .i64 (.ofNat 3), .int .i64 (.negSucc m), .bool x3] = true := by kernel_rfl
theorem n_2_3_hi (m : Nat) (x3 : Bool) : yes 4 [.int .i64 (.ofNat 2), .int .i64 (.ofNat 3), .int .i64 (.ofNat (m + 4)), .bool x3] = true := by kernel_rfl
theorem n_3_lo (m : Nat) (x2 : Int) (x3 : Bool) : yes 4 [.int .i64 (.ofNat 3), .int .i64 (.negSucc m), .int .i64 x2, .bool x3] = true := by kernel_rfl
theorem n_3_hi (m : Nat) (x2 : Int) (x3 : Bool) : yes 4 [.int .i64 (.ofNat 3), .int .i64 (.ofNat (m + 4)), .int .i64 x2, .bool x3] = true := by kernel_rfl
theorem n_3_0_lo (m : Nat) (x3 : Bool) : yes 4 [.int .i64 (.ofNat 3), .int .i64 (.ofNat 0), .int .i64 (.negSucc m), .bool x3] = true := by kernel_rfl
theorem n_3_0_hi (m : Nat) (x3 : Bool) : yes 4 [.int .i64 (.ofNat 3), .int .i64 (.ofNat 0), .int .i64 (.ofNat (m + 4)), .bool x3] = true := by kernel_rfl
theorem n_3_1_lo (m : Nat) (x3 : Bool) : yes 4 [.int .i64 (.ofNat 3), .int .i64 (.ofNat 1), .int .i64 (.negSucc m), .bool x3] = true := by kernel_rfl
theorem n_3_1_hi (m : Nat) (x3 : Bool) : yes 4 [.int .i64 (.ofNat 3), .int .i64 (.ofNat 1), .int .i64 (.ofNat (m + 4)), .bool x3] = true := by kernel_rfl
theorem n_3_2_lo (m : Nat) (x3 : Bool) : yes 4 [.int .i64 (.ofNat 3), .int .i64 (.ofNat 2), .int .i64 (.negSucc m), .bool x3] = true := by kernel_rfl
theorem n_3_2_hi (m : Nat) (x3 : Bool) : yes 4 [.int .i64 (.ofNat 3), .int .i64 (.ofNat 2), .int .i64 (.ofNat (m + 4)), .bool x3] = true := by kernel_rfl
theorem n_3_3_lo (m : Nat) (x3 : Bool) : yes 4 [.int .i64 (.ofNat 3), .int .i64 (.ofNat 3), .int .i64 (.negSucc m), .bool x3] = true := by kernel_rfl
theorem n_3_3_hi (m : Nat) (x3 : Bool) : yes 4 [.int .i64 (.ofNat 3), .int .i64 (.ofNat 3), .int .i64 (.ofNat (m + 4)), .bool x3] = true := by kernel_rfl
end Go.Proofs.YtgmdibmehojmlaaGreatDoor.CheckerSlots
