/- 'CheckerSaved': what lies outside its bounds, run by the kernel. Conditions: none. -/
import Derived.Test.YtgmdibmehojmlaaGreatDoorCk
namespace Go.Proofs.YtgmdibmehojmlaaGreatDoor.CheckerSaved
open Go.Ex
set_option maxRecDepth 1000000
theorem n_lo (m : Nat) (x1 : Int) (x2 : Bool) : yes 6 [.int .i64 (.negSucc m), .int .i64 x1, .bool x2] = true := by kernel_rfl
theorem n_hi (m : Nat) (x1 : Int) (x2 : Bool) : yes 6 [.int .i64 (.ofNat (m + 6)), .int .i64 x1, .bool x2] = true := by kernel_rfl
theorem n_0_lo (m : Nat) (x2 : Bool) : yes 6 [.int .i64 (.ofNat 0), .int .i64 (.negSucc m), .bool x2] = true := by kernel_rfl
theorem n_0_hi (m : Nat) (x2 : Bool) : yes 6 [.int .i64 (.ofNat 0), .int .i64 (.ofNat (m + 2)), .bool x2] = true := by kernel_rfl
theorem n_1_lo (m : Nat) (x2 : Bool) : yes 6 [.int .i64 (.ofNat 1), .int .i64 (.negSucc m), .bool x2] = true := by kernel_rfl
theorem n_1_hi (m : Nat) (x2 : Bool) : yes 6 [.int .i64 (.ofNat 1), .int .i64 (.ofNat (m + 2)), .bool x2] = true := by kernel_rfl
theorem n_2_lo (m : Nat) (x2 : Bool) : yes 6 [.int .i64 (.ofNat 2), .int .i64 (.negSucc m), .bool x2] = true := by kernel_rfl
theorem n_2_hi (m : Nat) (x2 : Bool) : yes 6 [.int .i64 (.ofNat 2), .int .i64 (.ofNat (m + 2)), .bool x2] = true := by kernel_rfl
theorem n_3_lo (m : Nat) (x2 : Bool) : yes 6 [.int .i64 (.ofNat 3), .int .i64 (.negSucc m), .bool x2] = true := by kernel_rfl
theorem n_3_hi (m : Nat) (x2 : Bool) : yes 6 [.int .i64 (.ofNat 3), .int .i64 (.ofNat (m + 2)), .bool x2] = true := by kernel_rfl
theorem n_4_lo (m : Nat) (x2 : Bool) : yes 6 [.int .i64 (.ofNat 4), .int .i64 (.negSucc m), .bool x2] = true := by kernel_rfl
theorem n_4_hi (m : Nat) (x2 : Bool) : yes 6 [.int .i64 (.ofNat 4), .int .i64 (.ofNat (m + 2)), .bool x2] = true := by kernel_rfl
theorem n_5_lo (m : Nat) (x2 : Bool) : yes 6 [.int .i64 (.ofNat 5), .int .i64 (.negSucc m), .bool x2] = true := by kernel_rfl
theorem n_5_hi (m : Nat) (x2 : Bool) : yes 6 [.int .i64 (.ofNat 5), .int .i64 (.ofNat (m + 2)), .bool x2] = true := by kernel_rfl
end Go.Proofs.YtgmdibmehojmlaaGreatDoor.CheckerSaved
