/- 'CheckerSlots': cases, run by the kernel. Conditions: none. -/
import Derived.Test.YtgmdibmehojmlaaGreatDoorCk
namespace Go.Proofs.YtgmdibmehojmlaaGreatDoor.CheckerSlots
open Go.Ex
set_option maxRecDepth 1000000
theorem n_1_0_0_true : yes 4 [.int .i64 (.ofNat 1), .int .i64 (.ofNat 0), .int .i64 (.ofNat 0), .bool true] = true := by kernel_rfl
theorem n_1_0_0_false : yes 4 [.int .i64 (.ofNat 1), .int .i64 (.ofNat 0), .int .i64 (.ofNat 0), .bool false] = true := by kernel_rfl
theorem n_1_0_1_true : yes 4 [.int .i64 (.ofNat 1), .int .i64 (.ofNat 0), .int .i64 (.ofNat 1), .bool true] = true := by kernel_rfl
theorem n_1_0_1_false : yes 4 [.int .i64 (.ofNat 1), .int .i64 (.ofNat 0), .int .i64 (.ofNat 1), .bool false] = true := by kernel_rfl
theorem n_1_0_2_true : yes 4 [.int .i64 (.ofNat 1), .int .i64 (.ofNat 0), .int .i64 (.ofNat 2), .bool true] = true := by kernel_rfl
theorem n_1_0_2_false : yes 4 [.int .i64 (.ofNat 1), .int .i64 (.ofNat 0), .int .i64 (.ofNat 2), .bool false] = true := by kernel_rfl
theorem n_1_0_3_true : yes 4 [.int .i64 (.ofNat 1), .int .i64 (.ofNat 0), .int .i64 (.ofNat 3), .bool true] = true := by kernel_rfl
theorem n_1_0_3_false : yes 4 [.int .i64 (.ofNat 1), .int .i64 (.ofNat 0), .int .i64 (.ofNat 3), .bool false] = true := by kernel_rfl
theorem n_1_1_0_true : yes 4 [.int .i64 (.ofNat 1), .int .i64 (.ofNat 1), .int .i64 (.ofNat 0), .bool true] = true := by kernel_rfl
theorem n_1_1_0_false : yes 4 [.int .i64 (.ofNat 1), .int .i64 (.ofNat 1), .int .i64 (.ofNat 0), .bool false] = true := by kernel_rfl
theorem n_1_1_1_true : yes 4 [.int .i64 (.ofNat 1), .int .i64 (.ofNat 1), .int .i64 (.ofNat 1), .bool true] = true := by kernel_rfl
theorem n_1_1_1_false : yes 4 [.int .i64 (.ofNat 1), .int .i64 (.ofNat 1), .int .i64 (.ofNat 1), .bool false] = true := by kernel_rfl
theorem n_1_1_2_true : yes 4 [.int .i64 (.ofNat 1), .int .i64 (.ofNat 1), .int .i64 (.ofNat 2), .bool true] = true := by kernel_rfl
theorem n_1_1_2_false : yes 4 [.int .i64 (.ofNat 1), .int .i64 (.ofNat 1), .int .i64 (.ofNat 2), .bool false] = true := by kernel_rfl
theorem n_1_1_3_true : yes 4 [.int .i64 (.ofNat 1), .int .i64 (.ofNat 1), .int .i64 (.ofNat 3), .bool true] = true := by kernel_rfl
theorem n_1_1_3_false : yes 4 [.int .i64 (.ofNat 1), .int .i64 (.ofNat 1), .int .i64 (.ofNat 3), .bool false] = true := by kernel_rfl
end Go.Proofs.YtgmdibmehojmlaaGreatDoor.CheckerSlots
