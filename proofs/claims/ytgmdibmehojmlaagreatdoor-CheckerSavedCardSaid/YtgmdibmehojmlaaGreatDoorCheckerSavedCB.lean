/- 'CheckerSaved': cases, run by the kernel. Conditions: none. -/
import Derived.Test.YtgmdibmehojmlaaGreatDoorCk
namespace Go.Proofs.YtgmdibmehojmlaaGreatDoor.CheckerSaved
open Go.Ex
set_option maxRecDepth 1000000
theorem n_3_0_true : yes 6 [.int .i64 (.ofNat 3), .int .i64 (.ofNat 0), .bool true] = true := by kernel_rfl
theorem n_3_0_false : yes 6 [.int .i64 (.ofNat 3), .int .i64 (.ofNat 0), .bool false] = true := by kernel_rfl
theorem n_3_1_true : yes 6 [.int .i64 (.ofNat 3), .int .i64 (.ofNat 1), .bool true] = true := by kernel_rfl
theorem n_3_1_false : yes 6 [.int .i64 (.ofNat 3), .int .i64 (.ofNat 1), .bool false] = true := by kernel_rfl
theorem n_4_0_true : yes 6 [.int .i64 (.ofNat 4), .int .i64 (.ofNat 0), .bool true] = true := by kernel_rfl
theorem n_4_0_false : yes 6 [.int .i64 (.ofNat 4), .int .i64 (.ofNat 0), .bool false] = true := by kernel_rfl
theorem n_4_1_true : yes 6 [.int .i64 (.ofNat 4), .int .i64 (.ofNat 1), .bool true] = true := by kernel_rfl
theorem n_4_1_false : yes 6 [.int .i64 (.ofNat 4), .int .i64 (.ofNat 1), .bool false] = true := by kernel_rfl
theorem n_5_0_true : yes 6 [.int .i64 (.ofNat 5), .int .i64 (.ofNat 0), .bool true] = true := by kernel_rfl
theorem n_5_0_false : yes 6 [.int .i64 (.ofNat 5), .int .i64 (.ofNat 0), .bool false] = true := by kernel_rfl
theorem n_5_1_true : yes 6 [.int .i64 (.ofNat 5), .int .i64 (.ofNat 1), .bool true] = true := by kernel_rfl
theorem n_5_1_false : yes 6 [.int .i64 (.ofNat 5), .int .i64 (.ofNat 1), .bool false] = true := by kernel_rfl
end Go.Proofs.YtgmdibmehojmlaaGreatDoor.CheckerSaved
