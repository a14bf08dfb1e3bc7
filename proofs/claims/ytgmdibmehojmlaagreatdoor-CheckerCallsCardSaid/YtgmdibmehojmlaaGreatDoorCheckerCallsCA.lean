/- 'CheckerCalls': cases, run by the kernel. Conditions: none. -/
import Derived.Test.YtgmdibmehojmlaaGreatDoorCk
namespace Go.Proofs.YtgmdibmehojmlaaGreatDoor.CheckerCalls
open Go.Ex
set_option maxRecDepth 1000000
theorem n_0_true : yes 5 [.int .i64 (.ofNat 0), .bool true] = true := by kernel_rfl
theorem n_0_false : yes 5 [.int .i64 (.ofNat 0), .bool false] = true := by kernel_rfl
theorem n_1_true : yes 5 [.int .i64 (.ofNat 1), .bool true] = true := by kernel_rfl
theorem n_1_false : yes 5 [.int .i64 (.ofNat 1), .bool false] = true := by kernel_rfl
theorem n_2_true : yes 5 [.int .i64 (.ofNat 2), .bool true] = true := by kernel_rfl
theorem n_2_false : yes 5 [.int .i64 (.ofNat 2), .bool false] = true := by kernel_rfl
theorem n_3_true : yes 5 [.int .i64 (.ofNat 3), .bool true] = true := by kernel_rfl
theorem n_3_false : yes 5 [.int .i64 (.ofNat 3), .bool false] = true := by kernel_rfl
theorem n_4_true : yes 5 [.int .i64 (.ofNat 4), .bool true] = true := by kernel_rfl
theorem n_4_false : yes 5 [.int .i64 (.ofNat 4), .bool false] = true := by kernel_rfl
theorem n_5_true : yes 5 [.int .i64 (.ofNat 5), .bool true] = true := by kernel_rfl
theorem n_5_false : yes 5 [.int .i64 (.ofNat 5), .bool false] = true := by kernel_rfl
end Go.Proofs.YtgmdibmehojmlaaGreatDoor.CheckerCalls
