/- 'CheckerMeets': cases, run by the kernel. Conditions: none. -/
import Derived.Test.YtgmdibmehojmlaaGreatDoorCk
namespace Go.Proofs.YtgmdibmehojmlaaGreatDoor.CheckerMeets
open Go.Ex
set_option maxRecDepth 1000000
theorem n_2_1_2 : yes 9 [.int .i64 (.ofNat 2), .int .i64 (.ofNat 1), .int .i64 (.ofNat 2)] = true := by kernel_rfl
theorem n_2_1_3 : yes 9 [.int .i64 (.ofNat 2), .int .i64 (.ofNat 1), .int .i64 (.ofNat 3)] = true := by kernel_rfl
theorem n_2_1_4 : yes 9 [.int .i64 (.ofNat 2), .int .i64 (.ofNat 1), .int .i64 (.ofNat 4)] = true := by kernel_rfl
theorem n_2_1_5 : yes 9 [.int .i64 (.ofNat 2), .int .i64 (.ofNat 1), .int .i64 (.ofNat 5)] = true := by kernel_rfl
theorem n_2_2_1 : yes 9 [.int .i64 (.ofNat 2), .int .i64 (.ofNat 2), .int .i64 (.ofNat 1)] = true := by kernel_rfl
theorem n_2_2_2 : yes 9 [.int .i64 (.ofNat 2), .int .i64 (.ofNat 2), .int .i64 (.ofNat 2)] = true := by kernel_rfl
theorem n_2_2_3 : yes 9 [.int .i64 (.ofNat 2), .int .i64 (.ofNat 2), .int .i64 (.ofNat 3)] = true := by kernel_rfl
theorem n_2_2_4 : yes 9 [.int .i64 (.ofNat 2), .int .i64 (.ofNat 2), .int .i64 (.ofNat 4)] = true := by kernel_rfl
theorem n_2_2_5 : yes 9 [.int .i64 (.ofNat 2), .int .i64 (.ofNat 2), .int .i64 (.ofNat 5)] = true := by kernel_rfl
theorem n_2_3_1 : yes 9 [.int .i64 (.ofNat 2), .int .i64 (.ofNat 3), .int .i64 (.ofNat 1)] = true := by kernel_rfl
theorem n_2_3_2 : yes 9 [.int .i64 (.ofNat 2), .int .i64 (.ofNat 3), .int .i64 (.ofNat 2)] = true := by kernel_rfl
theorem n_2_3_3 : yes 9 [.int .i64 (.ofNat 2), .int .i64 (.ofNat 3), .int .i64 (.ofNat 3)] = true := by kernel_rfl
theorem n_2_3_4 : yes 9 [.int .i64 (.ofNat 2), .int .i64 (.ofNat 3), .int .i64 (.ofNat 4)] = true := by kernel_rfl
end Go.Proofs.YtgmdibmehojmlaaGreatDoor.CheckerMeets
