/- 'CheckerMeets': cases, run by the kernel. Conditions: none. -/
import Derived.Test.YtgmdibmehojmlaaGreatDoorCk
namespace Go.Proofs.YtgmdibmehojmlaaGreatDoor.CheckerMeets
open Go.Ex
set_option maxRecDepth 1000000
theorem n_5_4_3 : yes 9 [.int .i64 (.ofNat 5), .int .i64 (.ofNat 4), .int .i64 (.ofNat 3)] = true := by kernel_rfl
theorem n_5_4_4 : yes 9 [.int .i64 (.ofNat 5), .int .i64 (.ofNat 4), .int .i64 (.ofNat 4)] = true := by kernel_rfl
theorem n_5_4_5 : yes 9 [.int .i64 (.ofNat 5), .int .i64 (.ofNat 4), .int .i64 (.ofNat 5)] = true := by kernel_rfl
theorem n_5_5_1 : yes 9 [.int .i64 (.ofNat 5), .int .i64 (.ofNat 5), .int .i64 (.ofNat 1)] = true := by kernel_rfl
theorem n_5_5_2 : yes 9 [.int .i64 (.ofNat 5), .int .i64 (.ofNat 5), .int .i64 (.ofNat 2)] = true := by kernel_rfl
theorem n_5_5_3 : yes 9 [.int .i64 (.ofNat 5), .int .i64 (.ofNat 5), .int .i64 (.ofNat 3)] = true := by kernel_rfl
theorem n_5_5_4 : yes 9 [.int .i64 (.ofNat 5), .int .i64 (.ofNat 5), .int .i64 (.ofNat 4)] = true := by kernel_rfl
theorem n_5_5_5 : yes 9 [.int .i64 (.ofNat 5), .int .i64 (.ofNat 5), .int .i64 (.ofNat 5)] = true := by kernel_rfl
end Go.Proofs.YtgmdibmehojmlaaGreatDoor.CheckerMeets
