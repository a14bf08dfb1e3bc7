/- 'CheckerMatches': cases, run by the kernel. Conditions: none. -/
import Derived.Test.YtgmdibmehojmlaaGreatDoorCk
namespace Go.Proofs.YtgmdibmehojmlaaGreatDoor.CheckerMatches
open Go.Ex
set_option maxRecDepth 1000000
theorem n_0 : yes 8 [.int .i64 (.ofNat 0)] = true := by kernel_rfl
theorem n_1 : yes 8 [.int .i64 (.ofNat 1)] = true := by kernel_rfl
theorem n_2 : yes 8 [.int .i64 (.ofNat 2)] = true := by kernel_rfl
theorem n_3 : yes 8 [.int .i64 (.ofNat 3)] = true := by kernel_rfl
theorem n_4 : yes 8 [.int .i64 (.ofNat 4)] = true := by kernel_rfl
theorem n_5 : yes 8 [.int .i64 (.ofNat 5)] = true := by kernel_rfl
theorem n_6 : yes 8 [.int .i64 (.ofNat 6)] = true := by kernel_rfl
theorem n_7 : yes 8 [.int .i64 (.ofNat 7)] = true := by kernel_rfl
end Go.Proofs.YtgmdibmehojmlaaGreatDoor.CheckerMatches
