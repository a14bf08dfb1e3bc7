/- 'CheckerMatches': what lies outside its bounds, run by the kernel. Conditions: none. -/
import Derived.Test.YtgmdibmehojmlaaGreatDoorCk
namespace Go.Proofs.YtgmdibmehojmlaaGreatDoor.CheckerMatches
open Go.Ex
set_option maxRecDepth 1000000
theorem n_lo (m : Nat) : yes 8 [.int .i64 (.negSucc m)] = true := by kernel_rfl
theorem n_hi (m : Nat) : yes 8 [.int .i64 (.ofNat (m + 8))] = true := by kernel_rfl
end Go.Proofs.YtgmdibmehojmlaaGreatDoor.CheckerMatches
