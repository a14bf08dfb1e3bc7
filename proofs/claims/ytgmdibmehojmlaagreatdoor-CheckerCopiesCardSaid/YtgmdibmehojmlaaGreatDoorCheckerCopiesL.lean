/- 'CheckerCopies': what lies outside its bounds, run by the kernel. Conditions: none. -/
import Derived.Test.YtgmdibmehojmlaaGreatDoorCk
namespace Go.Proofs.YtgmdibmehojmlaaGreatDoor.CheckerCopies
open Go.Ex
set_option maxRecDepth 1000000
theorem n_lo (m : Nat) (x1 : Bool) : yes 7 [.int .i64 (.negSucc m), .bool x1] = true := by kernel_rfl
theorem n_hi (m : Nat) (x1 : Bool) : yes 7 [.int .i64 (.ofNat (m + 4)), .bool x1] = true := by kernel_rfl
theorem n_z0 (x1 : Bool) : yes 7 [.int .i64 (.ofNat 0), .bool x1] = true := by kernel_rfl
end Go.Proofs.YtgmdibmehojmlaaGreatDoor.CheckerCopies
