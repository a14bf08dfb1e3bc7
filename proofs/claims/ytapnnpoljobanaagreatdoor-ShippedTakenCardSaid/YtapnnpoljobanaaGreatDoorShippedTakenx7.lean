/- What the law leans on: an executor of the model that is sound, deduction over it, and the walks through the code (part 7 of 21). Conditions: those that each theorem states. -/
import Derived.Test.YtapnnpoljobanaaGreatDoorShippedTakenx4

set_option linter.unusedVariables false
set_option linter.unusedSimpArgs false
namespace Go.Proofs.YtapnnpoljobanaaGreatDoor
open Go.Ex Go.RowKit
set_option maxRecDepth 1000000
theorem text2 : two0.lo.call 11 [str nm2] false none (vH tabs) 8 (finS (.tuple #[str tx2, .int .i64 0])) = true := by kernel_rfl
end Go.Proofs.YtapnnpoljobanaaGreatDoor
