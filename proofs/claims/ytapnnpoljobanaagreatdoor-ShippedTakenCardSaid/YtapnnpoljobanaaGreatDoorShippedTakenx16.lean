/- What the law leans on: an executor of the model that is sound, deduction over it, and the walks through the code (part 16 of 21). Conditions: those that each theorem states. -/
import Derived.Test.YtapnnpoljobanaaGreatDoorShippedTakenx14

set_option linter.unusedVariables false
set_option linter.unusedSimpArgs false
namespace Go.Proofs.YtapnnpoljobanaaGreatDoor
open Go.Ex Go.RowKit
set_option maxRecDepth 1000000
theorem run_o1 : o1.run twoQ.lo = true := by kernel_rfl
end Go.Proofs.YtapnnpoljobanaaGreatDoor
