/- What the law leans on: an executor of the model that is sound, deduction over it, and the walks through the code (part 14 of 21). Conditions: those that each theorem states. -/
import Derived.Test.YtapnnpoljobanaaGreatDoorShippedTakenx9
import Derived.Test.YtapnnpoljobanaaGreatDoorShippedTakenx10
import Derived.Test.YtapnnpoljobanaaGreatDoorShippedTakenx11
import Derived.Test.YtapnnpoljobanaaGreatDoorShippedTakenx12
import Derived.Test.YtapnnpoljobanaaGreatDoorShippedTakenx13

set_option linter.unusedVariables false
set_option linter.unusedSimpArgs false
namespace Go.Proofs.YtapnnpoljobanaaGreatDoor
open Go.Ex Go.RowKit
set_option maxRecDepth 1000000
theorem q_ok : ∀ c ∈ [q0, q1], c.run twoA.lo = true := by
  intro c hc;rcases List.mem_cons.1 hc with rfl | hc
  · exact run_q0
  rcases List.mem_cons.1 hc with rfl | hc
  · exact run_q1
  cases hc
noncomputable def hkQ : HookH := fun f args h n => orH (hkA f args h n) (hookC [q0, q1] f args h n)
theorem hkQ_ok : HookHOK P 8 hkQ := by
  intro f args h n r e u;unfold hkQ orH at e
  cases h1 : hkA f args h n with
  | some r' => rw [h1] at e; injection e with e; subst e; exact hkA_ok f args h n r' h1 u
  | none => rw [h1] at e; exact hookC_ok twoA_ok q_ok f args h n r e u
noncomputable def twoQ : Two := runYH P hkQ tF tL 1000000
theorem twoQ_ok : Sound P 8 twoQ.lo := (runYH_ok zG mixed hkQ_ok tF tL 1000000).1
end Go.Proofs.YtapnnpoljobanaaGreatDoor
