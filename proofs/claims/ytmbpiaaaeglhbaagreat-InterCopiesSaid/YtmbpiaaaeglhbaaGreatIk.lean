/- What the laws of small functions lean on: the executor over this program, 'alive' known beforehand. Conditions: none. -/
import Derived.Test.YtmbpiaaaeglhbaaGreatEx3
import Derived.Test.YtmbpiaaaeglhbaaGreatRows
import Derived.ProofKit
import Derived.OpenShut
import Derived.ChangeOld
import Derived.Below
namespace Go.Proofs.YtmbpiaaaeglhbaaGreat
open Go.Ex Go.ChangeShapes Go.WideShapes Go.ChangeAt Go.RowKit
set_option maxRecDepth 1000000

theorem prog_ok : progOK 0 Tryz.prog = true := by decide +kernel
theorem mixed : Tryz.prog.follows .mixedOrders = true := by decide +kernel

def tabs : List (Nat × List Value) := []
theorem tabs_ok : tabsOK 0 tabs = true := by decide +kernel

theorem alive_run : (run Tryz.prog 1000000).call 6 [] false none (heap0 tabs) 0 (finV (.bool true)) = true := by decide +kernel

/-- 'alive' tells true. -/
noncomputable def hk : Hook := fun f args h => Bool.rec none (Bool.rec none (some (.bool true)) (tabsB tabs h)) (Nat.beq f 6 && Nat.beq args.length 0)

theorem hk_ok : HookOK Tryz.prog 0 hk := by
  intro f args h v e u n
  unfold hk at e
  cases h1 : (Nat.beq f 6 && Nat.beq args.length 0) with
  | false => rw [h1] at e; cases e
  | true =>
    rw [h1] at e
    cases h2 : tabsB tabs h with
    | false => rw [h2] at e; cases e
    | true =>
      rw [h2] at e
      injection e with e
      subst e
      obtain ⟨a1, a2⟩ := Bool.and_eq_true_iff.1 h1
      obtain rfl := beq_eq a1
      obtain rfl : args = [] := List.length_eq_zero_iff.1 (beq_eq a2)
      exact hook_of_run (sound prog_ok mixed 1000000) tabs_ok rfl (.inr ⟨_, rfl⟩) alive_run h2 u n

/-- The executor. -/
noncomputable def lo : Lo := runH Tryz.prog hk 1000000
theorem lo_ok : Sound Tryz.prog 0 lo := soundH prog_ok mixed hk_ok 1000000

/-- A call tells true. -/
noncomputable def yes (f : FuncId) (args : List Value) : Bool := lo.call f args false none (heap0 tabs) 0 (finV (.bool true))

/-- The walk of a law. -/
theorem walk_of {f : FuncId} {args : List Value} (hp : args.all plainB = true) (hx : yes f args = true) (w : World) (hw : TabsIn w tabs) :
    Calls Tryz.prog f ⟨args⟩ w fun e w' => e = .returned (.bool true) ∧ Below w.heap.size w w' :=
  law_calls lo_ok tabs_ok hp hx w hw

theorem own : ownKnob Tryz.prog.godebug = none := by kernel_rfl

end Go.Proofs.YtmbpiaaaeglhbaaGreat
