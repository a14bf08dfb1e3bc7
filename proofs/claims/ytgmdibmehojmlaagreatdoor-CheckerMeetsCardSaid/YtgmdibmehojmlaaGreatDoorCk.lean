/- What all laws of the checker's small programs lean on: the executor over this program, its table, 'alive' known beforehand. Conditions: none. -/
import Derived.Test.YtgmdibmehojmlaaGreatDoorEx2
import Derived.Test.YtgmdibmehojmlaaGreatDoorRows
import Derived.Lib.LaidTab
import Derived.ProofKit
import Derived.LaidMore
import Derived.OpenShut
import Derived.Stop.Joined
import Derived.ChangeOld
import Derived.Below
namespace Go.Proofs.YtgmdibmehojmlaaGreatDoor
open Go.Ex Go.ChangeShapes Go.WideShapes Go.ChangeAt Go.RowKit
set_option maxRecDepth 1000000

theorem prog_ok : progOK 1 Tryz.prog = true := by decide +kernel
theorem mixed : Tryz.prog.follows .mixedOrders = true := by decide +kernel

def zs : List Int := [0, 1, 56, 2, 57, 49, 28, 3, 61, 58, 42, 50, 38, 29, 17, 4, 62, 47, 59, 36, 45, 43, 51, 22, 53, 39, 33, 30, 24, 18, 12, 5, 63, 55, 48, 27, 60, 41, 37, 16, 46, 35, 44, 21, 52, 32, 23, 11, 54, 26, 40, 15, 34, 20, 31, 10, 25, 14, 19, 9, 13, 8, 7, 6]
def tabs : List (Nat × List Value) := [(0, zs.map fun z => Value.int .u8 z)]
theorem tabs_ok : tabsOK 1 tabs = true := by decide +kernel

theorem alive_run : (run Tryz.prog 1000000).call 10 [] false none (heap0 tabs) 1 (finV (.bool true)) = true := by decide +kernel

/-- 'alive' tells true. -/
noncomputable def hk : Hook := fun f args h => Bool.rec none (Bool.rec none (some (.bool true)) (tabsB tabs h)) (Nat.beq f 10 && Nat.beq args.length 0)

theorem hk_ok : HookOK Tryz.prog 1 hk := by
  intro f args h v e u n
  unfold hk at e
  cases h1 : (Nat.beq f 10 && Nat.beq args.length 0) with
  | false => rw [h1] at e; cases e
  | true =>
    rw [h1] at e
    cases h2 : tabsB tabs h with
    | false => rw [h2] at e; cases e
    | true =>
      rw [h2] at e
      injection e with e
      subst e
      obtain ⟨a1, a2⟩ := Bool.and_eq_true_iff.1 h1
      obtain rfl := beq_eq a1
      obtain rfl : args = [] := List.length_eq_zero_iff.1 (beq_eq a2)
      exact hook_of_run (sound prog_ok mixed 1000000) tabs_ok rfl (.inr ⟨_, rfl⟩) alive_run h2 u n

/-- The executor. -/
noncomputable def lo : Lo := runH Tryz.prog hk 1000000
theorem lo_ok : Sound Tryz.prog 1 lo := soundH prog_ok mixed hk_ok 1000000

/-- A call tells true. -/
noncomputable def yes (f : FuncId) (args : List Value) : Bool := lo.call f args false none (heap0 tabs) 1 (finV (.bool true))

theorem gTab : Tryz.prog.globalNamed "math/bits.deBruijn64tab" = some 0 := by kernel_rfl

theorem tab_in {W : World} {name : String} (hT : Lib.TabIs Tryz.prog W name .u8 zs) (hg : Tryz.prog.globalNamed name = some 0) : TabsIn W tabs := by
  intro p hp
  obtain rfl : p = (0, zs.map fun z => Value.int .u8 z) := by simpa [tabs] using hp
  unfold Lib.TabIs World.var? at hT
  rw [hg] at hT
  simp only [Option.bind_some] at hT
  split at hT
  · rename_i cs el fr e
    injection hT with hT
    exact ⟨el, fr, by rw [e, hT]⟩
  · cases hT

/-- The walk of a law. -/
theorem walk_of {f : FuncId} {args : List Value} (hp : args.all plainB = true) (hx : yes f args = true) (w : World) (hw : TabsIn w tabs) :
    Calls Tryz.prog f ⟨args⟩ w fun e w' => e = .returned (.bool true) ∧ Below w.heap.size w w' :=
  law_calls lo_ok tabs_ok hp hx w hw

theorem gType : (Tryz.prog.globals[0]?).map (·.type) = some 205 := by kernel_rfl
theorem own : ownKnob Tryz.prog.godebug = none := by kernel_rfl

end Go.Proofs.YtgmdibmehojmlaaGreatDoor
