/- 'CheckerMeets' tells true, whatever it is given; a table of package math/bits is tied to the program text. Conditions: none. -/
import Derived.Test.YtgmdibmehojmlaaGreatDoorCheckerMeetsL
import Derived.Test.YtgmdibmehojmlaaGreatDoorCheckerMeetsCA
import Derived.Test.YtgmdibmehojmlaaGreatDoorCheckerMeetsCB
import Derived.Test.YtgmdibmehojmlaaGreatDoorCheckerMeetsCC
import Derived.Test.YtgmdibmehojmlaaGreatDoorCheckerMeetsCD
import Derived.Test.YtgmdibmehojmlaaGreatDoorCheckerMeetsCE
import Derived.Test.YtgmdibmehojmlaaGreatDoorCheckerMeetsCF
import Derived.Test.YtgmdibmehojmlaaGreatDoorCheckerMeetsCG
import Derived.Test.YtgmdibmehojmlaaGreatDoorCheckerMeetsCH
import Derived.Test.YtgmdibmehojmlaaGreatDoorCheckerMeetsCI
import Derived.Test.YtgmdibmehojmlaaGreatDoorCheckerMeetsCJ
import Derived.Test.YtgmdibmehojmlaaGreatDoorCards
import Derived.Test.YtgmdibmehojmlaaGreatDoorTie
import Derived.SevenTiedAt
namespace Go.Proofs.YtgmdibmehojmlaaGreatDoor.CheckerMeets
open Go Go.Ex Go.ChangeShapes Go.WideShapes Go.ChangeAt Go.RowKit
set_option maxRecDepth 100000

theorem n_1_1 (x2 : Int) : yes 9 [.int .i64 (.ofNat 1), .int .i64 (.ofNat 1), .int .i64 x2] = true := by
  match x2 with
  | .negSucc m => exact n_1_1_lo m
  | .ofNat 0 => exact n_1_1_z0
  | .ofNat 1 => exact n_1_1_1
  | .ofNat 2 => exact n_1_1_2
  | .ofNat 3 => exact n_1_1_3
  | .ofNat 4 => exact n_1_1_4
  | .ofNat 5 => exact n_1_1_5
  | .ofNat (m + 6) => exact n_1_1_hi m

theorem n_1_2 (x2 : Int) : yes 9 [.int .i64 (.ofNat 1), .int .i64 (.ofNat 2), .int .i64 x2] = true := by
  match x2 with
  | .negSucc m => exact n_1_2_lo m
  | .ofNat 0 => exact n_1_2_z0
  | .ofNat 1 => exact n_1_2_1
  | .ofNat 2 => exact n_1_2_2
  | .ofNat 3 => exact n_1_2_3
  | .ofNat 4 => exact n_1_2_4
  | .ofNat 5 => exact n_1_2_5
  | .ofNat (m + 6) => exact n_1_2_hi m

theorem n_1_3 (x2 : Int) : yes 9 [.int .i64 (.ofNat 1), .int .i64 (.ofNat 3), .int .i64 x2] = true := by
  match x2 with
  | .negSucc m => exact n_1_3_lo m
  | .ofNat 0 => exact n_1_3_z0
  | .ofNat 1 => exact n_1_3_1
  | .ofNat 2 => exact n_1_3_2
  | .ofNat 3 => exact n_1_3_3
  | .ofNat 4 => exact n_1_3_4
  | .ofNat 5 => exact n_1_3_5
  | .ofNat (m + 6) => exact n_1_3_hi m

theorem n_1_4 (x2 : Int) : yes 9 [.int .i64 (.ofNat 1), .int .i64 (.ofNat 4), .int .i64 x2] = true := by
  match x2 with
  | .negSucc m => exact n_1_4_lo m
  | .ofNat 0 => exact n_1_4_z0
  | .ofNat 1 => exact n_1_4_1
  | .ofNat 2 => exact n_1_4_2
  | .ofNat 3 => exact n_1_4_3
  | .ofNat 4 => exact n_1_4_4
  | .ofNat 5 => exact n_1_4_5
  | .ofNat (m + 6) => exact n_1_4_hi m

theorem n_1_5 (x2 : Int) : yes 9 [.int .i64 (.ofNat 1), .int .i64 (.ofNat 5), .int .i64 x2] = true := by
  match x2 with
  | .negSucc m => exact n_1_5_lo m
  | .ofNat 0 => exact n_1_5_z0
  | .ofNat 1 => exact n_1_5_1
  | .ofNat 2 => exact n_1_5_2
  | .ofNat 3 => exact n_1_5_3
  | .ofNat 4 => exact n_1_5_4
  | .ofNat 5 => exact n_1_5_5
  | .ofNat (m + 6) => exact n_1_5_hi m

theorem n_1 (x1 : Int) (x2 : Int) : yes 9 [.int .i64 (.ofNat 1), .int .i64 x1, .int .i64 x2] = true := by
  match x1 with
  | .negSucc m => exact n_1_lo m x2
  | .ofNat 0 => exact n_1_z0 x2
  | .ofNat 1 => exact n_1_1 x2
  | .ofNat 2 => exact n_1_2 x2
  | .ofNat 3 => exact n_1_3 x2
  | .ofNat 4 => exact n_1_4 x2
  | .ofNat 5 => exact n_1_5 x2
  | .ofNat (m + 6) => exact n_1_hi m x2

theorem n_2_1 (x2 : Int) : yes 9 [.int .i64 (.ofNat 2), .int .i64 (.ofNat 1), .int .i64 x2] = true := by
  match x2 with
  | .negSucc m => exact n_2_1_lo m
  | .ofNat 0 => exact n_2_1_z0
  | .ofNat 1 => exact n_2_1_1
  | .ofNat 2 => exact n_2_1_2
  | .ofNat 3 => exact n_2_1_3
  | .ofNat 4 => exact n_2_1_4
  | .ofNat 5 => exact n_2_1_5
  | .ofNat (m + 6) => exact n_2_1_hi m

theorem n_2_2 (x2 : Int) : yes 9 [.int .i64 (.ofNat 2), .int .i64 (.ofNat 2), .int .i64 x2] = true := by
  match x2 with
  | .negSucc m => exact n_2_2_lo m
  | .ofNat 0 => exact n_2_2_z0
  | .ofNat 1 => exact n_2_2_1
  | .ofNat 2 => exact n_2_2_2
  | .ofNat 3 => exact n_2_2_3
  | .ofNat 4 => exact n_2_2_4
  | .ofNat 5 => exact n_2_2_5
  | .ofNat (m + 6) => exact n_2_2_hi m

theorem n_2_3 (x2 : Int) : yes 9 [.int .i64 (.ofNat 2), .int .i64 (.ofNat 3), .int .i64 x2] = true := by
  match x2 with
  | .negSucc m => exact n_2_3_lo m
  | .ofNat 0 => exact n_2_3_z0
  | .ofNat 1 => exact n_2_3_1
  | .ofNat 2 => exact n_2_3_2
  | .ofNat 3 => exact n_2_3_3
  | .ofNat 4 => exact n_2_3_4
  | .ofNat 5 => exact n_2_3_5
  | .ofNat (m + 6) => exact n_2_3_hi m

theorem n_2_4 (x2 : Int) : yes 9 [.int .i64 (.ofNat 2), .int .i64 (.ofNat 4), .int .i64 x2] = true := by
  match x2 with
  | .negSucc m => exact n_2_4_lo m
  | .ofNat 0 => exact n_2_4_z0
  | .ofNat 1 => exact n_2_4_1
  | .ofNat 2 => exact n_2_4_2
  | .ofNat 3 => exact n_2_4_3
  | .ofNat 4 => exact n_2_4_4
  | .ofNat 5 => exact n_2_4_5
  | .ofNat (m + 6) => exact n_2_4_hi m

theorem n_2_5 (x2 : Int) : yes 9 [.int .i64 (.ofNat 2), .int .i64 (.ofNat 5), .int .i64 x2] = true := by
  match x2 with
  | .negSucc m => exact n_2_5_lo m
  | .ofNat 0 => exact n_2_5_z0
  | .ofNat 1 => exact n_2_5_1
  | .ofNat 2 => exact n_2_5_2
  | .ofNat 3 => exact n_2_5_3
  | .ofNat 4 => exact n_2_5_4
  | .ofNat 5 => exact n_2_5_5
  | .ofNat (m + 6) => exact n_2_5_hi m

theorem n_2 (x1 : Int) (x2 : Int) : yes 9 [.int .i64 (.ofNat 2), .int .i64 x1, .int .i64 x2] = true := by
  match x1 with
  | .negSucc m => exact n_2_lo m x2
  | .ofNat 0 => exact n_2_z0 x2
  | .ofNat 1 => exact n_2_1 x2
  | .ofNat 2 => exact n_2_2 x2
  | .ofNat 3 => exact n_2_3 x2
  | .ofNat 4 => exact n_2_4 x2
  | .ofNat 5 => exact n_2_5 x2
  | .ofNat (m + 6) => exact n_2_hi m x2

theorem n_3_1 (x2 : Int) : yes 9 [.int .i64 (.ofNat 3), .int .i64 (.ofNat 1), .int .i64 x2] = true := by
  match x2 with
  | .negSucc m => exact n_3_1_lo m
  | .ofNat 0 => exact n_3_1_z0
  | .ofNat 1 => exact n_3_1_1
  | .ofNat 2 => exact n_3_1_2
  | .ofNat 3 => exact n_3_1_3
  | .ofNat 4 => exact n_3_1_4
  | .ofNat 5 => exact n_3_1_5
  | .ofNat (m + 6) => exact n_3_1_hi m

theorem n_3_2 (x2 : Int) : yes 9 [.int .i64 (.ofNat 3), .int .i64 (.ofNat 2), .int .i64 x2] = true := by
  match x2 with
  | .negSucc m => exact n_3_2_lo m
  | .ofNat 0 => exact n_3_2_z0
  | .ofNat 1 => exact n_3_2_1
  | .ofNat 2 => exact n_3_2_2
  | .ofNat 3 => exact n_3_2_3
  | .ofNat 4 => exact n_3_2_4
  | .ofNat 5 => exact n_3_2_5
  | .ofNat (m + 6) => exact n_3_2_hi m

theorem n_3_3 (x2 : Int) : yes 9 [.int .i64 (.ofNat 3), .int .i64 (.ofNat 3), .int .i64 x2] = true := by
  match x2 with
  | .negSucc m => exact n_3_3_lo m
  | .ofNat 0 => exact n_3_3_z0
  | .ofNat 1 => exact n_3_3_1
  | .ofNat 2 => exact n_3_3_2
  | .ofNat 3 => exact n_3_3_3
  | .ofNat 4 => exact n_3_3_4
  | .ofNat 5 => exact n_3_3_5
  | .ofNat (m + 6) => exact n_3_3_hi m

theorem n_3_4 (x2 : Int) : yes 9 [.int .i64 (.ofNat 3), .int .i64 (.ofNat 4), .int .i64 x2] = true := by
  match x2 with
  | .negSucc m => exact n_3_4_lo m
  | .ofNat 0 => exact n_3_4_z0
  | .ofNat 1 => exact n_3_4_1
  | .ofNat 2 => exact n_3_4_2
  | .ofNat 3 => exact n_3_4_3
  | .ofNat 4 => exact n_3_4_4
  | .ofNat 5 => exact n_3_4_5
  | .ofNat (m + 6) => exact n_3_4_hi m

theorem n_3_5 (x2 : Int) : yes 9 [.int .i64 (.ofNat 3), .int .i64 (.ofNat 5), .int .i64 x2] = true := by
  match x2 with
  | .negSucc m => exact n_3_5_lo m
  | .ofNat 0 => exact n_3_5_z0
  | .ofNat 1 => exact n_3_5_1
  | .ofNat 2 => exact n_3_5_2
  | .ofNat 3 => exact n_3_5_3
  | .ofNat 4 => exact n_3_5_4
  | .ofNat 5 => exact n_3_5_5
  | .ofNat (m + 6) => exact n_3_5_hi m

theorem n_3 (x1 : Int) (x2 : Int) : yes 9 [.int .i64 (.ofNat 3), .int .i64 x1, .int .i64 x2] = true := by
  match x1 with
  | .negSucc m => exact n_3_lo m x2
  | .ofNat 0 => exact n_3_z0 x2
  | .ofNat 1 => exact n_3_1 x2
  | .ofNat 2 => exact n_3_2 x2
  | .ofNat 3 => exact n_3_3 x2
  | .ofNat 4 => exact n_3_4 x2
  | .ofNat 5 => exact n_3_5 x2
  | .ofNat (m + 6) => exact n_3_hi m x2

theorem n_4_1 (x2 : Int) : yes 9 [.int .i64 (.ofNat 4), .int .i64 (.ofNat 1), .int .i64 x2] = true := by
  match x2 with
  | .negSucc m => exact n_4_1_lo m
  | .ofNat 0 => exact n_4_1_z0
  | .ofNat 1 => exact n_4_1_1
  | .ofNat 2 => exact n_4_1_2
  | .ofNat 3 => exact n_4_1_3
  | .ofNat 4 => exact n_4_1_4
  | .ofNat 5 => exact n_4_1_5
  | .ofNat (m + 6) => exact n_4_1_hi m

theorem n_4_2 (x2 : Int) : yes 9 [.int .i64 (.ofNat 4), .int .i64 (.ofNat 2), .int .i64 x2] = true := by
  match x2 with
  | .negSucc m => exact n_4_2_lo m
  | .ofNat 0 => exact n_4_2_z0
  | .ofNat 1 => exact n_4_2_1
  | .ofNat 2 => exact n_4_2_2
  | .ofNat 3 => exact n_4_2_3
  | .ofNat 4 => exact n_4_2_4
  | .ofNat 5 => exact n_4_2_5
  | .ofNat (m + 6) => exact n_4_2_hi m

theorem n_4_3 (x2 : Int) : yes 9 [.int .i64 (.ofNat 4), .int .i64 (.ofNat 3), .int .i64 x2] = true := by
  match x2 with
  | .negSucc m => exact n_4_3_lo m
  | .ofNat 0 => exact n_4_3_z0
  | .ofNat 1 => exact n_4_3_1
  | .ofNat 2 => exact n_4_3_2
  | .ofNat 3 => exact n_4_3_3
  | .ofNat 4 => exact n_4_3_4
  | .ofNat 5 => exact n_4_3_5
  | .ofNat (m + 6) => exact n_4_3_hi m

theorem n_4_4 (x2 : Int) : yes 9 [.int .i64 (.ofNat 4), .int .i64 (.ofNat 4), .int .i64 x2] = true := by
  match x2 with
  | .negSucc m => exact n_4_4_lo m
  | .ofNat 0 => exact n_4_4_z0
  | .ofNat 1 => exact n_4_4_1
  | .ofNat 2 => exact n_4_4_2
  | .ofNat 3 => exact n_4_4_3
  | .ofNat 4 => exact n_4_4_4
  | .ofNat 5 => exact n_4_4_5
  | .ofNat (m + 6) => exact n_4_4_hi m

theorem n_4_5 (x2 : Int) : yes 9 [.int .i64 (.ofNat 4), .int .i64 (.ofNat 5), .int .i64 x2] = true := by
  match x2 with
  | .negSucc m => exact n_4_5_lo m
  | .ofNat 0 => exact n_4_5_z0
  | .ofNat 1 => exact n_4_5_1
  | .ofNat 2 => exact n_4_5_2
  | .ofNat 3 => exact n_4_5_3
  | .ofNat 4 => exact n_4_5_4
  | .ofNat 5 => exact n_4_5_5
  | .ofNat (m + 6) => exact n_4_5_hi m

theorem n_4 (x1 : Int) (x2 : Int) : yes 9 [.int .i64 (.ofNat 4), .int .i64 x1, .int .i64 x2] = true := by
  match x1 with
  | .negSucc m => exact n_4_lo m x2
  | .ofNat 0 => exact n_4_z0 x2
  | .ofNat 1 => exact n_4_1 x2
  | .ofNat 2 => exact n_4_2 x2
  | .ofNat 3 => exact n_4_3 x2
  | .ofNat 4 => exact n_4_4 x2
  | .ofNat 5 => exact n_4_5 x2
  | .ofNat (m + 6) => exact n_4_hi m x2

theorem n_5_1 (x2 : Int) : yes 9 [.int .i64 (.ofNat 5), .int .i64 (.ofNat 1), .int .i64 x2] = true := by
  match x2 with
  | .negSucc m => exact n_5_1_lo m
  | .ofNat 0 => exact n_5_1_z0
  | .ofNat 1 => exact n_5_1_1
  | .ofNat 2 => exact n_5_1_2
  | .ofNat 3 => exact n_5_1_3
  | .ofNat 4 => exact n_5_1_4
  | .ofNat 5 => exact n_5_1_5
  | .ofNat (m + 6) => exact n_5_1_hi m

theorem n_5_2 (x2 : Int) : yes 9 [.int .i64 (.ofNat 5), .int .i64 (.ofNat 2), .int .i64 x2] = true := by
  match x2 with
  | .negSucc m => exact n_5_2_lo m
  | .ofNat 0 => exact n_5_2_z0
  | .ofNat 1 => exact n_5_2_1
  | .ofNat 2 => exact n_5_2_2
  | .ofNat 3 => exact n_5_2_3
  | .ofNat 4 => exact n_5_2_4
  | .ofNat 5 => exact n_5_2_5
  | .ofNat (m + 6) => exact n_5_2_hi m

theorem n_5_3 (x2 : Int) : yes 9 [.int .i64 (.ofNat 5), .int .i64 (.ofNat 3), .int .i64 x2] = true := by
  match x2 with
  | .negSucc m => exact n_5_3_lo m
  | .ofNat 0 => exact n_5_3_z0
  | .ofNat 1 => exact n_5_3_1
  | .ofNat 2 => exact n_5_3_2
  | .ofNat 3 => exact n_5_3_3
  | .ofNat 4 => exact n_5_3_4
  | .ofNat 5 => exact n_5_3_5
  | .ofNat (m + 6) => exact n_5_3_hi m

theorem n_5_4 (x2 : Int) : yes 9 [.int .i64 (.ofNat 5), .int .i64 (.ofNat 4), .int .i64 x2] = true := by
  match x2 with
  | .negSucc m => exact n_5_4_lo m
  | .ofNat 0 => exact n_5_4_z0
  | .ofNat 1 => exact n_5_4_1
  | .ofNat 2 => exact n_5_4_2
  | .ofNat 3 => exact n_5_4_3
  | .ofNat 4 => exact n_5_4_4
  | .ofNat 5 => exact n_5_4_5
  | .ofNat (m + 6) => exact n_5_4_hi m

theorem n_5_5 (x2 : Int) : yes 9 [.int .i64 (.ofNat 5), .int .i64 (.ofNat 5), .int .i64 x2] = true := by
  match x2 with
  | .negSucc m => exact n_5_5_lo m
  | .ofNat 0 => exact n_5_5_z0
  | .ofNat 1 => exact n_5_5_1
  | .ofNat 2 => exact n_5_5_2
  | .ofNat 3 => exact n_5_5_3
  | .ofNat 4 => exact n_5_5_4
  | .ofNat 5 => exact n_5_5_5
  | .ofNat (m + 6) => exact n_5_5_hi m

theorem n_5 (x1 : Int) (x2 : Int) : yes 9 [.int .i64 (.ofNat 5), .int .i64 x1, .int .i64 x2] = true := by
  match x1 with
  | .negSucc m => exact n_5_lo m x2
  | .ofNat 0 => exact n_5_z0 x2
  | .ofNat 1 => exact n_5_1 x2
  | .ofNat 2 => exact n_5_2 x2
  | .ofNat 3 => exact n_5_3 x2
  | .ofNat 4 => exact n_5_4 x2
  | .ofNat 5 => exact n_5_5 x2
  | .ofNat (m + 6) => exact n_5_hi m x2

theorem n (x0 : Int) (x1 : Int) (x2 : Int) : yes 9 [.int .i64 x0, .int .i64 x1, .int .i64 x2] = true := by
  match x0 with
  | .negSucc m => exact n_lo m x1 x2
  | .ofNat 0 => exact n_z0 x1 x2
  | .ofNat 1 => exact n_1 x1 x2
  | .ofNat 2 => exact n_2 x1 x2
  | .ofNat 3 => exact n_3 x1 x2
  | .ofNat 4 => exact n_4 x1 x2
  | .ofNat 5 => exact n_5 x1 x2
  | .ofNat (m + 6) => exact n_hi m x1 x2

theorem walk (a0 : Int) (a1 : Int) (a2 : Int) (w : World) (hw : TabsIn w tabs) :
    Calls Tryz.prog 9 #[.int .i64 a0, .int .i64 a1, .int .i64 a2] w fun e w' => e = .returned (.bool true) ∧ Below w.heap.size w w' :=
  walk_of (by rfl) (n a0 a1 a2) w hw

/-- The door's own heap meets the condition. -/
theorem door_met (os : Os) (args : Array Value) : laidMetH Tryz.prog Rows.checkerMeetsRow.laid ((World.doorLaid Tryz.prog 400 os).forCall (fun _ _ => 0) ⟨#[], args, []⟩).memory :=
  laidMetH_of_parts3 (fuel := 8) (laidMet_of_run' 8 (by kernel_rfl) (by kernel_rfl)) (by kernel_rfl) (by kernel_rfl)

theorem tab_of {W : World} (h : laidMetH Tryz.prog Rows.checkerMeetsRow.laid W) : TabsIn W tabs := by
  rw [MakeChecks.laidMetH_plain _ _ _ (by kernel_rfl)] at h
  have h' : laidMet Tryz.prog (("math/bits.deBruijn64tab", Lib.tabData .u8 zs) :: []) W := h
  have hT := Lib.tabIs_of_head gTab gType Tryz.underlying205 Tryz.underlying5 (by kernel_rfl) (by kernel_rfl) h'
  exact tab_in hT gTab

theorem lifted (os : Os) (started : os.Started) (H : Type) (enc : TypeId × Value → H) :
    ReturnsInHanded {} Tryz.checked os 9 .any (fun w args => (Rows.checkerMeetsSpec.pre enc Tryz.prog Tryz.f9 [] false w args ∧ laidMetH Tryz.prog Rows.checkerMeetsRow.laid w) ∧ sizedMet enc Tryz.prog Tryz.f9 (OpenSpec.ofChange Rows.checkerMeetsSpec) false w args)
      (Rows.checkerMeetsSpec.post enc Tryz.prog Tryz.f9 false true false false) := by
  refine returnsInHanded_of_change_and (C := Tryz.checked) (X := fun w _ => laidMetH Tryz.prog Rows.checkerMeetsRow.laid w) (fun _ _ _ hh h => h.of_heap hh) own started (by kernel_rfl) Tryz.func9
    (ChangeSpec.witness_shaped (enc := enc) (C := Tryz.checked) (os := os) (X := fun w _ => laidMetH Tryz.prog Rows.checkerMeetsRow.laid w) false (World.doorLaid Tryz.prog 400 os) #[.int .i64 0, .int .i64 0, .int .i64 0] 8 rfl (World.shaped_of_RefB (by kernel_rfl) (by kernel_rfl)) (by kernel_rfl) (by kernel_rfl) (by kernel_rfl) (door_met os _)) ?_
  intro W base args ds gs before hval0 hW _ _ hL _
  have hval : ∀ (j : Nat) t v, Tryz.f9.params[j]? = some t → args[j]? = some v → Value.okWide Tryz.prog W .any base t v := hval0
  have hW' := hW
  obtain ⟨p, q, hA0, hV, rfl, hfz, hnd⟩ := hW
  have hA : DataW.TrodAll enc Tryz.prog W 0 (fun _ => true) true Tryz.f9.params.toList args.toList ds p := hA0
  rw [Tryz.params9] at hA hval
  obtain ⟨v0, vs0, d0, ds0, p0, q0, hargs, rfl, rfl, h0, r0⟩ := trodAll_cons hA
  obtain ⟨v1, vs1, d1, ds1, p1, q1, rfl, rfl, rfl, h1, r1⟩ := trodAll_cons r0
  obtain ⟨v2, vs2, d2, ds2, p2, q2, rfl, rfl, rfl, h2, r2⟩ := trodAll_cons r1
  obtain ⟨rfl, rfl, rfl⟩ := trodAll_nil r2
  obtain rfl : args = #[v0, v1, v2] := by cases args; simp_all
  obtain ⟨rfl, rfl⟩ := trodVars_none hV
  obtain ⟨a0, rfl, rfl, rfl, w0⟩ := open_int Tryz.underlying3 (hval 0 3 v0 rfl rfl) h0
  obtain ⟨a1, rfl, rfl, rfl, w1⟩ := open_int Tryz.underlying3 (hval 1 3 v1 rfl rfl) h1
  obtain ⟨a2, rfl, rfl, rfl, w2⟩ := open_int Tryz.underlying3 (hval 2 3 v2 rfl rfl) h2
  clear hA0 hval0
  have hw := tab_of hL
  refine (walk a0 a1 a2 W hw).mono fun e W' ⟨he, bel⟩ => ?_
  subst he
  exact ⟨_, rfl, _, _, _, [], _, [], hW', trodAll_mk1 (shut_bool Tryz.underlying4 _), (trodAll_cons_mk (shut_int Tryz.underlying3 w0) (trodAll_cons_mk (shut_int Tryz.underlying3 w1) (trodAll_cons_mk (shut_int Tryz.underlying3 w2) trodAll_mk0))), rfl, bel.frame _, fun h => by cases h⟩

theorem over : Rows.CheckerMeetsSaid :=
  OpenClaim.holds_of_wide 9 Tryz.f9 rfl rfl rfl rfl rfl rfl rfl ⟨rfl, rfl, rfl, rfl, rfl⟩ rfl rfl rfl rfl rfl (by kernel_rfl) Tryz.func9 (by kernel_rfl)
    (of_decide_eq_true (by kernel_rfl)) (by unfold Func.isWrapper; first | (rw [if_pos (by decide +kernel)]; kernel_rfl) | (rw [if_neg (by decide +kernel)]; exact ⟨rfl, rfl⟩))
    (fun os started H enc _ => lifted os started H enc)

theorem holds : Rows.CheckerMeetsCardSaid :=
  Claim7.holds_tied_plain_at .later [] [.data] true (true, "3b0b5299996ae24a77c2979520aa1dc02319b346a83fa4e06b01e0739d5600f9") true
    over (fun _ h => by cases h) (by kernel_rfl) (fun _ h => by cases h) checkerMeets_row_tie rfl ⟨rfl, rfl⟩ (by kernel_rfl) rfl
    (fun f fn hf hfn => by
      obtain rfl : f = 9 := Option.some.inj ((show Tryz.prog.funcNamed "pigeonhole/pigeonholelaw21.CheckerMeets" = some 9 by kernel_rfl).symm.trans hf) |>.symm
      obtain rfl : fn = Tryz.f9 := (Option.some.inj (Tryz.func9.symm.trans hfn)).symm
      exact ⟨by kernel_rfl, fun j t ht => by
        rw [Tryz.params9] at ht
        have hm : t ∈ [3, 3, 3] := by simpa using Array.mem_of_getElem? ht
        have hall : ([3, 3, 3].all fun u => !Tryz.prog.wantsStandIn u) = true := by kernel_rfl
        exact (show Tryz.prog.wantsStandIn t = false by simpa using List.all_eq_true.1 hall t hm)⟩)
    (by kernel_rfl)
#print axioms holds
end Go.Proofs.YtgmdibmehojmlaaGreatDoor.CheckerMeets
