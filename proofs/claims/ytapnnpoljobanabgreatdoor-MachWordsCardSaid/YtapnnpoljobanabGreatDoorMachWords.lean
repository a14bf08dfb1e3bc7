/- 'MachWords' tells true, whatever it is given; a table of package math/bits is tied to the program text. Conditions: none. -/
import Derived.Test.YtapnnpoljobanabGreatDoorMachWordsL
import Derived.Test.YtapnnpoljobanabGreatDoorMachWordsCA
import Derived.Test.YtapnnpoljobanabGreatDoorMachWordsCB
import Derived.Test.YtapnnpoljobanabGreatDoorMachWordsCC
import Derived.Test.YtapnnpoljobanabGreatDoorMachWordsCD
import Derived.Test.YtapnnpoljobanabGreatDoorMachWordsCE
import Derived.Test.YtapnnpoljobanabGreatDoorMachWordsCF
import Derived.Test.YtapnnpoljobanabGreatDoorMachWordsCG
import Derived.Test.YtapnnpoljobanabGreatDoorMachWordsCH
import Derived.Test.YtapnnpoljobanabGreatDoorMachWordsCI
import Derived.Test.YtapnnpoljobanabGreatDoorMachWordsCJ
import Derived.Test.YtapnnpoljobanabGreatDoorMachWordsCK
import Derived.Test.YtapnnpoljobanabGreatDoorMachWordsCM
import Derived.Test.YtapnnpoljobanabGreatDoorMachWordsCN
import Derived.Test.YtapnnpoljobanabGreatDoorMachWordsCO
import Derived.Test.YtapnnpoljobanabGreatDoorMachWordsCP
import Derived.Test.YtapnnpoljobanabGreatDoorMachWordsCQ
import Derived.Test.YtapnnpoljobanabGreatDoorCards
import Derived.Test.YtapnnpoljobanabGreatDoorTie
import Derived.SevenTiedAt
import Derived.Lay
namespace Go.Proofs.YtapnnpoljobanabGreatDoor.MachWords
open Go Go.Ex Go.ChangeShapes Go.WideShapes Go.ChangeAt Go.RowKit
set_option maxRecDepth 100000

theorem n_0 (x0 : Int) : ∀ M : Int, yesM M 4 [.int .i64 x0, .int .i64 (.ofNat 0)] = true := by
  match x0 with
  | .ofNat 0 => exact n_0_0
  | .ofNat 1 => exact n_0_1
  | .ofNat 2 => exact n_0_2
  | .ofNat 3 => exact n_0_3
  | .ofNat 4 => exact n_0_4
  | .ofNat 5 => exact n_0_5
  | .ofNat 6 => exact n_0_6
  | .ofNat 7 => exact n_0_7
  | .ofNat 8 => exact n_0_8
  | .ofNat 9 => exact n_0_9
  | .negSucc m => exact n_0_lo m
  | .ofNat (m + 10) => exact n_0_hi m

theorem n_1 (x0 : Int) : ∀ M : Int, yesM M 4 [.int .i64 x0, .int .i64 (.ofNat 1)] = true := by
  match x0 with
  | .ofNat 0 => exact n_1_0
  | .ofNat 1 => exact n_1_1
  | .ofNat 2 => exact n_1_2
  | .ofNat 3 => exact n_1_3
  | .ofNat 4 => exact n_1_4
  | .ofNat 5 => exact n_1_5
  | .ofNat 6 => exact n_1_6
  | .ofNat 7 => exact n_1_7
  | .ofNat 8 => exact n_1_8
  | .ofNat 9 => exact n_1_9
  | .negSucc m => exact n_1_lo m
  | .ofNat (m + 10) => exact n_1_hi m

theorem n_2 (x0 : Int) : ∀ M : Int, yesM M 4 [.int .i64 x0, .int .i64 (.ofNat 2)] = true := by
  match x0 with
  | .ofNat 0 => exact n_2_0
  | .ofNat 1 => exact n_2_1
  | .ofNat 2 => exact n_2_2
  | .ofNat 3 => exact n_2_3
  | .ofNat 4 => exact n_2_4
  | .ofNat 5 => exact n_2_5
  | .ofNat 6 => exact n_2_6
  | .ofNat 7 => exact n_2_7
  | .ofNat 8 => exact n_2_8
  | .ofNat 9 => exact n_2_9
  | .negSucc m => exact n_2_lo m
  | .ofNat (m + 10) => exact n_2_hi m

theorem n_3 (x0 : Int) : ∀ M : Int, yesM M 4 [.int .i64 x0, .int .i64 (.ofNat 3)] = true := by
  match x0 with
  | .ofNat 0 => exact n_3_0
  | .ofNat 1 => exact n_3_1
  | .ofNat 2 => exact n_3_2
  | .ofNat 3 => exact n_3_3
  | .ofNat 4 => exact n_3_4
  | .ofNat 5 => exact n_3_5
  | .ofNat 6 => exact n_3_6
  | .ofNat 7 => exact n_3_7
  | .ofNat 8 => exact n_3_8
  | .ofNat 9 => exact n_3_9
  | .negSucc m => exact n_3_lo m
  | .ofNat (m + 10) => exact n_3_hi m

theorem n_4 (x0 : Int) : ∀ M : Int, yesM M 4 [.int .i64 x0, .int .i64 (.ofNat 4)] = true := by
  match x0 with
  | .ofNat 0 => exact n_4_0
  | .ofNat 1 => exact n_4_1
  | .ofNat 2 => exact n_4_2
  | .ofNat 3 => exact n_4_3
  | .ofNat 4 => exact n_4_4
  | .ofNat 5 => exact n_4_5
  | .ofNat 6 => exact n_4_6
  | .ofNat 7 => exact n_4_7
  | .ofNat 8 => exact n_4_8
  | .ofNat 9 => exact n_4_9
  | .negSucc m => exact n_4_lo m
  | .ofNat (m + 10) => exact n_4_hi m

theorem n_5 (x0 : Int) : ∀ M : Int, yesM M 4 [.int .i64 x0, .int .i64 (.ofNat 5)] = true := by
  match x0 with
  | .ofNat 0 => exact n_5_0
  | .ofNat 1 => exact n_5_1
  | .ofNat 2 => exact n_5_2
  | .ofNat 3 => exact n_5_3
  | .ofNat 4 => exact n_5_4
  | .ofNat 5 => exact n_5_5
  | .ofNat 6 => exact n_5_6
  | .ofNat 7 => exact n_5_7
  | .ofNat 8 => exact n_5_8
  | .ofNat 9 => exact n_5_9
  | .negSucc m => exact n_5_lo m
  | .ofNat (m + 10) => exact n_5_hi m

theorem n_6 (x0 : Int) : ∀ M : Int, yesM M 4 [.int .i64 x0, .int .i64 (.ofNat 6)] = true := by
  match x0 with
  | .ofNat 0 => exact n_6_0
  | .ofNat 1 => exact n_6_1
  | .ofNat 2 => exact n_6_2
  | .ofNat 3 => exact n_6_3
  | .ofNat 4 => exact n_6_4
  | .ofNat 5 => exact n_6_5
  | .ofNat 6 => exact n_6_6
  | .ofNat 7 => exact n_6_7
  | .ofNat 8 => exact n_6_8
  | .ofNat 9 => exact n_6_9
  | .negSucc m => exact n_6_lo m
  | .ofNat (m + 10) => exact n_6_hi m

theorem n_7 (x0 : Int) : ∀ M : Int, yesM M 4 [.int .i64 x0, .int .i64 (.ofNat 7)] = true := by
  match x0 with
  | .ofNat 0 => exact n_7_0
  | .ofNat 1 => exact n_7_1
  | .ofNat 2 => exact n_7_2
  | .ofNat 3 => exact n_7_3
  | .ofNat 4 => exact n_7_4
  | .ofNat 5 => exact n_7_5
  | .ofNat 6 => exact n_7_6
  | .ofNat 7 => exact n_7_7
  | .ofNat 8 => exact n_7_8
  | .ofNat 9 => exact n_7_9
  | .negSucc m => exact n_7_lo m
  | .ofNat (m + 10) => exact n_7_hi m

theorem n_8 (x0 : Int) : ∀ M : Int, yesM M 4 [.int .i64 x0, .int .i64 (.ofNat 8)] = true := by
  match x0 with
  | .ofNat 0 => exact n_8_0
  | .ofNat 1 => exact n_8_1
  | .ofNat 2 => exact n_8_2
  | .ofNat 3 => exact n_8_3
  | .ofNat 4 => exact n_8_4
  | .ofNat 5 => exact n_8_5
  | .ofNat 6 => exact n_8_6
  | .ofNat 7 => exact n_8_7
  | .ofNat 8 => exact n_8_8
  | .ofNat 9 => exact n_8_9
  | .negSucc m => exact n_8_lo m
  | .ofNat (m + 10) => exact n_8_hi m

theorem n_9 (x0 : Int) : ∀ M : Int, yesM M 4 [.int .i64 x0, .int .i64 (.ofNat 9)] = true := by
  match x0 with
  | .ofNat 0 => exact n_9_0
  | .ofNat 1 => exact n_9_1
  | .ofNat 2 => exact n_9_2
  | .ofNat 3 => exact n_9_3
  | .ofNat 4 => exact n_9_4
  | .ofNat 5 => exact n_9_5
  | .ofNat 6 => exact n_9_6
  | .ofNat 7 => exact n_9_7
  | .ofNat 8 => exact n_9_8
  | .ofNat 9 => exact n_9_9
  | .negSucc m => exact n_9_lo m
  | .ofNat (m + 10) => exact n_9_hi m

theorem n_10 (x0 : Int) : ∀ M : Int, yesM M 4 [.int .i64 x0, .int .i64 (.ofNat 10)] = true := by
  match x0 with
  | .ofNat 0 => exact n_10_0
  | .ofNat 1 => exact n_10_1
  | .ofNat 2 => exact n_10_2
  | .ofNat 3 => exact n_10_3
  | .ofNat 4 => exact n_10_4
  | .ofNat 5 => exact n_10_5
  | .ofNat 6 => exact n_10_6
  | .ofNat 7 => exact n_10_7
  | .ofNat 8 => exact n_10_8
  | .ofNat 9 => exact n_10_9
  | .negSucc m => exact n_10_lo m
  | .ofNat (m + 10) => exact n_10_hi m

theorem n_11 (x0 : Int) : ∀ M : Int, yesM M 4 [.int .i64 x0, .int .i64 (.ofNat 11)] = true := by
  match x0 with
  | .ofNat 0 => exact n_11_0
  | .ofNat 1 => exact n_11_1
  | .ofNat 2 => exact n_11_2
  | .ofNat 3 => exact n_11_3
  | .ofNat 4 => exact n_11_4
  | .ofNat 5 => exact n_11_5
  | .ofNat 6 => exact n_11_6
  | .ofNat 7 => exact n_11_7
  | .ofNat 8 => exact n_11_8
  | .ofNat 9 => exact n_11_9
  | .negSucc m => exact n_11_lo m
  | .ofNat (m + 10) => exact n_11_hi m

theorem n_12 (x0 : Int) : ∀ M : Int, yesM M 4 [.int .i64 x0, .int .i64 (.ofNat 12)] = true := by
  match x0 with
  | .ofNat 0 => exact n_12_0
  | .ofNat 1 => exact n_12_1
  | .ofNat 2 => exact n_12_2
  | .ofNat 3 => exact n_12_3
  | .ofNat 4 => exact n_12_4
  | .ofNat 5 => exact n_12_5
  | .ofNat 6 => exact n_12_6
  | .ofNat 7 => exact n_12_7
  | .ofNat 8 => exact n_12_8
  | .ofNat 9 => exact n_12_9
  | .negSucc m => exact n_12_lo m
  | .ofNat (m + 10) => exact n_12_hi m

theorem n_13 (x0 : Int) : ∀ M : Int, yesM M 4 [.int .i64 x0, .int .i64 (.ofNat 13)] = true := by
  match x0 with
  | .ofNat 0 => exact n_13_0
  | .ofNat 1 => exact n_13_1
  | .ofNat 2 => exact n_13_2
  | .ofNat 3 => exact n_13_3
  | .ofNat 4 => exact n_13_4
  | .ofNat 5 => exact n_13_5
  | .ofNat 6 => exact n_13_6
  | .ofNat 7 => exact n_13_7
  | .ofNat 8 => exact n_13_8
  | .ofNat 9 => exact n_13_9
  | .negSucc m => exact n_13_lo m
  | .ofNat (m + 10) => exact n_13_hi m

theorem n_14 (x0 : Int) : ∀ M : Int, yesM M 4 [.int .i64 x0, .int .i64 (.ofNat 14)] = true := by
  match x0 with
  | .ofNat 0 => exact n_14_0
  | .ofNat 1 => exact n_14_1
  | .ofNat 2 => exact n_14_2
  | .ofNat 3 => exact n_14_3
  | .ofNat 4 => exact n_14_4
  | .ofNat 5 => exact n_14_5
  | .ofNat 6 => exact n_14_6
  | .ofNat 7 => exact n_14_7
  | .ofNat 8 => exact n_14_8
  | .ofNat 9 => exact n_14_9
  | .negSucc m => exact n_14_lo m
  | .ofNat (m + 10) => exact n_14_hi m

theorem n_15 (x0 : Int) : ∀ M : Int, yesM M 4 [.int .i64 x0, .int .i64 (.ofNat 15)] = true := by
  match x0 with
  | .ofNat 0 => exact n_15_0
  | .ofNat 1 => exact n_15_1
  | .ofNat 2 => exact n_15_2
  | .ofNat 3 => exact n_15_3
  | .ofNat 4 => exact n_15_4
  | .ofNat 5 => exact n_15_5
  | .ofNat 6 => exact n_15_6
  | .ofNat 7 => exact n_15_7
  | .ofNat 8 => exact n_15_8
  | .ofNat 9 => exact n_15_9
  | .negSucc m => exact n_15_lo m
  | .ofNat (m + 10) => exact n_15_hi m

theorem n_16 (x0 : Int) : ∀ M : Int, yesM M 4 [.int .i64 x0, .int .i64 (.ofNat 16)] = true := by
  match x0 with
  | .ofNat 0 => exact n_16_0
  | .ofNat 1 => exact n_16_1
  | .ofNat 2 => exact n_16_2
  | .ofNat 3 => exact n_16_3
  | .ofNat 4 => exact n_16_4
  | .ofNat 5 => exact n_16_5
  | .ofNat 6 => exact n_16_6
  | .ofNat 7 => exact n_16_7
  | .ofNat 8 => exact n_16_8
  | .ofNat 9 => exact n_16_9
  | .negSucc m => exact n_16_lo m
  | .ofNat (m + 10) => exact n_16_hi m

theorem n_17 (x0 : Int) : ∀ M : Int, yesM M 4 [.int .i64 x0, .int .i64 (.ofNat 17)] = true := by
  match x0 with
  | .ofNat 0 => exact n_17_0
  | .ofNat 1 => exact n_17_1
  | .ofNat 2 => exact n_17_2
  | .ofNat 3 => exact n_17_3
  | .ofNat 4 => exact n_17_4
  | .ofNat 5 => exact n_17_5
  | .ofNat 6 => exact n_17_6
  | .ofNat 7 => exact n_17_7
  | .ofNat 8 => exact n_17_8
  | .ofNat 9 => exact n_17_9
  | .negSucc m => exact n_17_lo m
  | .ofNat (m + 10) => exact n_17_hi m

theorem n_18 (x0 : Int) : ∀ M : Int, yesM M 4 [.int .i64 x0, .int .i64 (.ofNat 18)] = true := by
  match x0 with
  | .ofNat 0 => exact n_18_0
  | .ofNat 1 => exact n_18_1
  | .ofNat 2 => exact n_18_2
  | .ofNat 3 => exact n_18_3
  | .ofNat 4 => exact n_18_4
  | .ofNat 5 => exact n_18_5
  | .ofNat 6 => exact n_18_6
  | .ofNat 7 => exact n_18_7
  | .ofNat 8 => exact n_18_8
  | .ofNat 9 => exact n_18_9
  | .negSucc m => exact n_18_lo m
  | .ofNat (m + 10) => exact n_18_hi m

theorem n_19 (x0 : Int) : ∀ M : Int, yesM M 4 [.int .i64 x0, .int .i64 (.ofNat 19)] = true := by
  match x0 with
  | .ofNat 0 => exact n_19_0
  | .ofNat 1 => exact n_19_1
  | .ofNat 2 => exact n_19_2
  | .ofNat 3 => exact n_19_3
  | .ofNat 4 => exact n_19_4
  | .ofNat 5 => exact n_19_5
  | .ofNat 6 => exact n_19_6
  | .ofNat 7 => exact n_19_7
  | .ofNat 8 => exact n_19_8
  | .ofNat 9 => exact n_19_9
  | .negSucc m => exact n_19_lo m
  | .ofNat (m + 10) => exact n_19_hi m

theorem n_20 (x0 : Int) : ∀ M : Int, yesM M 4 [.int .i64 x0, .int .i64 (.ofNat 20)] = true := by
  match x0 with
  | .ofNat 0 => exact n_20_0
  | .ofNat 1 => exact n_20_1
  | .ofNat 2 => exact n_20_2
  | .ofNat 3 => exact n_20_3
  | .ofNat 4 => exact n_20_4
  | .ofNat 5 => exact n_20_5
  | .ofNat 6 => exact n_20_6
  | .ofNat 7 => exact n_20_7
  | .ofNat 8 => exact n_20_8
  | .ofNat 9 => exact n_20_9
  | .negSucc m => exact n_20_lo m
  | .ofNat (m + 10) => exact n_20_hi m

theorem n_21 (x0 : Int) : ∀ M : Int, yesM M 4 [.int .i64 x0, .int .i64 (.ofNat 21)] = true := by
  match x0 with
  | .ofNat 0 => exact n_21_0
  | .ofNat 1 => exact n_21_1
  | .ofNat 2 => exact n_21_2
  | .ofNat 3 => exact n_21_3
  | .ofNat 4 => exact n_21_4
  | .ofNat 5 => exact n_21_5
  | .ofNat 6 => exact n_21_6
  | .ofNat 7 => exact n_21_7
  | .ofNat 8 => exact n_21_8
  | .ofNat 9 => exact n_21_9
  | .negSucc m => exact n_21_lo m
  | .ofNat (m + 10) => exact n_21_hi m

theorem n_22 (x0 : Int) : ∀ M : Int, yesM M 4 [.int .i64 x0, .int .i64 (.ofNat 22)] = true := by
  match x0 with
  | .ofNat 0 => exact n_22_0
  | .ofNat 1 => exact n_22_1
  | .ofNat 2 => exact n_22_2
  | .ofNat 3 => exact n_22_3
  | .ofNat 4 => exact n_22_4
  | .ofNat 5 => exact n_22_5
  | .ofNat 6 => exact n_22_6
  | .ofNat 7 => exact n_22_7
  | .ofNat 8 => exact n_22_8
  | .ofNat 9 => exact n_22_9
  | .negSucc m => exact n_22_lo m
  | .ofNat (m + 10) => exact n_22_hi m

theorem n_23 (x0 : Int) : ∀ M : Int, yesM M 4 [.int .i64 x0, .int .i64 (.ofNat 23)] = true := by
  match x0 with
  | .ofNat 0 => exact n_23_0
  | .ofNat 1 => exact n_23_1
  | .ofNat 2 => exact n_23_2
  | .ofNat 3 => exact n_23_3
  | .ofNat 4 => exact n_23_4
  | .ofNat 5 => exact n_23_5
  | .ofNat 6 => exact n_23_6
  | .ofNat 7 => exact n_23_7
  | .ofNat 8 => exact n_23_8
  | .ofNat 9 => exact n_23_9
  | .negSucc m => exact n_23_lo m
  | .ofNat (m + 10) => exact n_23_hi m

theorem n_24 (x0 : Int) : ∀ M : Int, yesM M 4 [.int .i64 x0, .int .i64 (.ofNat 24)] = true := by
  match x0 with
  | .ofNat 0 => exact n_24_0
  | .ofNat 1 => exact n_24_1
  | .ofNat 2 => exact n_24_2
  | .ofNat 3 => exact n_24_3
  | .ofNat 4 => exact n_24_4
  | .ofNat 5 => exact n_24_5
  | .ofNat 6 => exact n_24_6
  | .ofNat 7 => exact n_24_7
  | .ofNat 8 => exact n_24_8
  | .ofNat 9 => exact n_24_9
  | .negSucc m => exact n_24_lo m
  | .ofNat (m + 10) => exact n_24_hi m

theorem n_25 (x0 : Int) : ∀ M : Int, yesM M 4 [.int .i64 x0, .int .i64 (.ofNat 25)] = true := by
  match x0 with
  | .ofNat 0 => exact n_25_0
  | .ofNat 1 => exact n_25_1
  | .ofNat 2 => exact n_25_2
  | .ofNat 3 => exact n_25_3
  | .ofNat 4 => exact n_25_4
  | .ofNat 5 => exact n_25_5
  | .ofNat 6 => exact n_25_6
  | .ofNat 7 => exact n_25_7
  | .ofNat 8 => exact n_25_8
  | .ofNat 9 => exact n_25_9
  | .negSucc m => exact n_25_lo m
  | .ofNat (m + 10) => exact n_25_hi m

theorem n_26 (x0 : Int) : ∀ M : Int, yesM M 4 [.int .i64 x0, .int .i64 (.ofNat 26)] = true := by
  match x0 with
  | .ofNat 0 => exact n_26_0
  | .ofNat 1 => exact n_26_1
  | .ofNat 2 => exact n_26_2
  | .ofNat 3 => exact n_26_3
  | .ofNat 4 => exact n_26_4
  | .ofNat 5 => exact n_26_5
  | .ofNat 6 => exact n_26_6
  | .ofNat 7 => exact n_26_7
  | .ofNat 8 => exact n_26_8
  | .ofNat 9 => exact n_26_9
  | .negSucc m => exact n_26_lo m
  | .ofNat (m + 10) => exact n_26_hi m

theorem n_27 (x0 : Int) : ∀ M : Int, yesM M 4 [.int .i64 x0, .int .i64 (.ofNat 27)] = true := by
  match x0 with
  | .ofNat 0 => exact n_27_0
  | .ofNat 1 => exact n_27_1
  | .ofNat 2 => exact n_27_2
  | .ofNat 3 => exact n_27_3
  | .ofNat 4 => exact n_27_4
  | .ofNat 5 => exact n_27_5
  | .ofNat 6 => exact n_27_6
  | .ofNat 7 => exact n_27_7
  | .ofNat 8 => exact n_27_8
  | .ofNat 9 => exact n_27_9
  | .negSucc m => exact n_27_lo m
  | .ofNat (m + 10) => exact n_27_hi m

theorem n_28 (x0 : Int) : ∀ M : Int, yesM M 4 [.int .i64 x0, .int .i64 (.ofNat 28)] = true := by
  match x0 with
  | .ofNat 0 => exact n_28_0
  | .ofNat 1 => exact n_28_1
  | .ofNat 2 => exact n_28_2
  | .ofNat 3 => exact n_28_3
  | .ofNat 4 => exact n_28_4
  | .ofNat 5 => exact n_28_5
  | .ofNat 6 => exact n_28_6
  | .ofNat 7 => exact n_28_7
  | .ofNat 8 => exact n_28_8
  | .ofNat 9 => exact n_28_9
  | .negSucc m => exact n_28_lo m
  | .ofNat (m + 10) => exact n_28_hi m

theorem n_29 (x0 : Int) : ∀ M : Int, yesM M 4 [.int .i64 x0, .int .i64 (.ofNat 29)] = true := by
  match x0 with
  | .ofNat 0 => exact n_29_0
  | .ofNat 1 => exact n_29_1
  | .ofNat 2 => exact n_29_2
  | .ofNat 3 => exact n_29_3
  | .ofNat 4 => exact n_29_4
  | .ofNat 5 => exact n_29_5
  | .ofNat 6 => exact n_29_6
  | .ofNat 7 => exact n_29_7
  | .ofNat 8 => exact n_29_8
  | .ofNat 9 => exact n_29_9
  | .negSucc m => exact n_29_lo m
  | .ofNat (m + 10) => exact n_29_hi m

theorem n_30 (x0 : Int) : ∀ M : Int, yesM M 4 [.int .i64 x0, .int .i64 (.ofNat 30)] = true := by
  match x0 with
  | .ofNat 0 => exact n_30_0
  | .ofNat 1 => exact n_30_1
  | .ofNat 2 => exact n_30_2
  | .ofNat 3 => exact n_30_3
  | .ofNat 4 => exact n_30_4
  | .ofNat 5 => exact n_30_5
  | .ofNat 6 => exact n_30_6
  | .ofNat 7 => exact n_30_7
  | .ofNat 8 => exact n_30_8
  | .ofNat 9 => exact n_30_9
  | .negSucc m => exact n_30_lo m
  | .ofNat (m + 10) => exact n_30_hi m

theorem n_31 (x0 : Int) : ∀ M : Int, yesM M 4 [.int .i64 x0, .int .i64 (.ofNat 31)] = true := by
  match x0 with
  | .ofNat 0 => exact n_31_0
  | .ofNat 1 => exact n_31_1
  | .ofNat 2 => exact n_31_2
  | .ofNat 3 => exact n_31_3
  | .ofNat 4 => exact n_31_4
  | .ofNat 5 => exact n_31_5
  | .ofNat 6 => exact n_31_6
  | .ofNat 7 => exact n_31_7
  | .ofNat 8 => exact n_31_8
  | .ofNat 9 => exact n_31_9
  | .negSucc m => exact n_31_lo m
  | .ofNat (m + 10) => exact n_31_hi m

theorem n_32 (x0 : Int) : ∀ M : Int, yesM M 4 [.int .i64 x0, .int .i64 (.ofNat 32)] = true := by
  match x0 with
  | .ofNat 0 => exact n_32_0
  | .ofNat 1 => exact n_32_1
  | .ofNat 2 => exact n_32_2
  | .ofNat 3 => exact n_32_3
  | .ofNat 4 => exact n_32_4
  | .ofNat 5 => exact n_32_5
  | .ofNat 6 => exact n_32_6
  | .ofNat 7 => exact n_32_7
  | .ofNat 8 => exact n_32_8
  | .ofNat 9 => exact n_32_9
  | .negSucc m => exact n_32_lo m
  | .ofNat (m + 10) => exact n_32_hi m

theorem n_33 (x0 : Int) : ∀ M : Int, yesM M 4 [.int .i64 x0, .int .i64 (.ofNat 33)] = true := by
  match x0 with
  | .ofNat 0 => exact n_33_0
  | .ofNat 1 => exact n_33_1
  | .ofNat 2 => exact n_33_2
  | .ofNat 3 => exact n_33_3
  | .ofNat 4 => exact n_33_4
  | .ofNat 5 => exact n_33_5
  | .ofNat 6 => exact n_33_6
  | .ofNat 7 => exact n_33_7
  | .ofNat 8 => exact n_33_8
  | .ofNat 9 => exact n_33_9
  | .negSucc m => exact n_33_lo m
  | .ofNat (m + 10) => exact n_33_hi m

theorem n_34 (x0 : Int) : ∀ M : Int, yesM M 4 [.int .i64 x0, .int .i64 (.ofNat 34)] = true := by
  match x0 with
  | .ofNat 0 => exact n_34_0
  | .ofNat 1 => exact n_34_1
  | .ofNat 2 => exact n_34_2
  | .ofNat 3 => exact n_34_3
  | .ofNat 4 => exact n_34_4
  | .ofNat 5 => exact n_34_5
  | .ofNat 6 => exact n_34_6
  | .ofNat 7 => exact n_34_7
  | .ofNat 8 => exact n_34_8
  | .ofNat 9 => exact n_34_9
  | .negSucc m => exact n_34_lo m
  | .ofNat (m + 10) => exact n_34_hi m

theorem n_35 (x0 : Int) : ∀ M : Int, yesM M 4 [.int .i64 x0, .int .i64 (.ofNat 35)] = true := by
  match x0 with
  | .ofNat 0 => exact n_35_0
  | .ofNat 1 => exact n_35_1
  | .ofNat 2 => exact n_35_2
  | .ofNat 3 => exact n_35_3
  | .ofNat 4 => exact n_35_4
  | .ofNat 5 => exact n_35_5
  | .ofNat 6 => exact n_35_6
  | .ofNat 7 => exact n_35_7
  | .ofNat 8 => exact n_35_8
  | .ofNat 9 => exact n_35_9
  | .negSucc m => exact n_35_lo m
  | .ofNat (m + 10) => exact n_35_hi m

theorem n_36 (x0 : Int) : ∀ M : Int, yesM M 4 [.int .i64 x0, .int .i64 (.ofNat 36)] = true := by
  match x0 with
  | .ofNat 0 => exact n_36_0
  | .ofNat 1 => exact n_36_1
  | .ofNat 2 => exact n_36_2
  | .ofNat 3 => exact n_36_3
  | .ofNat 4 => exact n_36_4
  | .ofNat 5 => exact n_36_5
  | .ofNat 6 => exact n_36_6
  | .ofNat 7 => exact n_36_7
  | .ofNat 8 => exact n_36_8
  | .ofNat 9 => exact n_36_9
  | .negSucc m => exact n_36_lo m
  | .ofNat (m + 10) => exact n_36_hi m

theorem n_37 (x0 : Int) : ∀ M : Int, yesM M 4 [.int .i64 x0, .int .i64 (.ofNat 37)] = true := by
  match x0 with
  | .ofNat 0 => exact n_37_0
  | .ofNat 1 => exact n_37_1
  | .ofNat 2 => exact n_37_2
  | .ofNat 3 => exact n_37_3
  | .ofNat 4 => exact n_37_4
  | .ofNat 5 => exact n_37_5
  | .ofNat 6 => exact n_37_6
  | .ofNat 7 => exact n_37_7
  | .ofNat 8 => exact n_37_8
  | .ofNat 9 => exact n_37_9
  | .negSucc m => exact n_37_lo m
  | .ofNat (m + 10) => exact n_37_hi m

theorem n_38 (x0 : Int) : ∀ M : Int, yesM M 4 [.int .i64 x0, .int .i64 (.ofNat 38)] = true := by
  match x0 with
  | .ofNat 0 => exact n_38_0
  | .ofNat 1 => exact n_38_1
  | .ofNat 2 => exact n_38_2
  | .ofNat 3 => exact n_38_3
  | .ofNat 4 => exact n_38_4
  | .ofNat 5 => exact n_38_5
  | .ofNat 6 => exact n_38_6
  | .ofNat 7 => exact n_38_7
  | .ofNat 8 => exact n_38_8
  | .ofNat 9 => exact n_38_9
  | .negSucc m => exact n_38_lo m
  | .ofNat (m + 10) => exact n_38_hi m

theorem n_39 (x0 : Int) : ∀ M : Int, yesM M 4 [.int .i64 x0, .int .i64 (.ofNat 39)] = true := by
  match x0 with
  | .ofNat 0 => exact n_39_0
  | .ofNat 1 => exact n_39_1
  | .ofNat 2 => exact n_39_2
  | .ofNat 3 => exact n_39_3
  | .ofNat 4 => exact n_39_4
  | .ofNat 5 => exact n_39_5
  | .ofNat 6 => exact n_39_6
  | .ofNat 7 => exact n_39_7
  | .ofNat 8 => exact n_39_8
  | .ofNat 9 => exact n_39_9
  | .negSucc m => exact n_39_lo m
  | .ofNat (m + 10) => exact n_39_hi m

theorem n_40 (x0 : Int) : ∀ M : Int, yesM M 4 [.int .i64 x0, .int .i64 (.ofNat 40)] = true := by
  match x0 with
  | .ofNat 0 => exact n_40_0
  | .ofNat 1 => exact n_40_1
  | .ofNat 2 => exact n_40_2
  | .ofNat 3 => exact n_40_3
  | .ofNat 4 => exact n_40_4
  | .ofNat 5 => exact n_40_5
  | .ofNat 6 => exact n_40_6
  | .ofNat 7 => exact n_40_7
  | .ofNat 8 => exact n_40_8
  | .ofNat 9 => exact n_40_9
  | .negSucc m => exact n_40_lo m
  | .ofNat (m + 10) => exact n_40_hi m

theorem n_41 (x0 : Int) : ∀ M : Int, yesM M 4 [.int .i64 x0, .int .i64 (.ofNat 41)] = true := by
  match x0 with
  | .ofNat 0 => exact n_41_0
  | .ofNat 1 => exact n_41_1
  | .ofNat 2 => exact n_41_2
  | .ofNat 3 => exact n_41_3
  | .ofNat 4 => exact n_41_4
  | .ofNat 5 => exact n_41_5
  | .ofNat 6 => exact n_41_6
  | .ofNat 7 => exact n_41_7
  | .ofNat 8 => exact n_41_8
  | .ofNat 9 => exact n_41_9
  | .negSucc m => exact n_41_lo m
  | .ofNat (m + 10) => exact n_41_hi m

theorem n_42 (x0 : Int) : ∀ M : Int, yesM M 4 [.int .i64 x0, .int .i64 (.ofNat 42)] = true := by
  match x0 with
  | .ofNat 0 => exact n_42_0
  | .ofNat 1 => exact n_42_1
  | .ofNat 2 => exact n_42_2
  | .ofNat 3 => exact n_42_3
  | .ofNat 4 => exact n_42_4
  | .ofNat 5 => exact n_42_5
  | .ofNat 6 => exact n_42_6
  | .ofNat 7 => exact n_42_7
  | .ofNat 8 => exact n_42_8
  | .ofNat 9 => exact n_42_9
  | .negSucc m => exact n_42_lo m
  | .ofNat (m + 10) => exact n_42_hi m

theorem n_43 (x0 : Int) : ∀ M : Int, yesM M 4 [.int .i64 x0, .int .i64 (.ofNat 43)] = true := by
  match x0 with
  | .ofNat 0 => exact n_43_0
  | .ofNat 1 => exact n_43_1
  | .ofNat 2 => exact n_43_2
  | .ofNat 3 => exact n_43_3
  | .ofNat 4 => exact n_43_4
  | .ofNat 5 => exact n_43_5
  | .ofNat 6 => exact n_43_6
  | .ofNat 7 => exact n_43_7
  | .ofNat 8 => exact n_43_8
  | .ofNat 9 => exact n_43_9
  | .negSucc m => exact n_43_lo m
  | .ofNat (m + 10) => exact n_43_hi m

theorem n_44 (x0 : Int) : ∀ M : Int, yesM M 4 [.int .i64 x0, .int .i64 (.ofNat 44)] = true := by
  match x0 with
  | .ofNat 0 => exact n_44_0
  | .ofNat 1 => exact n_44_1
  | .ofNat 2 => exact n_44_2
  | .ofNat 3 => exact n_44_3
  | .ofNat 4 => exact n_44_4
  | .ofNat 5 => exact n_44_5
  | .ofNat 6 => exact n_44_6
  | .ofNat 7 => exact n_44_7
  | .ofNat 8 => exact n_44_8
  | .ofNat 9 => exact n_44_9
  | .negSucc m => exact n_44_lo m
  | .ofNat (m + 10) => exact n_44_hi m

theorem n_45 (x0 : Int) : ∀ M : Int, yesM M 4 [.int .i64 x0, .int .i64 (.ofNat 45)] = true := by
  match x0 with
  | .ofNat 0 => exact n_45_0
  | .ofNat 1 => exact n_45_1
  | .ofNat 2 => exact n_45_2
  | .ofNat 3 => exact n_45_3
  | .ofNat 4 => exact n_45_4
  | .ofNat 5 => exact n_45_5
  | .ofNat 6 => exact n_45_6
  | .ofNat 7 => exact n_45_7
  | .ofNat 8 => exact n_45_8
  | .ofNat 9 => exact n_45_9
  | .negSucc m => exact n_45_lo m
  | .ofNat (m + 10) => exact n_45_hi m

theorem n_46 (x0 : Int) : ∀ M : Int, yesM M 4 [.int .i64 x0, .int .i64 (.ofNat 46)] = true := by
  match x0 with
  | .ofNat 0 => exact n_46_0
  | .ofNat 1 => exact n_46_1
  | .ofNat 2 => exact n_46_2
  | .ofNat 3 => exact n_46_3
  | .ofNat 4 => exact n_46_4
  | .ofNat 5 => exact n_46_5
  | .ofNat 6 => exact n_46_6
  | .ofNat 7 => exact n_46_7
  | .ofNat 8 => exact n_46_8
  | .ofNat 9 => exact n_46_9
  | .negSucc m => exact n_46_lo m
  | .ofNat (m + 10) => exact n_46_hi m

theorem n_47 (x0 : Int) : ∀ M : Int, yesM M 4 [.int .i64 x0, .int .i64 (.ofNat 47)] = true := by
  match x0 with
  | .ofNat 0 => exact n_47_0
  | .ofNat 1 => exact n_47_1
  | .ofNat 2 => exact n_47_2
  | .ofNat 3 => exact n_47_3
  | .ofNat 4 => exact n_47_4
  | .ofNat 5 => exact n_47_5
  | .ofNat 6 => exact n_47_6
  | .ofNat 7 => exact n_47_7
  | .ofNat 8 => exact n_47_8
  | .ofNat 9 => exact n_47_9
  | .negSucc m => exact n_47_lo m
  | .ofNat (m + 10) => exact n_47_hi m

theorem n_48 (x0 : Int) : ∀ M : Int, yesM M 4 [.int .i64 x0, .int .i64 (.ofNat 48)] = true := by
  match x0 with
  | .ofNat 0 => exact n_48_0
  | .ofNat 1 => exact n_48_1
  | .ofNat 2 => exact n_48_2
  | .ofNat 3 => exact n_48_3
  | .ofNat 4 => exact n_48_4
  | .ofNat 5 => exact n_48_5
  | .ofNat 6 => exact n_48_6
  | .ofNat 7 => exact n_48_7
  | .ofNat 8 => exact n_48_8
  | .ofNat 9 => exact n_48_9
  | .negSucc m => exact n_48_lo m
  | .ofNat (m + 10) => exact n_48_hi m

theorem n_49 (x0 : Int) : ∀ M : Int, yesM M 4 [.int .i64 x0, .int .i64 (.ofNat 49)] = true := by
  match x0 with
  | .ofNat 0 => exact n_49_0
  | .ofNat 1 => exact n_49_1
  | .ofNat 2 => exact n_49_2
  | .ofNat 3 => exact n_49_3
  | .ofNat 4 => exact n_49_4
  | .ofNat 5 => exact n_49_5
  | .ofNat 6 => exact n_49_6
  | .ofNat 7 => exact n_49_7
  | .ofNat 8 => exact n_49_8
  | .ofNat 9 => exact n_49_9
  | .negSucc m => exact n_49_lo m
  | .ofNat (m + 10) => exact n_49_hi m

theorem n_50 (x0 : Int) : ∀ M : Int, yesM M 4 [.int .i64 x0, .int .i64 (.ofNat 50)] = true := by
  match x0 with
  | .ofNat 0 => exact n_50_0
  | .ofNat 1 => exact n_50_1
  | .ofNat 2 => exact n_50_2
  | .ofNat 3 => exact n_50_3
  | .ofNat 4 => exact n_50_4
  | .ofNat 5 => exact n_50_5
  | .ofNat 6 => exact n_50_6
  | .ofNat 7 => exact n_50_7
  | .ofNat 8 => exact n_50_8
  | .ofNat 9 => exact n_50_9
  | .negSucc m => exact n_50_lo m
  | .ofNat (m + 10) => exact n_50_hi m

theorem n_51 (x0 : Int) : ∀ M : Int, yesM M 4 [.int .i64 x0, .int .i64 (.ofNat 51)] = true := by
  match x0 with
  | .ofNat 0 => exact n_51_0
  | .ofNat 1 => exact n_51_1
  | .ofNat 2 => exact n_51_2
  | .ofNat 3 => exact n_51_3
  | .ofNat 4 => exact n_51_4
  | .ofNat 5 => exact n_51_5
  | .ofNat 6 => exact n_51_6
  | .ofNat 7 => exact n_51_7
  | .ofNat 8 => exact n_51_8
  | .ofNat 9 => exact n_51_9
  | .negSucc m => exact n_51_lo m
  | .ofNat (m + 10) => exact n_51_hi m

theorem n_52 (x0 : Int) : ∀ M : Int, yesM M 4 [.int .i64 x0, .int .i64 (.ofNat 52)] = true := by
  match x0 with
  | .ofNat 0 => exact n_52_0
  | .ofNat 1 => exact n_52_1
  | .ofNat 2 => exact n_52_2
  | .ofNat 3 => exact n_52_3
  | .ofNat 4 => exact n_52_4
  | .ofNat 5 => exact n_52_5
  | .ofNat 6 => exact n_52_6
  | .ofNat 7 => exact n_52_7
  | .ofNat 8 => exact n_52_8
  | .ofNat 9 => exact n_52_9
  | .negSucc m => exact n_52_lo m
  | .ofNat (m + 10) => exact n_52_hi m

theorem n_53 (x0 : Int) : ∀ M : Int, yesM M 4 [.int .i64 x0, .int .i64 (.ofNat 53)] = true := by
  match x0 with
  | .ofNat 0 => exact n_53_0
  | .ofNat 1 => exact n_53_1
  | .ofNat 2 => exact n_53_2
  | .ofNat 3 => exact n_53_3
  | .ofNat 4 => exact n_53_4
  | .ofNat 5 => exact n_53_5
  | .ofNat 6 => exact n_53_6
  | .ofNat 7 => exact n_53_7
  | .ofNat 8 => exact n_53_8
  | .ofNat 9 => exact n_53_9
  | .negSucc m => exact n_53_lo m
  | .ofNat (m + 10) => exact n_53_hi m

theorem n_54 (x0 : Int) : ∀ M : Int, yesM M 4 [.int .i64 x0, .int .i64 (.ofNat 54)] = true := by
  match x0 with
  | .ofNat 0 => exact n_54_0
  | .ofNat 1 => exact n_54_1
  | .ofNat 2 => exact n_54_2
  | .ofNat 3 => exact n_54_3
  | .ofNat 4 => exact n_54_4
  | .ofNat 5 => exact n_54_5
  | .ofNat 6 => exact n_54_6
  | .ofNat 7 => exact n_54_7
  | .ofNat 8 => exact n_54_8
  | .ofNat 9 => exact n_54_9
  | .negSucc m => exact n_54_lo m
  | .ofNat (m + 10) => exact n_54_hi m

theorem n_55 (x0 : Int) : ∀ M : Int, yesM M 4 [.int .i64 x0, .int .i64 (.ofNat 55)] = true := by
  match x0 with
  | .ofNat 0 => exact n_55_0
  | .ofNat 1 => exact n_55_1
  | .ofNat 2 => exact n_55_2
  | .ofNat 3 => exact n_55_3
  | .ofNat 4 => exact n_55_4
  | .ofNat 5 => exact n_55_5
  | .ofNat 6 => exact n_55_6
  | .ofNat 7 => exact n_55_7
  | .ofNat 8 => exact n_55_8
  | .ofNat 9 => exact n_55_9
  | .negSucc m => exact n_55_lo m
  | .ofNat (m + 10) => exact n_55_hi m

theorem n_56 (x0 : Int) : ∀ M : Int, yesM M 4 [.int .i64 x0, .int .i64 (.ofNat 56)] = true := by
  match x0 with
  | .ofNat 0 => exact n_56_0
  | .ofNat 1 => exact n_56_1
  | .ofNat 2 => exact n_56_2
  | .ofNat 3 => exact n_56_3
  | .ofNat 4 => exact n_56_4
  | .ofNat 5 => exact n_56_5
  | .ofNat 6 => exact n_56_6
  | .ofNat 7 => exact n_56_7
  | .ofNat 8 => exact n_56_8
  | .ofNat 9 => exact n_56_9
  | .negSucc m => exact n_56_lo m
  | .ofNat (m + 10) => exact n_56_hi m

theorem n_57 (x0 : Int) : ∀ M : Int, yesM M 4 [.int .i64 x0, .int .i64 (.ofNat 57)] = true := by
  match x0 with
  | .ofNat 0 => exact n_57_0
  | .ofNat 1 => exact n_57_1
  | .ofNat 2 => exact n_57_2
  | .ofNat 3 => exact n_57_3
  | .ofNat 4 => exact n_57_4
  | .ofNat 5 => exact n_57_5
  | .ofNat 6 => exact n_57_6
  | .ofNat 7 => exact n_57_7
  | .ofNat 8 => exact n_57_8
  | .ofNat 9 => exact n_57_9
  | .negSucc m => exact n_57_lo m
  | .ofNat (m + 10) => exact n_57_hi m

theorem n_58 (x0 : Int) : ∀ M : Int, yesM M 4 [.int .i64 x0, .int .i64 (.ofNat 58)] = true := by
  match x0 with
  | .ofNat 0 => exact n_58_0
  | .ofNat 1 => exact n_58_1
  | .ofNat 2 => exact n_58_2
  | .ofNat 3 => exact n_58_3
  | .ofNat 4 => exact n_58_4
  | .ofNat 5 => exact n_58_5
  | .ofNat 6 => exact n_58_6
  | .ofNat 7 => exact n_58_7
  | .ofNat 8 => exact n_58_8
  | .ofNat 9 => exact n_58_9
  | .negSucc m => exact n_58_lo m
  | .ofNat (m + 10) => exact n_58_hi m

theorem n_59 (x0 : Int) : ∀ M : Int, yesM M 4 [.int .i64 x0, .int .i64 (.ofNat 59)] = true := by
  match x0 with
  | .ofNat 0 => exact n_59_0
  | .ofNat 1 => exact n_59_1
  | .ofNat 2 => exact n_59_2
  | .ofNat 3 => exact n_59_3
  | .ofNat 4 => exact n_59_4
  | .ofNat 5 => exact n_59_5
  | .ofNat 6 => exact n_59_6
  | .ofNat 7 => exact n_59_7
  | .ofNat 8 => exact n_59_8
  | .ofNat 9 => exact n_59_9
  | .negSucc m => exact n_59_lo m
  | .ofNat (m + 10) => exact n_59_hi m

theorem n_60 (x0 : Int) : ∀ M : Int, yesM M 4 [.int .i64 x0, .int .i64 (.ofNat 60)] = true := by
  match x0 with
  | .ofNat 0 => exact n_60_0
  | .ofNat 1 => exact n_60_1
  | .ofNat 2 => exact n_60_2
  | .ofNat 3 => exact n_60_3
  | .ofNat 4 => exact n_60_4
  | .ofNat 5 => exact n_60_5
  | .ofNat 6 => exact n_60_6
  | .ofNat 7 => exact n_60_7
  | .ofNat 8 => exact n_60_8
  | .ofNat 9 => exact n_60_9
  | .negSucc m => exact n_60_lo m
  | .ofNat (m + 10) => exact n_60_hi m

theorem n_61 (x0 : Int) : ∀ M : Int, yesM M 4 [.int .i64 x0, .int .i64 (.ofNat 61)] = true := by
  match x0 with
  | .ofNat 0 => exact n_61_0
  | .ofNat 1 => exact n_61_1
  | .ofNat 2 => exact n_61_2
  | .ofNat 3 => exact n_61_3
  | .ofNat 4 => exact n_61_4
  | .ofNat 5 => exact n_61_5
  | .ofNat 6 => exact n_61_6
  | .ofNat 7 => exact n_61_7
  | .ofNat 8 => exact n_61_8
  | .ofNat 9 => exact n_61_9
  | .negSucc m => exact n_61_lo m
  | .ofNat (m + 10) => exact n_61_hi m

theorem n_62 (x0 : Int) : ∀ M : Int, yesM M 4 [.int .i64 x0, .int .i64 (.ofNat 62)] = true := by
  match x0 with
  | .ofNat 0 => exact n_62_0
  | .ofNat 1 => exact n_62_1
  | .ofNat 2 => exact n_62_2
  | .ofNat 3 => exact n_62_3
  | .ofNat 4 => exact n_62_4
  | .ofNat 5 => exact n_62_5
  | .ofNat 6 => exact n_62_6
  | .ofNat 7 => exact n_62_7
  | .ofNat 8 => exact n_62_8
  | .ofNat 9 => exact n_62_9
  | .negSucc m => exact n_62_lo m
  | .ofNat (m + 10) => exact n_62_hi m

theorem n_63 (x0 : Int) : ∀ M : Int, yesM M 4 [.int .i64 x0, .int .i64 (.ofNat 63)] = true := by
  match x0 with
  | .ofNat 0 => exact n_63_0
  | .ofNat 1 => exact n_63_1
  | .ofNat 2 => exact n_63_2
  | .ofNat 3 => exact n_63_3
  | .ofNat 4 => exact n_63_4
  | .ofNat 5 => exact n_63_5
  | .ofNat 6 => exact n_63_6
  | .ofNat 7 => exact n_63_7
  | .ofNat 8 => exact n_63_8
  | .ofNat 9 => exact n_63_9
  | .negSucc m => exact n_63_lo m
  | .ofNat (m + 10) => exact n_63_hi m

theorem n_64 (x0 : Int) : ∀ M : Int, yesM M 4 [.int .i64 x0, .int .i64 (.ofNat 64)] = true := by
  match x0 with
  | .ofNat 0 => exact n_64_0
  | .ofNat 1 => exact n_64_1
  | .ofNat 2 => exact n_64_2
  | .ofNat 3 => exact n_64_3
  | .ofNat 4 => exact n_64_4
  | .ofNat 5 => exact n_64_5
  | .ofNat 6 => exact n_64_6
  | .ofNat 7 => exact n_64_7
  | .ofNat 8 => exact n_64_8
  | .ofNat 9 => exact n_64_9
  | .negSucc m => exact n_64_lo m
  | .ofNat (m + 10) => exact n_64_hi m

theorem n_65 (x0 : Int) : ∀ M : Int, yesM M 4 [.int .i64 x0, .int .i64 (.ofNat 65)] = true := by
  match x0 with
  | .ofNat 0 => exact n_65_0
  | .ofNat 1 => exact n_65_1
  | .ofNat 2 => exact n_65_2
  | .ofNat 3 => exact n_65_3
  | .ofNat 4 => exact n_65_4
  | .ofNat 5 => exact n_65_5
  | .ofNat 6 => exact n_65_6
  | .ofNat 7 => exact n_65_7
  | .ofNat 8 => exact n_65_8
  | .ofNat 9 => exact n_65_9
  | .negSucc m => exact n_65_lo m
  | .ofNat (m + 10) => exact n_65_hi m

theorem n_66 (x0 : Int) : ∀ M : Int, yesM M 4 [.int .i64 x0, .int .i64 (.ofNat 66)] = true := by
  match x0 with
  | .ofNat 0 => exact n_66_0
  | .ofNat 1 => exact n_66_1
  | .ofNat 2 => exact n_66_2
  | .ofNat 3 => exact n_66_3
  | .ofNat 4 => exact n_66_4
  | .ofNat 5 => exact n_66_5
  | .ofNat 6 => exact n_66_6
  | .ofNat 7 => exact n_66_7
  | .ofNat 8 => exact n_66_8
  | .ofNat 9 => exact n_66_9
  | .negSucc m => exact n_66_lo m
  | .ofNat (m + 10) => exact n_66_hi m

theorem n_67 (x0 : Int) : ∀ M : Int, yesM M 4 [.int .i64 x0, .int .i64 (.ofNat 67)] = true := by
  match x0 with
  | .ofNat 0 => exact n_67_0
  | .ofNat 1 => exact n_67_1
  | .ofNat 2 => exact n_67_2
  | .ofNat 3 => exact n_67_3
  | .ofNat 4 => exact n_67_4
  | .ofNat 5 => exact n_67_5
  | .ofNat 6 => exact n_67_6
  | .ofNat 7 => exact n_67_7
  | .ofNat 8 => exact n_67_8
  | .ofNat 9 => exact n_67_9
  | .negSucc m => exact n_67_lo m
  | .ofNat (m + 10) => exact n_67_hi m

theorem n_68 (x0 : Int) : ∀ M : Int, yesM M 4 [.int .i64 x0, .int .i64 (.ofNat 68)] = true := by
  match x0 with
  | .ofNat 0 => exact n_68_0
  | .ofNat 1 => exact n_68_1
  | .ofNat 2 => exact n_68_2
  | .ofNat 3 => exact n_68_3
  | .ofNat 4 => exact n_68_4
  | .ofNat 5 => exact n_68_5
  | .ofNat 6 => exact n_68_6
  | .ofNat 7 => exact n_68_7
  | .ofNat 8 => exact n_68_8
  | .ofNat 9 => exact n_68_9
  | .negSucc m => exact n_68_lo m
  | .ofNat (m + 10) => exact n_68_hi m

theorem n_69 (x0 : Int) : ∀ M : Int, yesM M 4 [.int .i64 x0, .int .i64 (.ofNat 69)] = true := by
  match x0 with
  | .ofNat 0 => exact n_69_0
  | .ofNat 1 => exact n_69_1
  | .ofNat 2 => exact n_69_2
  | .ofNat 3 => exact n_69_3
  | .ofNat 4 => exact n_69_4
  | .ofNat 5 => exact n_69_5
  | .ofNat 6 => exact n_69_6
  | .ofNat 7 => exact n_69_7
  | .ofNat 8 => exact n_69_8
  | .ofNat 9 => exact n_69_9
  | .negSucc m => exact n_69_lo m
  | .ofNat (m + 10) => exact n_69_hi m

theorem n_70 (x0 : Int) : ∀ M : Int, yesM M 4 [.int .i64 x0, .int .i64 (.ofNat 70)] = true := by
  match x0 with
  | .ofNat 0 => exact n_70_0
  | .ofNat 1 => exact n_70_1
  | .ofNat 2 => exact n_70_2
  | .ofNat 3 => exact n_70_3
  | .ofNat 4 => exact n_70_4
  | .ofNat 5 => exact n_70_5
  | .ofNat 6 => exact n_70_6
  | .ofNat 7 => exact n_70_7
  | .ofNat 8 => exact n_70_8
  | .ofNat 9 => exact n_70_9
  | .negSucc m => exact n_70_lo m
  | .ofNat (m + 10) => exact n_70_hi m

theorem n_71 (x0 : Int) : ∀ M : Int, yesM M 4 [.int .i64 x0, .int .i64 (.ofNat 71)] = true := by
  match x0 with
  | .ofNat 0 => exact n_71_0
  | .ofNat 1 => exact n_71_1
  | .ofNat 2 => exact n_71_2
  | .ofNat 3 => exact n_71_3
  | .ofNat 4 => exact n_71_4
  | .ofNat 5 => exact n_71_5
  | .ofNat 6 => exact n_71_6
  | .ofNat 7 => exact n_71_7
  | .ofNat 8 => exact n_71_8
  | .ofNat 9 => exact n_71_9
  | .negSucc m => exact n_71_lo m
  | .ofNat (m + 10) => exact n_71_hi m

theorem n_72 (x0 : Int) : ∀ M : Int, yesM M 4 [.int .i64 x0, .int .i64 (.ofNat 72)] = true := by
  match x0 with
  | .ofNat 0 => exact n_72_0
  | .ofNat 1 => exact n_72_1
  | .ofNat 2 => exact n_72_2
  | .ofNat 3 => exact n_72_3
  | .ofNat 4 => exact n_72_4
  | .ofNat 5 => exact n_72_5
  | .ofNat 6 => exact n_72_6
  | .ofNat 7 => exact n_72_7
  | .ofNat 8 => exact n_72_8
  | .ofNat 9 => exact n_72_9
  | .negSucc m => exact n_72_lo m
  | .ofNat (m + 10) => exact n_72_hi m

theorem n_73 (x0 : Int) : ∀ M : Int, yesM M 4 [.int .i64 x0, .int .i64 (.ofNat 73)] = true := by
  match x0 with
  | .ofNat 0 => exact n_73_0
  | .ofNat 1 => exact n_73_1
  | .ofNat 2 => exact n_73_2
  | .ofNat 3 => exact n_73_3
  | .ofNat 4 => exact n_73_4
  | .ofNat 5 => exact n_73_5
  | .ofNat 6 => exact n_73_6
  | .ofNat 7 => exact n_73_7
  | .ofNat 8 => exact n_73_8
  | .ofNat 9 => exact n_73_9
  | .negSucc m => exact n_73_lo m
  | .ofNat (m + 10) => exact n_73_hi m

theorem n_74 (x0 : Int) : ∀ M : Int, yesM M 4 [.int .i64 x0, .int .i64 (.ofNat 74)] = true := by
  match x0 with
  | .ofNat 0 => exact n_74_0
  | .ofNat 1 => exact n_74_1
  | .ofNat 2 => exact n_74_2
  | .ofNat 3 => exact n_74_3
  | .ofNat 4 => exact n_74_4
  | .ofNat 5 => exact n_74_5
  | .ofNat 6 => exact n_74_6
  | .ofNat 7 => exact n_74_7
  | .ofNat 8 => exact n_74_8
  | .ofNat 9 => exact n_74_9
  | .negSucc m => exact n_74_lo m
  | .ofNat (m + 10) => exact n_74_hi m

theorem n_75 (x0 : Int) : ∀ M : Int, yesM M 4 [.int .i64 x0, .int .i64 (.ofNat 75)] = true := by
  match x0 with
  | .ofNat 0 => exact n_75_0
  | .ofNat 1 => exact n_75_1
  | .ofNat 2 => exact n_75_2
  | .ofNat 3 => exact n_75_3
  | .ofNat 4 => exact n_75_4
  | .ofNat 5 => exact n_75_5
  | .ofNat 6 => exact n_75_6
  | .ofNat 7 => exact n_75_7
  | .ofNat 8 => exact n_75_8
  | .ofNat 9 => exact n_75_9
  | .negSucc m => exact n_75_lo m
  | .ofNat (m + 10) => exact n_75_hi m

theorem n_76 (x0 : Int) : ∀ M : Int, yesM M 4 [.int .i64 x0, .int .i64 (.ofNat 76)] = true := by
  match x0 with
  | .ofNat 0 => exact n_76_0
  | .ofNat 1 => exact n_76_1
  | .ofNat 2 => exact n_76_2
  | .ofNat 3 => exact n_76_3
  | .ofNat 4 => exact n_76_4
  | .ofNat 5 => exact n_76_5
  | .ofNat 6 => exact n_76_6
  | .ofNat 7 => exact n_76_7
  | .ofNat 8 => exact n_76_8
  | .ofNat 9 => exact n_76_9
  | .negSucc m => exact n_76_lo m
  | .ofNat (m + 10) => exact n_76_hi m

theorem n_77 (x0 : Int) : ∀ M : Int, yesM M 4 [.int .i64 x0, .int .i64 (.ofNat 77)] = true := by
  match x0 with
  | .ofNat 0 => exact n_77_0
  | .ofNat 1 => exact n_77_1
  | .ofNat 2 => exact n_77_2
  | .ofNat 3 => exact n_77_3
  | .ofNat 4 => exact n_77_4
  | .ofNat 5 => exact n_77_5
  | .ofNat 6 => exact n_77_6
  | .ofNat 7 => exact n_77_7
  | .ofNat 8 => exact n_77_8
  | .ofNat 9 => exact n_77_9
  | .negSucc m => exact n_77_lo m
  | .ofNat (m + 10) => exact n_77_hi m

theorem n_78 (x0 : Int) : ∀ M : Int, yesM M 4 [.int .i64 x0, .int .i64 (.ofNat 78)] = true := by
  match x0 with
  | .ofNat 0 => exact n_78_0
  | .ofNat 1 => exact n_78_1
  | .ofNat 2 => exact n_78_2
  | .ofNat 3 => exact n_78_3
  | .ofNat 4 => exact n_78_4
  | .ofNat 5 => exact n_78_5
  | .ofNat 6 => exact n_78_6
  | .ofNat 7 => exact n_78_7
  | .ofNat 8 => exact n_78_8
  | .ofNat 9 => exact n_78_9
  | .negSucc m => exact n_78_lo m
  | .ofNat (m + 10) => exact n_78_hi m

theorem n_79 (x0 : Int) : ∀ M : Int, yesM M 4 [.int .i64 x0, .int .i64 (.ofNat 79)] = true := by
  match x0 with
  | .ofNat 0 => exact n_79_0
  | .ofNat 1 => exact n_79_1
  | .ofNat 2 => exact n_79_2
  | .ofNat 3 => exact n_79_3
  | .ofNat 4 => exact n_79_4
  | .ofNat 5 => exact n_79_5
  | .ofNat 6 => exact n_79_6
  | .ofNat 7 => exact n_79_7
  | .ofNat 8 => exact n_79_8
  | .ofNat 9 => exact n_79_9
  | .negSucc m => exact n_79_lo m
  | .ofNat (m + 10) => exact n_79_hi m

theorem n_80 (x0 : Int) : ∀ M : Int, yesM M 4 [.int .i64 x0, .int .i64 (.ofNat 80)] = true := by
  match x0 with
  | .ofNat 0 => exact n_80_0
  | .ofNat 1 => exact n_80_1
  | .ofNat 2 => exact n_80_2
  | .ofNat 3 => exact n_80_3
  | .ofNat 4 => exact n_80_4
  | .ofNat 5 => exact n_80_5
  | .ofNat 6 => exact n_80_6
  | .ofNat 7 => exact n_80_7
  | .ofNat 8 => exact n_80_8
  | .ofNat 9 => exact n_80_9
  | .negSucc m => exact n_80_lo m
  | .ofNat (m + 10) => exact n_80_hi m

theorem n_81 (x0 : Int) : ∀ M : Int, yesM M 4 [.int .i64 x0, .int .i64 (.ofNat 81)] = true := by
  match x0 with
  | .ofNat 0 => exact n_81_0
  | .ofNat 1 => exact n_81_1
  | .ofNat 2 => exact n_81_2
  | .ofNat 3 => exact n_81_3
  | .ofNat 4 => exact n_81_4
  | .ofNat 5 => exact n_81_5
  | .ofNat 6 => exact n_81_6
  | .ofNat 7 => exact n_81_7
  | .ofNat 8 => exact n_81_8
  | .ofNat 9 => exact n_81_9
  | .negSucc m => exact n_81_lo m
  | .ofNat (m + 10) => exact n_81_hi m

theorem n_82 (x0 : Int) : ∀ M : Int, yesM M 4 [.int .i64 x0, .int .i64 (.ofNat 82)] = true := by
  match x0 with
  | .ofNat 0 => exact n_82_0
  | .ofNat 1 => exact n_82_1
  | .ofNat 2 => exact n_82_2
  | .ofNat 3 => exact n_82_3
  | .ofNat 4 => exact n_82_4
  | .ofNat 5 => exact n_82_5
  | .ofNat 6 => exact n_82_6
  | .ofNat 7 => exact n_82_7
  | .ofNat 8 => exact n_82_8
  | .ofNat 9 => exact n_82_9
  | .negSucc m => exact n_82_lo m
  | .ofNat (m + 10) => exact n_82_hi m

theorem n_83 (x0 : Int) : ∀ M : Int, yesM M 4 [.int .i64 x0, .int .i64 (.ofNat 83)] = true := by
  match x0 with
  | .ofNat 0 => exact n_83_0
  | .ofNat 1 => exact n_83_1
  | .ofNat 2 => exact n_83_2
  | .ofNat 3 => exact n_83_3
  | .ofNat 4 => exact n_83_4
  | .ofNat 5 => exact n_83_5
  | .ofNat 6 => exact n_83_6
  | .ofNat 7 => exact n_83_7
  | .ofNat 8 => exact n_83_8
  | .ofNat 9 => exact n_83_9
  | .negSucc m => exact n_83_lo m
  | .ofNat (m + 10) => exact n_83_hi m

theorem n_84 (x0 : Int) : ∀ M : Int, yesM M 4 [.int .i64 x0, .int .i64 (.ofNat 84)] = true := by
  match x0 with
  | .ofNat 0 => exact n_84_0
  | .ofNat 1 => exact n_84_1
  | .ofNat 2 => exact n_84_2
  | .ofNat 3 => exact n_84_3
  | .ofNat 4 => exact n_84_4
  | .ofNat 5 => exact n_84_5
  | .ofNat 6 => exact n_84_6
  | .ofNat 7 => exact n_84_7
  | .ofNat 8 => exact n_84_8
  | .ofNat 9 => exact n_84_9
  | .negSucc m => exact n_84_lo m
  | .ofNat (m + 10) => exact n_84_hi m

theorem n_85 (x0 : Int) : ∀ M : Int, yesM M 4 [.int .i64 x0, .int .i64 (.ofNat 85)] = true := by
  match x0 with
  | .ofNat 0 => exact n_85_0
  | .ofNat 1 => exact n_85_1
  | .ofNat 2 => exact n_85_2
  | .ofNat 3 => exact n_85_3
  | .ofNat 4 => exact n_85_4
  | .ofNat 5 => exact n_85_5
  | .ofNat 6 => exact n_85_6
  | .ofNat 7 => exact n_85_7
  | .ofNat 8 => exact n_85_8
  | .ofNat 9 => exact n_85_9
  | .negSucc m => exact n_85_lo m
  | .ofNat (m + 10) => exact n_85_hi m

theorem n_86 (x0 : Int) : ∀ M : Int, yesM M 4 [.int .i64 x0, .int .i64 (.ofNat 86)] = true := by
  match x0 with
  | .ofNat 0 => exact n_86_0
  | .ofNat 1 => exact n_86_1
  | .ofNat 2 => exact n_86_2
  | .ofNat 3 => exact n_86_3
  | .ofNat 4 => exact n_86_4
  | .ofNat 5 => exact n_86_5
  | .ofNat 6 => exact n_86_6
  | .ofNat 7 => exact n_86_7
  | .ofNat 8 => exact n_86_8
  | .ofNat 9 => exact n_86_9
  | .negSucc m => exact n_86_lo m
  | .ofNat (m + 10) => exact n_86_hi m

theorem n_87 (x0 : Int) : ∀ M : Int, yesM M 4 [.int .i64 x0, .int .i64 (.ofNat 87)] = true := by
  match x0 with
  | .ofNat 0 => exact n_87_0
  | .ofNat 1 => exact n_87_1
  | .ofNat 2 => exact n_87_2
  | .ofNat 3 => exact n_87_3
  | .ofNat 4 => exact n_87_4
  | .ofNat 5 => exact n_87_5
  | .ofNat 6 => exact n_87_6
  | .ofNat 7 => exact n_87_7
  | .ofNat 8 => exact n_87_8
  | .ofNat 9 => exact n_87_9
  | .negSucc m => exact n_87_lo m
  | .ofNat (m + 10) => exact n_87_hi m

theorem n_88 (x0 : Int) : ∀ M : Int, yesM M 4 [.int .i64 x0, .int .i64 (.ofNat 88)] = true := by
  match x0 with
  | .ofNat 0 => exact n_88_0
  | .ofNat 1 => exact n_88_1
  | .ofNat 2 => exact n_88_2
  | .ofNat 3 => exact n_88_3
  | .ofNat 4 => exact n_88_4
  | .ofNat 5 => exact n_88_5
  | .ofNat 6 => exact n_88_6
  | .ofNat 7 => exact n_88_7
  | .ofNat 8 => exact n_88_8
  | .ofNat 9 => exact n_88_9
  | .negSucc m => exact n_88_lo m
  | .ofNat (m + 10) => exact n_88_hi m

theorem n_89 (x0 : Int) : ∀ M : Int, yesM M 4 [.int .i64 x0, .int .i64 (.ofNat 89)] = true := by
  match x0 with
  | .ofNat 0 => exact n_89_0
  | .ofNat 1 => exact n_89_1
  | .ofNat 2 => exact n_89_2
  | .ofNat 3 => exact n_89_3
  | .ofNat 4 => exact n_89_4
  | .ofNat 5 => exact n_89_5
  | .ofNat 6 => exact n_89_6
  | .ofNat 7 => exact n_89_7
  | .ofNat 8 => exact n_89_8
  | .ofNat 9 => exact n_89_9
  | .negSucc m => exact n_89_lo m
  | .ofNat (m + 10) => exact n_89_hi m

theorem n_90 (x0 : Int) : ∀ M : Int, yesM M 4 [.int .i64 x0, .int .i64 (.ofNat 90)] = true := by
  match x0 with
  | .ofNat 0 => exact n_90_0
  | .ofNat 1 => exact n_90_1
  | .ofNat 2 => exact n_90_2
  | .ofNat 3 => exact n_90_3
  | .ofNat 4 => exact n_90_4
  | .ofNat 5 => exact n_90_5
  | .ofNat 6 => exact n_90_6
  | .ofNat 7 => exact n_90_7
  | .ofNat 8 => exact n_90_8
  | .ofNat 9 => exact n_90_9
  | .negSucc m => exact n_90_lo m
  | .ofNat (m + 10) => exact n_90_hi m

theorem n (x1 : Int) (x0 : Int) : ∀ M : Int, yesM M 4 [.int .i64 x0, .int .i64 x1] = true := by
  match x1 with
  | .ofNat 0 => exact n_0 x0
  | .ofNat 1 => exact n_1 x0
  | .ofNat 2 => exact n_2 x0
  | .ofNat 3 => exact n_3 x0
  | .ofNat 4 => exact n_4 x0
  | .ofNat 5 => exact n_5 x0
  | .ofNat 6 => exact n_6 x0
  | .ofNat 7 => exact n_7 x0
  | .ofNat 8 => exact n_8 x0
  | .ofNat 9 => exact n_9 x0
  | .ofNat 10 => exact n_10 x0
  | .ofNat 11 => exact n_11 x0
  | .ofNat 12 => exact n_12 x0
  | .ofNat 13 => exact n_13 x0
  | .ofNat 14 => exact n_14 x0
  | .ofNat 15 => exact n_15 x0
  | .ofNat 16 => exact n_16 x0
  | .ofNat 17 => exact n_17 x0
  | .ofNat 18 => exact n_18 x0
  | .ofNat 19 => exact n_19 x0
  | .ofNat 20 => exact n_20 x0
  | .ofNat 21 => exact n_21 x0
  | .ofNat 22 => exact n_22 x0
  | .ofNat 23 => exact n_23 x0
  | .ofNat 24 => exact n_24 x0
  | .ofNat 25 => exact n_25 x0
  | .ofNat 26 => exact n_26 x0
  | .ofNat 27 => exact n_27 x0
  | .ofNat 28 => exact n_28 x0
  | .ofNat 29 => exact n_29 x0
  | .ofNat 30 => exact n_30 x0
  | .ofNat 31 => exact n_31 x0
  | .ofNat 32 => exact n_32 x0
  | .ofNat 33 => exact n_33 x0
  | .ofNat 34 => exact n_34 x0
  | .ofNat 35 => exact n_35 x0
  | .ofNat 36 => exact n_36 x0
  | .ofNat 37 => exact n_37 x0
  | .ofNat 38 => exact n_38 x0
  | .ofNat 39 => exact n_39 x0
  | .ofNat 40 => exact n_40 x0
  | .ofNat 41 => exact n_41 x0
  | .ofNat 42 => exact n_42 x0
  | .ofNat 43 => exact n_43 x0
  | .ofNat 44 => exact n_44 x0
  | .ofNat 45 => exact n_45 x0
  | .ofNat 46 => exact n_46 x0
  | .ofNat 47 => exact n_47 x0
  | .ofNat 48 => exact n_48 x0
  | .ofNat 49 => exact n_49 x0
  | .ofNat 50 => exact n_50 x0
  | .ofNat 51 => exact n_51 x0
  | .ofNat 52 => exact n_52 x0
  | .ofNat 53 => exact n_53 x0
  | .ofNat 54 => exact n_54 x0
  | .ofNat 55 => exact n_55 x0
  | .ofNat 56 => exact n_56 x0
  | .ofNat 57 => exact n_57 x0
  | .ofNat 58 => exact n_58 x0
  | .ofNat 59 => exact n_59 x0
  | .ofNat 60 => exact n_60 x0
  | .ofNat 61 => exact n_61 x0
  | .ofNat 62 => exact n_62 x0
  | .ofNat 63 => exact n_63 x0
  | .ofNat 64 => exact n_64 x0
  | .ofNat 65 => exact n_65 x0
  | .ofNat 66 => exact n_66 x0
  | .ofNat 67 => exact n_67 x0
  | .ofNat 68 => exact n_68 x0
  | .ofNat 69 => exact n_69 x0
  | .ofNat 70 => exact n_70 x0
  | .ofNat 71 => exact n_71 x0
  | .ofNat 72 => exact n_72 x0
  | .ofNat 73 => exact n_73 x0
  | .ofNat 74 => exact n_74 x0
  | .ofNat 75 => exact n_75 x0
  | .ofNat 76 => exact n_76 x0
  | .ofNat 77 => exact n_77 x0
  | .ofNat 78 => exact n_78 x0
  | .ofNat 79 => exact n_79 x0
  | .ofNat 80 => exact n_80 x0
  | .ofNat 81 => exact n_81 x0
  | .ofNat 82 => exact n_82 x0
  | .ofNat 83 => exact n_83 x0
  | .ofNat 84 => exact n_84 x0
  | .ofNat 85 => exact n_85 x0
  | .ofNat 86 => exact n_86 x0
  | .ofNat 87 => exact n_87 x0
  | .ofNat 88 => exact n_88 x0
  | .ofNat 89 => exact n_89 x0
  | .ofNat 90 => exact n_90 x0
  | .negSucc m => exact n_lo m x0
  | .ofNat (m + 91) => exact n_hi m x0

theorem walk (a0 : Int) (a1 : Int) {m : Int} (w : World) (hw : TabsIn w (tabs m)) :
    Calls Tryz.prog 4 #[.int .i64 a0, .int .i64 a1] w fun e w' => e = .returned (.bool true) ∧ Below w.heap.size w w' :=
  walk_of (by rfl) (n a1 a0) w hw


theorem tab_of {W : World} (h : laidMetH Tryz.prog Rows.machWordsRow.laid W) (hs : W.ShapedOpen P) : ∃ m, TabsIn W (tabs m) := by
  rw [MakeChecks.laidMetH_plain _ _ _ (by kernel_rfl)] at h
  have h64 : Lib.VarReads P W "math/bits.deBruijn64tab" (Lib.tabData .u8 zs) := Lib.laidMet.reads h (.tail _ (.head _))
  have h10 : Lib.VarReads P W "internal/strconv.uint64pow10" (Lib.tabData .u64 Lib.pow10Tab) := Lib.laidMet.reads h (.tail _ (.tail _ (.head _)))
  exact tabs_in (tabIs_of_reads (g := 1) (t := 233) (e := 140) (n := 20) (by kernel_rfl) (by kernel_rfl) (by kernel_rfl) (by kernel_rfl) (by kernel_rfl) (by kernel_rfl) h10) (tabIs_of_reads (g := 3) (t := 251) (e := 5) (n := 64) (by kernel_rfl) (by kernel_rfl) (by kernel_rfl) (by kernel_rfl) (by kernel_rfl) (by kernel_rfl) h64) hs

theorem lifted (os : Os) (started : os.Started) (H : Type) (enc : TypeId × Value → H) :
    ReturnsInHanded {} Tryz.checked os 4 .any (fun w args => (Rows.machWordsSpec.pre enc Tryz.prog Tryz.f4 [] false w args ∧ laidMetH Tryz.prog Rows.machWordsRow.laid w) ∧ sizedMet enc Tryz.prog Tryz.f4 (OpenSpec.ofChange Rows.machWordsSpec) false w args)
      (Rows.machWordsSpec.post enc Tryz.prog Tryz.f4 false true false false) := by
  refine returns_and_shaped (C := Tryz.checked) (X := fun w _ => laidMetH Tryz.prog Rows.machWordsRow.laid w) (fun _ _ _ hh h => h.of_heap hh) own started (by kernel_rfl) Tryz.func4
    (ChangeSpec.witness_shaped (enc := enc) (C := Tryz.checked) (os := os) (X := fun w _ => laidMetH Tryz.prog Rows.machWordsRow.laid w) false (World.laidAll Tryz.prog os Rows.machWordsRow.laid) #[.int .i64 0, .int .i64 0] 8 (World.laidAll_os _ _ _)
      (World.shaped_of_ZipB (by kernel_rfl) (by kernel_rfl)) (by kernel_rfl) (by kernel_rfl) (by kernel_rfl)
      (by rw [MakeChecks.laidMetH_plain _ _ _ (by kernel_rfl)]; exact laidMet_laidAll _ (by kernel_rfl) (by kernel_rfl))) ?_
  intro W base args ds gs before hval0 hW _ _ hL hS _
  have hval : ∀ (j : Nat) t v, Tryz.f4.params[j]? = some t → args[j]? = some v → Value.okWide Tryz.prog W .any base t v := hval0
  have hW' := hW
  obtain ⟨p, q, hA0, hV, rfl, hfz, hnd⟩ := hW
  have hA : DataW.TrodAll enc Tryz.prog W 0 (fun _ => true) true Tryz.f4.params.toList args.toList ds p := hA0
  rw [Tryz.params4] at hA hval
  obtain ⟨v0, vs0, d0, ds0, p0, q0, hargs, rfl, rfl, h0, r0⟩ := trodAll_cons hA
  obtain ⟨v1, vs1, d1, ds1, p1, q1, rfl, rfl, rfl, h1, r1⟩ := trodAll_cons r0
  obtain ⟨rfl, rfl, rfl⟩ := trodAll_nil r1
  obtain rfl : args = #[v0, v1] := by cases args; simp_all
  obtain ⟨rfl, rfl⟩ := trodVars_none hV
  obtain ⟨a0, rfl, rfl, rfl, w0⟩ := open_int Tryz.underlying3 (hval 0 3 v0 rfl rfl) h0
  obtain ⟨a1, rfl, rfl, rfl, w1⟩ := open_int Tryz.underlying3 (hval 1 3 v1 rfl rfl) h1
  clear hA0 hval0
  obtain ⟨m, hw⟩ := tab_of hL hS
  refine (walk a0 a1 W hw).mono fun e W' ⟨he, bel⟩ => ?_
  subst he
  exact ⟨_, rfl, _, _, _, [], _, [], hW', trodAll_mk1 (shut_bool Tryz.underlying4 _), (trodAll_cons_mk (shut_int Tryz.underlying3 w0) (trodAll_cons_mk (shut_int Tryz.underlying3 w1) trodAll_mk0)), rfl, bel.frame _, fun h => by cases h⟩

theorem over : Rows.MachWordsSaid :=
  OpenClaim.holds_of_wide 4 Tryz.f4 rfl rfl rfl rfl rfl rfl rfl ⟨rfl, rfl, rfl, rfl, rfl⟩ rfl rfl rfl rfl rfl (by kernel_rfl) Tryz.func4 (by kernel_rfl)
    (of_decide_eq_true (by kernel_rfl)) (by unfold Func.isWrapper; first | (rw [if_pos (by decide +kernel)]; kernel_rfl) | (rw [if_neg (by decide +kernel)]; exact ⟨rfl, rfl⟩))
    (fun os started H enc _ => lifted os started H enc)

theorem holds : Rows.MachWordsCardSaid :=
  Claim7.holds_tied_plain_at .later [] [.data, .data, .data, .data, .sentinel, .sentinel, .pinned] true (true, "a745c75d8e7f9fa93c1a9b9e759a91d5113c97a88eccf38097a1b536d166f8ad") true
    over (fun _ h => by cases h) (by kernel_rfl) (fun _ h => by cases h) machWords_row_tie rfl ⟨rfl, rfl⟩ (by kernel_rfl) rfl
    (fun f fn hf hfn => by
      obtain rfl : f = 4 := Option.some.inj ((show Tryz.prog.funcNamed "pigeonhole/pigeonholelaw12.MachWords" = some 4 by kernel_rfl).symm.trans hf) |>.symm
      obtain rfl : fn = Tryz.f4 := (Option.some.inj (Tryz.func4.symm.trans hfn)).symm
      exact ⟨by kernel_rfl, fun j t ht => by
        rw [Tryz.params4] at ht
        have hm : t ∈ [3, 3] := by simpa using Array.mem_of_getElem? ht
        have hall : ([3, 3].all fun u => !Tryz.prog.wantsStandIn u) = true := by kernel_rfl
        exact (show Tryz.prog.wantsStandIn t = false by simpa using List.all_eq_true.1 hall t hm)⟩)
    (by kernel_rfl)
#print axioms holds
end Go.Proofs.YtapnnpoljobanabGreatDoor.MachWords
