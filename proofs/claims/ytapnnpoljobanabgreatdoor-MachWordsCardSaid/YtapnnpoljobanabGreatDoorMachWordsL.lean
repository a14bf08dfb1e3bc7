/- 'MachWords': what lies outside its bounds, run by the kernel. Conditions: none. -/
import Derived.Test.YtapnnpoljobanabGreatDoorCw
namespace Go.Proofs.YtapnnpoljobanabGreatDoor.MachWords
open Go.Ex
set_option maxRecDepth 1000000
theorem n_lo (m : Nat) (x0 : Int) : ∀ M : Int, yesM M 4 [.int .i64 x0, .int .i64 (.negSucc m)] = true := by intro M; kernel_rfl
theorem n_hi (m : Nat) (x0 : Int) : ∀ M : Int, yesM M 4 [.int .i64 x0, .int .i64 (.ofNat (m + 91))] = true := by intro M; kernel_rfl
theorem n_0_lo (m : Nat) : ∀ M : Int, yesM M 4 [.int .i64 (.negSucc m), .int .i64 (.ofNat 0)] = true := by intro M; kernel_rfl
theorem n_0_hi (m : Nat) : ∀ M : Int, yesM M 4 [.int .i64 (.ofNat (m + 10)), .int .i64 (.ofNat 0)] = true := by intro M; kernel_rfl
theorem n_1_lo (m : Nat) : ∀ M : Int, yesM M 4 [.int .i64 (.negSucc m), .int .i64 (.ofNat 1)] = true := by intro M; kernel_rfl
theorem n_1_hi (m : Nat) : ∀ M : Int, yesM M 4 [.int .i64 (.ofNat (m + 10)), .int .i64 (.ofNat 1)] = true := by intro M; kernel_rfl
theorem n_2_lo (m : Nat) : ∀ M : Int, yesM M 4 [.int .i64 (.negSucc m), .int .i64 (.ofNat 2)] = true := by intro M; kernel_rfl
theorem n_2_hi (m : Nat) : ∀ M : Int, yesM M 4 [.int .i64 (.ofNat (m + 10)), .int .i64 (.ofNat 2)] = true := by intro M; kernel_rfl
theorem n_3_lo (m : Nat) : ∀ M : Int, yesM M 4 [.int .i64 (.negSucc m), .int .i64 (.ofNat 3)] = true := by intro M; kernel_rfl
theorem n_3_hi (m : Nat) : ∀ M : Int, yesM M 4 [.int .i64 (.ofNat (m + 10)), .int .i64 (.ofNat 3)] = true := by intro M; kernel_rfl
theorem n_4_lo (m : Nat) : ∀ M : Int, yesM M 4 [.int .i64 (.negSucc m), .int .i64 (.ofNat 4)] = true := by intro M; kernel_rfl
theorem n_4_hi (m : Nat) : ∀ M : Int, yesM M 4 [.int .i64 (.ofNat (m + 10)), .int .i64 (.ofNat 4)] = true := by intro M; kernel_rfl
theorem n_5_lo (m : Nat) : ∀ M : Int, yesM M 4 [.int .i64 (.negSucc m), .int .i64 (.ofNat 5)] = true := by intro M; kernel_rfl
theorem n_5_hi (m : Nat) : ∀ M : Int, yesM M 4 [.int .i64 (.ofNat (m + 10)), .int .i64 (.ofNat 5)] = true := by intro M; kernel_rfl
theorem n_6_lo (m : Nat) : ∀ M : Int, yesM M 4 [.int .i64 (.negSucc m), .int .i64 (.ofNat 6)] = true := by intro M; kernel_rfl
theorem n_6_hi (m : Nat) : ∀ M : Int, yesM M 4 [.int .i64 (.ofNat (m + 10)), .int .i64 (.ofNat 6)] = true := by intro M; kernel_rfl
theorem n_7_lo (m : Nat) : ∀ M : Int, yesM M 4 [.int .i64 (.negSucc m), .int .i64 (.ofNat 7)] = true := by intro M; kernel_rfl
theorem n_7_hi (m : Nat) : ∀ M : Int, yesM M 4 [.int .i64 (.ofNat (m + 10)), .int .i64 (.ofNat 7)] = true := by intro M; kernel_rfl
theorem n_8_lo (m : Nat) : ∀ M : Int, yesM M 4 [.int .i64 (.negSucc m), .int .i64 (.ofNat 8)] = true := by intro M; kernel_rfl
theorem n_8_hi (m : Nat) : ∀ M : Int, yesM M 4 [.int .i64 (.ofNat (m + 10)), .int .i64 (.ofNat 8)] = true := by intro M; kernel_rfl
theorem n_9_lo (m : Nat) : ∀ M : Int, yesM M 4 [.int .i64 (.negSucc m), .int .i64 (.ofNat 9)] = true := by intro M; kernel_rfl
theorem n_9_hi (m : Nat) : ∀ M : Int, yesM M 4 [.int .i64 (.ofNat (m + 10)), .int .i64 (.ofNat 9)] = true := by intro M; kernel_rfl
theorem n_10_lo (m : Nat) : ∀ M : Int, yesM M 4 [.int .i64 (.negSucc m), .int .i64 (.ofNat 10)] = true := by intro M; kernel_rfl
theorem n_10_hi (m : Nat) : ∀ M : Int, yesM M 4 [.int .i64 (.ofNat (m + 10)), .int .i64 (.ofNat 10)] = true := by intro M; kernel_rfl
theorem n_11_lo (m : Nat) : ∀ M : Int, yesM M 4 [.int .i64 (.negSucc m), .int .i64 (.ofNat 11)] = true := by intro M; kernel_rfl
theorem n_11_hi (m : Nat) : ∀ M : Int, yesM M 4 [.int .i64 (.ofNat (m + 10)), .int .i64 (.ofNat 11)] = true := by intro M; kernel_rfl
theorem n_12_lo (m : Nat) : ∀ M : Int, yesM M 4 [.int .i64 (.negSucc m), .int .i64 (.ofNat 12)] = true := by intro M; kernel_rfl
theorem n_12_hi (m : Nat) : ∀ M : Int, yesM M 4 [.int .i64 (.ofNat (m + 10)), .int .i64 (.ofNat 12)] = true := by intro M; kernel_rfl
theorem n_13_lo (m : Nat) : ∀ M : Int, yesM M 4 [.int .i64 (.negSucc m), .int .i64 (.ofNat 13)] = true := by intro M; kernel_rfl
theorem n_13_hi (m : Nat) : ∀ M : Int, yesM M 4 [.int .i64 (.ofNat (m + 10)), .int .i64 (.ofNat 13)] = true := by intro M; kernel_rfl
theorem n_14_lo (m : Nat) : ∀ M : Int, yesM M 4 [.int .i64 (.negSucc m), .int .i64 (.ofNat 14)] = true := by intro M; kernel_rfl
theorem n_14_hi (m : Nat) : ∀ M : Int, yesM M 4 [.int .i64 (.ofNat (m + 10)), .int .i64 (.ofNat 14)] = true := by intro M; kernel_rfl
theorem n_15_lo (m : Nat) : ∀ M : Int, yesM M 4 [.int .i64 (.negSucc m), .int .i64 (.ofNat 15)] = true := by intro M; kernel_rfl
theorem n_15_hi (m : Nat) : ∀ M : Int, yesM M 4 [.int .i64 (.ofNat (m + 10)), .int .i64 (.ofNat 15)] = true := by intro M; kernel_rfl
theorem n_16_lo (m : Nat) : ∀ M : Int, yesM M 4 [.int .i64 (.negSucc m), .int .i64 (.ofNat 16)] = true := by intro M; kernel_rfl
theorem n_16_hi (m : Nat) : ∀ M : Int, yesM M 4 [.int .i64 (.ofNat (m + 10)), .int .i64 (.ofNat 16)] = true := by intro M; kernel_rfl
theorem n_17_lo (m : Nat) : ∀ M : Int, yesM M 4 [.int .i64 (.negSucc m), .int .i64 (.ofNat 17)] = true := by intro M; kernel_rfl
theorem n_17_hi (m : Nat) : ∀ M : Int, yesM M 4 [.int .i64 (.ofNat (m + 10)), .int .i64 (.ofNat 17)] = true := by intro M; kernel_rfl
theorem n_18_lo (m : Nat) : ∀ M : Int, yesM M 4 [.int .i64 (.negSucc m), .int .i64 (.ofNat 18)] = true := by intro M; kernel_rfl
theorem n_18_hi (m : Nat) : ∀ M : Int, yesM M 4 [.int .i64 (.ofNat (m + 10)), .int .i64 (.ofNat 18)] = true := by intro M; kernel_rfl
theorem n_19_lo (m : Nat) : ∀ M : Int, yesM M 4 [.int .i64 (.negSucc m), .int .i64 (.ofNat 19)] = true := by intro M; kernel_rfl
theorem n_19_hi (m : Nat) : ∀ M : Int, yesM M 4 [.int .i64 (.ofNat (m + 10)), .int .i64 (.ofNat 19)] = true := by intro M; kernel_rfl
theorem n_20_lo (m : Nat) : ∀ M : Int, yesM M 4 [.int .i64 (.negSucc m), .int .i64 (.ofNat 20)] = true := by intro M; kernel_rfl
theorem n_20_hi (m : Nat) : ∀ M : Int, yesM M 4 [.int .i64 (.ofNat (m + 10)), .int .i64 (.ofNat 20)] = true := by intro M; kernel_rfl
theorem n_21_lo (m : Nat) : ∀ M : Int, yesM M 4 [.int .i64 (.negSucc m), .int .i64 (.ofNat 21)] = true := by intro M; kernel_rfl
theorem n_21_hi (m : Nat) : ∀ M : Int, yesM M 4 [.int .i64 (.ofNat (m + 10)), .int .i64 (.ofNat 21)] = true := by intro M; kernel_rfl
theorem n_22_lo (m : Nat) : ∀ M : Int, yesM M 4 [.int .i64 (.negSucc m), .int .i64 (.ofNat 22)] = true := by intro M; kernel_rfl
theorem n_22_hi (m : Nat) : ∀ M : Int, yesM M 4 [.int .i64 (.ofNat (m + 10)), .int .i64 (.ofNat 22)] = true := by intro M; kernel_rfl
theorem n_23_lo (m : Nat) : ∀ M : Int, yesM M 4 [.int .i64 (.negSucc m), .int .i64 (.ofNat 23)] = true := by intro M; kernel_rfl
theorem n_23_hi (m : Nat) : ∀ M : Int, yesM M 4 [.int .i64 (.ofNat (m + 10)), .int .i64 (.ofNat 23)] = true := by intro M; kernel_rfl
theorem n_24_lo (m : Nat) : ∀ M : Int, yesM M 4 [.int .i64 (.negSucc m), .int .i64 (.ofNat 24)] = true := by intro M; kernel_rfl
theorem n_24_hi (m : Nat) : ∀ M : Int, yesM M 4 [.int .i64 (.ofNat (m + 10)), .int .i64 (.ofNat 24)] = true := by intro M; kernel_rfl
theorem n_25_lo (m : Nat) : ∀ M : Int, yesM M 4 [.int .i64 (.negSucc m), .int .i64 (.ofNat 25)] = true := by intro M; kernel_rfl
theorem n_25_hi (m : Nat) : ∀ M : Int, yesM M 4 [.int .i64 (.ofNat (m + 10)), .int .i64 (.ofNat 25)] = true := by intro M; kernel_rfl
theorem n_26_lo (m : Nat) : ∀ M : Int, yesM M 4 [.int .i64 (.negSucc m), .int .i64 (.ofNat 26)] = true := by intro M; kernel_rfl
theorem n_26_hi (m : Nat) : ∀ M : Int, yesM M 4 [.int .i64 (.ofNat (m + 10)), .int .i64 (.ofNat 26)] = true := by intro M; kernel_rfl
theorem n_27_lo (m : Nat) : ∀ M : Int, yesM M 4 [.int .i64 (.negSucc m), .int .i64 (.ofNat 27)] = true := by intro M; kernel_rfl
theorem n_27_hi (m : Nat) : ∀ M : Int, yesM M 4 [.int .i64 (.ofNat (m + 10)), .int .i64 (.ofNat 27)] = true := by intro M; kernel_rfl
theorem n_28_lo (m : Nat) : ∀ M : Int, yesM M 4 [.int .i64 (.negSucc m), .int .i64 (.ofNat 28)] = true := by intro M; kernel_rfl
theorem n_28_hi (m : Nat) : ∀ M : Int, yesM M 4 [.int .i64 (.ofNat (m + 10)), .int .i64 (.ofNat 28)] = true := by intro M; kernel_rfl
theorem n_29_lo (m : Nat) : ∀ M : Int, yesM M 4 [.int .i64 (.negSucc m), .int .i64 (.ofNat 29)] = true := by intro M; kernel_rfl
theorem n_29_hi (m : Nat) : ∀ M : Int, yesM M 4 [.int .i64 (.ofNat (m + 10)), .int .i64 (.ofNat 29)] = true := by intro M; kernel_rfl
theorem n_30_lo (m : Nat) : ∀ M : Int, yesM M 4 [.int .i64 (.negSucc m), .int .i64 (.ofNat 30)] = true := by intro M; kernel_rfl
theorem n_30_hi (m : Nat) : ∀ M : Int, yesM M 4 [.int .i64 (.ofNat (m + 10)), .int .i64 (.ofNat 30)] = true := by intro M; kernel_rfl
theorem n_31_lo (m : Nat) : ∀ M : Int, yesM M 4 [.int .i64 (.negSucc m), .int .i64 (.ofNat 31)] = true := by intro M; kernel_rfl
theorem n_31_hi (m : Nat) : ∀ M : Int, yesM M 4 [.int .i64 (.ofNat (m + 10)), .int .i64 (.ofNat 31)] = true := by intro M; kernel_rfl
theorem n_32_lo (m : Nat) : ∀ M : Int, yesM M 4 [.int .i64 (.negSucc m), .int .i64 (.ofNat 32)] = true := by intro M; kernel_rfl
theorem n_32_hi (m : Nat) : ∀ M : Int, yesM M 4 [.int .i64 (.ofNat (m + 10)), .int .i64 (.ofNat 32)] = true := by intro M; kernel_rfl
theorem n_33_lo (m : Nat) : ∀ M : Int, yesM M 4 [.int .i64 (.negSucc m), .int .i64 (.ofNat 33)] = true := by intro M; kernel_rfl
theorem n_33_hi (m : Nat) : ∀ M : Int, yesM M 4 [.int .i64 (.ofNat (m + 10)), .int .i64 (.ofNat 33)] = true := by intro M; kernel_rfl
theorem n_34_lo (m : Nat) : ∀ M : Int, yesM M 4 [.int .i64 (.negSucc m), .int .i64 (.ofNat 34)] = true := by intro M; kernel_rfl
theorem n_34_hi (m : Nat) : ∀ M : Int, yesM M 4 [.int .i64 (.ofNat (m + 10)), .int .i64 (.ofNat 34)] = true := by intro M; kernel_rfl
theorem n_35_lo (m : Nat) : ∀ M : Int, yesM M 4 [.int .i64 (.negSucc m), .int .i64 (.ofNat 35)] = true := by intro M; kernel_rfl
theorem n_35_hi (m : Nat) : ∀ M : Int, yesM M 4 [.int .i64 (.ofNat (m + 10)), .int .i64 (.ofNat 35)] = true := by intro M; kernel_rfl
theorem n_36_lo (m : Nat) : ∀ M : Int, yesM M 4 [.int .i64 (.negSucc m), .int .i64 (.ofNat 36)] = true := by intro M; kernel_rfl
theorem n_36_hi (m : Nat) : ∀ M : Int, yesM M 4 [.int .i64 (.ofNat (m + 10)), .int .i64 (.ofNat 36)] = true := by intro M; kernel_rfl
theorem n_37_lo (m : Nat) : ∀ M : Int, yesM M 4 [.int .i64 (.negSucc m), .int .i64 (.ofNat 37)] = true := by intro M; kernel_rfl
theorem n_37_hi (m : Nat) : ∀ M : Int, yesM M 4 [.int .i64 (.ofNat (m + 10)), .int .i64 (.ofNat 37)] = true := by intro M; kernel_rfl
theorem n_38_lo (m : Nat) : ∀ M : Int, yesM M 4 [.int .i64 (.negSucc m), .int .i64 (.ofNat 38)] = true := by intro M; kernel_rfl
theorem n_38_hi (m : Nat) : ∀ M : Int, yesM M 4 [.int .i64 (.ofNat (m + 10)), .int .i64 (.ofNat 38)] = true := by intro M; kernel_rfl
theorem n_39_lo (m : Nat) : ∀ M : Int, yesM M 4 [.int .i64 (.negSucc m), .int .i64 (.ofNat 39)] = true := by intro M; kernel_rfl
theorem n_39_hi (m : Nat) : ∀ M : Int, yesM M 4 [.int .i64 (.ofNat (m + 10)), .int .i64 (.ofNat 39)] = true := by intro M; kernel_rfl
theorem n_40_lo (m : Nat) : ∀ M : Int, yesM M 4 [.int .i64 (.negSucc m), .int .i64 (.ofNat 40)] = true := by intro M; kernel_rfl
theorem n_40_hi (m : Nat) : ∀ M : Int, yesM M 4 [.int .i64 (.ofNat (m + 10)), .int .i64 (.ofNat 40)] = true := by intro M; kernel_rfl
theorem n_41_lo (m : Nat) : ∀ M : Int, yesM M 4 [.int .i64 (.negSucc m), .int .i64 (.ofNat 41)] = true := by intro M; kernel_rfl
theorem n_41_hi (m : Nat) : ∀ M : Int, yesM M 4 [.int .i64 (.ofNat (m + 10)), .int .i64 (.ofNat 41)] = true := by intro M; kernel_rfl
theorem n_42_lo (m : Nat) : ∀ M : Int, yesM M 4 [.int .i64 (.negSucc m), .int .i64 (.ofNat 42)] = true := by intro M; kernel_rfl
theorem n_42_hi (m : Nat) : ∀ M : Int, yesM M 4 [.int .i64 (.ofNat (m + 10)), .int .i64 (.ofNat 42)] = true := by intro M; kernel_rfl
theorem n_43_lo (m : Nat) : ∀ M : Int, yesM M 4 [.int .i64 (.negSucc m), .int .i64 (.ofNat 43)] = true := by intro M; kernel_rfl
theorem n_43_hi (m : Nat) : ∀ M : Int, yesM M 4 [.int .i64 (.ofNat (m + 10)), .int .i64 (.ofNat 43)] = true := by intro M; kernel_rfl
theorem n_44_lo (m : Nat) : ∀ M : Int, yesM M 4 [.int .i64 (.negSucc m), .int .i64 (.ofNat 44)] = true := by intro M; kernel_rfl
theorem n_44_hi (m : Nat) : ∀ M : Int, yesM M 4 [.int .i64 (.ofNat (m + 10)), .int .i64 (.ofNat 44)] = true := by intro M; kernel_rfl
theorem n_45_lo (m : Nat) : ∀ M : Int, yesM M 4 [.int .i64 (.negSucc m), .int .i64 (.ofNat 45)] = true := by intro M; kernel_rfl
theorem n_45_hi (m : Nat) : ∀ M : Int, yesM M 4 [.int .i64 (.ofNat (m + 10)), .int .i64 (.ofNat 45)] = true := by intro M; kernel_rfl
theorem n_46_lo (m : Nat) : ∀ M : Int, yesM M 4 [.int .i64 (.negSucc m), .int .i64 (.ofNat 46)] = true := by intro M; kernel_rfl
theorem n_46_hi (m : Nat) : ∀ M : Int, yesM M 4 [.int .i64 (.ofNat (m + 10)), .int .i64 (.ofNat 46)] = true := by intro M; kernel_rfl
theorem n_47_lo (m : Nat) : ∀ M : Int, yesM M 4 [.int .i64 (.negSucc m), .int .i64 (.ofNat 47)] = true := by intro M; kernel_rfl
theorem n_47_hi (m : Nat) : ∀ M : Int, yesM M 4 [.int .i64 (.ofNat (m + 10)), .int .i64 (.ofNat 47)] = true := by intro M; kernel_rfl
theorem n_48_lo (m : Nat) : ∀ M : Int, yesM M 4 [.int .i64 (.negSucc m), .int .i64 (.ofNat 48)] = true := by intro M; kernel_rfl
theorem n_48_hi (m : Nat) : ∀ M : Int, yesM M 4 [.int .i64 (.ofNat (m + 10)), .int .i64 (.ofNat 48)] = true := by intro M; kernel_rfl
theorem n_49_lo (m : Nat) : ∀ M : Int, yesM M 4 [.int .i64 (.negSucc m), .int .i64 (.ofNat 49)] = true := by intro M; kernel_rfl
theorem n_49_hi (m : Nat) : ∀ M : Int, yesM M 4 [.int .i64 (.ofNat (m + 10)), .int .i64 (.ofNat 49)] = true := by intro M; kernel_rfl
theorem n_50_lo (m : Nat) : ∀ M : Int, yesM M 4 [.int .i64 (.negSucc m), .int .i64 (.ofNat 50)] = true := by intro M; kernel_rfl
theorem n_50_hi (m : Nat) : ∀ M : Int, yesM M 4 [.int .i64 (.ofNat (m + 10)), .int .i64 (.ofNat 50)] = true := by intro M; kernel_rfl
theorem n_51_lo (m : Nat) : ∀ M : Int, yesM M 4 [.int .i64 (.negSucc m), .int .i64 (.ofNat 51)] = true := by intro M; kernel_rfl
theorem n_51_hi (m : Nat) : ∀ M : Int, yesM M 4 [.int .i64 (.ofNat (m + 10)), .int .i64 (.ofNat 51)] = true := by intro M; kernel_rfl
theorem n_52_lo (m : Nat) : ∀ M : Int, yesM M 4 [.int .i64 (.negSucc m), .int .i64 (.ofNat 52)] = true := by intro M; kernel_rfl
theorem n_52_hi (m : Nat) : ∀ M : Int, yesM M 4 [.int .i64 (.ofNat (m + 10)), .int .i64 (.ofNat 52)] = true := by intro M; kernel_rfl
theorem n_53_lo (m : Nat) : ∀ M : Int, yesM M 4 [.int .i64 (.negSucc m), .int .i64 (.ofNat 53)] = true := by intro M; kernel_rfl
theorem n_53_hi (m : Nat) : ∀ M : Int, yesM M 4 [.int .i64 (.ofNat (m + 10)), .int .i64 (.ofNat 53)] = true := by intro M; kernel_rfl
theorem n_54_lo (m : Nat) : ∀ M : Int, yesM M 4 [.int .i64 (.negSucc m), .int .i64 (.ofNat 54)] = true := by intro M; kernel_rfl
theorem n_54_hi (m : Nat) : ∀ M : Int, yesM M 4 [.int .i64 (.ofNat (m + 10)), .int .i64 (.ofNat 54)] = true := by intro M; kernel_rfl
theorem n_55_lo (m : Nat) : ∀ M : Int, yesM M 4 [.int .i64 (.negSucc m), .int .i64 (.ofNat 55)] = true := by intro M; kernel_rfl
theorem n_55_hi (m : Nat) : ∀ M : Int, yesM M 4 [.int .i64 (.ofNat (m + 10)), .int .i64 (.ofNat 55)] = true := by intro M; kernel_rfl
theorem n_56_lo (m : Nat) : ∀ M : Int, yesM M 4 [.int .i64 (.negSucc m), .int .i64 (.ofNat 56)] = true := by intro M; kernel_rfl
theorem n_56_hi (m : Nat) : ∀ M : Int, yesM M 4 [.int .i64 (.ofNat (m + 10)), .int .i64 (.ofNat 56)] = true := by intro M; kernel_rfl
theorem n_57_lo (m : Nat) : ∀ M : Int, yesM M 4 [.int .i64 (.negSucc m), .int .i64 (.ofNat 57)] = true := by intro M; kernel_rfl
theorem n_57_hi (m : Nat) : ∀ M : Int, yesM M 4 [.int .i64 (.ofNat (m + 10)), .int .i64 (.ofNat 57)] = true := by intro M; kernel_rfl
theorem n_58_lo (m : Nat) : ∀ M : Int, yesM M 4 [.int .i64 (.negSucc m), .int .i64 (.ofNat 58)] = true := by intro M; kernel_rfl
theorem n_58_hi (m : Nat) : ∀ M : Int, yesM M 4 [.int .i64 (.ofNat (m + 10)), .int .i64 (.ofNat 58)] = true := by intro M; kernel_rfl
theorem n_59_lo (m : Nat) : ∀ M : Int, yesM M 4 [.int .i64 (.negSucc m), .int .i64 (.ofNat 59)] = true := by intro M; kernel_rfl
theorem n_59_hi (m : Nat) : ∀ M : Int, yesM M 4 [.int .i64 (.ofNat (m + 10)), .int .i64 (.ofNat 59)] = true := by intro M; kernel_rfl
theorem n_60_lo (m : Nat) : ∀ M : Int, yesM M 4 [.int .i64 (.negSucc m), .int .i64 (.ofNat 60)] = true := by intro M; kernel_rfl
theorem n_60_hi (m : Nat) : ∀ M : Int, yesM M 4 [.int .i64 (.ofNat (m + 10)), .int .i64 (.ofNat 60)] = true := by intro M; kernel_rfl
theorem n_61_lo (m : Nat) : ∀ M : Int, yesM M 4 [.int .i64 (.negSucc m), .int .i64 (.ofNat 61)] = true := by intro M; kernel_rfl
theorem n_61_hi (m : Nat) : ∀ M : Int, yesM M 4 [.int .i64 (.ofNat (m + 10)), .int .i64 (.ofNat 61)] = true := by intro M; kernel_rfl
theorem n_62_lo (m : Nat) : ∀ M : Int, yesM M 4 [.int .i64 (.negSucc m), .int .i64 (.ofNat 62)] = true := by intro M; kernel_rfl
theorem n_62_hi (m : Nat) : ∀ M : Int, yesM M 4 [.int .i64 (.ofNat (m + 10)), .int .i64 (.ofNat 62)] = true := by intro M; kernel_rfl
theorem n_63_lo (m : Nat) : ∀ M : Int, yesM M 4 [.int .i64 (.negSucc m), .int .i64 (.ofNat 63)] = true := by intro M; kernel_rfl
theorem n_63_hi (m : Nat) : ∀ M : Int, yesM M 4 [.int .i64 (.ofNat (m + 10)), .int .i64 (.ofNat 63)] = true := by intro M; kernel_rfl
theorem n_64_lo (m : Nat) : ∀ M : Int, yesM M 4 [.int .i64 (.negSucc m), .int .i64 (.ofNat 64)] = true := by intro M; kernel_rfl
theorem n_64_hi (m : Nat) : ∀ M : Int, yesM M 4 [.int .i64 (.ofNat (m + 10)), .int .i64 (.ofNat 64)] = true := by intro M; kernel_rfl
theorem n_65_lo (m : Nat) : ∀ M : Int, yesM M 4 [.int .i64 (.negSucc m), .int .i64 (.ofNat 65)] = true := by intro M; kernel_rfl
theorem n_65_hi (m : Nat) : ∀ M : Int, yesM M 4 [.int .i64 (.ofNat (m + 10)), .int .i64 (.ofNat 65)] = true := by intro M; kernel_rfl
theorem n_66_lo (m : Nat) : ∀ M : Int, yesM M 4 [.int .i64 (.negSucc m), .int .i64 (.ofNat 66)] = true := by intro M; kernel_rfl
theorem n_66_hi (m : Nat) : ∀ M : Int, yesM M 4 [.int .i64 (.ofNat (m + 10)), .int .i64 (.ofNat 66)] = true := by intro M; kernel_rfl
theorem n_67_lo (m : Nat) : ∀ M : Int, yesM M 4 [.int .i64 (.negSucc m), .int .i64 (.ofNat 67)] = true := by intro M; kernel_rfl
theorem n_67_hi (m : Nat) : ∀ M : Int, yesM M 4 [.int .i64 (.ofNat (m + 10)), .int .i64 (.ofNat 67)] = true := by intro M; kernel_rfl
theorem n_68_lo (m : Nat) : ∀ M : Int, yesM M 4 [.int .i64 (.negSucc m), .int .i64 (.ofNat 68)] = true := by intro M; kernel_rfl
theorem n_68_hi (m : Nat) : ∀ M : Int, yesM M 4 [.int .i64 (.ofNat (m + 10)), .int .i64 (.ofNat 68)] = true := by intro M; kernel_rfl
theorem n_69_lo (m : Nat) : ∀ M : Int, yesM M 4 [.int .i64 (.negSucc m), .int .i64 (.ofNat 69)] = true := by intro M; kernel_rfl
theorem n_69_hi (m : Nat) : ∀ M : Int, yesM M 4 [.int .i64 (.ofNat (m + 10)), .int .i64 (.ofNat 69)] = true := by intro M; kernel_rfl
theorem n_70_lo (m : Nat) : ∀ M : Int, yesM M 4 [.int .i64 (.negSucc m), .int .i64 (.ofNat 70)] = true := by intro M; kernel_rfl
theorem n_70_hi (m : Nat) : ∀ M : Int, yesM M 4 [.int .i64 (.ofNat (m + 10)), .int .i64 (.ofNat 70)] = true := by intro M; kernel_rfl
theorem n_71_lo (m : Nat) : ∀ M : Int, yesM M 4 [.int .i64 (.negSucc m), .int .i64 (.ofNat 71)] = true := by intro M; kernel_rfl
theorem n_71_hi (m : Nat) : ∀ M : Int, yesM M 4 [.int .i64 (.ofNat (m + 10)), .int .i64 (.ofNat 71)] = true := by intro M; kernel_rfl
theorem n_72_lo (m : Nat) : ∀ M : Int, yesM M 4 [.int .i64 (.negSucc m), .int .i64 (.ofNat 72)] = true := by intro M; kernel_rfl
theorem n_72_hi (m : Nat) : ∀ M : Int, yesM M 4 [.int .i64 (.ofNat (m + 10)), .int .i64 (.ofNat 72)] = true := by intro M; kernel_rfl
theorem n_73_lo (m : Nat) : ∀ M : Int, yesM M 4 [.int .i64 (.negSucc m), .int .i64 (.ofNat 73)] = true := by intro M; kernel_rfl
theorem n_73_hi (m : Nat) : ∀ M : Int, yesM M 4 [.int .i64 (.ofNat (m + 10)), .int .i64 (.ofNat 73)] = true := by intro M; kernel_rfl
theorem n_74_lo (m : Nat) : ∀ M : Int, yesM M 4 [.int .i64 (.negSucc m), .int .i64 (.ofNat 74)] = true := by intro M; kernel_rfl
theorem n_74_hi (m : Nat) : ∀ M : Int, yesM M 4 [.int .i64 (.ofNat (m + 10)), .int .i64 (.ofNat 74)] = true := by intro M; kernel_rfl
theorem n_75_lo (m : Nat) : ∀ M : Int, yesM M 4 [.int .i64 (.negSucc m), .int .i64 (.ofNat 75)] = true := by intro M; kernel_rfl
theorem n_75_hi (m : Nat) : ∀ M : Int, yesM M 4 [.int .i64 (.ofNat (m + 10)), .int .i64 (.ofNat 75)] = true := by intro M; kernel_rfl
theorem n_76_lo (m : Nat) : ∀ M : Int, yesM M 4 [.int .i64 (.negSucc m), .int .i64 (.ofNat 76)] = true := by intro M; kernel_rfl
theorem n_76_hi (m : Nat) : ∀ M : Int, yesM M 4 [.int .i64 (.ofNat (m + 10)), .int .i64 (.ofNat 76)] = true := by intro M; kernel_rfl
theorem n_77_lo (m : Nat) : ∀ M : Int, yesM M 4 [.int .i64 (.negSucc m), .int .i64 (.ofNat 77)] = true := by intro M; kernel_rfl
theorem n_77_hi (m : Nat) : ∀ M : Int, yesM M 4 [.int .i64 (.ofNat (m + 10)), .int .i64 (.ofNat 77)] = true := by intro M; kernel_rfl
theorem n_78_lo (m : Nat) : ∀ M : Int, yesM M 4 [.int .i64 (.negSucc m), .int .i64 (.ofNat 78)] = true := by intro M; kernel_rfl
theorem n_78_hi (m : Nat) : ∀ M : Int, yesM M 4 [.int .i64 (.ofNat (m + 10)), .int .i64 (.ofNat 78)] = true := by intro M; kernel_rfl
theorem n_79_lo (m : Nat) : ∀ M : Int, yesM M 4 [.int .i64 (.negSucc m), .int .i64 (.ofNat 79)] = true := by intro M; kernel_rfl
theorem n_79_hi (m : Nat) : ∀ M : Int, yesM M 4 [.int .i64 (.ofNat (m + 10)), .int .i64 (.ofNat 79)] = true := by intro M; kernel_rfl
theorem n_80_lo (m : Nat) : ∀ M : Int, yesM M 4 [.int .i64 (.negSucc m), .int .i64 (.ofNat 80)] = true := by intro M; kernel_rfl
theorem n_80_hi (m : Nat) : ∀ M : Int, yesM M 4 [.int .i64 (.ofNat (m + 10)), .int .i64 (.ofNat 80)] = true := by intro M; kernel_rfl
theorem n_81_lo (m : Nat) : ∀ M : Int, yesM M 4 [.int .i64 (.negSucc m), .int .i64 (.ofNat 81)] = true := by intro M; kernel_rfl
theorem n_81_hi (m : Nat) : ∀ M : Int, yesM M 4 [.int .i64 (.ofNat (m + 10)), .int .i64 (.ofNat 81)] = true := by intro M; kernel_rfl
theorem n_82_lo (m : Nat) : ∀ M : Int, yesM M 4 [.int .i64 (.negSucc m), .int .i64 (.ofNat 82)] = true := by intro M; kernel_rfl
theorem n_82_hi (m : Nat) : ∀ M : Int, yesM M 4 [.int .i64 (.ofNat (m + 10)), .int .i64 (.ofNat 82)] = true := by intro M; kernel_rfl
theorem n_83_lo (m : Nat) : ∀ M : Int, yesM M 4 [.int .i64 (.negSucc m), .int .i64 (.ofNat 83)] = true := by intro M; kernel_rfl
theorem n_83_hi (m : Nat) : ∀ M : Int, yesM M 4 [.int .i64 (.ofNat (m + 10)), .int .i64 (.ofNat 83)] = true := by intro M; kernel_rfl
theorem n_84_lo (m : Nat) : ∀ M : Int, yesM M 4 [.int .i64 (.negSucc m), .int .i64 (.ofNat 84)] = true := by intro M; kernel_rfl
theorem n_84_hi (m : Nat) : ∀ M : Int, yesM M 4 [.int .i64 (.ofNat (m + 10)), .int .i64 (.ofNat 84)] = true := by intro M; kernel_rfl
theorem n_85_lo (m : Nat) : ∀ M : Int, yesM M 4 [.int .i64 (.negSucc m), .int .i64 (.ofNat 85)] = true := by intro M; kernel_rfl
theorem n_85_hi (m : Nat) : ∀ M : Int, yesM M 4 [.int .i64 (.ofNat (m + 10)), .int .i64 (.ofNat 85)] = true := by intro M; kernel_rfl
theorem n_86_lo (m : Nat) : ∀ M : Int, yesM M 4 [.int .i64 (.negSucc m), .int .i64 (.ofNat 86)] = true := by intro M; kernel_rfl
theorem n_86_hi (m : Nat) : ∀ M : Int, yesM M 4 [.int .i64 (.ofNat (m + 10)), .int .i64 (.ofNat 86)] = true := by intro M; kernel_rfl
theorem n_87_lo (m : Nat) : ∀ M : Int, yesM M 4 [.int .i64 (.negSucc m), .int .i64 (.ofNat 87)] = true := by intro M; kernel_rfl
theorem n_87_hi (m : Nat) : ∀ M : Int, yesM M 4 [.int .i64 (.ofNat (m + 10)), .int .i64 (.ofNat 87)] = true := by intro M; kernel_rfl
theorem n_88_lo (m : Nat) : ∀ M : Int, yesM M 4 [.int .i64 (.negSucc m), .int .i64 (.ofNat 88)] = true := by intro M; kernel_rfl
theorem n_88_hi (m : Nat) : ∀ M : Int, yesM M 4 [.int .i64 (.ofNat (m + 10)), .int .i64 (.ofNat 88)] = true := by intro M; kernel_rfl
theorem n_89_lo (m : Nat) : ∀ M : Int, yesM M 4 [.int .i64 (.negSucc m), .int .i64 (.ofNat 89)] = true := by intro M; kernel_rfl
theorem n_89_hi (m : Nat) : ∀ M : Int, yesM M 4 [.int .i64 (.ofNat (m + 10)), .int .i64 (.ofNat 89)] = true := by intro M; kernel_rfl
theorem n_90_lo (m : Nat) : ∀ M : Int, yesM M 4 [.int .i64 (.negSucc m), .int .i64 (.ofNat 90)] = true := by intro M; kernel_rfl
theorem n_90_hi (m : Nat) : ∀ M : Int, yesM M 4 [.int .i64 (.ofNat (m + 10)), .int .i64 (.ofNat 90)] = true := by intro M; kernel_rfl
end Go.Proofs.YtapnnpoljobanabGreatDoor.MachWords
