/- 'MachBounds' tells true, whatever it is given; a table of package math/bits is tied to the program text. Conditions: none. -/
import Derived.Test.YtapnnpoljobanabGreatDoorMachBoundsL
import Derived.Test.YtapnnpoljobanabGreatDoorMachBoundsCA
import Derived.Test.YtapnnpoljobanabGreatDoorMachBoundsCB
import Derived.Test.YtapnnpoljobanabGreatDoorMachBoundsCC
import Derived.Test.YtapnnpoljobanabGreatDoorMachBoundsCD
import Derived.Test.YtapnnpoljobanabGreatDoorCards
import Derived.Test.YtapnnpoljobanabGreatDoorTie
import Derived.SevenTiedAt
import Derived.Lay
namespace Go.Proofs.YtapnnpoljobanabGreatDoor.MachBounds
open Go Go.Ex Go.ChangeShapes Go.WideShapes Go.ChangeAt Go.RowKit
set_option maxRecDepth 100000

theorem n_0 (x1 : Int) : ∀ M : Int, yesM M 3 [.int .i64 (.ofNat 0), .int .i64 x1] = true := by
  match x1 with
  | .ofNat 0 => exact n_0_0
  | .ofNat 1 => exact n_0_1
  | .ofNat 2 => exact n_0_2
  | .negSucc m => exact n_0_lo m
  | .ofNat (m + 3) => exact n_0_hi m

theorem n_1 (x1 : Int) : ∀ M : Int, yesM M 3 [.int .i64 (.ofNat 1), .int .i64 x1] = true := by
  match x1 with
  | .ofNat 0 => exact n_1_0
  | .ofNat 1 => exact n_1_1
  | .ofNat 2 => exact n_1_2
  | .ofNat 3 => exact n_1_3
  | .ofNat 4 => exact n_1_4
  | .negSucc m => exact n_1_lo m
  | .ofNat (m + 5) => exact n_1_hi m

theorem n_2 (x1 : Int) : ∀ M : Int, yesM M 3 [.int .i64 (.ofNat 2), .int .i64 x1] = true := by
  match x1 with
  | .ofNat 0 => exact n_2_0
  | .ofNat 1 => exact n_2_1
  | .negSucc m => exact n_2_lo m
  | .ofNat (m + 2) => exact n_2_hi m

theorem n_3 (x1 : Int) : ∀ M : Int, yesM M 3 [.int .i64 (.ofNat 3), .int .i64 x1] = true := by
  match x1 with
  | .ofNat 0 => exact n_3_0
  | .ofNat 1 => exact n_3_1
  | .ofNat 2 => exact n_3_2
  | .ofNat 3 => exact n_3_3
  | .negSucc m => exact n_3_lo m
  | .ofNat (m + 4) => exact n_3_hi m

theorem n_4 (x1 : Int) : ∀ M : Int, yesM M 3 [.int .i64 (.ofNat 4), .int .i64 x1] = true := by
  match x1 with
  | .negSucc 0 => exact n_4_m1
  | .ofNat 0 => exact n_4_0
  | .negSucc (m + 1) => exact n_4_lo m
  | .ofNat (m + 1) => exact n_4_hi m

theorem n_5 (x1 : Int) : ∀ M : Int, yesM M 3 [.int .i64 (.ofNat 5), .int .i64 x1] = true := by
  match x1 with
  | .ofNat 0 => exact n_5_0
  | .ofNat 1 => exact n_5_1
  | .ofNat 2 => exact n_5_2
  | .ofNat 3 => exact n_5_3
  | .ofNat 4 => exact n_5_4
  | .ofNat 5 => exact n_5_5
  | .ofNat 6 => exact n_5_6
  | .ofNat 7 => exact n_5_7
  | .ofNat 8 => exact n_5_8
  | .ofNat 9 => exact n_5_9
  | .ofNat 10 => exact n_5_10
  | .ofNat 11 => exact n_5_11
  | .ofNat 12 => exact n_5_12
  | .ofNat 13 => exact n_5_13
  | .ofNat 14 => exact n_5_14
  | .ofNat 15 => exact n_5_15
  | .ofNat 16 => exact n_5_16
  | .ofNat 17 => exact n_5_17
  | .ofNat 18 => exact n_5_18
  | .ofNat 19 => exact n_5_19
  | .ofNat 20 => exact n_5_20
  | .ofNat 21 => exact n_5_21
  | .ofNat 22 => exact n_5_22
  | .ofNat 23 => exact n_5_23
  | .ofNat 24 => exact n_5_24
  | .ofNat 25 => exact n_5_25
  | .ofNat 26 => exact n_5_26
  | .ofNat 27 => exact n_5_27
  | .ofNat 28 => exact n_5_28
  | .ofNat 29 => exact n_5_29
  | .ofNat 30 => exact n_5_30
  | .ofNat 31 => exact n_5_31
  | .ofNat 32 => exact n_5_32
  | .ofNat 33 => exact n_5_33
  | .ofNat 34 => exact n_5_34
  | .ofNat 35 => exact n_5_35
  | .ofNat 36 => exact n_5_36
  | .ofNat 37 => exact n_5_37
  | .ofNat 38 => exact n_5_38
  | .ofNat 39 => exact n_5_39
  | .ofNat 40 => exact n_5_40
  | .ofNat 41 => exact n_5_41
  | .ofNat 42 => exact n_5_42
  | .ofNat 43 => exact n_5_43
  | .ofNat 44 => exact n_5_44
  | .ofNat 45 => exact n_5_45
  | .ofNat 46 => exact n_5_46
  | .ofNat 47 => exact n_5_47
  | .ofNat 48 => exact n_5_48
  | .ofNat 49 => exact n_5_49
  | .ofNat 50 => exact n_5_50
  | .ofNat 51 => exact n_5_51
  | .ofNat 52 => exact n_5_52
  | .ofNat 53 => exact n_5_53
  | .ofNat 54 => exact n_5_54
  | .ofNat 55 => exact n_5_55
  | .ofNat 56 => exact n_5_56
  | .ofNat 57 => exact n_5_57
  | .ofNat 58 => exact n_5_58
  | .ofNat 59 => exact n_5_59
  | .ofNat 60 => exact n_5_60
  | .ofNat 61 => exact n_5_61
  | .ofNat 62 => exact n_5_62
  | .ofNat 63 => exact n_5_63
  | .ofNat 64 => exact n_5_64
  | .ofNat 65 => exact n_5_65
  | .ofNat 66 => exact n_5_66
  | .ofNat 67 => exact n_5_67
  | .ofNat 68 => exact n_5_68
  | .ofNat 69 => exact n_5_69
  | .ofNat 70 => exact n_5_70
  | .ofNat 71 => exact n_5_71
  | .ofNat 72 => exact n_5_72
  | .ofNat 73 => exact n_5_73
  | .ofNat 74 => exact n_5_74
  | .ofNat 75 => exact n_5_75
  | .ofNat 76 => exact n_5_76
  | .ofNat 77 => exact n_5_77
  | .ofNat 78 => exact n_5_78
  | .ofNat 79 => exact n_5_79
  | .ofNat 80 => exact n_5_80
  | .ofNat 81 => exact n_5_81
  | .ofNat 82 => exact n_5_82
  | .ofNat 83 => exact n_5_83
  | .ofNat 84 => exact n_5_84
  | .ofNat 85 => exact n_5_85
  | .ofNat 86 => exact n_5_86
  | .ofNat 87 => exact n_5_87
  | .ofNat 88 => exact n_5_88
  | .ofNat 89 => exact n_5_89
  | .ofNat 90 => exact n_5_90
  | .ofNat 91 => exact n_5_91
  | .ofNat 92 => exact n_5_92
  | .ofNat 93 => exact n_5_93
  | .ofNat 94 => exact n_5_94
  | .ofNat 95 => exact n_5_95
  | .ofNat 96 => exact n_5_96
  | .ofNat 97 => exact n_5_97
  | .ofNat 98 => exact n_5_98
  | .ofNat 99 => exact n_5_99
  | .ofNat 100 => exact n_5_100
  | .negSucc m => exact n_5_lo m
  | .ofNat (m + 101) => exact n_5_hi m

theorem n_6 (x1 : Int) : ∀ M : Int, yesM M 3 [.int .i64 (.ofNat 6), .int .i64 x1] = true := by
  match x1 with
  | .ofNat 0 => exact n_6_0
  | .ofNat 1 => exact n_6_1
  | .ofNat 2 => exact n_6_2
  | .ofNat 3 => exact n_6_3
  | .ofNat 4 => exact n_6_4
  | .negSucc m => exact n_6_lo m
  | .ofNat (m + 5) => exact n_6_hi m

theorem n_7 (x1 : Int) : ∀ M : Int, yesM M 3 [.int .i64 (.ofNat 7), .int .i64 x1] = true := by
  match x1 with
  | .ofNat 0 => exact n_7_0
  | .ofNat 1 => exact n_7_1
  | .ofNat 2 => exact n_7_2
  | .ofNat 3 => exact n_7_3
  | .ofNat 4 => exact n_7_4
  | .ofNat 5 => exact n_7_5
  | .ofNat 6 => exact n_7_6
  | .ofNat 7 => exact n_7_7
  | .ofNat 8 => exact n_7_8
  | .ofNat 9 => exact n_7_9
  | .ofNat 10 => exact n_7_10
  | .ofNat 11 => exact n_7_11
  | .negSucc m => exact n_7_lo m
  | .ofNat (m + 12) => exact n_7_hi m

theorem n (x0 : Int) (x1 : Int) : ∀ M : Int, yesM M 3 [.int .i64 x0, .int .i64 x1] = true := by
  match x0 with
  | .ofNat 0 => exact n_0 x1
  | .ofNat 1 => exact n_1 x1
  | .ofNat 2 => exact n_2 x1
  | .ofNat 3 => exact n_3 x1
  | .ofNat 4 => exact n_4 x1
  | .ofNat 5 => exact n_5 x1
  | .ofNat 6 => exact n_6 x1
  | .ofNat 7 => exact n_7 x1
  | .negSucc m => exact n_lo m x1
  | .ofNat (m + 8) => exact n_hi m x1

theorem walk (a0 : Int) (a1 : Int) {m : Int} (w : World) (hw : TabsIn w (tabs m)) :
    Calls Tryz.prog 3 #[.int .i64 a0, .int .i64 a1] w fun e w' => e = .returned (.bool true) ∧ Below w.heap.size w w' :=
  walk_of (by rfl) (n a0 a1) w hw


theorem tab_of {W : World} (h : laidMetH Tryz.prog Rows.machBoundsRow.laid W) (hs : W.ShapedOpen P) : ∃ m, TabsIn W (tabs m) := by
  rw [MakeChecks.laidMetH_plain _ _ _ (by kernel_rfl)] at h
  have h64 : Lib.VarReads P W "math/bits.deBruijn64tab" (Lib.tabData .u8 zs) := Lib.laidMet.reads h (.tail _ (.head _))
  have h10 : Lib.VarReads P W "internal/strconv.uint64pow10" (Lib.tabData .u64 Lib.pow10Tab) := Lib.laidMet.reads h (.tail _ (.tail _ (.head _)))
  exact tabs_in (tabIs_of_reads (g := 1) (t := 233) (e := 140) (n := 20) (by kernel_rfl) (by kernel_rfl) (by kernel_rfl) (by kernel_rfl) (by kernel_rfl) (by kernel_rfl) h10) (tabIs_of_reads (g := 3) (t := 251) (e := 5) (n := 64) (by kernel_rfl) (by kernel_rfl) (by kernel_rfl) (by kernel_rfl) (by kernel_rfl) (by kernel_rfl) h64) hs

theorem lifted (os : Os) (started : os.Started) (H : Type) (enc : TypeId × Value → H) :
    ReturnsInHanded {} Tryz.checked os 3 .any (fun w args => (Rows.machBoundsSpec.pre enc Tryz.prog Tryz.f3 [] false w args ∧ laidMetH Tryz.prog Rows.machBoundsRow.laid w) ∧ sizedMet enc Tryz.prog Tryz.f3 (OpenSpec.ofChange Rows.machBoundsSpec) false w args)
      (Rows.machBoundsSpec.post enc Tryz.prog Tryz.f3 false true false false) := by
  refine returns_and_shaped (C := Tryz.checked) (X := fun w _ => laidMetH Tryz.prog Rows.machBoundsRow.laid w) (fun _ _ _ hh h => h.of_heap hh) own started (by kernel_rfl) Tryz.func3
    (ChangeSpec.witness_shaped (enc := enc) (C := Tryz.checked) (os := os) (X := fun w _ => laidMetH Tryz.prog Rows.machBoundsRow.laid w) false (World.laidAll Tryz.prog os Rows.machBoundsRow.laid) #[.int .i64 0, .int .i64 0] 8 (World.laidAll_os _ _ _)
      (World.shaped_of_ZipB (by kernel_rfl) (by kernel_rfl)) (by kernel_rfl) (by kernel_rfl) (by kernel_rfl)
      (by rw [MakeChecks.laidMetH_plain _ _ _ (by kernel_rfl)]; exact laidMet_laidAll _ (by kernel_rfl) (by kernel_rfl))) ?_
  intro W base args ds gs before hval0 hW _ _ hL hS _
  have hval : ∀ (j : Nat) t v, Tryz.f3.params[j]? = some t → args[j]? = some v → Value.okWide Tryz.prog W .any base t v := hval0
  have hW' := hW
  obtain ⟨p, q, hA0, hV, rfl, hfz, hnd⟩ := hW
  have hA : DataW.TrodAll enc Tryz.prog W 0 (fun _ => true) true Tryz.f3.params.toList args.toList ds p := hA0
  rw [Tryz.params3] at hA hval
  obtain ⟨v0, vs0, d0, ds0, p0, q0, hargs, rfl, rfl, h0, r0⟩ := trodAll_cons hA
  obtain ⟨v1, vs1, d1, ds1, p1, q1, rfl, rfl, rfl, h1, r1⟩ := trodAll_cons r0
  obtain ⟨rfl, rfl, rfl⟩ := trodAll_nil r1
  obtain rfl : args = #[v0, v1] := by cases args; simp_all
  obtain ⟨rfl, rfl⟩ := trodVars_none hV
  obtain ⟨a0, rfl, rfl, rfl, w0⟩ := open_int Tryz.underlying3 (hval 0 3 v0 rfl rfl) h0
  obtain ⟨a1, rfl, rfl, rfl, w1⟩ := open_int Tryz.underlying3 (hval 1 3 v1 rfl rfl) h1
  clear hA0 hval0
  obtain ⟨m, hw⟩ := tab_of hL hS
  refine (walk a0 a1 W hw).mono fun e W' ⟨he, bel⟩ => ?_
  subst he
  exact ⟨_, rfl, _, _, _, [], _, [], hW', trodAll_mk1 (shut_bool Tryz.underlying4 _), (trodAll_cons_mk (shut_int Tryz.underlying3 w0) (trodAll_cons_mk (shut_int Tryz.underlying3 w1) trodAll_mk0)), rfl, bel.frame _, fun h => by cases h⟩

theorem over : Rows.MachBoundsSaid :=
  OpenClaim.holds_of_wide 3 Tryz.f3 rfl rfl rfl rfl rfl rfl rfl ⟨rfl, rfl, rfl, rfl, rfl⟩ rfl rfl rfl rfl rfl (by kernel_rfl) Tryz.func3 (by kernel_rfl)
    (of_decide_eq_true (by kernel_rfl)) (by unfold Func.isWrapper; first | (rw [if_pos (by decide +kernel)]; kernel_rfl) | (rw [if_neg (by decide +kernel)]; exact ⟨rfl, rfl⟩))
    (fun os started H enc _ => lifted os started H enc)

theorem holds : Rows.MachBoundsCardSaid :=
  Claim7.holds_tied_plain_at .later [] [.data, .data, .data, .data, .sentinel, .sentinel, .pinned] true (true, "a745c75d8e7f9fa93c1a9b9e759a91d5113c97a88eccf38097a1b536d166f8ad") true
    over (fun _ h => by cases h) (by kernel_rfl) (fun _ h => by cases h) machBounds_row_tie rfl ⟨rfl, rfl⟩ (by kernel_rfl) rfl
    (fun f fn hf hfn => by
      obtain rfl : f = 3 := Option.some.inj ((show Tryz.prog.funcNamed "pigeonhole/pigeonholelaw12.MachBounds" = some 3 by kernel_rfl).symm.trans hf) |>.symm
      obtain rfl : fn = Tryz.f3 := (Option.some.inj (Tryz.func3.symm.trans hfn)).symm
      exact ⟨by kernel_rfl, fun j t ht => by
        rw [Tryz.params3] at ht
        have hm : t ∈ [3, 3] := by simpa using Array.mem_of_getElem? ht
        have hall : ([3, 3].all fun u => !Tryz.prog.wantsStandIn u) = true := by kernel_rfl
        exact (show Tryz.prog.wantsStandIn t = false by simpa using List.all_eq_true.1 hall t hm)⟩)
    (by kernel_rfl)
#print axioms holds
end Go.Proofs.YtapnnpoljobanabGreatDoor.MachBounds
