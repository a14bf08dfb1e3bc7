/- What the law leans on: an executor of the model that is sound, deduction over it, and the walks through the code (part 21 of 21). Conditions: those that each theorem states. -/
import Derived.Test.YtapnnpoljobanaaGreatDoorShippedTakenx18

set_option linter.unusedVariables false
set_option linter.unusedSimpArgs false
namespace Go.Proofs.YtapnnpoljobanaaGreatDoor
open Go.Ex Go.RowKit
set_option maxRecDepth 1000000
theorem k2_0 : yes3 2 nm0 = true := by kernel_rfl
theorem k2_1 : yes3 2 nm1 = true := by kernel_rfl
theorem k2_2 : yes3 2 nm2 = true := by kernel_rfl
theorem tail2 (p1 : Value) (a1 : Bool) (v71 : Value) (a73 : Int) (a96 : Bool) (a14 : Bool) (v18 : Value) (v22 : Value) (v28 : Value) (a31 : Bool) (v35 : Value) (v39 : Value) (a42 : Bool) (v46 : Value) (v50 : Value) (v54 : Value) (v60 : Value) (a63 : Bool) (a65 : Value) (a74 : Bool) (v78 : Value) (v82 : Value) (a85 : Bool) (v89 : Value) (v93 : Value) (a97 : Int) (a103 : Bool) (a104 : Bool) (v108 : Value) (v112 : Value) (v118 : Value) (v122 : Value) (v126 : Value) (v131 : Value) (v135 : Value) (v139 : Value) (v149 : Value) (v154 : Value) (v160 : Value) (a164 : Bool) : T3 B1.lo B1.lp (.slice (some ⟨8, 0, none⟩) 3 3) 2 h1 (8 + 1) p1 a1 v71 a73 a96 a14 v18 v22 v28 a31 v35 v39 a42 v46 v50 v54 v60 a63 a65 a74 v78 v82 a85 v89 v93 a97 a103 a104 v108 v112 v118 v122 v126 v131 v135 v139 v149 v154 v160 a164 false none (finV (.bool true)) = true := by kernel_rfl
theorem other2 (s : List UInt8) (hl : ¬ (1000 : Int) < (s.length : Nat)) (e0 : zR s nm0 = false) (e1 : zR s nm1 = false) (e2 : zR s nm2 = false) : yes3 2 s = true := by
  have cg : ∀ K : Bool → Bool, zK igtB P .gtr 3 true (.int .i64 (.ofNat s.length)) (.int .i64 1000) K = K false := fun K => (cmp_gtr _ _ _ _ K).trans (congrArg K (decide_eq_false hl));have d0 : ∀ K : Bool → Bool, zK wE P .lss 3 true (.int .i64 2) (.int .i64 0) K = K false := fun K => by kernel_rfl
  have d1 : ∀ K : Bool → Bool, zK igeB P .geq 3 false (.int .i64 2) (.int .i64 3) K = K false := fun K => by kernel_rfl
  have l0 : ∀ (h : zE) (K : Value → Bool), opt (zU P .len [9] [str s] h) K = K (.int .i64 (.ofNat s.length)) := fun h K => by rw [show zU P .len [9] [str s] h = some (.int .i64 (.ofNat s.length)) from len_strL us s [] h]; rfl
  have l1 : ∀ (a : Option Addr) (h : zE) (K : Value → Bool), opt (zU P .len [23] [.slice a 3 3] h) K = K (.int .i64 3) := fun a h K => by rw [len3 a [] h]; rfl
  have c0 : ∀ K : Bool → Bool, zK yO P .eql 9 true (str s) (.string (ByteArray.mk #[120, 56, 54])) K = K false := fun K => cmpN s nm0 e0 K;have c1 : ∀ K : Bool → Bool, zK yO P .eql 9 true (str s) (.string (ByteArray.mk #[97, 114, 109])) K = K false := fun K => cmpN s nm1 e1 K;have c2 : ∀ K : Bool → Bool, zK yO P .eql 9 true (str s) (.string (ByteArray.mk #[114, 105, 115, 99, 118])) K = K false := fun K => cmpN s nm2 e2 K;refine zH (call3 2 s) (zH (congrFun (congrFun (congrFun (congrFun (congrFun (congrFun (congrFun (congrFun (congrFun F3_b _) _) _) _) _) _) _) _) _) ?_);unfold F3b
  repeat (first
    | with_reducible refine zH (grd_ntt _ _ _ _) ?_
    | with_reducible refine zH (grd_ntf _ _ _ _) ?_
    | with_reducible refine zH (grd_gvt _ _ _ _) ?_
    | with_reducible refine zH (grd_gvf _ _ _ _) ?_
    | with_reducible refine zH (grd_gnvt _ _ _ _) ?_
    | with_reducible refine zH (grd_gnvf _ _ _ _) ?_
    | with_reducible refine zH (rtI_ap _ _ _) ?_
    | with_reducible refine zH (rtB_ap _ _) ?_
    | with_reducible refine zH (rtB_selt _ _ _) ?_
    | with_reducible refine zH (rtB_self _ _ _) ?_
    | with_reducible refine zH (vR _ _ _) ?_
    | with_reducible refine zH (br_t _ _) ?_
    | with_reducible refine zH (br_f _ _) ?_
    | with_reducible refine zH (not_t _) ?_
    | with_reducible refine zH (not_f _) ?_
    | with_reducible refine zH (alive_eq _ _) ?_
    | with_reducible refine zH (names_eq _ _) ?_
    | with_reducible refine zH (l0 _ _) ?_
    | with_reducible refine zH (l1 _ _ _) ?_
    | with_reducible refine zH (cg _) ?_
    | with_reducible refine zH (d0 _) ?_
    | with_reducible refine zH (d1 _) ?_
    | with_reducible refine zH (text_eq s e0 e1 e2 _ _) ?_
    | with_reducible refine zH (ex0K _) ?_
    | with_reducible refine zH (ex1K _) ?_
    | with_reducible refine zH (c0 _) ?_
    | with_reducible refine zH (c1 _) ?_
    | with_reducible refine zH (c2 _) ?_
    | with_reducible refine zH (num_eq _ _ _ _) ?_
    | with_reducible refine zH (i50 _) ?_
    | with_reducible refine zH (neFF _) ?_
    | with_reducible refine zH (ne5 _) ?_
    | with_reducible refine zH (nes _) ?_)
  exact tail2 ..
end Go.Proofs.YtapnnpoljobanaaGreatDoor
