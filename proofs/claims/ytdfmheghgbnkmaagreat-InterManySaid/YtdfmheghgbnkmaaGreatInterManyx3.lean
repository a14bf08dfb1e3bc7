/- What the law leans on: an executor of the model that is sound, deduction over it, and the walks through the code (part 3 of 43). Conditions: those that each theorem states. -/
import Derived.Test.YtdfmheghgbnkmaaGreatInterManyx2

set_option linter.unusedVariables false
set_option linter.unusedSimpArgs false
namespace Go.Proofs.YtdfmheghgbnkmaaGreat
open Go.Ex Go.Ex.Im Go.RowKit
set_option maxRecDepth 1000000
noncomputable def es1:List (Nat×Nat):=[(0,1)]
noncomputable def bs1:List Nat:=[362,451,453,477,496,562,633,639,732,733,734,735,739,890,897,900]
noncomputable def q1_0:AObj:=cO [tx [102],so 639 2,sv 633 1 1,tg,sv 634 1 1,(.map (some 733)),pv 362,(.map (some 734))] 130 0
noncomputable def l1_0:List OnceC:=[
 ⟨⟨24,[pv 362,ag [tx [102],so 639 2,sv 633 1 1,tg,sv 634 1 1]],mkH [(639,cO [tg,tg] 109 1),(634,cO [so 631 3] 0 0),(633,cO [iv 0] 0 0),(631,vR 1 [627] 2247),(627,aO 1),(617,q5),(564,cO [iv 0] 19 1),(478,q7),(477,.map [⟨tg,iv 0,0⟩] 1),(467,cO [sv 464 1 1] 4031 1),(464,wO 15),(440,q9),(362,q10),(355,q11),(351,q12)],641,⟨(.bool true),mkH [(639,cO [tg,tg] 109 1),(634,cO [so 631 3] 0 0),(633,cO [iv 0] 0 0),(631,vR 1 [627] 2247),(627,aO 1),(477,.map [⟨tg,iv 0,0⟩] 1),(362,q10)],732⟩⟩,([640]++bs1)⟩,
 ⟨⟨28,[ag [tx [102],so 639 2,sv 633 1 1,tg,sv 634 1 1]],mkH [(634,cO [so 631 3] 0 0),(631,vR 1 [627] 2247),(627,aO 1)],737,⟨ag [sv 739 1 1,sv 740 1 1],mkH [(890,wO 1),(740,cO [ns] 0 0),(739,cO [sv 890 1 1] 0 0),(634,cO [so 631 3] 0 0),(631,vR 1 [627] 2247),(627,aO 1)],897⟩⟩,([736]++bs1)⟩,
 ⟨⟨56,[iv 2,ag [iv 9,iv 0,iv 0,iv 0,iv 0,tx [],ns,iv 0,iv 0],ag [ns],pv 736],mkH [],902,⟨.tuple #[],mkH [],907⟩⟩,([627,631,634,736,899,901]++bs1)⟩,
 ⟨⟨56,[iv 1,ag [iv 3,iv 0,iv 0,iv 0,iv 0,tx [97,100,100],sv 627 2 2,iv 0,iv 0],ag [sv 936 1 1],pv 736],mkH [(936,wO 1),(736,cO [pv 735] 127 0)],939,⟨.tuple #[],mkH [(936,wO 1),(736,cO [pv 735] 127 0)],948⟩⟩,([627,631,634,899,938]++bs1)⟩,
 ⟨⟨56,[iv 0,ag [iv 1,iv 1,iv 0,iv 0,iv 1,tx [],ns,iv 0,iv 0],ag [sv 983 1 1],pv 736],mkH [(983,wO 3),(736,cO [pv 735] 127 0),(735,q1_0),(734,.map [] 0),(733,.map [] 0),(639,cO [tg,tg] 109 1),(562,q6),(496,wO 1),(477,.map [⟨tg,iv 0,0⟩] 1),(453,cO [so 451 4] 1405 1),(451,q8),(362,q10)],986,⟨.tuple #[],mkH [(983,wO 3),(736,cO [pv 735] 127 0),(735,q1_0),(734,mO es1 1)],1003⟩⟩,([985]++bs1)⟩]
theorem a1_0:zC l1_0=true:=by kernel_rfl
noncomputable def l1:List OnceC:=[mkC]++l1_0
theorem y1:uL 1 l1=true:=by kernel_rfl
theorem c1(w:World)(hw:zK w tabs):Calls Tryz.prog 3 #[.int .i64 (.ofNat 1)] w fun e w'=>e = .returned (.bool true)∧Go.RowKit.Below w.heap.size w w':=
 zD (of_decide_eq_true (by kernel_rfl)) (zB (zA zM) (zA a1_0)) y1 w hw
end Go.Proofs.YtdfmheghgbnkmaaGreat
