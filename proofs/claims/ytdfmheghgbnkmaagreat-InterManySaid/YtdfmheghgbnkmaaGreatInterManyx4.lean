/- What the law leans on: an executor of the model that is sound, deduction over it, and the walks through the code (part 4 of 43). Conditions: those that each theorem states. -/
import Derived.Test.YtdfmheghgbnkmaaGreatInterManyx2

set_option linter.unusedVariables false
set_option linter.unusedSimpArgs false
namespace Go.Proofs.YtdfmheghgbnkmaaGreat
open Go.Ex Go.Ex.Im Go.RowKit
set_option maxRecDepth 1000000
noncomputable def es2:List (Nat×Nat):=[(0,2),(1,2),(0,1)]
noncomputable def bs2:List Nat:=[362,451,453,477,496,562,629,636,638,639,646,776,777,778,779,783,1010,1017,1019,1020]
noncomputable def q2_0:AObj:=cO [tx [102],so 646 3,sv 638 1 1,tg,sv 639 1 1,(.map (some 777)),pv 362,(.map (some 778))] 130 0
noncomputable def q2_1:AObj:=.map [⟨ag [tg,tg],(.bool true),0⟩] 1
noncomputable def st2:List (Nat×AObj):=[(646,cO [tg,tg,tg] 109 1),(777,q2_1),(779,q2_0),(780,cO [pv 779] 127 0)]
noncomputable def l2_0:List OnceC:=[
 ⟨⟨24,[pv 362,ag [tx [102],so 646 3,sv 638 1 1,tg,sv 639 1 1]],mkH [(646,cO [tg,tg,tg] 109 1),(639,cO [so 636 5] 0 0),(638,cO [iv 0] 0 0),(636,vR 2 [629,632] 2247),(632,aO 2),(629,aO 1),(617,q5),(564,cO [iv 0] 19 1),(478,q7),(477,.map [⟨tg,iv 0,0⟩] 1),(467,cO [sv 464 1 1] 4031 1),(464,wO 15),(440,q9),(362,q10),(355,q11),(351,q12)],648,⟨(.bool true),mkH [(646,cO [tg,tg,tg] 109 1),(639,cO [so 636 5] 0 0),(638,cO [iv 0] 0 0),(636,vR 2 [629,632] 2247),(632,aO 2),(629,aO 1),(477,.map [⟨tg,iv 0,0⟩] 1),(362,q10)],776⟩⟩,([647]++bs2)⟩,
 ⟨⟨28,[ag [tx [102],so 646 3,sv 638 1 1,tg,sv 639 1 1]],mkH [(639,cO [so 636 5] 0 0),(636,vR 2 [629,632] 2247),(632,aO 2),(629,aO 1)],781,⟨ag [sv 783 1 1,sv 784 1 1],mkH [(1010,wO 1),(784,cO [ns] 0 0),(783,cO [sv 1010 1 1] 0 0),(639,cO [so 636 5] 0 0),(636,vR 2 [629,632] 2247),(632,aO 2),(629,aO 1)],1017⟩⟩,([780]++bs2)⟩,
 ⟨⟨56,[iv 4,ag [iv 9,iv 0,iv 0,iv 0,iv 0,tx [],ns,iv 0,iv 0],ag [ns],pv 780],mkH [],1022,⟨.tuple #[],mkH [],1027⟩⟩,([632,780,1021]++bs2)⟩,
 ⟨⟨56,[iv 3,ag [iv 3,iv 0,iv 0,iv 0,iv 0,tx [97,100,100],sv 632 2 2,iv 0,iv 0],ag [sv 1056 1 1],pv 780],mkH [(1056,wO 1),(780,cO [pv 779] 127 0)],1059,⟨.tuple #[],mkH [(1056,wO 1),(780,cO [pv 779] 127 0)],1068⟩⟩,([632,1058]++bs2)⟩,
 ⟨⟨56,[iv 2,ag [iv 3,iv 0,iv 0,iv 0,iv 0,tx [97,100,100],sv 629 2 2,iv 0,iv 0],ag [sv 1103 1 1],pv 780],mkH [(1103,wO 5),(780,cO [pv 779] 127 0),(779,q2_0),(778,.map [] 0),(777,.map [] 0),(646,cO [tg,tg,tg] 109 1),(562,q6),(496,wO 1),(477,.map [⟨tg,iv 0,0⟩] 1),(453,cO [so 451 4] 1405 1),(451,q8),(362,q10)],1106,⟨.tuple #[],mkH [(1103,wO 5),(780,cO [pv 779] 127 0),(779,q2_0),(778,mO es2 1),(777,q2_1),(646,cO [tg,tg,tg] 109 1)],1123⟩⟩,([1105]++bs2)⟩,
 fO st2 es2 778 780 1 (iC 2) 1158 7 1161 1172 1 2 ([1160]++bs2),
 fO st2 es2 778 780 0 (iC 1) 1201 3 1204 1214 2 3 ([1203]++bs2)]
theorem a2_0:zC l2_0=true:=by kernel_rfl
noncomputable def l2:List OnceC:=[mkC]++l2_0
theorem y2:uL 2 l2=true:=by kernel_rfl
theorem c2(w:World)(hw:zK w tabs):Calls Tryz.prog 3 #[.int .i64 (.ofNat 2)] w fun e w'=>e = .returned (.bool true)∧Go.RowKit.Below w.heap.size w w':=
 zD (of_decide_eq_true (by kernel_rfl)) (zB (zA zM) (zA a2_0)) y2 w hw
end Go.Proofs.YtdfmheghgbnkmaaGreat
