/- What the law leans on: an executor of the model that is sound, deduction over it, and the walks through the code (part 6 of 43). Conditions: those that each theorem states. -/
import Derived.Test.YtdfmheghgbnkmaaGreatInterManyx2

set_option linter.unusedVariables false
set_option linter.unusedSimpArgs false
namespace Go.Proofs.YtdfmheghgbnkmaaGreat
open Go.Ex Go.Ex.Im Go.RowKit
set_option maxRecDepth 1000000
noncomputable def es4:List (Nat×Nat):=[(0,4),(0,3),(0,2),(1,4),(2,4),(3,4),(1,3),(2,3),(1,2),(0,1)]
noncomputable def bs4:List Nat:=[362,451,453,477,496,562,633,636,639,646,648,649,660,864,865,866,867,871,1250,1257,1259,1260]
noncomputable def q4_0:AObj:=vR 4 [633,636,639,642] 2247
noncomputable def q4_1:AObj:=cO [tx [102],so 660 5,sv 648 1 1,tg,sv 649 1 1,(.map (some 865)),pv 362,(.map (some 866))] 130 0
noncomputable def q4_2:AObj:=.map [⟨ag [tg,tg],(.bool true),0⟩] 1
noncomputable def st4:List (Nat×AObj):=[(660,cO (rpV 5 (tg)) 109 1),(865,q4_2),(867,q4_1),(868,cO [pv 867] 127 0)]
noncomputable def l4_0:List OnceC:=[
 ⟨⟨24,[pv 362,ag [tx [102],so 660 5,sv 648 1 1,tg,sv 649 1 1]],mkH [(660,cO (rpV 5 (tg)) 109 1),(649,cO [so 646 9] 0 0),(648,cO [iv 0] 0 0),(646,q4_0),(642,aO 4),(639,aO 3),(636,aO 2),(633,aO 1),(617,q5),(564,cO [iv 0] 19 1),(478,q7),(477,.map [⟨tg,iv 0,0⟩] 1),(467,cO [sv 464 1 1] 4031 1),(464,wO 15),(440,q9),(362,q10),(355,q11),(351,q12)],662,⟨(.bool true),mkH [(660,cO (rpV 5 (tg)) 109 1),(649,cO [so 646 9] 0 0),(648,cO [iv 0] 0 0),(646,q4_0),(642,aO 4),(639,aO 3),(636,aO 2),(633,aO 1),(477,.map [⟨tg,iv 0,0⟩] 1),(362,q10)],864⟩⟩,([661]++bs4)⟩,
 ⟨⟨28,[ag [tx [102],so 660 5,sv 648 1 1,tg,sv 649 1 1]],mkH [(649,cO [so 646 9] 0 0),(646,q4_0),(642,aO 4),(639,aO 3),(636,aO 2),(633,aO 1)],869,⟨ag [sv 871 1 1,sv 872 1 1],mkH [(1250,wO 1),(872,cO [ns] 0 0),(871,cO [sv 1250 1 1] 0 0),(649,cO [so 646 9] 0 0),(646,q4_0),(642,aO 4),(639,aO 3),(636,aO 2),(633,aO 1)],1257⟩⟩,([868]++bs4)⟩,
 ⟨⟨56,[iv 8,ag [iv 9,iv 0,iv 0,iv 0,iv 0,tx [],ns,iv 0,iv 0],ag [ns],pv 868],mkH [],1262,⟨.tuple #[],mkH [],1267⟩⟩,([642,868,1261]++bs4)⟩,
 ⟨⟨56,[iv 7,ag [iv 3,iv 0,iv 0,iv 0,iv 0,tx [97,100,100],sv 642 2 2,iv 0,iv 0],ag [sv 1296 1 1],pv 868],mkH [(1296,wO 1),(868,cO [pv 867] 127 0)],1299,⟨.tuple #[],mkH [(1296,wO 1),(868,cO [pv 867] 127 0)],1308⟩⟩,([642,1298]++bs4)⟩,
 ⟨⟨56,[iv 6,ag [iv 3,iv 0,iv 0,iv 0,iv 0,tx [97,100,100],sv 639 2 2,iv 0,iv 0],ag [sv 1343 1 1],pv 868],mkH [(1343,wO 17),(868,cO [pv 867] 127 0),(867,q4_1),(866,.map [] 0),(865,.map [] 0),(660,cO (rpV 5 (tg)) 109 1),(562,q6),(496,wO 1),(477,.map [⟨tg,iv 0,0⟩] 1),(453,cO [so 451 4] 1405 1),(451,q8),(362,q10)],1346,⟨.tuple #[],mkH [(1343,wO 17),(868,cO [pv 867] 127 0),(867,q4_1),(866,mO es4 1),(865,q4_2),(660,cO (rpV 5 (tg)) 109 1)],1363⟩⟩,([1345]++bs4)⟩,
 fO st4 es4 866 868 5 (iA 636) 1398 25 1401 1412 1 2 ([1400]++bs4),
 fO st4 es4 866 868 4 (iA 633) 1447 29 1450 1462 2 3 ([1449]++bs4),
 fO st4 es4 866 868 3 (iC 4) 1497 31 1500 1513 3 6 ([1499]++bs4),
 fO st4 es4 866 868 2 (iC 3) 1542 15 1545 1557 6 8 ([1544]++bs4),
 fO st4 es4 866 868 1 (iC 2) 1586 7 1589 1600 8 9 ([1588]++bs4),
 fO st4 es4 866 868 0 (iC 1) 1629 3 1632 1642 9 10 ([1631]++bs4)]
theorem a4_0:zC l4_0=true:=by kernel_rfl
noncomputable def l4:List OnceC:=[mkC]++l4_0
theorem y4:uL 4 l4=true:=by kernel_rfl
theorem c4(w:World)(hw:zK w tabs):Calls Tryz.prog 3 #[.int .i64 (.ofNat 4)] w fun e w'=>e = .returned (.bool true)∧Go.RowKit.Below w.heap.size w w':=
 zD (of_decide_eq_true (by kernel_rfl)) (zB (zA zM) (zA a4_0)) y4 w hw
end Go.Proofs.YtdfmheghgbnkmaaGreat
