/- What the law leans on: an executor of the model that is sound, deduction over it, and the walks through the code (part 7 of 43). Conditions: those that each theorem states. -/
import Derived.Test.YtdfmheghgbnkmaaGreatInterManyx2

set_option linter.unusedVariables false
set_option linter.unusedSimpArgs false
namespace Go.Proofs.YtdfmheghgbnkmaaGreat
open Go.Ex Go.Ex.Im Go.RowKit
set_option maxRecDepth 1000000
noncomputable def es5:List (Nat×Nat):=[(0,5),(0,4),(0,3),(0,2),(1,5),(2,5),(3,5),(4,5),(1,4),(2,4),(3,4),(1,3),(2,3),(1,2),(0,1)]
noncomputable def bs5:List Nat:=[362,451,453,477,496,562,635,638,641,644,651,653,654,667,908,909,910,911,915,1370,1377,1379,1380]
noncomputable def q5_0:AObj:=vR 5 [635,638,641,644,647] 2247
noncomputable def q5_1:AObj:=cO [tx [102],so 667 6,sv 653 1 1,tg,sv 654 1 1,(.map (some 909)),pv 362,(.map (some 910))] 130 0
noncomputable def q5_2:AObj:=.map [⟨ag [tg,tg],(.bool true),0⟩] 1
noncomputable def st5:List (Nat×AObj):=[(667,cO (rpV 6 (tg)) 109 1),(909,q5_2),(911,q5_1),(912,cO [pv 911] 127 0)]
noncomputable def l5_0:List OnceC:=[
 ⟨⟨24,[pv 362,ag [tx [102],so 667 6,sv 653 1 1,tg,sv 654 1 1]],mkH [(667,cO (rpV 6 (tg)) 109 1),(654,cO [so 651 11] 0 0),(653,cO [iv 0] 0 0),(651,q5_0),(647,aO 5),(644,aO 4),(641,aO 3),(638,aO 2),(635,aO 1),(617,q5),(564,cO [iv 0] 19 1),(478,q7),(477,.map [⟨tg,iv 0,0⟩] 1),(467,cO [sv 464 1 1] 4031 1),(464,wO 15),(440,q9),(362,q10),(355,q11),(351,q12)],669,⟨(.bool true),mkH [(667,cO (rpV 6 (tg)) 109 1),(654,cO [so 651 11] 0 0),(653,cO [iv 0] 0 0),(651,q5_0),(647,aO 5),(644,aO 4),(641,aO 3),(638,aO 2),(635,aO 1),(477,.map [⟨tg,iv 0,0⟩] 1),(362,q10)],908⟩⟩,([668]++bs5)⟩,
 ⟨⟨28,[ag [tx [102],so 667 6,sv 653 1 1,tg,sv 654 1 1]],mkH [(654,cO [so 651 11] 0 0),(651,q5_0),(647,aO 5),(644,aO 4),(641,aO 3),(638,aO 2),(635,aO 1)],913,⟨ag [sv 915 1 1,sv 916 1 1],mkH [(1370,wO 1),(916,cO [ns] 0 0),(915,cO [sv 1370 1 1] 0 0),(654,cO [so 651 11] 0 0),(651,q5_0),(647,aO 5),(644,aO 4),(641,aO 3),(638,aO 2),(635,aO 1)],1377⟩⟩,([912]++bs5)⟩,
 ⟨⟨56,[iv 10,ag [iv 9,iv 0,iv 0,iv 0,iv 0,tx [],ns,iv 0,iv 0],ag [ns],pv 912],mkH [],1382,⟨.tuple #[],mkH [],1387⟩⟩,([647,912,1381]++bs5)⟩,
 ⟨⟨56,[iv 9,ag [iv 3,iv 0,iv 0,iv 0,iv 0,tx [97,100,100],sv 647 2 2,iv 0,iv 0],ag [sv 1416 1 1],pv 912],mkH [(1416,wO 1),(912,cO [pv 911] 127 0)],1419,⟨.tuple #[],mkH [(1416,wO 1),(912,cO [pv 911] 127 0)],1428⟩⟩,([647,1418]++bs5)⟩,
 ⟨⟨56,[iv 8,ag [iv 3,iv 0,iv 0,iv 0,iv 0,tx [97,100,100],sv 644 2 2,iv 0,iv 0],ag [sv 1463 1 1],pv 912],mkH [(1463,wO 33),(912,cO [pv 911] 127 0),(911,q5_1),(910,.map [] 0),(909,.map [] 0),(667,cO (rpV 6 (tg)) 109 1),(562,q6),(496,wO 1),(477,.map [⟨tg,iv 0,0⟩] 1),(453,cO [so 451 4] 1405 1),(451,q8),(362,q10)],1466,⟨.tuple #[],mkH [(1463,wO 33),(912,cO [pv 911] 127 0),(911,q5_1),(910,mO es5 1),(909,q5_2),(667,cO (rpV 6 (tg)) 109 1)],1483⟩⟩,([1465]++bs5)⟩,
 fO st5 es5 910 912 7 (iA 641) 1518 49 1521 1532 1 2 ([1520]++bs5),
 fO st5 es5 910 912 6 (iA 638) 1567 57 1570 1582 2 3 ([1569]++bs5),
 fO st5 es5 910 912 5 (iA 635) 1617 61 1620 1633 3 4 ([1619]++bs5),
 fO st5 es5 910 912 4 (iC 5) 1668 63 1671 1685 4 8 ([1670]++bs5),
 fO st5 es5 910 912 3 (iC 4) 1714 31 1717 1730 8 11 ([1716]++bs5),
 fO st5 es5 910 912 2 (iC 3) 1759 15 1762 1774 11 13 ([1761]++bs5),
 fO st5 es5 910 912 1 (iC 2) 1803 7 1806 1817 13 14 ([1805]++bs5),
 fO st5 es5 910 912 0 (iC 1) 1846 3 1849 1859 14 15 ([1848]++bs5)]
theorem a5_0:zC l5_0=true:=by kernel_rfl
noncomputable def l5:List OnceC:=[mkC]++l5_0
theorem y5:uL 5 l5=true:=by kernel_rfl
theorem c5(w:World)(hw:zK w tabs):Calls Tryz.prog 3 #[.int .i64 (.ofNat 5)] w fun e w'=>e = .returned (.bool true)∧Go.RowKit.Below w.heap.size w w':=
 zD (of_decide_eq_true (by kernel_rfl)) (zB (zA zM) (zA a5_0)) y5 w hw
end Go.Proofs.YtdfmheghgbnkmaaGreat
