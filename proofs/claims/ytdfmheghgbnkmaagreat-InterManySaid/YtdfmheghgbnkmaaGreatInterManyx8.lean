/- What the law leans on: an executor of the model that is sound, deduction over it, and the walks through the code (part 8 of 43). Conditions: those that each theorem states. -/
import Derived.Test.YtdfmheghgbnkmaaGreatInterManyx2

set_option linter.unusedVariables false
set_option linter.unusedSimpArgs false
namespace Go.Proofs.YtdfmheghgbnkmaaGreat
open Go.Ex Go.Ex.Im Go.RowKit
set_option maxRecDepth 1000000
noncomputable def es6:List (Nat×Nat):=[(0,6),(0,5),(0,4),(0,3),(0,2),(1,6),(2,6),(3,6),(4,6),(5,6),(1,5),(2,5),(3,5),(4,5),(1,4),(2,4),(3,4),(1,3),(2,3),(1,2),(0,1)]
noncomputable def bs6:List Nat:=[362,451,453,477,496,562,637,640,643,646,649,656,658,659,674,952,953,954,955,959,1490,1497,1499,1500]
noncomputable def q6_0:AObj:=vR 6 [637,640,643,646,649,652] 2247
noncomputable def q6_1:AObj:=cO [tx [102],so 674 7,sv 658 1 1,tg,sv 659 1 1,(.map (some 953)),pv 362,(.map (some 954))] 130 0
noncomputable def q6_2:AObj:=.map [⟨ag [tg,tg],(.bool true),0⟩] 1
noncomputable def st6:List (Nat×AObj):=[(674,cO (rpV 7 (tg)) 109 1),(953,q6_2),(955,q6_1),(956,cO [pv 955] 127 0)]
noncomputable def l6_0:List OnceC:=[
 ⟨⟨24,[pv 362,ag [tx [102],so 674 7,sv 658 1 1,tg,sv 659 1 1]],mkH [(674,cO (rpV 7 (tg)) 109 1),(659,cO [so 656 13] 0 0),(658,cO [iv 0] 0 0),(656,q6_0),(652,aO 6),(649,aO 5),(646,aO 4),(643,aO 3),(640,aO 2),(637,aO 1),(617,q5),(564,cO [iv 0] 19 1),(478,q7),(477,.map [⟨tg,iv 0,0⟩] 1),(467,cO [sv 464 1 1] 4031 1),(464,wO 15),(440,q9),(362,q10),(355,q11),(351,q12)],676,⟨(.bool true),mkH [(674,cO (rpV 7 (tg)) 109 1),(659,cO [so 656 13] 0 0),(658,cO [iv 0] 0 0),(656,q6_0),(652,aO 6),(649,aO 5),(646,aO 4),(643,aO 3),(640,aO 2),(637,aO 1),(477,.map [⟨tg,iv 0,0⟩] 1),(362,q10)],952⟩⟩,([675]++bs6)⟩,
 ⟨⟨28,[ag [tx [102],so 674 7,sv 658 1 1,tg,sv 659 1 1]],mkH [(659,cO [so 656 13] 0 0),(656,q6_0),(652,aO 6),(649,aO 5),(646,aO 4),(643,aO 3),(640,aO 2),(637,aO 1)],957,⟨ag [sv 959 1 1,sv 960 1 1],mkH [(1490,wO 1),(960,cO [ns] 0 0),(959,cO [sv 1490 1 1] 0 0),(659,cO [so 656 13] 0 0),(656,q6_0),(652,aO 6),(649,aO 5),(646,aO 4),(643,aO 3),(640,aO 2),(637,aO 1)],1497⟩⟩,([956]++bs6)⟩,
 ⟨⟨56,[iv 12,ag [iv 9,iv 0,iv 0,iv 0,iv 0,tx [],ns,iv 0,iv 0],ag [ns],pv 956],mkH [],1502,⟨.tuple #[],mkH [],1507⟩⟩,([652,956,1501]++bs6)⟩,
 ⟨⟨56,[iv 11,ag [iv 3,iv 0,iv 0,iv 0,iv 0,tx [97,100,100],sv 652 2 2,iv 0,iv 0],ag [sv 1536 1 1],pv 956],mkH [(1536,wO 1),(956,cO [pv 955] 127 0)],1539,⟨.tuple #[],mkH [(1536,wO 1),(956,cO [pv 955] 127 0)],1548⟩⟩,([652,1538]++bs6)⟩,
 ⟨⟨56,[iv 10,ag [iv 3,iv 0,iv 0,iv 0,iv 0,tx [97,100,100],sv 649 2 2,iv 0,iv 0],ag [sv 1583 1 1],pv 956],mkH [(1583,wO 65),(956,cO [pv 955] 127 0),(955,q6_1),(954,.map [] 0),(953,.map [] 0),(674,cO (rpV 7 (tg)) 109 1),(562,q6),(496,wO 1),(477,.map [⟨tg,iv 0,0⟩] 1),(453,cO [so 451 4] 1405 1),(451,q8),(362,q10)],1586,⟨.tuple #[],mkH [(1583,wO 65),(956,cO [pv 955] 127 0),(955,q6_1),(954,mO es6 1),(953,q6_2),(674,cO (rpV 7 (tg)) 109 1)],1603⟩⟩,([1585]++bs6)⟩,
 fO st6 es6 954 956 9 (iA 646) 1638 97 1641 1652 1 2 ([1640]++bs6),
 fO st6 es6 954 956 8 (iA 643) 1687 113 1690 1702 2 3 ([1689]++bs6),
 fO st6 es6 954 956 7 (iA 640) 1737 121 1740 1753 3 4 ([1739]++bs6),
 fO st6 es6 954 956 6 (iA 637) 1788 125 1791 1805 4 5 ([1790]++bs6),
 fO st6 es6 954 956 5 (iC 6) 1840 127 1843 1858 5 10 ([1842]++bs6),
 fO st6 es6 954 956 4 (iC 5) 1887 63 1890 1904 10 14 ([1889]++bs6),
 fO st6 es6 954 956 3 (iC 4) 1933 31 1936 1949 14 17 ([1935]++bs6),
 fO st6 es6 954 956 2 (iC 3) 1978 15 1981 1993 17 19 ([1980]++bs6),
 fO st6 es6 954 956 1 (iC 2) 2022 7 2025 2036 19 20 ([2024]++bs6),
 fO st6 es6 954 956 0 (iC 1) 2065 3 2068 2078 20 21 ([2067]++bs6)]
theorem a6_0:zC l6_0=true:=by kernel_rfl
noncomputable def l6:List OnceC:=[mkC]++l6_0
theorem y6:uL 6 l6=true:=by kernel_rfl
theorem c6(w:World)(hw:zK w tabs):Calls Tryz.prog 3 #[.int .i64 (.ofNat 6)] w fun e w'=>e = .returned (.bool true)∧Go.RowKit.Below w.heap.size w w':=
 zD (of_decide_eq_true (by kernel_rfl)) (zB (zA zM) (zA a6_0)) y6 w hw
end Go.Proofs.YtdfmheghgbnkmaaGreat
