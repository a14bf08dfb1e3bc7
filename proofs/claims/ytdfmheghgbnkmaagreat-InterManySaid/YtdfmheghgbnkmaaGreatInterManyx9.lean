/- What the law leans on: an executor of the model that is sound, deduction over it, and the walks through the code (part 9 of 43). Conditions: those that each theorem states. -/
import Derived.Test.YtdfmheghgbnkmaaGreatInterManyx2

set_option linter.unusedVariables false
set_option linter.unusedSimpArgs false
namespace Go.Proofs.YtdfmheghgbnkmaaGreat
open Go.Ex Go.Ex.Im Go.RowKit
set_option maxRecDepth 1000000
noncomputable def es7:List (Nat×Nat):=[(0,7),(0,6),(0,5),(0,4),(0,3),(0,2),(1,7),(2,7),(3,7),(4,7),(5,7),(6,7),(1,6),(2,6),(3,6),(4,6),(5,6),(1,5),(2,5),(3,5),(4,5),(1,4),(2,4),(3,4),(1,3),(2,3),(1,2),(0,1)]
noncomputable def bs7:List Nat:=[362,451,453,477,496,562,639,642,645,648,651,654,661,663,664,681,996,997,998,999,1003,1610,1617,1619,1620]
noncomputable def q7_0:AObj:=vR 7 [639,642,645,648,651,654,657] 2247
noncomputable def q7_1:AObj:=cO [tx [102],so 681 8,sv 663 1 1,tg,sv 664 1 1,(.map (some 997)),pv 362,(.map (some 998))] 130 0
noncomputable def q7_2:AObj:=.map [⟨ag [tg,tg],(.bool true),0⟩] 1
noncomputable def st7:List (Nat×AObj):=[(681,cO (rpV 8 (tg)) 109 1),(997,q7_2),(999,q7_1),(1000,cO [pv 999] 127 0)]
noncomputable def l7_0:List OnceC:=[
 ⟨⟨24,[pv 362,ag [tx [102],so 681 8,sv 663 1 1,tg,sv 664 1 1]],mkH [(681,cO (rpV 8 (tg)) 109 1),(664,cO [so 661 15] 0 0),(663,cO [iv 0] 0 0),(661,q7_0),(657,aO 7),(654,aO 6),(651,aO 5),(648,aO 4),(645,aO 3),(642,aO 2),(639,aO 1),(617,q5),(564,cO [iv 0] 19 1),(478,q7),(477,.map [⟨tg,iv 0,0⟩] 1),(467,cO [sv 464 1 1] 4031 1),(464,wO 15),(440,q9),(362,q10),(355,q11),(351,q12)],683,⟨(.bool true),mkH [(681,cO (rpV 8 (tg)) 109 1),(664,cO [so 661 15] 0 0),(663,cO [iv 0] 0 0),(661,q7_0),(657,aO 7),(654,aO 6),(651,aO 5),(648,aO 4),(645,aO 3),(642,aO 2),(639,aO 1),(477,.map [⟨tg,iv 0,0⟩] 1),(362,q10)],996⟩⟩,([682]++bs7)⟩,
 ⟨⟨28,[ag [tx [102],so 681 8,sv 663 1 1,tg,sv 664 1 1]],mkH [(664,cO [so 661 15] 0 0),(661,q7_0),(657,aO 7),(654,aO 6),(651,aO 5),(648,aO 4),(645,aO 3),(642,aO 2),(639,aO 1)],1001,⟨ag [sv 1003 1 1,sv 1004 1 1],mkH [(1610,wO 1),(1004,cO [ns] 0 0),(1003,cO [sv 1610 1 1] 0 0),(664,cO [so 661 15] 0 0),(661,q7_0),(657,aO 7),(654,aO 6),(651,aO 5),(648,aO 4),(645,aO 3),(642,aO 2),(639,aO 1)],1617⟩⟩,([1000]++bs7)⟩,
 ⟨⟨56,[iv 14,ag [iv 9,iv 0,iv 0,iv 0,iv 0,tx [],ns,iv 0,iv 0],ag [ns],pv 1000],mkH [],1622,⟨.tuple #[],mkH [],1627⟩⟩,([657,1000,1621]++bs7)⟩,
 ⟨⟨56,[iv 13,ag [iv 3,iv 0,iv 0,iv 0,iv 0,tx [97,100,100],sv 657 2 2,iv 0,iv 0],ag [sv 1656 1 1],pv 1000],mkH [(1656,wO 1),(1000,cO [pv 999] 127 0)],1659,⟨.tuple #[],mkH [(1656,wO 1),(1000,cO [pv 999] 127 0)],1668⟩⟩,([657,1658]++bs7)⟩,
 ⟨⟨56,[iv 12,ag [iv 3,iv 0,iv 0,iv 0,iv 0,tx [97,100,100],sv 654 2 2,iv 0,iv 0],ag [sv 1703 1 1],pv 1000],mkH [(1703,wO 129),(1000,cO [pv 999] 127 0),(999,q7_1),(998,.map [] 0),(997,.map [] 0),(681,cO (rpV 8 (tg)) 109 1),(562,q6),(496,wO 1),(477,.map [⟨tg,iv 0,0⟩] 1),(453,cO [so 451 4] 1405 1),(451,q8),(362,q10)],1706,⟨.tuple #[],mkH [(1703,wO 129),(1000,cO [pv 999] 127 0),(999,q7_1),(998,mO es7 1),(997,q7_2),(681,cO (rpV 8 (tg)) 109 1)],1723⟩⟩,([1705]++bs7)⟩,
 fO st7 es7 998 1000 11 (iA 651) 1758 193 1761 1772 1 2 ([1760]++bs7),
 fO st7 es7 998 1000 10 (iA 648) 1807 225 1810 1822 2 3 ([1809]++bs7),
 fO st7 es7 998 1000 9 (iA 645) 1857 241 1860 1873 3 4 ([1859]++bs7),
 fO st7 es7 998 1000 8 (iA 642) 1908 249 1911 1925 4 5 ([1910]++bs7),
 fO st7 es7 998 1000 7 (iA 639) 1960 253 1963 1978 5 6 ([1962]++bs7),
 fO st7 es7 998 1000 6 (iC 7) 2013 255 2016 2032 6 12 ([2015]++bs7),
 fO st7 es7 998 1000 5 (iC 6) 2061 127 2064 2079 12 17 ([2063]++bs7),
 fO st7 es7 998 1000 4 (iC 5) 2108 63 2111 2125 17 21 ([2110]++bs7),
 fO st7 es7 998 1000 3 (iC 4) 2154 31 2157 2170 21 24 ([2156]++bs7),
 fO st7 es7 998 1000 2 (iC 3) 2199 15 2202 2214 24 26 ([2201]++bs7),
 fO st7 es7 998 1000 1 (iC 2) 2243 7 2246 2257 26 27 ([2245]++bs7),
 fO st7 es7 998 1000 0 (iC 1) 2286 3 2289 2299 27 28 ([2288]++bs7)]
theorem a7_0:zC l7_0=true:=by kernel_rfl
noncomputable def l7:List OnceC:=[mkC]++l7_0
theorem y7:uL 7 l7=true:=by kernel_rfl
theorem c7(w:World)(hw:zK w tabs):Calls Tryz.prog 3 #[.int .i64 (.ofNat 7)] w fun e w'=>e = .returned (.bool true)∧Go.RowKit.Below w.heap.size w w':=
 zD (of_decide_eq_true (by kernel_rfl)) (zB (zA zM) (zA a7_0)) y7 w hw
end Go.Proofs.YtdfmheghgbnkmaaGreat
