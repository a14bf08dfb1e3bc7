/- What the law leans on: an executor of the model that is sound, deduction over it, and the walks through the code (part 11 of 43). Conditions: those that each theorem states. -/
import Derived.Test.YtdfmheghgbnkmaaGreatInterManyx2

set_option linter.unusedVariables false
set_option linter.unusedSimpArgs false
namespace Go.Proofs.YtdfmheghgbnkmaaGreat
open Go.Ex Go.Ex.Im Go.RowKit
set_option maxRecDepth 1000000
noncomputable def es9:List (Nat×Nat):=[(0,9),(0,8),(0,7),(0,6),(0,5),(0,4),(0,3),(0,2),(1,9),(2,9),(3,9),(4,9),(5,9),(6,9),(7,9),(8,9),(1,8),(2,8),(3,8),(4,8),(5,8),(6,8),(7,8),(1,7),(2,7),(3,7),(4,7),(5,7),(6,7),(1,6),(2,6),(3,6),(4,6),(5,6),(1,5),(2,5),(3,5),(4,5),(1,4),(2,4),(3,4),(1,3),(2,3),(1,2),(0,1)]
noncomputable def bs9:List Nat:=[362,451,453,477,496,562,643,646,649,652,655,658,661,664,671,673,674,695,1084,1085,1086,1087,1091,1850,1857,1859,1860]
noncomputable def q9_0:AObj:=vR 9 [643,646,649,652,655,658,661,664,667] 2247
noncomputable def q9_1:AObj:=cO [tx [102],so 695 10,sv 673 1 1,tg,sv 674 1 1,(.map (some 1085)),pv 362,(.map (some 1086))] 130 0
noncomputable def q9_2:AObj:=.map [⟨ag [tg,tg],(.bool true),0⟩] 1
noncomputable def st9:List (Nat×AObj):=[(695,cO (rpV 10 (tg)) 109 1),(1085,q9_2),(1087,q9_1),(1088,cO [pv 1087] 127 0)]
noncomputable def l9_0:List OnceC:=[
 ⟨⟨24,[pv 362,ag [tx [102],so 695 10,sv 673 1 1,tg,sv 674 1 1]],mkH [(695,cO (rpV 10 (tg)) 109 1),(674,cO [so 671 19] 0 0),(673,cO [iv 0] 0 0),(671,q9_0),(667,aO 9),(664,aO 8),(661,aO 7),(658,aO 6),(655,aO 5),(652,aO 4),(649,aO 3),(646,aO 2),(643,aO 1),(617,q5),(564,cO [iv 0] 19 1),(478,q7),(477,.map [⟨tg,iv 0,0⟩] 1),(467,cO [sv 464 1 1] 4031 1),(464,wO 15),(440,q9),(362,q10),(355,q11),(351,q12)],697,⟨(.bool true),mkH [(695,cO (rpV 10 (tg)) 109 1),(674,cO [so 671 19] 0 0),(673,cO [iv 0] 0 0),(671,q9_0),(667,aO 9),(664,aO 8),(661,aO 7),(658,aO 6),(655,aO 5),(652,aO 4),(649,aO 3),(646,aO 2),(643,aO 1),(477,.map [⟨tg,iv 0,0⟩] 1),(362,q10)],1084⟩⟩,([696]++bs9)⟩,
 ⟨⟨28,[ag [tx [102],so 695 10,sv 673 1 1,tg,sv 674 1 1]],mkH [(674,cO [so 671 19] 0 0),(671,q9_0),(667,aO 9),(664,aO 8),(661,aO 7),(658,aO 6),(655,aO 5),(652,aO 4),(649,aO 3),(646,aO 2),(643,aO 1)],1089,⟨ag [sv 1091 1 1,sv 1092 1 1],mkH [(1850,wO 1),(1092,cO [ns] 0 0),(1091,cO [sv 1850 1 1] 0 0),(674,cO [so 671 19] 0 0),(671,q9_0),(667,aO 9),(664,aO 8),(661,aO 7),(658,aO 6),(655,aO 5),(652,aO 4),(649,aO 3),(646,aO 2),(643,aO 1)],1857⟩⟩,([1088]++bs9)⟩,
 ⟨⟨56,[iv 18,ag [iv 9,iv 0,iv 0,iv 0,iv 0,tx [],ns,iv 0,iv 0],ag [ns],pv 1088],mkH [],1862,⟨.tuple #[],mkH [],1867⟩⟩,([667,1088,1861]++bs9)⟩,
 ⟨⟨56,[iv 17,ag [iv 3,iv 0,iv 0,iv 0,iv 0,tx [97,100,100],sv 667 2 2,iv 0,iv 0],ag [sv 1896 1 1],pv 1088],mkH [(1896,wO 1),(1088,cO [pv 1087] 127 0)],1899,⟨.tuple #[],mkH [(1896,wO 1),(1088,cO [pv 1087] 127 0)],1908⟩⟩,([667,1898]++bs9)⟩,
 ⟨⟨56,[iv 16,ag [iv 3,iv 0,iv 0,iv 0,iv 0,tx [97,100,100],sv 664 2 2,iv 0,iv 0],ag [sv 1943 1 1],pv 1088],mkH [(1943,wO 513),(1088,cO [pv 1087] 127 0),(1087,q9_1),(1086,.map [] 0),(1085,.map [] 0),(695,cO (rpV 10 (tg)) 109 1),(562,q6),(496,wO 1),(477,.map [⟨tg,iv 0,0⟩] 1),(453,cO [so 451 4] 1405 1),(451,q8),(362,q10)],1946,⟨.tuple #[],mkH [(1943,wO 513),(1088,cO [pv 1087] 127 0),(1087,q9_1),(1086,mO es9 1),(1085,q9_2),(695,cO (rpV 10 (tg)) 109 1)],1963⟩⟩,([1945]++bs9)⟩,
 fO st9 es9 1086 1088 15 (iA 661) 1998 769 2001 2012 1 2 ([2000]++bs9),
 fO st9 es9 1086 1088 14 (iA 658) 2047 897 2050 2062 2 3 ([2049]++bs9),
 fO st9 es9 1086 1088 13 (iA 655) 2097 961 2100 2113 3 4 ([2099]++bs9),
 fO st9 es9 1086 1088 12 (iA 652) 2148 993 2151 2165 4 5 ([2150]++bs9),
 fO st9 es9 1086 1088 11 (iA 649) 2200 1009 2203 2218 5 6 ([2202]++bs9),
 fO st9 es9 1086 1088 10 (iA 646) 2253 1017 2256 2272 6 7 ([2255]++bs9),
 fO st9 es9 1086 1088 9 (iA 643) 2307 1021 2310 2327 7 8 ([2309]++bs9),
 fO st9 es9 1086 1088 8 (iC 9) 2362 1023 2365 2383 8 16 ([2364]++bs9),
 fO st9 es9 1086 1088 7 (iC 8) 2412 511 2415 2432 16 23 ([2414]++bs9),
 fO st9 es9 1086 1088 6 (iC 7) 2461 255 2464 2480 23 29 ([2463]++bs9),
 fO st9 es9 1086 1088 5 (iC 6) 2509 127 2512 2527 29 34 ([2511]++bs9),
 fO st9 es9 1086 1088 4 (iC 5) 2556 63 2559 2573 34 38 ([2558]++bs9),
 fO st9 es9 1086 1088 3 (iC 4) 2602 31 2605 2618 38 41 ([2604]++bs9),
 fO st9 es9 1086 1088 2 (iC 3) 2647 15 2650 2662 41 43 ([2649]++bs9),
 fO st9 es9 1086 1088 1 (iC 2) 2691 7 2694 2705 43 44 ([2693]++bs9),
 fO st9 es9 1086 1088 0 (iC 1) 2734 3 2737 2747 44 45 ([2736]++bs9)]
theorem a9_0:zC l9_0=true:=by kernel_rfl
noncomputable def l9:List OnceC:=[mkC]++l9_0
theorem y9:uL 9 l9=true:=by kernel_rfl
theorem c9(w:World)(hw:zK w tabs):Calls Tryz.prog 3 #[.int .i64 (.ofNat 9)] w fun e w'=>e = .returned (.bool true)∧Go.RowKit.Below w.heap.size w w':=
 zD (of_decide_eq_true (by kernel_rfl)) (zB (zA zM) (zA a9_0)) y9 w hw
end Go.Proofs.YtdfmheghgbnkmaaGreat
