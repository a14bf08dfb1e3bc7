/- What the law leans on: an executor of the model that is sound, deduction over it, and the walks through the code (part 12 of 43). Conditions: those that each theorem states. -/
import Derived.Test.YtdfmheghgbnkmaaGreatInterManyx2

set_option linter.unusedVariables false
set_option linter.unusedSimpArgs false
namespace Go.Proofs.YtdfmheghgbnkmaaGreat
open Go.Ex Go.Ex.Im Go.RowKit
set_option maxRecDepth 1000000
noncomputable def es10:List (Nat×Nat):=[(0,10),(0,9),(0,8),(0,7),(0,6),(0,5),(0,4),(0,3),(0,2),(1,10),(2,10),(3,10),(4,10),(5,10),(6,10),(7,10),(8,10),(9,10),(1,9),(2,9),(3,9),(4,9),(5,9),(6,9),(7,9),(8,9),(1,8),(2,8),(3,8),(4,8),(5,8),(6,8),(7,8),(1,7),(2,7),(3,7),(4,7),(5,7),(6,7),(1,6),(2,6),(3,6),(4,6),(5,6),(1,5),(2,5),(3,5),(4,5),(1,4),(2,4),(3,4),(1,3),(2,3),(1,2),(0,1)]
noncomputable def bs10:List Nat:=[362,451,453,477,496,562,645,648,651,654,657,660,663,666,669,676,678,679,702,1128,1129,1130,1131,1135,1970,1977,1979,1980]
noncomputable def q10_0:AObj:=vR 10 [645,648,651,654,657,660,663,666,669,672] 2247
noncomputable def q10_1:AObj:=cO [tx [102],so 702 11,sv 678 1 1,tg,sv 679 1 1,(.map (some 1129)),pv 362,(.map (some 1130))] 130 0
noncomputable def q10_2:AObj:=.map [⟨ag [tg,tg],(.bool true),0⟩] 1
noncomputable def st10:List (Nat×AObj):=[(702,cO (rpV 11 (tg)) 109 1),(1129,q10_2),(1131,q10_1),(1132,cO [pv 1131] 127 0)]
noncomputable def l10_0:List OnceC:=[
 ⟨⟨24,[pv 362,ag [tx [102],so 702 11,sv 678 1 1,tg,sv 679 1 1]],mkH [(702,cO (rpV 11 (tg)) 109 1),(679,cO [so 676 21] 0 0),(678,cO [iv 0] 0 0),(676,q10_0),(672,aO 10),(669,aO 9),(666,aO 8),(663,aO 7),(660,aO 6),(657,aO 5),(654,aO 4),(651,aO 3),(648,aO 2),(645,aO 1),(617,q5),(564,cO [iv 0] 19 1),(478,q7),(477,.map [⟨tg,iv 0,0⟩] 1),(467,cO [sv 464 1 1] 4031 1),(464,wO 15),(440,q9),(362,q10),(355,q11),(351,q12)],704,⟨(.bool true),mkH [(702,cO (rpV 11 (tg)) 109 1),(679,cO [so 676 21] 0 0),(678,cO [iv 0] 0 0),(676,q10_0),(672,aO 10),(669,aO 9),(666,aO 8),(663,aO 7),(660,aO 6),(657,aO 5),(654,aO 4),(651,aO 3),(648,aO 2),(645,aO 1),(477,.map [⟨tg,iv 0,0⟩] 1),(362,q10)],1128⟩⟩,([703]++bs10)⟩,
 ⟨⟨28,[ag [tx [102],so 702 11,sv 678 1 1,tg,sv 679 1 1]],mkH [(679,cO [so 676 21] 0 0),(676,q10_0),(672,aO 10),(669,aO 9),(666,aO 8),(663,aO 7),(660,aO 6),(657,aO 5),(654,aO 4),(651,aO 3),(648,aO 2),(645,aO 1)],1133,⟨ag [sv 1135 1 1,sv 1136 1 1],mkH [(1970,wO 1),(1136,cO [ns] 0 0),(1135,cO [sv 1970 1 1] 0 0),(679,cO [so 676 21] 0 0),(676,q10_0),(672,aO 10),(669,aO 9),(666,aO 8),(663,aO 7),(660,aO 6),(657,aO 5),(654,aO 4),(651,aO 3),(648,aO 2),(645,aO 1)],1977⟩⟩,([1132]++bs10)⟩,
 ⟨⟨56,[iv 20,ag [iv 9,iv 0,iv 0,iv 0,iv 0,tx [],ns,iv 0,iv 0],ag [ns],pv 1132],mkH [],1982,⟨.tuple #[],mkH [],1987⟩⟩,([672,1132,1981]++bs10)⟩,
 ⟨⟨56,[iv 19,ag [iv 3,iv 0,iv 0,iv 0,iv 0,tx [97,100,100],sv 672 2 2,iv 0,iv 0],ag [sv 2016 1 1],pv 1132],mkH [(2016,wO 1),(1132,cO [pv 1131] 127 0)],2019,⟨.tuple #[],mkH [(2016,wO 1),(1132,cO [pv 1131] 127 0)],2028⟩⟩,([672,2018]++bs10)⟩,
 ⟨⟨56,[iv 18,ag [iv 3,iv 0,iv 0,iv 0,iv 0,tx [97,100,100],sv 669 2 2,iv 0,iv 0],ag [sv 2063 1 1],pv 1132],mkH [(2063,wO 1025),(1132,cO [pv 1131] 127 0),(1131,q10_1),(1130,.map [] 0),(1129,.map [] 0),(702,cO (rpV 11 (tg)) 109 1),(562,q6),(496,wO 1),(477,.map [⟨tg,iv 0,0⟩] 1),(453,cO [so 451 4] 1405 1),(451,q8),(362,q10)],2066,⟨.tuple #[],mkH [(2063,wO 1025),(1132,cO [pv 1131] 127 0),(1131,q10_1),(1130,mO es10 1),(1129,q10_2),(702,cO (rpV 11 (tg)) 109 1)],2083⟩⟩,([2065]++bs10)⟩,
 fO st10 es10 1130 1132 17 (iA 666) 2118 1537 2121 2132 1 2 ([2120]++bs10),
 fO st10 es10 1130 1132 16 (iA 663) 2167 1793 2170 2182 2 3 ([2169]++bs10),
 fO st10 es10 1130 1132 15 (iA 660) 2217 1921 2220 2233 3 4 ([2219]++bs10),
 fO st10 es10 1130 1132 14 (iA 657) 2268 1985 2271 2285 4 5 ([2270]++bs10),
 fO st10 es10 1130 1132 13 (iA 654) 2320 2017 2323 2338 5 6 ([2322]++bs10),
 fO st10 es10 1130 1132 12 (iA 651) 2373 2033 2376 2392 6 7 ([2375]++bs10),
 fO st10 es10 1130 1132 11 (iA 648) 2427 2041 2430 2447 7 8 ([2429]++bs10),
 fO st10 es10 1130 1132 10 (iA 645) 2482 2045 2485 2503 8 9 ([2484]++bs10),
 fO st10 es10 1130 1132 9 (iC 10) 2538 2047 2541 2560 9 18 ([2540]++bs10),
 fO st10 es10 1130 1132 8 (iC 9) 2589 1023 2592 2610 18 26 ([2591]++bs10),
 fO st10 es10 1130 1132 7 (iC 8) 2639 511 2642 2659 26 33 ([2641]++bs10),
 fO st10 es10 1130 1132 6 (iC 7) 2688 255 2691 2707 33 39 ([2690]++bs10),
 fO st10 es10 1130 1132 5 (iC 6) 2736 127 2739 2754 39 44 ([2738]++bs10),
 fO st10 es10 1130 1132 4 (iC 5) 2783 63 2786 2800 44 48 ([2785]++bs10)]
noncomputable def l10_1:List OnceC:=[
 fO st10 es10 1130 1132 3 (iC 4) 2829 31 2832 2845 48 51 ([2831]++bs10),
 fO st10 es10 1130 1132 2 (iC 3) 2874 15 2877 2889 51 53 ([2876]++bs10),
 fO st10 es10 1130 1132 1 (iC 2) 2918 7 2921 2932 53 54 ([2920]++bs10),
 fO st10 es10 1130 1132 0 (iC 1) 2961 3 2964 2974 54 55 ([2963]++bs10)]
theorem a10_0:zC l10_0=true:=by kernel_rfl
theorem a10_1:zC l10_1=true:=by kernel_rfl
noncomputable def l10:List OnceC:=[mkC]++l10_0++l10_1
theorem y10:uL 10 l10=true:=by kernel_rfl
theorem c10(w:World)(hw:zK w tabs):Calls Tryz.prog 3 #[.int .i64 (.ofNat 10)] w fun e w'=>e = .returned (.bool true)∧Go.RowKit.Below w.heap.size w w':=
 zD (of_decide_eq_true (by kernel_rfl)) (zB (zB (zA zM) (zA a10_0)) (zA a10_1)) y10 w hw
end Go.Proofs.YtdfmheghgbnkmaaGreat
