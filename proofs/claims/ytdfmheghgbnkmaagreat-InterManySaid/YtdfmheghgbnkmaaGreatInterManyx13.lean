/- What the law leans on: an executor of the model that is sound, deduction over it, and the walks through the code (part 13 of 43). Conditions: those that each theorem states. -/
import Derived.Test.YtdfmheghgbnkmaaGreatInterManyx2

set_option linter.unusedVariables false
set_option linter.unusedSimpArgs false
namespace Go.Proofs.YtdfmheghgbnkmaaGreat
open Go.Ex Go.Ex.Im Go.RowKit
set_option maxRecDepth 1000000
noncomputable def es11:List (Nat×Nat):=[(0,11),(0,10),(0,9),(0,8),(0,7),(0,6),(0,5),(0,4),(0,3),(0,2),(1,11),(2,11),(3,11),(4,11),(5,11),(6,11),(7,11),(8,11),(9,11),(10,11),(1,10),(2,10),(3,10),(4,10),(5,10),(6,10),(7,10),(8,10),(9,10),(1,9),(2,9),(3,9),(4,9),(5,9),(6,9),(7,9),(8,9),(1,8),(2,8),(3,8),(4,8),(5,8),(6,8),(7,8),(1,7),(2,7),(3,7),(4,7),(5,7),(6,7),(1,6),(2,6),(3,6),(4,6),(5,6),(1,5),(2,5),(3,5),(4,5),(1,4),(2,4),(3,4),(1,3),(2,3),(1,2),(0,1)]
noncomputable def bs11:List Nat:=[362,451,453,477,496,562,647,650,653,656,659,662,665,668,671,674,681,683,684,709,1172,1173,1174,1175,1179,2090,2097,2099,2100]
noncomputable def q11_0:AObj:=vR 11 [647,650,653,656,659,662,665,668,671,674,677] 2247
noncomputable def q11_1:AObj:=cO [tx [102],so 709 12,sv 683 1 1,tg,sv 684 1 1,(.map (some 1173)),pv 362,(.map (some 1174))] 130 0
noncomputable def q11_2:AObj:=.map [⟨ag [tg,tg],(.bool true),0⟩] 1
noncomputable def st11:List (Nat×AObj):=[(709,cO (rpV 12 (tg)) 109 1),(1173,q11_2),(1175,q11_1),(1176,cO [pv 1175] 127 0)]
noncomputable def l11_0:List OnceC:=[
 ⟨⟨24,[pv 362,ag [tx [102],so 709 12,sv 683 1 1,tg,sv 684 1 1]],mkH [(709,cO (rpV 12 (tg)) 109 1),(684,cO [so 681 23] 0 0),(683,cO [iv 0] 0 0),(681,q11_0),(677,aO 11),(674,aO 10),(671,aO 9),(668,aO 8),(665,aO 7),(662,aO 6),(659,aO 5),(656,aO 4),(653,aO 3),(650,aO 2),(647,aO 1),(617,q5),(564,cO [iv 0] 19 1),(478,q7),(477,.map [⟨tg,iv 0,0⟩] 1),(467,cO [sv 464 1 1] 4031 1),(464,wO 15),(440,q9),(362,q10),(355,q11),(351,q12)],711,⟨(.bool true),mkH [(709,cO (rpV 12 (tg)) 109 1),(684,cO [so 681 23] 0 0),(683,cO [iv 0] 0 0),(681,q11_0),(677,aO 11),(674,aO 10),(671,aO 9),(668,aO 8),(665,aO 7),(662,aO 6),(659,aO 5),(656,aO 4),(653,aO 3),(650,aO 2),(647,aO 1),(477,.map [⟨tg,iv 0,0⟩] 1),(362,q10)],1172⟩⟩,([710]++bs11)⟩,
 ⟨⟨28,[ag [tx [102],so 709 12,sv 683 1 1,tg,sv 684 1 1]],mkH [(684,cO [so 681 23] 0 0),(681,q11_0),(677,aO 11),(674,aO 10),(671,aO 9),(668,aO 8),(665,aO 7),(662,aO 6),(659,aO 5),(656,aO 4),(653,aO 3),(650,aO 2),(647,aO 1)],1177,⟨ag [sv 1179 1 1,sv 1180 1 1],mkH [(2090,wO 1),(1180,cO [ns] 0 0),(1179,cO [sv 2090 1 1] 0 0),(684,cO [so 681 23] 0 0),(681,q11_0),(677,aO 11),(674,aO 10),(671,aO 9),(668,aO 8),(665,aO 7),(662,aO 6),(659,aO 5),(656,aO 4),(653,aO 3),(650,aO 2),(647,aO 1)],2097⟩⟩,([1176]++bs11)⟩,
 ⟨⟨56,[iv 22,ag [iv 9,iv 0,iv 0,iv 0,iv 0,tx [],ns,iv 0,iv 0],ag [ns],pv 1176],mkH [],2102,⟨.tuple #[],mkH [],2107⟩⟩,([677,1176,2101]++bs11)⟩,
 ⟨⟨56,[iv 21,ag [iv 3,iv 0,iv 0,iv 0,iv 0,tx [97,100,100],sv 677 2 2,iv 0,iv 0],ag [sv 2136 1 1],pv 1176],mkH [(2136,wO 1),(1176,cO [pv 1175] 127 0)],2139,⟨.tuple #[],mkH [(2136,wO 1),(1176,cO [pv 1175] 127 0)],2148⟩⟩,([677,2138]++bs11)⟩,
 ⟨⟨56,[iv 20,ag [iv 3,iv 0,iv 0,iv 0,iv 0,tx [97,100,100],sv 674 2 2,iv 0,iv 0],ag [sv 2183 1 1],pv 1176],mkH [(2183,wO 2049),(1176,cO [pv 1175] 127 0),(1175,q11_1),(1174,.map [] 0),(1173,.map [] 0),(709,cO (rpV 12 (tg)) 109 1),(562,q6),(496,wO 1),(477,.map [⟨tg,iv 0,0⟩] 1),(453,cO [so 451 4] 1405 1),(451,q8),(362,q10)],2186,⟨.tuple #[],mkH [(2183,wO 2049),(1176,cO [pv 1175] 127 0),(1175,q11_1),(1174,mO es11 1),(1173,q11_2),(709,cO (rpV 12 (tg)) 109 1)],2203⟩⟩,([2185]++bs11)⟩,
 fO st11 es11 1174 1176 19 (iA 671) 2238 3073 2241 2252 1 2 ([2240]++bs11),
 fO st11 es11 1174 1176 18 (iA 668) 2287 3585 2290 2302 2 3 ([2289]++bs11),
 fO st11 es11 1174 1176 17 (iA 665) 2337 3841 2340 2353 3 4 ([2339]++bs11),
 fO st11 es11 1174 1176 16 (iA 662) 2388 3969 2391 2405 4 5 ([2390]++bs11),
 fO st11 es11 1174 1176 15 (iA 659) 2440 4033 2443 2458 5 6 ([2442]++bs11),
 fO st11 es11 1174 1176 14 (iA 656) 2493 4065 2496 2512 6 7 ([2495]++bs11),
 fO st11 es11 1174 1176 13 (iA 653) 2547 4081 2550 2567 7 8 ([2549]++bs11),
 fO st11 es11 1174 1176 12 (iA 650) 2602 4089 2605 2623 8 9 ([2604]++bs11),
 fO st11 es11 1174 1176 11 (iA 647) 2658 4093 2661 2680 9 10 ([2660]++bs11),
 fO st11 es11 1174 1176 10 (iC 11) 2715 4095 2718 2738 10 20 ([2717]++bs11),
 fO st11 es11 1174 1176 9 (iC 10) 2767 2047 2770 2789 20 29 ([2769]++bs11),
 fO st11 es11 1174 1176 8 (iC 9) 2818 1023 2821 2839 29 37 ([2820]++bs11)]
noncomputable def l11_1:List OnceC:=[
 fO st11 es11 1174 1176 7 (iC 8) 2868 511 2871 2888 37 44 ([2870]++bs11),
 fO st11 es11 1174 1176 6 (iC 7) 2917 255 2920 2936 44 50 ([2919]++bs11),
 fO st11 es11 1174 1176 5 (iC 6) 2965 127 2968 2983 50 55 ([2967]++bs11),
 fO st11 es11 1174 1176 4 (iC 5) 3012 63 3015 3029 55 59 ([3014]++bs11),
 fO st11 es11 1174 1176 3 (iC 4) 3058 31 3061 3074 59 62 ([3060]++bs11),
 fO st11 es11 1174 1176 2 (iC 3) 3103 15 3106 3118 62 64 ([3105]++bs11),
 fO st11 es11 1174 1176 1 (iC 2) 3147 7 3150 3161 64 65 ([3149]++bs11),
 fO st11 es11 1174 1176 0 (iC 1) 3190 3 3193 3203 65 66 ([3192]++bs11)]
theorem a11_0:zC l11_0=true:=by kernel_rfl
theorem a11_1:zC l11_1=true:=by kernel_rfl
noncomputable def l11:List OnceC:=[mkC]++l11_0++l11_1
theorem y11:uL 11 l11=true:=by kernel_rfl
theorem c11(w:World)(hw:zK w tabs):Calls Tryz.prog 3 #[.int .i64 (.ofNat 11)] w fun e w'=>e = .returned (.bool true)∧Go.RowKit.Below w.heap.size w w':=
 zD (of_decide_eq_true (by kernel_rfl)) (zB (zB (zA zM) (zA a11_0)) (zA a11_1)) y11 w hw
end Go.Proofs.YtdfmheghgbnkmaaGreat
