/- What the law leans on: an executor of the model that is sound, deduction over it, and the walks through the code (part 10 of 43). Conditions: those that each theorem states. -/
import Derived.Test.YtdfmheghgbnkmaaGreatInterManyx2

set_option linter.unusedVariables false
set_option linter.unusedSimpArgs false
namespace Go.Proofs.YtdfmheghgbnkmaaGreat
open Go.Ex Go.Ex.Im Go.RowKit
set_option maxRecDepth 1000000
noncomputable def es8:List (Nat×Nat):=[(0,8),(0,7),(0,6),(0,5),(0,4),(0,3),(0,2),(1,8),(2,8),(3,8),(4,8),(5,8),(6,8),(7,8),(1,7),(2,7),(3,7),(4,7),(5,7),(6,7),(1,6),(2,6),(3,6),(4,6),(5,6),(1,5),(2,5),(3,5),(4,5),(1,4),(2,4),(3,4),(1,3),(2,3),(1,2),(0,1)]
noncomputable def bs8:List Nat:=[362,451,453,477,496,562,641,644,647,650,653,656,659,666,668,669,688,1040,1041,1042,1043,1047,1730,1737,1739,1740]
noncomputable def q8_0:AObj:=vR 8 [641,644,647,650,653,656,659,662] 2247
noncomputable def q8_1:AObj:=cO [tx [102],so 688 9,sv 668 1 1,tg,sv 669 1 1,(.map (some 1041)),pv 362,(.map (some 1042))] 130 0
noncomputable def q8_2:AObj:=.map [⟨ag [tg,tg],(.bool true),0⟩] 1
noncomputable def st8:List (Nat×AObj):=[(688,cO (rpV 9 (tg)) 109 1),(1041,q8_2),(1043,q8_1),(1044,cO [pv 1043] 127 0)]
noncomputable def l8_0:List OnceC:=[
 ⟨⟨24,[pv 362,ag [tx [102],so 688 9,sv 668 1 1,tg,sv 669 1 1]],mkH [(688,cO (rpV 9 (tg)) 109 1),(669,cO [so 666 17] 0 0),(668,cO [iv 0] 0 0),(666,q8_0),(662,aO 8),(659,aO 7),(656,aO 6),(653,aO 5),(650,aO 4),(647,aO 3),(644,aO 2),(641,aO 1),(617,q5),(564,cO [iv 0] 19 1),(478,q7),(477,.map [⟨tg,iv 0,0⟩] 1),(467,cO [sv 464 1 1] 4031 1),(464,wO 15),(440,q9),(362,q10),(355,q11),(351,q12)],690,⟨(.bool true),mkH [(688,cO (rpV 9 (tg)) 109 1),(669,cO [so 666 17] 0 0),(668,cO [iv 0] 0 0),(666,q8_0),(662,aO 8),(659,aO 7),(656,aO 6),(653,aO 5),(650,aO 4),(647,aO 3),(644,aO 2),(641,aO 1),(477,.map [⟨tg,iv 0,0⟩] 1),(362,q10)],1040⟩⟩,([689]++bs8)⟩,
 ⟨⟨28,[ag [tx [102],so 688 9,sv 668 1 1,tg,sv 669 1 1]],mkH [(669,cO [so 666 17] 0 0),(666,q8_0),(662,aO 8),(659,aO 7),(656,aO 6),(653,aO 5),(650,aO 4),(647,aO 3),(644,aO 2),(641,aO 1)],1045,⟨ag [sv 1047 1 1,sv 1048 1 1],mkH [(1730,wO 1),(1048,cO [ns] 0 0),(1047,cO [sv 1730 1 1] 0 0),(669,cO [so 666 17] 0 0),(666,q8_0),(662,aO 8),(659,aO 7),(656,aO 6),(653,aO 5),(650,aO 4),(647,aO 3),(644,aO 2),(641,aO 1)],1737⟩⟩,([1044]++bs8)⟩,
 ⟨⟨56,[iv 16,ag [iv 9,iv 0,iv 0,iv 0,iv 0,tx [],ns,iv 0,iv 0],ag [ns],pv 1044],mkH [],1742,⟨.tuple #[],mkH [],1747⟩⟩,([662,1044,1741]++bs8)⟩,
 ⟨⟨56,[iv 15,ag [iv 3,iv 0,iv 0,iv 0,iv 0,tx [97,100,100],sv 662 2 2,iv 0,iv 0],ag [sv 1776 1 1],pv 1044],mkH [(1776,wO 1),(1044,cO [pv 1043] 127 0)],1779,⟨.tuple #[],mkH [(1776,wO 1),(1044,cO [pv 1043] 127 0)],1788⟩⟩,([662,1778]++bs8)⟩,
 ⟨⟨56,[iv 14,ag [iv 3,iv 0,iv 0,iv 0,iv 0,tx [97,100,100],sv 659 2 2,iv 0,iv 0],ag [sv 1823 1 1],pv 1044],mkH [(1823,wO 257),(1044,cO [pv 1043] 127 0),(1043,q8_1),(1042,.map [] 0),(1041,.map [] 0),(688,cO (rpV 9 (tg)) 109 1),(562,q6),(496,wO 1),(477,.map [⟨tg,iv 0,0⟩] 1),(453,cO [so 451 4] 1405 1),(451,q8),(362,q10)],1826,⟨.tuple #[],mkH [(1823,wO 257),(1044,cO [pv 1043] 127 0),(1043,q8_1),(1042,mO es8 1),(1041,q8_2),(688,cO (rpV 9 (tg)) 109 1)],1843⟩⟩,([1825]++bs8)⟩,
 fO st8 es8 1042 1044 13 (iA 656) 1878 385 1881 1892 1 2 ([1880]++bs8),
 fO st8 es8 1042 1044 12 (iA 653) 1927 449 1930 1942 2 3 ([1929]++bs8),
 fO st8 es8 1042 1044 11 (iA 650) 1977 481 1980 1993 3 4 ([1979]++bs8),
 fO st8 es8 1042 1044 10 (iA 647) 2028 497 2031 2045 4 5 ([2030]++bs8),
 fO st8 es8 1042 1044 9 (iA 644) 2080 505 2083 2098 5 6 ([2082]++bs8),
 fO st8 es8 1042 1044 8 (iA 641) 2133 509 2136 2152 6 7 ([2135]++bs8),
 fO st8 es8 1042 1044 7 (iC 8) 2187 511 2190 2207 7 14 ([2189]++bs8),
 fO st8 es8 1042 1044 6 (iC 7) 2236 255 2239 2255 14 20 ([2238]++bs8),
 fO st8 es8 1042 1044 5 (iC 6) 2284 127 2287 2302 20 25 ([2286]++bs8),
 fO st8 es8 1042 1044 4 (iC 5) 2331 63 2334 2348 25 29 ([2333]++bs8),
 fO st8 es8 1042 1044 3 (iC 4) 2377 31 2380 2393 29 32 ([2379]++bs8),
 fO st8 es8 1042 1044 2 (iC 3) 2422 15 2425 2437 32 34 ([2424]++bs8),
 fO st8 es8 1042 1044 1 (iC 2) 2466 7 2469 2480 34 35 ([2468]++bs8),
 fO st8 es8 1042 1044 0 (iC 1) 2509 3 2512 2522 35 36 ([2511]++bs8)]
theorem a8_0:zC l8_0=true:=by kernel_rfl
noncomputable def l8:List OnceC:=[mkC]++l8_0
theorem y8:uL 8 l8=true:=by kernel_rfl
theorem c8(w:World)(hw:zK w tabs):Calls Tryz.prog 3 #[.int .i64 (.ofNat 8)] w fun e w'=>e = .returned (.bool true)∧Go.RowKit.Below w.heap.size w w':=
 zD (of_decide_eq_true (by kernel_rfl)) (zB (zA zM) (zA a8_0)) y8 w hw
end Go.Proofs.YtdfmheghgbnkmaaGreat
