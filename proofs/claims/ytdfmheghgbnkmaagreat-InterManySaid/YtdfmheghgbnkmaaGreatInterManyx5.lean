/- What the law leans on: an executor of the model that is sound, deduction over it, and the walks through the code (part 5 of 43). Conditions: those that each theorem states. -/
import Derived.Test.YtdfmheghgbnkmaaGreatInterManyx2

set_option linter.unusedVariables false
set_option linter.unusedSimpArgs false
namespace Go.Proofs.YtdfmheghgbnkmaaGreat
open Go.Ex Go.Ex.Im Go.RowKit
set_option maxRecDepth 1000000
noncomputable def es3:List (Nat×Nat):=[(0,3),(0,2),(1,3),(2,3),(1,2),(0,1)]
noncomputable def bs3:List Nat:=[362,451,453,477,496,562,631,634,641,643,644,653,820,821,822,823,827,1130,1137,1139,1140]
noncomputable def q3_0:AObj:=vR 3 [631,634,637] 2247
noncomputable def q3_1:AObj:=cO [tx [102],so 653 4,sv 643 1 1,tg,sv 644 1 1,(.map (some 821)),pv 362,(.map (some 822))] 130 0
noncomputable def q3_2:AObj:=.map [⟨ag [tg,tg],(.bool true),0⟩] 1
noncomputable def st3:List (Nat×AObj):=[(653,cO (rpV 4 (tg)) 109 1),(821,q3_2),(823,q3_1),(824,cO [pv 823] 127 0)]
noncomputable def l3_0:List OnceC:=[
 ⟨⟨24,[pv 362,ag [tx [102],so 653 4,sv 643 1 1,tg,sv 644 1 1]],mkH [(653,cO (rpV 4 (tg)) 109 1),(644,cO [so 641 7] 0 0),(643,cO [iv 0] 0 0),(641,q3_0),(637,aO 3),(634,aO 2),(631,aO 1),(617,q5),(564,cO [iv 0] 19 1),(478,q7),(477,.map [⟨tg,iv 0,0⟩] 1),(467,cO [sv 464 1 1] 4031 1),(464,wO 15),(440,q9),(362,q10),(355,q11),(351,q12)],655,⟨(.bool true),mkH [(653,cO (rpV 4 (tg)) 109 1),(644,cO [so 641 7] 0 0),(643,cO [iv 0] 0 0),(641,q3_0),(637,aO 3),(634,aO 2),(631,aO 1),(477,.map [⟨tg,iv 0,0⟩] 1),(362,q10)],820⟩⟩,([654]++bs3)⟩,
 ⟨⟨28,[ag [tx [102],so 653 4,sv 643 1 1,tg,sv 644 1 1]],mkH [(644,cO [so 641 7] 0 0),(641,q3_0),(637,aO 3),(634,aO 2),(631,aO 1)],825,⟨ag [sv 827 1 1,sv 828 1 1],mkH [(1130,wO 1),(828,cO [ns] 0 0),(827,cO [sv 1130 1 1] 0 0),(644,cO [so 641 7] 0 0),(641,q3_0),(637,aO 3),(634,aO 2),(631,aO 1)],1137⟩⟩,([824]++bs3)⟩,
 ⟨⟨56,[iv 6,ag [iv 9,iv 0,iv 0,iv 0,iv 0,tx [],ns,iv 0,iv 0],ag [ns],pv 824],mkH [],1142,⟨.tuple #[],mkH [],1147⟩⟩,([637,824,1141]++bs3)⟩,
 ⟨⟨56,[iv 5,ag [iv 3,iv 0,iv 0,iv 0,iv 0,tx [97,100,100],sv 637 2 2,iv 0,iv 0],ag [sv 1176 1 1],pv 824],mkH [(1176,wO 1),(824,cO [pv 823] 127 0)],1179,⟨.tuple #[],mkH [(1176,wO 1),(824,cO [pv 823] 127 0)],1188⟩⟩,([637,1178]++bs3)⟩,
 ⟨⟨56,[iv 4,ag [iv 3,iv 0,iv 0,iv 0,iv 0,tx [97,100,100],sv 634 2 2,iv 0,iv 0],ag [sv 1223 1 1],pv 824],mkH [(1223,wO 9),(824,cO [pv 823] 127 0),(823,q3_1),(822,.map [] 0),(821,.map [] 0),(653,cO (rpV 4 (tg)) 109 1),(562,q6),(496,wO 1),(477,.map [⟨tg,iv 0,0⟩] 1),(453,cO [so 451 4] 1405 1),(451,q8),(362,q10)],1226,⟨.tuple #[],mkH [(1223,wO 9),(824,cO [pv 823] 127 0),(823,q3_1),(822,mO es3 1),(821,q3_2),(653,cO (rpV 4 (tg)) 109 1)],1243⟩⟩,([1225]++bs3)⟩,
 fO st3 es3 822 824 3 (iA 631) 1278 13 1281 1292 1 2 ([1280]++bs3),
 fO st3 es3 822 824 2 (iC 3) 1327 15 1330 1342 2 4 ([1329]++bs3),
 fO st3 es3 822 824 1 (iC 2) 1371 7 1374 1385 4 5 ([1373]++bs3),
 fO st3 es3 822 824 0 (iC 1) 1414 3 1417 1427 5 6 ([1416]++bs3)]
theorem a3_0:zC l3_0=true:=by kernel_rfl
noncomputable def l3:List OnceC:=[mkC]++l3_0
theorem y3:uL 3 l3=true:=by kernel_rfl
theorem c3(w:World)(hw:zK w tabs):Calls Tryz.prog 3 #[.int .i64 (.ofNat 3)] w fun e w'=>e = .returned (.bool true)∧Go.RowKit.Below w.heap.size w w':=
 zD (of_decide_eq_true (by kernel_rfl)) (zB (zA zM) (zA a3_0)) y3 w hw
end Go.Proofs.YtdfmheghgbnkmaaGreat
