/- What the law leans on: an executor of the model that is sound, deduction over it, and the walks through the code (part 4 of 6). Conditions: those that each theorem states. -/
import Derived.Test.YtapnnpoljobanaaGreatDoorVirPrintsx3
import Derived.Lib.AtoiAllCases

set_option linter.unusedVariables false
set_option linter.unusedSimpArgs false
namespace Go.Proofs.YtapnnpoljobanaaGreatDoor
open Go.Ex
set_option maxRecDepth 1000000
noncomputable abbrev fo60(s2:Value):Fr:=gf91 ud ud s2 ud ud ud ud ud ud ud ud ud ud ud ud ud ud ud ud ud ud ud ud ud ud ud ud ud ud ud ud ud ud ud ud ud ud ud ud ud ud ud ud ud ud ud ud ud ud ud ud ud ud ud ud ud ud ud ud ud ud ud ud ud ud ud ud ud ud ud ud ud ud ud ud ud ud ud ud ud ud ud ud ud ud ud ud ud ud ud ud
noncomputable abbrev fj60_0(t:Fr)(s2 s3 s88 s89 s90:Value):Fr:=gf91 (zA t 0) (zA t 1) s2 s3 (zA t 4) (zA t 5) (zA t 6) (zA t 7) (zA t 8) (zA t 9) (zA t 10) (zA t 11) (zA t 12) (zA t 13) (zA t 14) (zA t 15) (zA t 16) (zA t 17) (zA t 18) (zA t 19) (zA t 20) (zA t 21) (zA t 22) (zA t 23) (zA t 24) (zA t 25) (zA t 26) (zA t 27) (zA t 28) (zA t 29) (zA t 30) (zA t 31) (zA t 32) (zA t 33) (zA t 34) (zA t 35) (zA t 36) (zA t 37) (zA t 38) (zA t 39) (zA t 40) (zA t 41) (zA t 42) (zA t 43) (zA t 44) (zA t 45) (zA t 46) (zA t 47) (zA t 48) (zA t 49) (zA t 50) (zA t 51) (zA t 52) (zA t 53) (zA t 54) (zA t 55) (zA t 56) (zA t 57) (zA t 58) (zA t 59) (zA t 60) (zA t 61) (zA t 62) (zA t 63) (zA t 64) (zA t 65) (zA t 66) (zA t 67) (zA t 68) (zA t 69) (zA t 70) (zA t 71) (zA t 72) (zA t 73) (zA t 74) (zA t 75) (zA t 76) (zA t 77) (zA t 78) (zA t 79) (zA t 80) (zA t 81) (zA t 82) (zA t 83) (zA t 84) (zA t 85) (zA t 86) (zA t 87) s88 s89 s90
noncomputable abbrev hint60:rD:=hq [(1,0,[.any,.any,.any,(.int .i64)]),(2,2,[.any,.val]),(2,6,[.any,.any,.any,(.int .i64)]),(2,7,[.any,.any,.any,(.int .i64)]),(2,9,[.any,.any,.any,(.int .i64)]),(2,10,[.any,.val,.any,(.int .i64)])]
noncomputable def F60:TY1:=fun L lp p0 df u h n k=>
 eBox p0 h n fun h1 n2 v3=>
 opt (zB P 50 0 v3) fun v4=>
 opt (zE P 3 h1 v4) fun v5=>
 rtI .i64 v5 fun a6=>
 fb (wB a6 1) fun a7=>
 grd (nt a7) (fun k8=>
 opt (zB P 50 0 v3) fun Cd=>
 k8 h1 n2 Cd) (fun h9 BH AX=>
 grd (nt a7) (fun Ce=>
 opt (zE P 3 h9 AX) fun Cf=>
 rtI .i64 Cf fun Cg=>
 Ce h9 BH (.int .i64 Cg)) (fun BI BJ AY=>
 grd (nt a7) (fun Ch=>
 yB igtB P .gtr 3 true AY (.int .i64 9) fun Ci=>
 Ch BI BJ (.bool Ci)) (fun AZ BK Aa=>
 rtB (sel a7 (.bool true) Aa) fun AC=>
 grd (nt AC) (fun Cj=>
 opt (zE P 50 AZ v3) fun Ck=>
 Cj AZ BK Ck) (fun BL BM Ab=>
 grd (nt AC) (fun Cl=>
 yO L 113 [Ab] BL BM (kp L 60 k (fo60 (.bool false)) [] u) fun Cp Cq Cr=>
 Cl Cq Cr Cp) (fun BN BO Ac=>
 grd (nt AC) (fun Cs=>
 uL L 112 [Ac] BN BO (kp L 60 k (fo60 (.bool false)) [] u) fun Cw Cx Cy=>
 Cs Cx Cy (.bool Cw)) (fun BP BQ Ad=>
 grd (nt AC) (fun Cz=>
 opt (aUn .not Ad) fun C0=>
 rtB C0 fun C1=>
 Cz BP BQ (.bool C1)) (fun BR BS Ae=>
 rtB (sel AC (.bool true) Ae) fun AB=>
 grd (nt AB) (fun C2=>
 opt (zB P 50 2 v3) fun C3=>
 C2 BR BS C3) (fun Af BT Ag=>
 grd (nt AB) (fun C4=>
 opt (zE P 3 Af Ag) fun C5=>
 rtI .i64 C5 fun C6=>
 C4 Af BT (.int .i64 C6)) (fun BU BV Ah=>
 grd (nt AB) (fun C7=>
 opt (zB P 50 3 v3) fun C8=>
 C7 BU BV C8) (fun Ai BW Aj=>
 grd (nt AB) (fun C9=>
 opt (zE P 3 Ai Aj) fun DA=>
 rtI .i64 DA fun DB=>
 C9 Ai BW (.int .i64 DB)) (fun BX BY Ak=>
 grd (nt AB) (fun DC=>
 opt (zB P 50 7 v3) fun DD=>
 DC BX BY DD) (fun Al BZ Am=>
 grd (nt AB) (fun DE=>
 opt (zE P 3 Al Am) fun DF=>
 rtI .i64 DF fun DG=>
 DE Al BZ (.int .i64 DG)) (fun Ba Bb An=>
 grd (nt AB) (fun DH=>
 opt (zB P 50 8 v3) fun DI=>
 DH Ba Bb DI) (fun Ao Bc Ap=>
 grd (nt AB) (fun DJ=>
 opt (zE P 3 Ao Ap) fun DK=>
 rtI .i64 DK fun DL=>
 DJ Ao Bc (.int .i64 DL)) (fun Bd Be Aq=>
 grd (nt AB) (fun DM=>
 zS P 40 4 [(0,Ah),(1,Ak),(2,An),(3,Aq)] Bd Be fun DN DO DP=>
 DM DN DO DP) (fun Bf Bg Ar=>
 grd (nt AB) (fun DQ=>
 uL L 59 [Ar] Bf Bg (kp L 60 k (fo60 (.bool false)) [] u) fun DU DV DW=>
 DQ DV DW (.bool DU)) (fun Bh Bi As=>
 grd (nt AB) (fun DX=>
 opt (aUn .not As) fun DY=>
 rtB DY fun DZ=>
 DX Bh Bi (.bool DZ)) (fun Bj Bk At=>
 rtB (sel AB (.bool true) At) fun AD=>
 grd (nt AD) (fun Da=>
 opt (zB P 50 6 v3) fun Db=>
 Da Bj Bk Db) (fun Au Bl Av=>
 grd (nt AD) (fun Dc=>
 opt (zE P 40 Au Av) fun Dd=>
 Dc Au Bl Dd) (fun Bm Bn Aw=>
 grd (nt AD) (fun De=>
 uL L 59 [Aw] Bm Bn (kp L 60 k (fo60 (.bool false)) [] u) fun Di Dj Dk=>
 De Dj Dk (.bool Di)) (fun Bo Bp Ax=>
 grd (nt AD) (fun Dl=>
 opt (aUn .not Ax) fun Dm=>
 rtB Dm fun Dn=>
 Dl Bo Bp (.bool Dn)) (fun Bq Br Ay=>
 rtB (sel AD (.bool true) Ay) fun AE=>
 grd (nt AE) (fun Do=>
 opt (zB P 50 6 v3) fun Dp=>
 Do Bq Br Dp) (fun Az Bs A0=>
 grd (nt AE) (fun Dq=>
 opt (zE P 40 Az A0) fun Dr=>
 Dq Az Bs Dr) (fun A1 Bt A2=>
 grd (nt AE) (fun Ds=>
 opt (zX P .len [40] [A2] A1) fun Dt=>
 rtI .i64 Dt fun Du=>
 Ds A1 Bt (.int .i64 Du)) (fun Bu Bv A3=>
 grd (nt AE) (fun Dv=>
 yB igtB P .gtr 3 true A3 (.int .i64 16) fun Dw=>
 Dv Bu Bv (.bool Dw)) (fun AG AQ A4=>
 rtB (sel AE (.bool true) A4) fun A5=>
 br A5 (
 zJ P L 60 k .ret (fo60 (.bool false)) (W.mk [] u AG AQ)) (
 opt (zB P 50 1 v3) fun A6=>
 opt (zE P 3 AG A6) fun Dx=>
 rtI .i64 Dx fun AL=>
 opt (zB P 50 0 v3) fun A7=>
 opt (zE P 3 AG A7) fun Dy=>
 rtI .i64 Dy fun AR=>
 pM (fun Dz=>
 fb (xN AR 3) fun AM=>
 brJ AM (fun D0=>
 opt (zB P 50 5 v3) fun Bw=>
 opt (zE P 9 AG Bw) fun Bx=>
 uL L 58 [Bx] AG AQ (kp L 60 k (fo60 (.bool false)) [] u) fun By Bz B0=>
 opt (aUn .not (.bool By)) fun D4=>
 rtB D4 fun AJ=>
 grd (nt AJ) (fun D5=>
 opt (zB P 50 5 v3) fun D6=>
 D5 Bz B0 D6) (fun A8 B1 B2=>
 grd (nt AJ) (fun D7=>
 opt (zE P 9 A8 B2) fun D8=>
 D7 A8 B1 D8) (fun B3 B4 B5=>
 grd (nt AJ) (fun D9=>
 uL L 114 [B5] B3 B4 (kp L 60 k (fo60 (.bool false)) [] u) fun ED EE EF=>
 D9 EE EF (.bool ED)) (fun B6 B7 B8=>
 rtB (sel AJ (.bool true) B8) fun AH=>
 grd (nt AH) (fun EG=>
 opt (zB P 50 6 v3) fun EH=>
 EG B6 B7 EH) (fun A9 B9 CA=>
 grd (nt AH) (fun EI=>
 opt (zE P 40 A9 CA) fun EJ=>
 EI A9 B9 EJ) (fun BA CB CC=>
 grd (nt AH) (fun EK=>
 opt (zX P .len [40] [CC] BA) fun EL=>
 rtI .i64 EL fun EM=>
 EK BA CB (.int .i64 EM)) (fun CD CE CF=>
 grd (nt AH) (fun EN=>
 yB wB P .lss 3 true CF (.int .i64 1) fun EO=>
 EN CD CE (.bool EO)) (fun CG CH CI=>
 rtB (sel AH (.bool true) CI) fun AI=>
 grd (nt AI) (fun EP=>
 opt (zB P 50 6 v3) fun EQ=>
 EP CG CH EQ) (fun BB CJ CK=>
 grd (nt AI) (fun ER=>
 opt (zE P 40 BB CK) fun ES=>
 ER BB CJ ES) (fun BC CL CM=>
 grd (nt AI) (fun ET=>
 opt (zX P .len [40] [CM] BC) fun EU=>
 rtI .i64 EU fun EV=>
 ET BC CL (.int .i64 EV)) (fun CN CO CP=>
 grd (nt AI) (fun EW=>
 yB igtB P .gtr 3 true CP (.int .i64 2) fun EX=>
 EW CN CO (.bool EX)) (fun CQ CR CS=>
 rtB (sel AI (.bool true) CS) fun CT=>
 br CT (
 zJ P L 60 k .ret (fo60 (.bool false)) (W.mk [] u CQ CR)) (
 D0 (gf91 p0 v3 (vb false) (vi AL) v4 (vi a6) (vb a7) (vb a7) AX AY Aa (vb AC) (vb AC) Ab Ac Ad Ae (vb AB) (vb AB) Ag Ah Aj Ak Am An Ap Aq Ar As At (vb AD) (vb AD) Av Aw Ax Ay (vb AE) (vb AE) A0 A2 A3 A4 (vb A5) A6 (vi AL) A7 (vi AR) (vb AM) (vb AM) Bw Bx (vb By) (vb AJ) (vb AJ) B2 B5 B8 (vb AH) (vb AH) CA CC CF CI (vb AI) (vb AI) CK CM CP CS (vb CT) ud ud ud ud ud ud ud ud ud ud ud ud ud ud ud ud ud ud ud ud ud) (W.mk [] u CQ CR))) CN CO) BC CL) BB CJ) CG CH) CD CE) BA CB) A9 B9) B6 B7) B3 B4) A8 B1) Bz B0) (fun EY=>
 fb (xN AR 6) fun BD=>
 br BD (
 opt (zB P 50 5 v3) fun EZ=>
 opt (zE P 9 AG EZ) fun Ea=>
 uL L 58 [Ea] AG AQ (kp L 60 k (fo60 (.bool false)) [] u) fun Ee AN BE=>
 opt (aUn .not (.bool Ee)) fun Ef=>
 rtB Ef fun Eg=>
 br Eg (
 zJ P L 60 k .ret (fo60 (.bool false)) (W.mk [] u AN BE)) (
 fi (wH .i64 (uF AL 1)) fun Eh=>
 opt (zX P .max [3,3] [(.int .i64 0),(.int .i64 Eh)] AN) fun Ei=>
 rtI .i64 Ei fun Ej=>
 fi (wH .i64 (isub Ej 1)) fun Ek=>
 opt (zB P 50 1 v3) fun El=>
 opt (zE P 3 AN El) fun Em=>
 rtI .i64 Em fun En=>
 fb (xN En (-1)) fun AS=>
 grd (nt AS) (fun Eo=>
 Eo AN BE (.int .i64 Ek)) (fun CU CV Ep=>
 grd (nt AS) (fun Eq=>
 zS P 40 1 [(0,Ep)] CU CV fun Er Es Et=>
 Eq Er Es Et) (fun CW CX Eu=>
 grd (nt AS) (fun Ev=>
 uL L 59 [Eu] CW CX (kp L 60 k (fo60 (.bool false)) [] u) fun E0 E1 E2=>
 Ev E1 E2 (.bool E0)) (fun E3 E4 E5=>
 rtB (sel AS (.bool true) E5) fun E6=>
 zJ P L 60 k .ret (fo60 (.bool E6)) (W.mk [] u E3 E4)) CW CX) CU CV) AN BE)) (
 EY (gf91 p0 v3 (vb false) (vi AL) v4 (vi a6) (vb a7) (vb a7) AX AY Aa (vb AC) (vb AC) Ab Ac Ad Ae (vb AB) (vb AB) Ag Ah Aj Ak Am An Ap Aq Ar As At (vb AD) (vb AD) Av Aw Ax Ay (vb AE) (vb AE) A0 A2 A3 A4 (vb A5) A6 (vi AL) A7 (vi AR) (vb AM) (vb AM) ud ud ud ud ud ud ud ud ud ud ud ud ud ud ud ud ud ud ud ud ud (vb BD) (vb BD) ud ud ud ud ud ud ud ud ud ud ud ud ud ud ud ud ud ud ud) (W.mk [] u AG AQ))) (fun AK E7=>
 rtI .i64 (zA AK 3) fun E8=>
 onW E7 fun E9 FA FB FC=>
 Dz (fj60_0 AK (zA AK 2) (vi E8) (zA AK 88) (zA AK 89) (zA AK 90)) (W.mk E9 FA FB FC))) (fun AO FD=>
 rtI .i64 (zA AO 3) fun AP=>
 onW FD fun CY CZ FE FF=>
 zS P 40 1 [(0,(.int .i64 AP))] FE FF fun FG FH BF=>
 uL L 59 [BF] FG FH (kp L 60 k (fj60_0 AO (zA AO 2) (vi AP) (vi AP) BF (zA AO 90)) CY CZ) fun Ca FL FM=>
 zJ P L 60 k .ret (fj60_0 AO (vb Ca) (vi AP) (vi AP) BF (vb Ca)) (W.mk CY CZ FL FM)))) Bu Bv) A1 Bt) Az Bs) Bq Br) Bo Bp) Bm Bn) Au Bl) Bj Bk) Bh Bi) Bf Bg) Bd Be) Ao Bc) Ba Bb) Al BZ) BX BY) Ai BW) BU BV) Af BT) BR BS) BP BQ) BN BO) BL BM) AZ BK) BI BJ) h9 BH) h1 n2
theorem F60_eq:EY1 60 hint60 F60:=fun _ _ _ _ _ _ _ _=>by kernel_rfl
theorem l60:yU P 60=true:=by kernel_rfl
theorem r60:xW P 60=some [.tmp 2]:=by kernel_rfl
noncomputable abbrev fo20(s2:Value):Fr:=gf83 ud ud s2 ud ud ud ud ud ud ud ud ud ud ud ud ud ud ud ud ud ud ud ud ud ud ud ud ud ud ud ud ud ud ud ud ud ud ud ud ud ud ud ud ud ud ud ud ud ud ud ud ud ud ud ud ud ud ud ud ud ud ud ud ud ud ud ud ud ud ud ud ud ud ud ud ud ud ud ud ud ud ud ud
noncomputable abbrev pF(t:Fr)(s1 s2 s3 s5 s7 s9 s42 s43 s44 s45 s46 s47 s48 s49 s50 s51 s52 s53 s54 s55 s56 s57 s58 s59 s60 s61 s62 s63 s64 s65 s66 s67 s68 s69 s70 s71 s72 s73 s74 s75 s76 s77 s78 s79 s80 s81 s82:Value):Fr:=gf83 (zA t 0) s1 s2 s3 (zA t 4) s5 (zA t 6) s7 (zA t 8) s9 (zA t 10) (zA t 11) (zA t 12) (zA t 13) (zA t 14) (zA t 15) (zA t 16) (zA t 17) (zA t 18) (zA t 19) (zA t 20) (zA t 21) (zA t 22) (zA t 23) (zA t 24) (zA t 25) (zA t 26) (zA t 27) (zA t 28) (zA t 29) (zA t 30) (zA t 31) (zA t 32) (zA t 33) (zA t 34) (zA t 35) (zA t 36) (zA t 37) (zA t 38) (zA t 39) (zA t 40) (zA t 41) s42 s43 s44 s45 s46 s47 s48 s49 s50 s51 s52 s53 s54 s55 s56 s57 s58 s59 s60 s61 s62 s63 s64 s65 s66 s67 s68 s69 s70 s71 s72 s73 s74 s75 s76 s77 s78 s79 s80 s81 s82
noncomputable abbrev hint20:rD:=hq [(0,1000003,[.any,.val,.any,.bool,.any,.any,.any,.any,.any,.any,.any,.any,.any,.any,.any,.any,.any,.any,.any,.any,.any,.any,.any,.any,.any,.any,.any,.any,.any,.any,.any,.any,.any,.any,.any,.any,.any,.any,.any,.any,.any,.any,.val,(.int .i64),(.int .i64)]),(0,1000008,[.any,.any,.any,.bool,.any,.any,.any,.any,.any,.any,.any,.any,.any,.any,.any,.any,.any,.any,.any,.any,.any,.any,.any,.any,.any,.any,.any,.any,.any,.any,.any,.any,.any,.any,.any,.any,.any,.any,.any,.any,.any,.any,.any,.any,.any,.any,.any,.any,.any,.any,.any,.any,.any,.any,.any,.val,(.int .i64),(.int .i64)]),(0,1000012,[.any,.any,.any,.bool,.any,.any,.any,.any,.any,.any,.any,.any,.any,.any,.any,.any,.any,.any,.any,.any,.any,.any,.any,.any,.any,.any,.any,.any,.any,.any,.any,.any,.any,.any,.any,.any,.any,.any,.any,.any,.any,.any,.any,.any,.any,.any,.any,.any,.any,.any,.any,.any,.any,.any,.any,.val,(.int .i64),(.int .i64),.any,.any,.any,.any,.any,.any,.any,.any,.any,.val,(.int .i64),(.int .i64)]),(1,0,[.any,.val,.any,.bool]),(1,1,[.any,.val,.any,.bool,.any,.any,.any,.any,.any,.any,.any,.any,.any,.any,.any,.any,.any,.any,.any,.any,.any,.any,.any,.any,.any,.any,.any,.any,.any,.any,.any,.any,.any,.any,.any,.any,.any,.any,.any,.any,.any,.any,.val,(.int .i64),(.int .i64)]),(1,2,[.any,.any,.any,.bool]),(1,3,[.any,.any,.any,.bool,.any,.any,.any,.any,.any,.any,.any,.any,.any,.any,.any,.any,.any,.any,.any,.any,.any,.any,.any,.any,.any,.any,.any,.any,.any,.any,.any,.any,.any,.any,.any,.any,.any,.any,.any,.any,.any,.any,.any,.any,.any,.any,.any,.any,.any,.any,.any,.any,.any,.any,.any,.val,(.int .i64),(.int .i64)]),(1,4,[.any,.any,.any,.bool,.any,.any,.any,.any,.any,.any,.any,.any,.any,.any,.any,.any,.any,.any,.any,.any,.any,.any,.any,.any,.any,.any,.any,.any,.any,.any,.any,.any,.any,.any,.any,.any,.any,.any,.any,.any,.any,.any,.any,.any,.any,.any,.any,.any,.any,.any,.any,.any,.any,.any,.any,.val,(.int .i64),(.int .i64)]),(1,5,[.any,.any,.any,.bool,.any,.any,.any,.any,.any,.any,.any,.any,.any,.any,.any,.any,.any,.any,.any,.any,.any,.any,.any,.any,.any,.any,.any,.any,.any,.any,.any,.any,.any,.any,.any,.any,.any,.any,.any,.any,.any,.any,.any,.any,.any,.any,.any,.any,.any,.any,.any,.any,.any,.any,.any,.val,(.int .i64),(.int .i64),.any,.any,.any,.any,.any,.any,.any,.any,.any,.val,(.int .i64),(.int .i64)]),(2,0,[.any,.val,.any,.bool,.any,.any,.any,.any,.any,.any,.any,.any,.any,.any,.any,.any,.any,.any,.any,.any,.any,.any,.any,.any,.any,.any,.any,.any,.any,.any,.any,.any,.any,.any,.any,.any,.any,.any,.any,.any,.any,.any,.val,(.int .i64),(.int .i64)]),(2,16,[.any,.any,.any,.bool,.any,.any,.any,.any,.any,.any,.any,.any,.any,.any,.any,.any,.any,.any,.any,.any,.any,.any,.any,.any,.any,.any,.any,.any,.any,.any,.any,.any,.any,.any,.any,.any,.any,.any,.any,.any,.any,.any,.any,.any,.any,.any,.any,.any,.any,.any,.any,.any,.any,.any,.any,.val,(.int .i64),(.int .i64),.any,.any,.any,.any,.any,.any,.any,.any,.any,.val,(.int .i64),(.int .i64)])]
noncomputable def F20:TY1:=fun L lp p0 df u h n k=>
 eBox p0 h n fun h1 n2 v3=>
 opt (zB P 43 0 v3) fun v4=>
 opt (zE P 9 h1 v4) fun v5=>
 uL L 58 [v5] h1 n2 (kp L 20 k (fo20 (.bool false)) [] u) fun a6 h7 n8=>
 grd a6 (fun BQ=>
 opt (zB P 43 3 v3) fun BR=>
 BQ h7 n8 BR) (fun AI AY AZ=>
 grd a6 (fun BS=>
 opt (zE P 9 AI AZ) fun BT=>
 BS AI AY BT) (fun Aa Ab Ac=>
 grd a6 (fun BU=>
 uL L 58 [Ac] Aa Ab (kp L 20 k (fo20 (.bool false)) [] u) fun BY BZ Ba=>
 BU BZ Ba (.bool BY)) (fun Ad Ae Af=>
 rtB (sel a6 Af (.bool false)) fun AD=>
 grd AD (fun Bb=>
 opt (zB P 43 1 v3) fun Bc=>
 Bb Ad Ae Bc) (fun AJ Ag Ah=>
 grd AD (fun Bd=>
 opt (zE P 23 AJ Ah) fun Be=>
 Bd AJ Ag Be) (fun AK Ai Aj=>
 grd AD (fun Bf=>
 opt (zX P .len [23] [Aj] AK) fun Bg=>
 rtI .i64 Bg fun Bh=>
 Bf AK Ai (.int .i64 Bh)) (fun Ak Al Am=>
 grd AD (fun Bi=>
 yB sQ P .leq 3 true Am (.int .i64 500) fun Bj=>
 Bi Ak Al (.bool Bj)) (fun An Ao Ap=>
 rtB (sel AD Ap (.bool false)) fun AE=>
 grd AE (fun Bk=>
 opt (zB P 43 2 v3) fun Bl=>
 Bk An Ao Bl) (fun AL Aq Ar=>
 grd AE (fun Bm=>
 opt (zE P 40 AL Ar) fun Bn=>
 Bm AL Aq Bn) (fun AM As At=>
 grd AE (fun Bo=>
 opt (zX P .len [40] [At] AM) fun Bp=>
 rtI .i64 Bp fun Bq=>
 Bo AM As (.int .i64 Bq)) (fun Au Av Aw=>
 grd AE (fun Br=>
 yB sQ P .leq 3 true Aw (.int .i64 16) fun Bs=>
 Br Au Av (.bool Bs)) (fun Ax Ay Az=>
 rtB (sel AE Az (.bool false)) fun AF=>
 grd AF (fun Bt=>
 opt (zB P 43 4 v3) fun Bu=>
 Bt Ax Ay Bu) (fun AN A0 A1=>
 grd AF (fun Bv=>
 opt (zE P 41 AN A1) fun Bw=>
 Bv AN A0 Bw) (fun AO A2 A3=>
 grd AF (fun Bx=>
 opt (zX P .len [41] [A3] AO) fun By=>
 rtI .i64 By fun Bz=>
 Bx AO A2 (.int .i64 Bz)) (fun A4 A5 A6=>
 grd AF (fun B0=>
 yB sQ P .leq 3 true A6 (.int .i64 200) fun B1=>
 B0 A4 A5 (.bool B1)) (fun A7 A8 A9=>
 rtB (sel AF A9 (.bool false)) fun AH=>
 grd AH (fun B2=>
 opt (zB P 43 2 v3) fun B3=>
 B2 A7 A8 B3) (fun AP BA BB=>
 grd AH (fun B4=>
 opt (zE P 40 AP BB) fun B5=>
 B4 AP BA B5) (fun BC BD BE=>
 grd AH (fun B6=>
 uL L 59 [BE] BC BD (kp L 20 k (fo20 (.bool false)) [] u) fun CA CB CC=>
 B6 CB CC (.bool CA)) (fun AQ CD BF=>
 rtB (sel AH BF (.bool false)) fun BG=>
 opt (zB P 43 1 v3) fun BH=>
 opt (zE P 23 AQ BH) fun BI=>
 opt (zX P .len [23] [BI] AQ) fun CE=>
 rtI .i64 CE fun CF=>
 lp 1000003 ⟨20,none,df⟩ (gf83 p0 v3 (vb false) (vb BG) ud ud ud ud ud ud v4 v5 (vb a6) (vb a6) AZ Ac Af (vb AD) (vb AD) Ah Aj Am Ap (vb AE) (vb AE) Ar At Aw Az (vb AF) (vb AF) A1 A3 A6 A9 (vb AH) (vb AH) BB BE BF (vb BG) BH BI (vi CF) (vi 0) ud ud ud ud ud ud ud ud ud ud ud ud ud ud ud ud ud ud ud ud ud ud ud ud ud ud ud ud ud ud ud ud ud ud ud ud ud ud) (W.mk [] u AQ CD) (pH noK (pI 0 (fun AB CG=>
 zL (zA AB 1) fun BJ=>
 rtB (zA AB 3) fun CH=>
 onW CG fun CI CJ AR CK=>
 opt (zB P 43 4 BJ) fun BK=>
 opt (zE P 41 AR BK) fun BL=>
 opt (zX P .len [41] [BL] AR) fun CL=>
 rtI .i64 CL fun CM=>
 lp 1000008 ⟨20,none,df⟩ (pF AB BJ (zA AB 2) (vb CH) (zA AB 5) (zA AB 7) (zA AB 9) (zA AB 42) (zA AB 43) (zA AB 44) (zA AB 45) (zA AB 46) (zA AB 47) (zA AB 48) (zA AB 49) (zA AB 50) (zA AB 51) (zA AB 52) (zA AB 53) BK BL (vi CM) (vi 0) (zA AB 58) (zA AB 59) (zA AB 60) (zA AB 61) (zA AB 62) (zA AB 63) (zA AB 64) (zA AB 65) (zA AB 66) (zA AB 67) (zA AB 68) (zA AB 69) (zA AB 70) (zA AB 71) (zA AB 72) (zA AB 73) (zA AB 74) (zA AB 75) (zA AB 76) (zA AB 77) (zA AB 78) (zA AB 79) (zA AB 80) (zA AB 81) (zA AB 82)) (W.mk CI CJ AR CK) (pH noK (pI 2 (fun AA CN=>
 rtB (zA AA 3) fun AS=>
 onW CN fun CO CP CQ CR=>
 zJ P L 20 k .ret (pF AA (zA AA 1) (vb AS) (vb AS) (zA AA 5) (zA AA 7) (zA AA 9) (zA AA 42) (zA AA 43) (zA AA 44) (zA AA 45) (zA AA 46) (zA AA 47) (zA AA 48) (zA AA 49) (zA AA 50) (zA AA 51) (zA AA 52) (zA AA 53) (zA AA 54) (zA AA 55) (zA AA 56) (zA AA 57) (zA AA 58) (zA AA 59) (zA AA 60) (zA AA 61) (zA AA 62) (zA AA 63) (zA AA 64) (zA AA 65) (zA AA 66) (zA AA 67) (zA AA 68) (zA AA 69) (zA AA 70) (zA AA 71) (zA AA 72) (zA AA 73) (zA AA 74) (zA AA 75) (zA AA 76) (zA AA 77) (zA AA 78) (zA AA 79) (zA AA 80) (zA AA 81) (vb AS)) (W.mk CO CP CQ CR)) (zJ P L 20 k)))) (zJ P L 20 k)))) BC BD) AP BA) A7 A8) A4 A5) AO A2) AN A0) Ax Ay) Au Av) AM As) AL Aq) An Ao) Ak Al) AK Ai) AJ Ag) Ad Ae) Aa Ab) AI AY) h7 n8
theorem F20_eq:EY1 20 hint20 F20:=fun _ _ _ _ _ _ _ _=>by kernel_rfl
noncomputable def B20_1000003:TYB:=fun L lp rd df t w ka=>
 zL (zA t 1) fun AI=>
 rtB (zA t 3) fun AB=>
 zL (zA t 42) fun AE=>
 rtI .i64 (zA t 43) fun AF=>
 rtI .i64 (zA t 44) fun AC=>
 onW w fun AJ AK AG AL=>
 fb (wB AC AF) fun AH=>
 br AH (
 pM (fun AT=>
 opt (zR P 23 AE (.int .i64 AC)) fun AM=>
 opt (zE P 9 AG AM) fun AD=>
 grd AB (fun AU=>
 AU AG AL AD) (fun AO AP AN=>
 grd AB (fun AV=>
 uL L 58 [AN] AO AP (kb ka (pF t AI (zA t 2) (vb AB) AD (zA t 7) (zA t 9) AE (vi AF) (vi AC) (vb AH) AM AD (vb AB) (vb AB) AN (zA t 51) (zA t 52) (zA t 53) (zA t 54) (zA t 55) (zA t 56) (zA t 57) (zA t 58) (zA t 59) (zA t 60) (zA t 61) (zA t 62) (zA t 63) (zA t 64) (zA t 65) (zA t 66) (zA t 67) (zA t 68) (zA t 69) (zA t 70) (zA t 71) (zA t 72) (zA t 73) (zA t 74) (zA t 75) (zA t 76) (zA t 77) (zA t 78) (zA t 79) (zA t 80) (zA t 81) (zA t 82)) AJ AK) fun AZ Aa Ab=>
 AV Aa Ab (.bool AZ)) (fun Ac Ad AQ=>
 rtB (sel AB AQ (.bool false)) fun AR=>
 AT (pF t AI (zA t 2) (vb AR) AD (zA t 7) (zA t 9) AE (vi AF) (vi AC) (vb AH) AM AD (vb AB) (vb AB) AN AQ (vb AR) (zA t 53) (zA t 54) (zA t 55) (zA t 56) (zA t 57) (zA t 58) (zA t 59) (zA t 60) (zA t 61) (zA t 62) (zA t 63) (zA t 64) (zA t 65) (zA t 66) (zA t 67) (zA t 68) (zA t 69) (zA t 70) (zA t 71) (zA t 72) (zA t 73) (zA t 74) (zA t 75) (zA t 76) (zA t 77) (zA t 78) (zA t 79) (zA t 80) (zA t 81) (zA t 82)) (W.mk AJ AK Ac Ad)) AO AP) AG AL) (fun AA Ae=>
 zL (zA AA 1) fun Af=>
 rtB (zA AA 3) fun Ag=>
 zL (zA AA 42) fun Ah=>
 rtI .i64 (zA AA 43) fun Ai=>
 rtI .i64 (zA AA 44) fun Aj=>
 onW Ae fun Ak Al Am An=>
 fi (wH .i64 (uF Aj 1)) fun AS=>
 lp 1000003 ⟨20,rd,df⟩ (pF AA Af (zA AA 2) (vb Ag) (zA AA 5) (zA AA 7) (zA AA 9) Ah (vi Ai) (vi AS) (zA AA 45) (zA AA 46) (zA AA 47) (zA AA 48) (zA AA 49) (zA AA 50) (zA AA 51) (zA AA 52) (vi AS) (zA AA 54) (zA AA 55) (zA AA 56) (zA AA 57) (zA AA 58) (zA AA 59) (zA AA 60) (zA AA 61) (zA AA 62) (zA AA 63) (zA AA 64) (zA AA 65) (zA AA 66) (zA AA 67) (zA AA 68) (zA AA 69) (zA AA 70) (zA AA 71) (zA AA 72) (zA AA 73) (zA AA 74) (zA AA 75) (zA AA 76) (zA AA 77) (zA AA 78) (zA AA 79) (zA AA 80) (zA AA 81) (zA AA 82)) (W.mk Ak Al Am An) ka)) (
 ka (.exit 0) (pF t AI (zA t 2) (vb AB) (zA t 5) (zA t 7) (zA t 9) AE (vi AF) (vi AC) (vb AH) (zA t 46) (zA t 47) (zA t 48) (zA t 49) (zA t 50) (zA t 51) (zA t 52) (zA t 53) (zA t 54) (zA t 55) (zA t 56) (zA t 57) (zA t 58) (zA t 59) (zA t 60) (zA t 61) (zA t 62) (zA t 63) (zA t 64) (zA t 65) (zA t 66) (zA t 67) (zA t 68) (zA t 69) (zA t 70) (zA t 71) (zA t 72) (zA t 73) (zA t 74) (zA t 75) (zA t 76) (zA t 77) (zA t 78) (zA t 79) (zA t 80) (zA t 81) (zA t 82)) (W.mk AJ AK AG AL))
theorem B20_1000003_eq:EYB 20 1000003 hint20 B20_1000003:=fun _ _ _ _ _ _ _=>by kernel_rfl
noncomputable def B20_1000008:TYB:=fun L lp rd df t w ka=>
 rtB (zA t 3) fun AC=>
 zL (zA t 55) fun AG=>
 rtI .i64 (zA t 56) fun AH=>
 rtI .i64 (zA t 57) fun AE=>
 onW w fun AL AM AF AI=>
 fb (wB AE AH) fun AJ=>
 br AJ (
 pM (fun AN=>
 opt (zR P 41 AG (.int .i64 AE)) fun AO=>
 opt (zE P 51 AF AO) fun AD=>
 grd AC (fun AY=>
 AY AF AI AD) (fun AK AP AQ=>
 grd AC (fun AZ=>
 opt (zX P .len [51] [AQ] AK) fun Aa=>
 rtI .i64 Aa fun Ab=>
 AZ AK AP (.int .i64 Ab)) (fun AR AS AT=>
 grd AC (fun Ac=>
 yB sQ P .leq 3 true AT (.int .i64 400) fun Ad=>
 Ac AR AS (.bool Ad)) (fun AU Ae AV=>
 rtB (sel AC AV (.bool false)) fun AW=>
 opt (zX P .len [51] [AD] AU) fun Af=>
 rtI .i64 Af fun Ag=>
 lp 1000012 ⟨20,rd,df⟩ (pF t (zA t 1) (zA t 2) (vb AW) (zA t 5) AD (zA t 9) (zA t 42) (zA t 43) (zA t 44) (zA t 45) (zA t 46) (zA t 47) (zA t 48) (zA t 49) (zA t 50) (zA t 51) (zA t 52) (zA t 53) (zA t 54) AG (vi AH) (vi AE) (vb AJ) AO AD (vb AC) (vb AC) AQ AT AV (vb AW) AD (vi Ag) (vi 0) (zA t 70) (zA t 71) (zA t 72) (zA t 73) (zA t 74) (zA t 75) (zA t 76) (zA t 77) (zA t 78) (zA t 79) (zA t 80) (zA t 81) (zA t 82)) (W.mk AL AM AU Ae) (pH noK (pI 4 (fun AA Ah=>
 rtB (zA AA 3) fun Ai=>
 zL (zA AA 55) fun Aj=>
 rtI .i64 (zA AA 56) fun Ak=>
 rtI .i64 (zA AA 57) fun Al=>
 onW Ah fun Am An Ao Ap=>
 AN (pF AA (zA AA 1) (zA AA 2) (vb Ai) (zA AA 5) (zA AA 7) (zA AA 9) (zA AA 42) (zA AA 43) (zA AA 44) (zA AA 45) (zA AA 46) (zA AA 47) (zA AA 48) (zA AA 49) (zA AA 50) (zA AA 51) (zA AA 52) (zA AA 53) (zA AA 54) Aj (vi Ak) (vi Al) (zA AA 58) (zA AA 59) (zA AA 60) (zA AA 61) (zA AA 62) (zA AA 63) (zA AA 64) (zA AA 65) (zA AA 66) (zA AA 67) (zA AA 68) (zA AA 69) (zA AA 70) (zA AA 71) (zA AA 72) (zA AA 73) (zA AA 74) (zA AA 75) (zA AA 76) (zA AA 77) (zA AA 78) (zA AA 79) (zA AA 80) (zA AA 81) (zA AA 82)) (W.mk Am An Ao Ap)) (pI 3 AN ka)))) AR AS) AK AP) AF AI) (fun AB Aq=>
 rtB (zA AB 3) fun Ar=>
 zL (zA AB 55) fun As=>
 rtI .i64 (zA AB 56) fun At=>
 rtI .i64 (zA AB 57) fun Au=>
 onW Aq fun Av Aw Ax Ay=>
 fi (wH .i64 (uF Au 1)) fun AX=>
 lp 1000008 ⟨20,rd,df⟩ (pF AB (zA AB 1) (zA AB 2) (vb Ar) (zA AB 5) (zA AB 7) (zA AB 9) (zA AB 42) (zA AB 43) (zA AB 44) (zA AB 45) (zA AB 46) (zA AB 47) (zA AB 48) (zA AB 49) (zA AB 50) (zA AB 51) (zA AB 52) (zA AB 53) (zA AB 54) As (vi At) (vi AX) (zA AB 58) (zA AB 59) (zA AB 60) (zA AB 61) (zA AB 62) (zA AB 63) (zA AB 64) (zA AB 65) (zA AB 66) (zA AB 67) (zA AB 68) (zA AB 69) (zA AB 70) (zA AB 71) (zA AB 72) (zA AB 73) (zA AB 74) (zA AB 75) (zA AB 76) (zA AB 77) (zA AB 78) (zA AB 79) (zA AB 80) (vi AX) (zA AB 82)) (W.mk Av Aw Ax Ay) ka)) (
 ka (.exit 2) (pF t (zA t 1) (zA t 2) (vb AC) (zA t 5) (zA t 7) (zA t 9) (zA t 42) (zA t 43) (zA t 44) (zA t 45) (zA t 46) (zA t 47) (zA t 48) (zA t 49) (zA t 50) (zA t 51) (zA t 52) (zA t 53) (zA t 54) AG (vi AH) (vi AE) (vb AJ) (zA t 59) (zA t 60) (zA t 61) (zA t 62) (zA t 63) (zA t 64) (zA t 65) (zA t 66) (zA t 67) (zA t 68) (zA t 69) (zA t 70) (zA t 71) (zA t 72) (zA t 73) (zA t 74) (zA t 75) (zA t 76) (zA t 77) (zA t 78) (zA t 79) (zA t 80) (zA t 81) (zA t 82)) (W.mk AL AM AF AI))
theorem B20_1000008_eq:EYB 20 1000008 hint20 B20_1000008:=fun _ _ _ _ _ _ _=>by kernel_rfl
noncomputable def B20_1000012:TYB:=fun L lp rd df t w ka=>
 rtB (zA t 3) fun AB=>
 zL (zA t 55) fun AI=>
 rtI .i64 (zA t 56) fun AJ=>
 rtI .i64 (zA t 57) fun AK=>
 zL (zA t 67) fun AE=>
 rtI .i64 (zA t 68) fun AF=>
 rtI .i64 (zA t 69) fun AD=>
 onW w fun AL AM AQ AU=>
 fb (wB AD AF) fun AG=>
 br AG (
 pM (fun Ab=>
 opt (zR P 51 AE (.int .i64 AD)) fun AN=>
 opt (zE P 50 AQ AN) fun AO=>
 tZ P 50 AQ AU fun Ac Ad AH=>
 zW P 50 AH AO Ac Ad fun AR AV A0=>
 grd AB (fun Ae=>
 opt (zE P 50 AR AH) fun Af=>
 Ae AR AV Af) (fun AW AX AP=>
 grd AB (fun Ag=>
 uL L 60 [AP] AW AX (kb ka (pF t (zA t 1) (zA t 2) (vb AB) (zA t 5) (zA t 7) AH (zA t 42) (zA t 43) (zA t 44) (zA t 45) (zA t 46) (zA t 47) (zA t 48) (zA t 49) (zA t 50) (zA t 51) (zA t 52) (zA t 53) (zA t 54) AI (vi AJ) (vi AK) (zA t 58) (zA t 59) (zA t 60) (zA t 61) (zA t 62) (zA t 63) (zA t 64) (zA t 65) (zA t 66) AE (vi AF) (vi AD) (vb AG) AN AO (vb AB) (vb AB) AP (zA t 76) (zA t 77) (zA t 78) (zA t 79) (zA t 80) (zA t 81) (zA t 82)) AL AM) fun Ak Al Am=>
 Ag Al Am (.bool Ak)) (fun AY AZ AS=>
 rtB (sel AB AS (.bool false)) fun AC=>
 opt (aUn .not (.bool AC)) fun An=>
 rtB An fun AT=>
 br AT (
 ka .ret (pF t (zA t 1) (vb false) (vb AC) (zA t 5) (zA t 7) AH (zA t 42) (zA t 43) (zA t 44) (zA t 45) (zA t 46) (zA t 47) (zA t 48) (zA t 49) (zA t 50) (zA t 51) (zA t 52) (zA t 53) (zA t 54) AI (vi AJ) (vi AK) (zA t 58) (zA t 59) (zA t 60) (zA t 61) (zA t 62) (zA t 63) (zA t 64) (zA t 65) (zA t 66) AE (vi AF) (vi AD) (vb AG) AN AO (vb AB) (vb AB) AP AS (vb AC) (vb AC) (vb AT) (zA t 80) (zA t 81) (zA t 82)) (W.mk AL AM AY AZ)) (
 Ab (pF t (zA t 1) (zA t 2) (vb AC) (zA t 5) (zA t 7) AH (zA t 42) (zA t 43) (zA t 44) (zA t 45) (zA t 46) (zA t 47) (zA t 48) (zA t 49) (zA t 50) (zA t 51) (zA t 52) (zA t 53) (zA t 54) AI (vi AJ) (vi AK) (zA t 58) (zA t 59) (zA t 60) (zA t 61) (zA t 62) (zA t 63) (zA t 64) (zA t 65) (zA t 66) AE (vi AF) (vi AD) (vb AG) AN AO (vb AB) (vb AB) AP AS (vb AC) (vb AC) (vb AT) (zA t 80) (zA t 81) (zA t 82)) (W.mk AL AM AY AZ))) AW AX) AR AV) (fun AA Ao=>
 rtB (zA AA 3) fun Ap=>
 zL (zA AA 55) fun Aq=>
 rtI .i64 (zA AA 56) fun Ar=>
 rtI .i64 (zA AA 57) fun As=>
 zL (zA AA 67) fun At=>
 rtI .i64 (zA AA 68) fun Au=>
 rtI .i64 (zA AA 69) fun Av=>
 onW Ao fun Aw Ax Ay Az=>
 fi (wH .i64 (uF Av 1)) fun Aa=>
 lp 1000012 ⟨20,rd,df⟩ (pF AA (zA AA 1) (zA AA 2) (vb Ap) (zA AA 5) (zA AA 7) (zA AA 9) (zA AA 42) (zA AA 43) (zA AA 44) (zA AA 45) (zA AA 46) (zA AA 47) (zA AA 48) (zA AA 49) (zA AA 50) (zA AA 51) (zA AA 52) (zA AA 53) (zA AA 54) Aq (vi Ar) (vi As) (zA AA 58) (zA AA 59) (zA AA 60) (zA AA 61) (zA AA 62) (zA AA 63) (zA AA 64) (zA AA 65) (zA AA 66) At (vi Au) (vi Aa) (zA AA 70) (zA AA 71) (zA AA 72) (zA AA 73) (zA AA 74) (zA AA 75) (zA AA 76) (zA AA 77) (zA AA 78) (zA AA 79) (vi Aa) (zA AA 81) (zA AA 82)) (W.mk Aw Ax Ay Az) ka)) (
 ka (.exit 4) (pF t (zA t 1) (zA t 2) (vb AB) (zA t 5) (zA t 7) (zA t 9) (zA t 42) (zA t 43) (zA t 44) (zA t 45) (zA t 46) (zA t 47) (zA t 48) (zA t 49) (zA t 50) (zA t 51) (zA t 52) (zA t 53) (zA t 54) AI (vi AJ) (vi AK) (zA t 58) (zA t 59) (zA t 60) (zA t 61) (zA t 62) (zA t 63) (zA t 64) (zA t 65) (zA t 66) AE (vi AF) (vi AD) (vb AG) (zA t 71) (zA t 72) (zA t 73) (zA t 74) (zA t 75) (zA t 76) (zA t 77) (zA t 78) (zA t 79) (zA t 80) (zA t 81) (zA t 82)) (W.mk AL AM AQ AU))
theorem B20_1000012_eq:EYB 20 1000012 hint20 B20_1000012:=fun _ _ _ _ _ _ _=>by kernel_rfl
theorem l20:yU P 20=true:=by kernel_rfl
theorem r20:xW P 20=some [.tmp 2]:=by kernel_rfl
theorem lp20_1000003:vC (yZ P 20 1000003)=true:=by kernel_rfl
theorem lp20_1000008:vC (yZ P 20 1000008)=true:=by kernel_rfl
theorem lp20_1000012:vC (yZ P 20 1000012)=true:=by kernel_rfl
noncomputable abbrev fo56(s2:Value):Fr:=gf102 ud ud s2 ud ud ud ud ud ud ud ud ud ud ud ud ud ud ud ud ud ud ud ud ud ud ud ud ud ud ud ud ud ud ud ud ud ud ud ud ud ud ud ud ud ud ud ud ud ud ud ud ud ud ud ud ud ud ud ud ud ud ud ud ud ud ud ud ud ud ud ud ud ud ud ud ud ud ud ud ud ud ud ud ud ud ud ud ud ud ud ud ud ud ud ud ud ud ud ud ud ud ud
noncomputable abbrev fj56_0(t:Fr)(s1 s2 s3 s4 s66 s67 s68 s69 s70 s71 s72 s73 s74 s97 s98 s99 s100 s101:Value):Fr:=gf102 (zA t 0) s1 s2 s3 s4 (zA t 5) (zA t 6) (zA t 7) (zA t 8) (zA t 9) (zA t 10) (zA t 11) (zA t 12) (zA t 13) (zA t 14) (zA t 15) (zA t 16) (zA t 17) (zA t 18) (zA t 19) (zA t 20) (zA t 21) (zA t 22) (zA t 23) (zA t 24) (zA t 25) (zA t 26) (zA t 27) (zA t 28) (zA t 29) (zA t 30) (zA t 31) (zA t 32) (zA t 33) (zA t 34) (zA t 35) (zA t 36) (zA t 37) (zA t 38) (zA t 39) (zA t 40) (zA t 41) (zA t 42) (zA t 43) (zA t 44) (zA t 45) (zA t 46) (zA t 47) (zA t 48) (zA t 49) (zA t 50) (zA t 51) (zA t 52) (zA t 53) (zA t 54) (zA t 55) (zA t 56) (zA t 57) (zA t 58) (zA t 59) (zA t 60) (zA t 61) (zA t 62) (zA t 63) (zA t 64) (zA t 65) s66 s67 s68 s69 s70 s71 s72 s73 s74 (zA t 75) (zA t 76) (zA t 77) (zA t 78) (zA t 79) (zA t 80) (zA t 81) (zA t 82) (zA t 83) (zA t 84) (zA t 85) (zA t 86) (zA t 87) (zA t 88) (zA t 89) (zA t 90) (zA t 91) (zA t 92) (zA t 93) (zA t 94) (zA t 95) (zA t 96) s97 s98 s99 s100 s101
noncomputable abbrev fj56_1(t:Fr)(s1 s3:Value):Fr:=fj56_0 t s1 (zA t 2) s3 (zA t 4) (zA t 66) (zA t 67) (zA t 68) (zA t 69) (zA t 70) (zA t 71) (zA t 72) (zA t 73) (zA t 74) (zA t 97) (zA t 98) (zA t 99) (zA t 100) (zA t 101)
noncomputable abbrev hint56:rD:=hq [(1,0,[.any,.val,.any,.val]),(2,5,[.any,.val,.any,.val]),(2,7,[.any,.val,.any,.val]),(2,9,[.any,.val,.any,.val]),(2,11,[.any,.val,.any,.val]),(2,13,[.any,.val,.any,.val]),(2,15,[.any,.val,.any,.val]),(2,16,[.any,.val,.any,.any,.val]),(2,19,[.any,.val,.any,.val]),(2,21,[.any,.val,.any,.val])]
noncomputable def F56:TY1:=fun L lp p0 df u h n k=>
 eBox p0 h n fun h1 n2 v3=>
 opt (zB P 50 1 v3) fun v4=>
 opt (zE P 3 h1 v4) fun v5=>
 rtI .i64 v5 fun a6=>
 vR L (.func (.func 81) #[] #[]) [(.int .i64 a6)] h1 n2 (kp L 56 k (fo56 (.slice none 0 0)) [] u) fun a7 h8 n9=>
 zS P 23 2 [(0,a7),(1,(.string (ByteArray.mk #[61])))] h8 n9 fun AB AD AG=>
 opt (zB P 50 0 v3) fun Af=>
 opt (zE P 3 AB Af) fun Bi=>
 rtI .i64 Bi fun AF=>
 pM (fun Bj=>
 fb (xN AF 1) fun AJ=>
 brJ AJ (fun EJ=>
 opt (zB P 50 4 v3) fun Bk=>
 opt (zE P 3 AB Bk) fun Bl=>
 rtI .i64 Bl fun Bm=>
 vR L (.func (.func 81) #[] #[]) [(.int .i64 Bm)] AB AD (kp L 56 k (fo56 (.slice none 0 0)) [] u) fun Bq Br Bs=>
 zS P 23 2 [(0,(.string (ByteArray.mk #[99,111,110,115,116]))),(1,Bq)] Br Bs fun Bt Bu Bv=>
 wD P [23,23] [AG,Bv] Bt Bu fun Bw Bx By=>
 zJ P L 56 k .ret (fo56 By) (W.mk [] u Bw Bx)) (fun Bz=>
 fb (xN AF 2) fun AK=>
 brJ AK (fun EK=>
 opt (zB P 50 2 v3) fun B0=>
 opt (zE P 3 AB B0) fun B1=>
 rtI .i64 B1 fun B2=>
 vR L (.func (.func 81) #[] #[]) [(.int .i64 B2)] AB AD (kp L 56 k (fo56 (.slice none 0 0)) [] u) fun B6 B7 B8=>
 zS P 23 2 [(0,(.string (ByteArray.mk #[99,111,112,121]))),(1,B6)] B7 B8 fun B9 CA CB=>
 wD P [23,23] [AG,CB] B9 CA fun CC CD CE=>
 zJ P L 56 k .ret (fo56 CE) (W.mk [] u CC CD)) (fun CF=>
 fb (xN AF 3) fun AL=>
 brJ AL (fun EL=>
 opt (zB P 50 5 v3) fun CG=>
 opt (zE P 9 AB CG) fun CH=>
 zS P 23 1 [(0,CH)] AB AD fun CI BM CJ=>
 wD P [23,23] [AG,CJ] CI BM fun Ag AQ CK=>
 gt (Nat.ble BM AQ) (
 opt (zB P 50 6 v3) fun AR=>
 opt (zE P 40 Ag AR) fun Ap=>
 yO L 55 [Ap] Ag AQ (fun CL CM CN=>
 gt (lks [(W.mk [] u Ag AQ),(W.mk [] u AB AD)] [⟨true,(lkQ (fun Aq=>zE P 40 Aq AR) AR Ap),0,1⟩]) (
 zJ P L 56 k (.panic CL) (fo56 (.slice none 0 0)) (W.mk [] u CM CN))) fun CO BN Ah=>
 gt (Nat.ble AQ Ah) (
 wD P [23,23] [CK,CO] BN Ah fun BO Ar CP=>
 gt (Nat.ble Ah Ar) (
 gt (lks [(W.mk [] u BO Ar),(W.mk [] u BN Ah),(W.mk [] u Ag AQ),(W.mk [] u AB AD)] [⟨true,(lkQ (fun Aq=>zE P 40 Aq AR) AR Ap),0,1⟩]) (
 zJ P L 56 k .ret (fo56 CP) (W.mk [] u BO Ar)))))) (fun CQ=>
 fb (xN AF 4) fun AM=>
 brJ AM (fun EM=>
 opt (zB P 50 2 v3) fun CR=>
 opt (zE P 3 AB CR) fun CS=>
 rtI .i64 CS fun CT=>
 vR L (.func (.func 81) #[] #[]) [(.int .i64 CT)] AB AD (kp L 56 k (fo56 (.slice none 0 0)) [] u) fun CX CY CZ=>
 zS P 23 2 [(0,(.string (ByteArray.mk #[108,111,97,100]))),(1,CX)] CY CZ fun Ca Cb Cc=>
 wD P [23,23] [AG,Cc] Ca Cb fun Cd Ce Cf=>
 zJ P L 56 k .ret (fo56 Cf) (W.mk [] u Cd Ce)) (fun Cg=>
 fb (xN AF 5) fun AN=>
 brJ AN (fun EN=>
 opt (zB P 50 2 v3) fun Ch=>
 opt (zE P 3 AB Ch) fun Ci=>
 rtI .i64 Ci fun Cj=>
 vR L (.func (.func 81) #[] #[]) [(.int .i64 Cj)] AB AD (fun EO EP EQ=>
 false) fun Ck Ai AS=>
 gt (Nat.ble AD AS) (
 opt (zB P 50 3 v3) fun AT=>
 opt (zE P 3 Ai AT) fun Cl=>
 rtI .i64 Cl fun As=>
 vR L (.func (.func 81) #[] #[]) [(.int .i64 As)] Ai AS (fun Cm Cn Co=>
 gt (lks [(W.mk [] u Ai AS),(W.mk [] u AB AD)] [⟨true,(lkQ (fun At=>zE P 3 At AT) AT (.int .i64 As)),0,1⟩]) (
 zJ P L 56 k (.panic Cm) (fo56 (.slice none 0 0)) (W.mk [] u Cn Co))) fun Cp BP Au=>
 gt (Nat.ble AS Au) (
 zS P 23 3 [(0,(.string (ByteArray.mk #[115,116,111,114,101]))),(1,Ck),(2,Cp)] BP Au fun Cq Cr Cs=>
 gt (lks [(W.mk [] u BP Au),(W.mk [] u Ai AS),(W.mk [] u AB AD)] [⟨true,(lkQ (fun At=>zE P 3 At AT) AT (.int .i64 As)),0,1⟩]) (
 zJ P L 56 k .ret (fo56 Cs) (W.mk [] u Cq Cr))))) (fun Ct=>
 fb (xN AF 6) fun AO=>
 brJ AO (fun ER=>
 opt (zB P 50 1 v3) fun Av=>
 opt (zE P 3 AB Av) fun Cu=>
 rtI .i64 Cu fun Aw=>
 fb (xN Aw (-1)) fun Ax=>
 brJ Ax (fun Cv=>
 Cv (gf102 p0 v3 (.slice none 0 0) (.func (.func 81) #[] #[]) (.slice none 0 0) (.func (.func 81) #[] #[]) v4 (vi a6) a7 AG Af (vi AF) (vb AJ) (vb AJ) ud ud ud ud ud ud ud (vb AK) (vb AK) ud ud ud ud ud ud ud (vb AL) (vb AL) ud ud ud ud ud ud ud ud ud (vb AM) (vb AM) ud ud ud ud ud ud ud (vb AN) (vb AN) ud ud ud ud ud ud ud ud ud (vb AO) (vb AO) Av (vi Aw) (vb Ax) ud ud ud ud ud ud ud ud ud ud ud ud ud ud ud ud ud ud ud ud ud ud ud ud ud ud ud ud ud ud ud ud ud ud ud ud) (W.mk [] u AB AD)) (fun Cw=>
 Cw (gf102 p0 v3 (.slice none 0 0) (.func (.func 81) #[] #[]) AG (.func (.func 81) #[] #[]) v4 (vi a6) a7 AG Af (vi AF) (vb AJ) (vb AJ) ud ud ud ud ud ud ud (vb AK) (vb AK) ud ud ud ud ud ud ud (vb AL) (vb AL) ud ud ud ud ud ud ud ud ud (vb AM) (vb AM) ud ud ud ud ud ud ud (vb AN) (vb AN) ud ud ud ud ud ud ud ud ud (vb AO) (vb AO) Av (vi Aw) (vb Ax) ud ud ud ud ud ud ud ud ud ud ud ud ud ud ud ud ud ud ud ud ud ud ud ud ud ud ud ud ud ud ud ud ud ud ud ud) (W.mk [] u AB AD)) (fun AC Cx=>
 zL (zA AC 1) fun Aj=>
 zL (zA AC 4) fun AU=>
 onW Cx fun AH AI Ak Ay=>
 opt (zB P 50 5 Aj) fun Az=>
 opt (zE P 9 Ak Az) fun A0=>
 zS P 23 2 [(0,(.string (ByteArray.mk #[99,97,108,108]))),(1,A0)] Ak Ay fun Cy BQ A1=>
 wD P [23,23] [AU,A1] Cy BQ fun Al AV A2=>
 gt (Nat.ble BQ AV) (
 opt (zB P 50 6 Aj) fun AP=>
 opt (zE P 40 Al AP) fun AW=>
 yO L 55 [AW] Al AV (fun Cz C0 C1=>
 gt (lks [(W.mk AH AI Al AV),(W.mk AH AI Ak Ay)] [⟨true,(lkQ (fun A3=>zE P 40 A3 AP) AP AW),0,1⟩]) (
 zJ P L 56 k (.panic Cz) (fj56_0 AC Aj (zA AC 2) (zA AC 3) AU AU Az A0 A1 A2 AP AW (zA AC 73) (zA AC 74) (zA AC 97) (zA AC 98) (zA AC 99) (zA AC 100) (zA AC 101)) (W.mk AH AI C0 C1))) fun BR BS Am=>
 gt (Nat.ble AV Am) (
 wD P [23,23] [A2,BR] BS Am fun BT A4 BU=>
 gt (Nat.ble Am A4) (
 gt (lks [(W.mk AH AI BT A4),(W.mk AH AI BS Am),(W.mk AH AI Al AV),(W.mk AH AI Ak Ay)] [⟨true,(lkQ (fun A3=>zE P 40 A3 AP) AP AW),0,1⟩]) (
 zJ P L 56 k .ret (fj56_0 AC Aj BU (zA AC 3) AU AU Az A0 A1 A2 AP AW BR BU (zA AC 97) (zA AC 98) (zA AC 99) (zA AC 100) (zA AC 101)) (W.mk AH AI BT A4))))))) (fun C2=>
 fb (xN AF 7) fun A5=>
 br A5 (
 opt (zB P 50 2 v3) fun C3=>
 opt (zE P 3 AB C3) fun C4=>
 rtI .i64 C4 fun C5=>
 vR L (.func (.func 81) #[] #[]) [(.int .i64 C5)] AB AD (fun ES ET EU=>
 false) fun C6 An AX=>
 gt (Nat.ble AD AX) (
 opt (zB P 50 7 v3) fun AY=>
 opt (zE P 3 An AY) fun C7=>
 rtI .i64 C7 fun A6=>
 vR L (.func (.func 81) #[] #[]) [(.int .i64 A6)] An AX (fun EV EW EX=>
 false) fun C8 Ao AZ=>
 gt (Nat.ble AX AZ) (
 opt (zB P 50 8 v3) fun Aa=>
 opt (zE P 3 Ao Aa) fun C9=>
 rtI .i64 C9 fun A7=>
 vR L (.func (.func 81) #[] #[]) [(.int .i64 A7)] Ao AZ (fun DA DB DC=>
 gt (lks [(W.mk [] u Ao AZ),(W.mk [] u An AX),(W.mk [] u AB AD)] [⟨true,(lkQ (fun A8=>zE P 3 A8 Aa) Aa (.int .i64 A7)),0,2⟩,⟨true,(lkQ (fun A9=>zE P 3 A9 AY) AY (.int .i64 A6)),0,1⟩]) (
 zJ P L 56 k (.panic DA) (fo56 (.slice none 0 0)) (W.mk [] u DB DC))) fun DD BV BA=>
 gt (Nat.ble AZ BA) (
 zS P 23 4 [(0,(.string (ByteArray.mk #[98,114]))),(1,C6),(2,C8),(3,DD)] BV BA fun DE DF DG=>
 gt (lks [(W.mk [] u BV BA),(W.mk [] u Ao AZ),(W.mk [] u An AX),(W.mk [] u AB AD)] [⟨true,(lkQ (fun A8=>zE P 3 A8 Aa) Aa (.int .i64 A7)),0,2⟩,⟨true,(lkQ (fun A9=>zE P 3 A9 AY) AY (.int .i64 A6)),0,1⟩]) (
 zJ P L 56 k .ret (fo56 DG) (W.mk [] u DE DF)))))) (
 fb (xN AF 8) fun BB=>
 br BB (
 opt (zB P 50 7 v3) fun DH=>
 opt (zE P 3 AB DH) fun DI=>
 rtI .i64 DI fun DJ=>
 vR L (.func (.func 81) #[] #[]) [(.int .i64 DJ)] AB AD (kp L 56 k (fo56 (.slice none 0 0)) [] u) fun DN DO DP=>
 zS P 23 2 [(0,(.string (ByteArray.mk #[106,117,109,112]))),(1,DN)] DO DP fun DQ DR DS=>
 zJ P L 56 k .ret (fo56 DS) (W.mk [] u DQ DR)) (
 C2 (gf102 p0 v3 (.slice none 0 0) (.func (.func 81) #[] #[]) AG (.func (.func 81) #[] #[]) v4 (vi a6) a7 AG Af (vi AF) (vb AJ) (vb AJ) ud ud ud ud ud ud ud (vb AK) (vb AK) ud ud ud ud ud ud ud (vb AL) (vb AL) ud ud ud ud ud ud ud ud ud (vb AM) (vb AM) ud ud ud ud ud ud ud (vb AN) (vb AN) ud ud ud ud ud ud ud ud ud (vb AO) (vb AO) ud ud ud ud ud ud ud ud ud ud ud ud (vb A5) (vb A5) ud ud ud ud ud ud ud ud ud ud ud ud ud (vb BB) (vb BB) ud ud ud ud ud ud ud ud ud ud) (W.mk [] u AB AD)))) (fun BC DT=>
 zL (zA BC 1) fun DU=>
 zL (zA BC 3) fun DV=>
 onW DT fun DW DX DY DZ=>
 Ct (fj56_1 BC DU DV) (W.mk DW DX DY DZ))) (fun BD Da=>
 zL (zA BD 1) fun Db=>
 zL (zA BD 3) fun Dc=>
 onW Da fun Dd De Df Dg=>
 Cg (fj56_1 BD Db Dc) (W.mk Dd De Df Dg))) (fun BE Dh=>
 zL (zA BE 1) fun Di=>
 zL (zA BE 3) fun Dj=>
 onW Dh fun Dk Dl Dm Dn=>
 CQ (fj56_1 BE Di Dj) (W.mk Dk Dl Dm Dn))) (fun BF Do=>
 zL (zA BF 1) fun Dp=>
 zL (zA BF 3) fun Dq=>
 onW Do fun Dr Ds Dt Du=>
 CF (fj56_1 BF Dp Dq) (W.mk Dr Ds Dt Du))) (fun BG Dv=>
 zL (zA BG 1) fun Dw=>
 zL (zA BG 3) fun Dx=>
 onW Dv fun Dy Dz D0 D1=>
 Bz (fj56_1 BG Dw Dx) (W.mk Dy Dz D0 D1))) (fun BH D2=>
 zL (zA BH 1) fun D3=>
 zL (zA BH 3) fun D4=>
 onW D2 fun D5 D6 D7 D8=>
 Bj (fj56_1 BH D3 D4) (W.mk D5 D6 D7 D8))) (fun AA D9=>
 zL (zA AA 1) fun BI=>
 zL (zA AA 3) fun Ab=>
 onW D9 fun BW BX BY EA=>
 opt (zB P 50 2 BI) fun BJ=>
 opt (zE P 3 BY BJ) fun EB=>
 rtI .i64 EB fun BK=>
 vR L Ab [(.int .i64 BK)] BY EA (kp L 56 k (fj56_0 AA BI (zA AA 2) Ab (zA AA 4) (zA AA 66) (zA AA 67) (zA AA 68) (zA AA 69) (zA AA 70) (zA AA 71) (zA AA 72) (zA AA 73) (zA AA 74) Ab BJ (vi BK) (zA AA 100) (zA AA 101)) BW BX) fun BZ EF EG=>
 zS P 23 2 [(0,(.string (ByteArray.mk #[114,101,116]))),(1,BZ)] EF EG fun EH EI Ba=>
 zJ P L 56 k .ret (fj56_0 AA BI Ba Ab (zA AA 4) (zA AA 66) (zA AA 67) (zA AA 68) (zA AA 69) (zA AA 70) (zA AA 71) (zA AA 72) (zA AA 73) (zA AA 74) Ab BJ (vi BK) BZ Ba) (W.mk BW BX EH EI))
theorem F56_eq:EY1 56 hint56 F56:=fun _ _ _ _ _ _ _ _=>by kernel_rfl
theorem l56:yU P 56=true:=by kernel_rfl
theorem r56:xW P 56=some [.tmp 2]:=by kernel_rfl
noncomputable abbrev fo19(s2:Value):Fr:=gf62 ud ud s2 ud ud ud ud ud ud ud ud ud ud ud ud ud ud ud ud ud ud ud ud ud ud ud ud ud ud ud ud ud ud ud ud ud ud ud ud ud ud ud ud ud ud ud ud ud ud ud ud ud ud ud ud ud ud ud ud ud ud ud
noncomputable abbrev fj19_0(t:Fr)(s3 s4 s6 s8 s37 s38 s39 s40 s41 s42 s43 s44 s45 s46 s47 s48 s49 s50 s51 s52 s53 s54 s55 s56:Value):Fr:=gf62 (zA t 0) (zA t 1) (zA t 2) s3 s4 (zA t 5) s6 (zA t 7) s8 (zA t 9) (zA t 10) (zA t 11) (zA t 12) (zA t 13) (zA t 14) (zA t 15) (zA t 16) (zA t 17) (zA t 18) (zA t 19) (zA t 20) (zA t 21) (zA t 22) (zA t 23) (zA t 24) (zA t 25) (zA t 26) (zA t 27) (zA t 28) (zA t 29) (zA t 30) (zA t 31) (zA t 32) (zA t 33) (zA t 34) (zA t 35) (zA t 36) s37 s38 s39 s40 s41 s42 s43 s44 s45 s46 s47 s48 s49 s50 s51 s52 s53 s54 s55 s56 (zA t 57) (zA t 58) (zA t 59) (zA t 60) (zA t 61)
noncomputable abbrev fj19_1(t:Fr)(s2 s3 s4 s37 s38 s39 s40 s57 s58 s59 s60 s61:Value):Fr:=gf62 (zA t 0) (zA t 1) s2 s3 s4 (zA t 5) (zA t 6) (zA t 7) (zA t 8) (zA t 9) (zA t 10) (zA t 11) (zA t 12) (zA t 13) (zA t 14) (zA t 15) (zA t 16) (zA t 17) (zA t 18) (zA t 19) (zA t 20) (zA t 21) (zA t 22) (zA t 23) (zA t 24) (zA t 25) (zA t 26) (zA t 27) (zA t 28) (zA t 29) (zA t 30) (zA t 31) (zA t 32) (zA t 33) (zA t 34) (zA t 35) (zA t 36) s37 s38 s39 s40 (zA t 41) (zA t 42) (zA t 43) (zA t 44) (zA t 45) (zA t 46) (zA t 47) (zA t 48) (zA t 49) (zA t 50) (zA t 51) (zA t 52) (zA t 53) (zA t 54) (zA t 55) (zA t 56) s57 s58 s59 s60 s61
noncomputable abbrev hint19:rD:=hq [(0,1000010,[.any,.any,.any,.val,.val,.any,.any,.any,.any,.any,.any,.any,.any,.any,.any,.any,.any,.any,.any,.any,.any,.any,.any,.any,.any,.any,.any,.any,.any,.any,.any,.any,.any,.any,.any,.any,.any,.val,(.int .i64),(.int .i64)]),(0,1000014,[.any,.any,.any,.val,.val,.any,.any,.any,.any,.any,.any,.any,.any,.any,.any,.any,.any,.any,.any,.any,.any,.any,.any,.any,.any,.any,.any,.any,.any,.any,.any,.any,.any,.any,.any,.any,.any,.val,(.int .i64),(.int .i64),.any,.any,.any,.any,.any,.any,.val,(.int .i64),(.int .i64)]),(1,0,[.any,.any,.any,.val,.val]),(1,1,[.any,.any,.any,.val,.val,.any,.any,.any,.any,.any,.any,.any,.any,.any,.any,.any,.any,.any,.any,.any,.any,.any,.any,.any,.any,.any,.any,.any,.any,.any,.any,.any,.any,.any,.any,.any,.any,.val,(.int .i64),(.int .i64)]),(1,2,[.any,.any,.any,.val,.val,.any,.any,.any,.any,.any,.any,.any,.any,.any,.any,.any,.any,.any,.any,.any,.any,.any,.any,.any,.any,.any,.any,.any,.any,.any,.any,.any,.any,.any,.any,.any,.any,.val,(.int .i64),(.int .i64)]),(1,3,[.any,.any,.any,.val,.val,.any,.any,.any,.any,.any,.any,.any,.any,.any,.any,.any,.any,.any,.any,.any,.any,.any,.any,.any,.any,.any,.any,.any,.any,.any,.any,.any,.any,.any,.any,.any,.any,.val,(.int .i64),(.int .i64),.any,.any,.any,.any,.any,.any,.val,(.int .i64),(.int .i64)]),(2,0,[.any,.any,.any,.val,.val,.any,.any,.any,.any,.any,.any,.any,.any,.any,.any,.any,.any,.any,.any,.any,.any,.any,.any,.any,.any,.any,.any,.any,.any,.any,.any,.any,.any,.any,.any,.any,.any,.val,(.int .i64),(.int .i64)]),(2,2,[.any,.val])]
noncomputable def F19:TY1:=fun L lp p0 df u h n k=>
 eBox p0 h n fun h1 n2 v3=>
 opt (zE P 43 h1 v3) fun v4=>
 uL L 20 [v4] h1 n2 (fun c8 h9 Aq=>
 zJ P L 19 k (.panic c8) (fo19 (.string (ByteArray.mk #[]))) (W.mk [] u h9 Aq)) fun a5 h6 n7=>
 opt (aUn .not (.bool a5)) fun Ar=>
 rtB Ar fun AO=>
 br AO (
 zJ P L 19 k .ret (fo19 (.string (ByteArray.mk #[]))) (W.mk [] u h6 n7)) (
 tZ P 97 h6 n7 fun AP As AQ=>
 letV (.func (.func 52) (Array.mk []) (Array.mk [AQ])) fun AB=>
 opt (zB P 43 0 v3) fun AR=>
 opt (zE P 9 AP AR) fun AS=>
 zS P 23 2 [(0,(.string (ByteArray.mk #[102,117,110,99]))),(1,AS)] AP As fun At Au AT=>
 vR L AB [(.string (ByteArray.mk #[])),AT] At Au (fun Av Aw Ax=>
 zJ P L 19 k (.panic Av) (fo19 (.string (ByteArray.mk #[]))) (W.mk [] u Aw Ax)) fun Ay Az A0=>
 zS P 23 1 [(0,(.string (ByteArray.mk #[114,101,103,115])))] Az A0 fun AU A1 AV=>
 opt (zB P 43 1 v3) fun AW=>
 opt (zE P 23 AU AW) fun AX=>
 wD P [23,23] [AV,AX] AU A1 fun A2 A3 AY=>
 vR L AB [(.string (ByteArray.mk #[])),AY] A2 A3 (fun A4 A5 A6=>
 zJ P L 19 k (.panic A4) (fo19 (.string (ByteArray.mk #[]))) (W.mk [] u A5 A6)) fun A7 A8 A9=>
 zS P 23 1 [(0,(.string (ByteArray.mk #[112,97,114,97,109,115])))] A8 A9 fun AZ BA Aa=>
 opt (zB P 43 2 v3) fun Ab=>
 opt (zE P 40 AZ Ab) fun Ac=>
 yO L 55 [Ac] AZ BA (fun BB BC BD=>
 zJ P L 19 k (.panic BB) (fo19 (.string (ByteArray.mk #[]))) (W.mk [] u BC BD)) fun Ad BE BF=>
 wD P [23,23] [Aa,Ad] BE BF fun BG BH Ae=>
 vR L AB [(.string (ByteArray.mk #[])),Ae] BG BH (fun BI BJ BK=>
 zJ P L 19 k (.panic BI) (fo19 (.string (ByteArray.mk #[]))) (W.mk [] u BJ BK)) fun BL Af BM=>
 opt (zB P 43 3 v3) fun Ag=>
 opt (zE P 9 Af Ag) fun Ah=>
 zS P 23 2 [(0,(.string (ByteArray.mk #[114,101,115,117,108,116]))),(1,Ah)] Af BM fun BN BO Ai=>
 vR L AB [(.string (ByteArray.mk #[])),Ai] BN BO (fun BP BQ BR=>
 zJ P L 19 k (.panic BP) (fo19 (.string (ByteArray.mk #[]))) (W.mk [] u BQ BR)) fun BS AG BT=>
 opt (zB P 43 4 v3) fun Aj=>
 opt (zE P 41 AG Aj) fun Ak=>
 opt (zX P .len [41] [Ak] AG) fun BU=>
 rtI .i64 BU fun BV=>
 lp 1000010 ⟨19,none,df⟩ (gf62 p0 v3 (.string (ByteArray.mk #[])) AQ AB ud ud ud ud v4 (vb a5) (vb AO) AB AB AR AS AT Ay AB AV AW AX AY A7 AB Aa Ab Ac Ad Ae BL AB Ag Ah Ai BS Aj Ak (vi BV) (vi 0) ud ud ud ud ud ud ud ud ud ud ud ud ud ud ud ud ud ud ud ud ud ud) (W.mk [] u AG BT) (pH noK (pI 0 (fun AA BW=>
 zL (zA AA 3) fun AE=>
 zL (zA AA 4) fun AD=>
 onW BW fun AH AI BX BY=>
 zS P 23 1 [(0,(.string (ByteArray.mk #[101,110,100])))] BX BY fun BZ Ba AF=>
 vR L AD [(.string (ByteArray.mk #[])),AF] BZ Ba (kp L 19 k (fj19_1 AA (zA AA 2) AE AD (zA AA 37) (zA AA 38) (zA AA 39) (zA AA 40) (zA AA 57) AD AF (zA AA 60) (zA AA 61)) AH AI) fun Al Be Bf=>
 yO L 57 [AE] Be Bf (kp L 19 k (fj19_1 AA (zA AA 2) AE AD (zA AA 37) (zA AA 38) (zA AA 39) (zA AA 40) (zA AA 57) AD AF Al (zA AA 61)) AH AI) fun Am Bj Bk=>
 zJ P L 19 k .ret (fj19_1 AA Am AE AD (zA AA 37) (zA AA 38) (zA AA 39) (zA AA 40) (zA AA 57) AD AF Al Am) (W.mk AH AI Bj Bk)) (zJ P L 19 k))))
theorem F19_eq:EY1 19 hint19 F19:=fun _ _ _ _ _ _ _ _=>by kernel_rfl
noncomputable def B19_1000010:TYB:=fun L lp rd df t w ka=>
 zL (zA t 3) fun AI=>
 zL (zA t 4) fun AC=>
 zL (zA t 37) fun AF=>
 rtI .i64 (zA t 38) fun AG=>
 rtI .i64 (zA t 39) fun AE=>
 onW w fun AJ AK AL AO=>
 fb (wB AE AG) fun AH=>
 br AH (
 pM (fun AP=>
 opt (zR P 41 AF (.int .i64 AE)) fun AM=>
 opt (zE P 51 AL AM) fun AD=>
 zS P 23 1 [(0,(.string (ByteArray.mk #[98,108,111,99,107])))] AL AO fun AS AT AN=>
 vR L AC [(.string (ByteArray.mk #[])),AN] AS AT (kb ka (fj19_0 t AI AC AD (zA t 8) AF (vi AG) (vi AE) (vb AH) AM AD AC AN (zA t 45) (zA t 46) (zA t 47) (zA t 48) (zA t 49) (zA t 50) (zA t 51) (zA t 52) (zA t 53) (zA t 54) (zA t 55) (zA t 56)) AJ AK) fun AX AQ AY=>
 opt (zX P .len [51] [AD] AQ) fun AZ=>
 rtI .i64 AZ fun Aa=>
 lp 1000014 ⟨19,rd,df⟩ (fj19_0 t AI AC AD (zA t 8) AF (vi AG) (vi AE) (vb AH) AM AD AC AN AX AD (vi Aa) (vi 0) (zA t 49) (zA t 50) (zA t 51) (zA t 52) (zA t 53) (zA t 54) (zA t 55) (zA t 56)) (W.mk AJ AK AQ AY) (pH noK (pI 2 (fun AA Ab=>
 zL (zA AA 3) fun Ac=>
 zL (zA AA 4) fun Ad=>
 zL (zA AA 37) fun Ae=>
 rtI .i64 (zA AA 38) fun Af=>
 rtI .i64 (zA AA 39) fun Ag=>
 onW Ab fun Ah Ai Aj Ak=>
 AP (fj19_1 AA (zA AA 2) Ac Ad Ae (vi Af) (vi Ag) (zA AA 40) (zA AA 57) (zA AA 58) (zA AA 59) (zA AA 60) (zA AA 61)) (W.mk Ah Ai Aj Ak)) (pI 1 AP ka)))) (fun AB Al=>
 zL (zA AB 3) fun Am=>
 zL (zA AB 4) fun An=>
 zL (zA AB 37) fun Ao=>
 rtI .i64 (zA AB 38) fun Ap=>
 rtI .i64 (zA AB 39) fun Aq=>
 onW Al fun Ar As At Au=>
 fi (wH .i64 (uF Aq 1)) fun AR=>
 lp 1000010 ⟨19,rd,df⟩ (fj19_1 AB (zA AB 2) Am An Ao (vi Ap) (vi AR) (zA AB 40) (vi AR) (zA AB 58) (zA AB 59) (zA AB 60) (zA AB 61)) (W.mk Ar As At Au) ka)) (
 ka (.exit 0) (fj19_1 t (zA t 2) AI AC AF (vi AG) (vi AE) (vb AH) (zA t 57) (zA t 58) (zA t 59) (zA t 60) (zA t 61)) (W.mk AJ AK AL AO))
theorem B19_1000010_eq:EYB 19 1000010 hint19 B19_1000010:=fun _ _ _ _ _ _ _=>by kernel_rfl
noncomputable def B19_1000014:TYB:=fun L lp rd df t w ka=>
 zL (zA t 3) fun AH=>
 zL (zA t 4) fun AB=>
 zL (zA t 37) fun AI=>
 rtI .i64 (zA t 38) fun AJ=>
 rtI .i64 (zA t 39) fun AK=>
 zL (zA t 46) fun AD=>
 rtI .i64 (zA t 47) fun AE=>
 rtI .i64 (zA t 48) fun AC=>
 onW w fun AL AM AQ AS=>
 fb (wB AC AE) fun AF=>
 br AF (
 pM (fun AV=>
 opt (zR P 51 AD (.int .i64 AC)) fun AN=>
 opt (zE P 50 AQ AN) fun AO=>
 tZ P 50 AQ AS fun AW AX AG=>
 zW P 50 AG AO AW AX fun AT AY Ax=>
 opt (zE P 50 AT AG) fun AP=>
 yO L 56 [AP] AT AY (kb ka (fj19_0 t AH AB (zA t 6) AG AI (vi AJ) (vi AK) (zA t 40) (zA t 41) (zA t 42) (zA t 43) (zA t 44) (zA t 45) AD (vi AE) (vi AC) (vb AF) AN AO AB AP (zA t 54) (zA t 55) (zA t 56)) AL AM) fun AR Ac Ad=>
 vR L AB [(.string (ByteArray.mk #[32,32])),AR] Ac Ad (kb ka (fj19_0 t AH AB (zA t 6) AG AI (vi AJ) (vi AK) (zA t 40) (zA t 41) (zA t 42) (zA t 43) (zA t 44) (zA t 45) AD (vi AE) (vi AC) (vb AF) AN AO AB AP AR (zA t 55) (zA t 56)) AL AM) fun Ah Ai Aj=>
 AV (fj19_0 t AH AB (zA t 6) AG AI (vi AJ) (vi AK) (zA t 40) (zA t 41) (zA t 42) (zA t 43) (zA t 44) (zA t 45) AD (vi AE) (vi AC) (vb AF) AN AO AB AP AR Ah (zA t 56)) (W.mk AL AM Ai Aj)) (fun AA Ak=>
 zL (zA AA 3) fun Al=>
 zL (zA AA 4) fun Am=>
 zL (zA AA 37) fun An=>
 rtI .i64 (zA AA 38) fun Ao=>
 rtI .i64 (zA AA 39) fun Ap=>
 zL (zA AA 46) fun Aq=>
 rtI .i64 (zA AA 47) fun Ar=>
 rtI .i64 (zA AA 48) fun As=>
 onW Ak fun At Au Av Aw=>
 fi (wH .i64 (uF As 1)) fun AU=>
 lp 1000014 ⟨19,rd,df⟩ (fj19_0 AA Al Am (zA AA 6) (zA AA 8) An (vi Ao) (vi Ap) (zA AA 40) (zA AA 41) (zA AA 42) (zA AA 43) (zA AA 44) (zA AA 45) Aq (vi Ar) (vi AU) (zA AA 49) (zA AA 50) (zA AA 51) (zA AA 52) (zA AA 53) (zA AA 54) (zA AA 55) (vi AU)) (W.mk At Au Av Aw) ka)) (
 ka (.exit 2) (fj19_0 t AH AB (zA t 6) (zA t 8) AI (vi AJ) (vi AK) (zA t 40) (zA t 41) (zA t 42) (zA t 43) (zA t 44) (zA t 45) AD (vi AE) (vi AC) (vb AF) (zA t 50) (zA t 51) (zA t 52) (zA t 53) (zA t 54) (zA t 55) (zA t 56)) (W.mk AL AM AQ AS))
theorem B19_1000014_eq:EYB 19 1000014 hint19 B19_1000014:=fun _ _ _ _ _ _ _=>by kernel_rfl
theorem l19:yU P 19=true:=by kernel_rfl
theorem r19:xW P 19=some [.tmp 2]:=by kernel_rfl
theorem lp19_1000010:vC (yZ P 19 1000010)=true:=by kernel_rfl
theorem lp19_1000014:vC (yZ P 19 1000014)=true:=by kernel_rfl
noncomputable abbrev fo70(s4:Value):Fr:=gf26 ud ud ud ud s4 ud ud ud ud ud ud ud ud ud ud ud ud ud ud ud ud ud ud ud ud ud
noncomputable abbrev fj70_0(t:Fr)(s0 s1 s4 s5 s11 s12 s13 s14 s15 s16:Value):Fr:=gf26 s0 s1 (zA t 2) (zA t 3) s4 s5 (zA t 6) (zA t 7) (zA t 8) (zA t 9) (zA t 10) s11 s12 s13 s14 s15 s16 (zA t 17) (zA t 18) (zA t 19) (zA t 20) (zA t 21) (zA t 22) (zA t 23) (zA t 24) (zA t 25)
noncomputable abbrev hint70:rD:=hq [(0,1000004,[.val,.val,.any,.any,.any,(.int .i64)]),(1,1,[.val,.val,.any,.any,.any,(.int .i64)]),(2,0,[.val,.val,.any,.any,.any,(.int .i64)]),(2,2,[.val,.val]),(2,7,[.val,.val,.any,.any,.any,(.int .i64)])]
noncomputable def F70:TY2:=fun L lp p0 p1 df u h n k=>
 opt (zX P .len [40] [p0] h) fun v1=>
 rtI .i64 v1 fun a2=>
 opt (zX P .len [40] [p1] h) fun v3=>
 rtI .i64 v3 fun a4=>
 fb (pW a2 a4) fun a5=>
 br a5 (
 zJ P L 70 k .ret (fo70 (.bool false)) (W.mk [] u h n)) (
 lp 1000004 ⟨70,none,df⟩ (gf26 p0 p1 ud ud (vb false) (vi 0) p0 (vi a2) p1 (vi a4) (vb a5) ud ud ud ud ud ud ud ud ud ud ud ud ud ud ud) (W.mk [] u h n) (pH noK (pI 0 (fun t6 w7=>
 onW w7 fun d8 u9 AJ AK=>
 zJ P L 70 k .ret (fj70_0 t6 (zA t6 0) (zA t6 1) (vb true) (zA t6 5) (zA t6 11) (zA t6 12) (zA t6 13) (zA t6 14) (zA t6 15) (zA t6 16)) (W.mk d8 u9 AJ AK)) (zJ P L 70 k))))
theorem F70_eq:EY2 70 hint70 F70:=fun _ _ _ _ _ _ _ _ _=>by kernel_rfl
noncomputable def B70_1000004:TYB:=fun L lp rd df t w ka=>
 zL (zA t 0) fun AB=>
 zL (zA t 1) fun AE=>
 rtI .i64 (zA t 5) fun AA=>
 onW w fun AF AG AD AH=>
 opt (zX P .len [40] [AB] AD) fun AR=>
 rtI .i64 AR fun AI=>
 fb (wB AA AI) fun AJ=>
 br AJ (
 pM (fun AS=>
 opt (zR P 40 AB (.int .i64 AA)) fun AK=>
 opt (zE P 3 AD AK) fun AT=>
 rtI .i64 AT fun AL=>
 opt (zR P 40 AE (.int .i64 AA)) fun AM=>
 opt (zE P 3 AD AM) fun AU=>
 rtI .i64 AU fun AN=>
 fb (pW AL AN) fun AO=>
 gt (lks [(W.mk AF AG AD AH)] []) (
 br AO (
 ka .ret (gf26 AB AE (zA t 2) (zA t 3) (vb false) (vi AA) (zA t 6) (zA t 7) (zA t 8) (zA t 9) (zA t 10) (vi AA) AB (vi AI) (vb AJ) (zA t 15) (zA t 16) AB (vi AA) AK (vi AL) AE (vi AA) AM (vi AN) (vb AO)) (W.mk AF AG AD AH)) (
 AS (gf26 AB AE (zA t 2) (zA t 3) (zA t 4) (vi AA) (zA t 6) (zA t 7) (zA t 8) (zA t 9) (zA t 10) (vi AA) AB (vi AI) (vb AJ) (zA t 15) (zA t 16) AB (vi AA) AK (vi AL) AE (vi AA) AM (vi AN) (vb AO)) (W.mk AF AG AD AH)))) (fun AC AV=>
 zL (zA AC 0) fun AW=>
 zL (zA AC 1) fun AX=>
 rtI .i64 (zA AC 5) fun AP=>
 onW AV fun AY AZ Aa Ab=>
 fi (wH .i64 (uF AP 1)) fun AQ=>
 lp 1000004 ⟨70,rd,df⟩ (fj70_0 AC AW AX (zA AC 4) (vi AQ) (zA AC 11) (zA AC 12) (zA AC 13) (zA AC 14) (vi AP) (vi AQ)) (W.mk AY AZ Aa Ab) ka)) (
 ka (.exit 0) (fj70_0 t AB AE (zA t 4) (vi AA) (vi AA) AB (vi AI) (vb AJ) (zA t 15) (zA t 16)) (W.mk AF AG AD AH))
theorem B70_1000004_eq:EYB 70 1000004 hint70 B70_1000004:=fun _ _ _ _ _ _ _=>by kernel_rfl
theorem l70:yU P 70=true:=by kernel_rfl
theorem r70:xW P 70=some [.tmp 4]:=by kernel_rfl
theorem lp70_1000004:vC (yZ P 70 1000004)=true:=by kernel_rfl
noncomputable abbrev fo71(s4:Value):Fr:=gf56 ud ud ud ud s4 ud ud ud ud ud ud ud ud ud ud ud ud ud ud ud ud ud ud ud ud ud ud ud ud ud ud ud ud ud ud ud ud ud ud ud ud ud ud ud ud ud ud ud ud ud ud ud ud ud ud ud
noncomputable abbrev fj71_0(t:Fr)(s0 s1 s5 s6 s17 s18 s30 s31 s32 s33 s34 s35 s36 s39 s40 s41 s42 s43 s44 s45 s46 s47 s48 s49 s50 s51 s52:Value):Fr:=gf56 s0 s1 (zA t 2) (zA t 3) (zA t 4) s5 s6 (zA t 7) (zA t 8) (zA t 9) (zA t 10) (zA t 11) (zA t 12) (zA t 13) (zA t 14) (zA t 15) (zA t 16) s17 s18 (zA t 19) (zA t 20) (zA t 21) (zA t 22) (zA t 23) (zA t 24) (zA t 25) (zA t 26) (zA t 27) (zA t 28) (zA t 29) s30 s31 s32 s33 s34 s35 s36 (zA t 37) (zA t 38) s39 s40 s41 s42 s43 s44 s45 s46 s47 s48 s49 s50 s51 s52 (zA t 53) (zA t 54) (zA t 55)
noncomputable abbrev fj71_1(t:Fr)(s0 s1 s4 s5 s6 s13 s14 s15 s16 s19 s20 s21 s22 s23 s24 s25 s26 s27 s28 s29 s37 s38:Value):Fr:=gf56 s0 s1 (zA t 2) (zA t 3) s4 s5 s6 (zA t 7) (zA t 8) (zA t 9) (zA t 10) (zA t 11) (zA t 12) s13 s14 s15 s16 (zA t 17) (zA t 18) s19 s20 s21 s22 s23 s24 s25 s26 s27 s28 s29 (zA t 30) (zA t 31) (zA t 32) (zA t 33) (zA t 34) (zA t 35) (zA t 36) s37 s38 (zA t 39) (zA t 40) (zA t 41) (zA t 42) (zA t 43) (zA t 44) (zA t 45) (zA t 46) (zA t 47) (zA t 48) (zA t 49) (zA t 50) (zA t 51) (zA t 52) (zA t 53) (zA t 54) (zA t 55)
noncomputable abbrev hint71:rD:=hq [(0,1000004,[.val,.val,.any,.any,.any,(.int .i64)]),(0,1000009,[.val,.val,.any,.any,.any,(.int .i64),(.int .i64)]),(1,1,[.val,.val,.any,.any,.any,(.int .i64)]),(1,2,[.val,.val,.any,.any,.any,(.int .i64)]),(1,3,[.val,.val,.any,.any,.any,(.int .i64),(.int .i64)]),(2,0,[.val,.val,.any,.any,.any,(.int .i64)]),(2,2,[.val,.val]),(2,7,[.val,.val,.any,.any,.any,(.int .i64)]),(2,13,[.val,.val,.any,.any,.any,(.int .i64),(.int .i64)])]
noncomputable def F71:TY2:=fun L lp p0 p1 df u h n k=>
 opt (zX P .len [41] [p0] h) fun v1=>
 rtI .i64 v1 fun a2=>
 opt (zX P .len [41] [p1] h) fun v3=>
 rtI .i64 v3 fun a4=>
 fb (pW a2 a4) fun a5=>
 br a5 (
 zJ P L 71 k .ret (fo71 (.bool false)) (W.mk [] u h n)) (
 lp 1000004 ⟨71,none,df⟩ (gf56 p0 p1 ud ud (vb false) (vi 0) ud ud p0 (vi a2) p1 (vi a4) (vb a5) ud ud ud ud ud ud ud ud ud ud ud ud ud ud ud ud ud ud ud ud ud ud ud ud ud ud ud ud ud ud ud ud ud ud ud ud ud ud ud ud ud ud ud) (W.mk [] u h n) (pH noK (pI 0 (fun t6 w7=>
 onW w7 fun d8 u9 AJ AK=>
 zJ P L 71 k .ret (fj71_1 t6 (zA t6 0) (zA t6 1) (vb true) (zA t6 5) (zA t6 6) (zA t6 13) (zA t6 14) (zA t6 15) (zA t6 16) (zA t6 19) (zA t6 20) (zA t6 21) (zA t6 22) (zA t6 23) (zA t6 24) (zA t6 25) (zA t6 26) (zA t6 27) (zA t6 28) (zA t6 29) (zA t6 37) (zA t6 38)) (W.mk d8 u9 AJ AK)) (zJ P L 71 k))))
theorem F71_eq:EY2 71 hint71 F71:=fun _ _ _ _ _ _ _ _ _=>by kernel_rfl
noncomputable def B71_1000004:TYB:=fun L lp rd df t w ka=>
 zL (zA t 0) fun AD=>
 zL (zA t 1) fun AF=>
 rtI .i64 (zA t 5) fun AC=>
 onW w fun AG AH AE AI=>
 opt (zX P .len [41] [AD] AE) fun AV=>
 rtI .i64 AV fun AJ=>
 fb (wB AC AJ) fun AK=>
 br AK (
 pM (fun AS=>
 opt (zR P 41 AD (.int .i64 AC)) fun AL=>
 opt (zE P 51 AE AL) fun AM=>
 opt (zX P .len [51] [AM] AE) fun AW=>
 rtI .i64 AW fun AN=>
 opt (zR P 41 AF (.int .i64 AC)) fun AO=>
 opt (zE P 51 AE AO) fun AP=>
 opt (zX P .len [51] [AP] AE) fun AX=>
 rtI .i64 AX fun AQ=>
 fb (pW AN AQ) fun AR=>
 gt (lks [(W.mk AG AH AE AI)] []) (
 br AR (
 ka .ret (fj71_1 t AD AF (vb false) (vi AC) (zA t 6) (vi AC) AD (vi AJ) (vb AK) AD (vi AC) AL AM (vi AN) AF (vi AC) AO AP (vi AQ) (vb AR) (zA t 37) (zA t 38)) (W.mk AG AH AE AI)) (
 lp 1000009 ⟨71,rd,df⟩ (fj71_1 t AD AF (zA t 4) (vi AC) (vi 0) (vi AC) AD (vi AJ) (vb AK) AD (vi AC) AL AM (vi AN) AF (vi AC) AO AP (vi AQ) (vb AR) (zA t 37) (zA t 38)) (W.mk AG AH AE AI) (pH noK (pI 2 (fun AB AY=>
 zL (zA AB 0) fun AZ=>
 zL (zA AB 1) fun Aa=>
 rtI .i64 (zA AB 5) fun Ab=>
 onW AY fun Ac Ad Ae Af=>
 AS (fj71_1 AB AZ Aa (zA AB 4) (vi Ab) (zA AB 6) (zA AB 13) (zA AB 14) (zA AB 15) (zA AB 16) (zA AB 19) (zA AB 20) (zA AB 21) (zA AB 22) (zA AB 23) (zA AB 24) (zA AB 25) (zA AB 26) (zA AB 27) (zA AB 28) (zA AB 29) (zA AB 37) (zA AB 38)) (W.mk Ac Ad Ae Af)) (pI 1 AS ka)))))) (fun AA Ag=>
 zL (zA AA 0) fun Ah=>
 zL (zA AA 1) fun Ai=>
 rtI .i64 (zA AA 5) fun AT=>
 onW Ag fun Aj Ak Al Am=>
 fi (wH .i64 (uF AT 1)) fun AU=>
 lp 1000004 ⟨71,rd,df⟩ (fj71_0 AA Ah Ai (vi AU) (zA AA 6) (vi AT) (vi AU) (zA AA 30) (zA AA 31) (zA AA 32) (zA AA 33) (zA AA 34) (zA AA 35) (zA AA 36) (zA AA 39) (zA AA 40) (zA AA 41) (zA AA 42) (zA AA 43) (zA AA 44) (zA AA 45) (zA AA 46) (zA AA 47) (zA AA 48) (zA AA 49) (zA AA 50) (zA AA 51) (zA AA 52)) (W.mk Aj Ak Al Am) ka)) (
 ka (.exit 0) (fj71_1 t AD AF (zA t 4) (vi AC) (zA t 6) (vi AC) AD (vi AJ) (vb AK) (zA t 19) (zA t 20) (zA t 21) (zA t 22) (zA t 23) (zA t 24) (zA t 25) (zA t 26) (zA t 27) (zA t 28) (zA t 29) (zA t 37) (zA t 38)) (W.mk AG AH AE AI))
theorem B71_1000004_eq:EYB 71 1000004 hint71 B71_1000004:=fun _ _ _ _ _ _ _=>by kernel_rfl
noncomputable def B71_1000009:TYB:=fun L lp rd df t w ka=>
 zL (zA t 0) fun AD=>
 zL (zA t 1) fun AF=>
 rtI .i64 (zA t 5) fun AB=>
 rtI .i64 (zA t 6) fun AC=>
 onW w fun AG AH AE AJ=>
 opt (zR P 41 AD (.int .i64 AB)) fun AK=>
 opt (zE P 51 AE AK) fun AL=>
 opt (zX P .len [51] [AL] AE) fun Ab=>
 rtI .i64 Ab fun AM=>
 fb (wB AC AM) fun AN=>
 br AN (
 pM (fun Ac=>
 opt (zR P 41 AD (.int .i64 AB)) fun AO=>
 opt (zE P 51 AE AO) fun AP=>
 opt (zR P 51 AP (.int .i64 AC)) fun AQ=>
 opt (zE P 50 AE AQ) fun AR=>
 opt (zR P 41 AF (.int .i64 AB)) fun AS=>
 opt (zE P 51 AE AS) fun AT=>
 opt (zR P 51 AT (.int .i64 AC)) fun AU=>
 opt (zE P 50 AE AU) fun AV=>
 uL L 105 [AR,AV] AE AJ (fun Ad Ae Af=>
 gt (lks [(W.mk AG AH AE AJ)] []) (
 ka (.panic Ad) (fj71_0 t AD AF (vi AB) (vi AC) (zA t 17) (zA t 18) (vi AC) AD (vi AB) AK AL (vi AM) (vb AN) AD (vi AB) AO AP (vi AC) AQ AR AF (vi AB) AS AT (vi AC) AU AV) (W.mk AG AH Ae Af))) fun AI AX AW=>
 gt (Nat.ble AJ AW) (
 gt (lks [(W.mk AG AH AX AW),(W.mk AG AH AE AJ)] []) (
 opt (aUn .not (.bool AI)) fun Ag=>
 rtB Ag fun AY=>
 br AY (
 ka .ret (gf56 AD AF (zA t 2) (zA t 3) (vb false) (vi AB) (vi AC) (vb AI) (zA t 8) (zA t 9) (zA t 10) (zA t 11) (zA t 12) (zA t 13) (zA t 14) (zA t 15) (zA t 16) (zA t 17) (zA t 18) (zA t 19) (zA t 20) (zA t 21) (zA t 22) (zA t 23) (zA t 24) (zA t 25) (zA t 26) (zA t 27) (zA t 28) (zA t 29) (vi AC) AD (vi AB) AK AL (vi AM) (vb AN) (zA t 37) (zA t 38) AD (vi AB) AO AP (vi AC) AQ AR AF (vi AB) AS AT (vi AC) AU AV (vb AI) (vb AI) (vb AY)) (W.mk AG AH AX AW)) (
 Ac (gf56 AD AF (zA t 2) (zA t 3) (zA t 4) (vi AB) (vi AC) (vb AI) (zA t 8) (zA t 9) (zA t 10) (zA t 11) (zA t 12) (zA t 13) (zA t 14) (zA t 15) (zA t 16) (zA t 17) (zA t 18) (zA t 19) (zA t 20) (zA t 21) (zA t 22) (zA t 23) (zA t 24) (zA t 25) (zA t 26) (zA t 27) (zA t 28) (zA t 29) (vi AC) AD (vi AB) AK AL (vi AM) (vb AN) (zA t 37) (zA t 38) AD (vi AB) AO AP (vi AC) AQ AR AF (vi AB) AS AT (vi AC) AU AV (vb AI) (vb AI) (vb AY)) (W.mk AG AH AX AW))))) (fun AA Ah=>
 zL (zA AA 0) fun Ai=>
 zL (zA AA 1) fun Aj=>
 rtI .i64 (zA AA 5) fun Ak=>
 rtI .i64 (zA AA 6) fun AZ=>
 onW Ah fun Al Am An Ao=>
 fi (wH .i64 (uF AZ 1)) fun Aa=>
 lp 1000009 ⟨71,rd,df⟩ (fj71_1 AA Ai Aj (zA AA 4) (vi Ak) (vi Aa) (zA AA 13) (zA AA 14) (zA AA 15) (zA AA 16) (zA AA 19) (zA AA 20) (zA AA 21) (zA AA 22) (zA AA 23) (zA AA 24) (zA AA 25) (zA AA 26) (zA AA 27) (zA AA 28) (zA AA 29) (vi AZ) (vi Aa)) (W.mk Al Am An Ao) ka)) (
 ka (.exit 2) (fj71_0 t AD AF (vi AB) (vi AC) (zA t 17) (zA t 18) (vi AC) AD (vi AB) AK AL (vi AM) (vb AN) (zA t 39) (zA t 40) (zA t 41) (zA t 42) (zA t 43) (zA t 44) (zA t 45) (zA t 46) (zA t 47) (zA t 48) (zA t 49) (zA t 50) (zA t 51) (zA t 52)) (W.mk AG AH AE AJ))
theorem B71_1000009_eq:EYB 71 1000009 hint71 B71_1000009:=fun _ _ _ _ _ _ _=>by kernel_rfl
theorem l71:yU P 71=true:=by kernel_rfl
theorem r71:xW P 71=some [.tmp 4]:=by kernel_rfl
theorem lp71_1000004:vC (yZ P 71 1000004)=true:=by kernel_rfl
theorem lp71_1000009:vC (yZ P 71 1000009)=true:=by kernel_rfl
noncomputable abbrev fo24(s4:Value):Fr:=gf61 ud ud ud ud s4 ud ud ud ud ud ud ud ud ud ud ud ud ud ud ud ud ud ud ud ud ud ud ud ud ud ud ud ud ud ud ud ud ud ud ud ud ud ud ud ud ud ud ud ud ud ud ud ud ud ud ud ud ud ud ud ud
noncomputable abbrev fj24_0(t:Fr)(s2 s3 s4 s5 s6 s7 s29 s30 s31 s32 s33 s34 s35 s36 s37 s38 s39 s40 s41 s42 s43 s44 s45 s46 s47 s48 s49 s50 s51 s52 s53 s54 s55 s56 s57 s58 s59 s60:Value):Fr:=gf61 (zA t 0) (zA t 1) s2 s3 s4 s5 s6 s7 (zA t 8) (zA t 9) (zA t 10) (zA t 11) (zA t 12) (zA t 13) (zA t 14) (zA t 15) (zA t 16) (zA t 17) (zA t 18) (zA t 19) (zA t 20) (zA t 21) (zA t 22) (zA t 23) (zA t 24) (zA t 25) (zA t 26) (zA t 27) (zA t 28) s29 s30 s31 s32 s33 s34 s35 s36 s37 s38 s39 s40 s41 s42 s43 s44 s45 s46 s47 s48 s49 s50 s51 s52 s53 s54 s55 s56 s57 s58 s59 s60
noncomputable abbrev hint24:rD:=hq [(0,1000004,[.any,.any,.val,.val,.any,(.int .i64)]),(1,0,[.any,.any,.val,.val]),(1,1,[.any,.any,.val,.val,.any,(.int .i64)]),(2,0,[.any,.any,.val,.val,.any,(.int .i64)]),(2,2,[.any,.any,.val,.val]),(2,7,[.any,.any,.val,.val,.any,(.int .i64)])]
noncomputable def F24:TY2:=fun L lp p0 p1 df u h n k=>
 eBox p0 h n fun h1 n2 v3=>
 eBox p1 h1 n2 fun h4 n5 v6=>
 opt (zB P 43 0 v3) fun v7=>
 opt (zE P 9 h4 v7) fun v8=>
 opt (zB P 43 0 v6) fun v9=>
 opt (zE P 9 h4 v9) fun Ag=>
 yB pW P .neq 9 false v8 Ag fun AC=>
 grd (nt AC) (fun BI=>
 opt (zB P 43 3 v3) fun BJ=>
 BI h4 n5 BJ) (fun AN Ah Ai=>
 grd (nt AC) (fun BK=>
 opt (zE P 9 AN Ai) fun BL=>
 BK AN Ah BL) (fun Aj Ak Al=>
 grd (nt AC) (fun BM=>
 opt (zB P 43 3 v6) fun BN=>
 BM Aj Ak BN) (fun AO Am An=>
 grd (nt AC) (fun BO=>
 opt (zE P 9 AO An) fun BP=>
 BO AO Am BP) (fun Ao Ap Aq=>
 grd (nt AC) (fun BQ=>
 yB pW P .neq 9 false Al Aq fun BR=>
 BQ Ao Ap (.bool BR)) (fun Ar As At=>
 rtB (sel AC (.bool true) At) fun AB=>
 grd (nt AB) (fun BS=>
 opt (zB P 43 1 v3) fun BT=>
 BS Ar As BT) (fun AP Au Av=>
 grd (nt AB) (fun BU=>
 opt (zE P 23 AP Av) fun BV=>
 BU AP Au BV) (fun AQ Aw Ax=>
 grd (nt AB) (fun BW=>
 opt (zX P .len [23] [Ax] AQ) fun BX=>
 rtI .i64 BX fun BY=>
 BW AQ Aw (.int .i64 BY)) (fun Ay Az A0=>
 grd (nt AB) (fun BZ=>
 opt (zB P 43 1 v6) fun Ba=>
 BZ Ay Az Ba) (fun AR A1 A2=>
 grd (nt AB) (fun Bb=>
 opt (zE P 23 AR A2) fun Bc=>
 Bb AR A1 Bc) (fun AS A3 A4=>
 grd (nt AB) (fun Bd=>
 opt (zX P .len [23] [A4] AS) fun Be=>
 rtI .i64 Be fun Bf=>
 Bd AS A3 (.int .i64 Bf)) (fun A5 A6 A7=>
 grd (nt AB) (fun Bg=>
 yB pW P .neq 3 false A0 A7 fun Bh=>
 Bg A5 A6 (.bool Bh)) (fun A8 A9 BA=>
 rtB (sel AB (.bool true) BA) fun BB=>
 br BB (
 zJ P L 24 k .ret (fo24 (.bool false)) (W.mk [] u A8 A9)) (
 lp 1000004 ⟨24,none,df⟩ (gf61 p0 p1 v3 v6 (vb false) (vi 0) ud ud v7 v8 v9 Ag (vb AC) (vb AC) Ai Al An Aq At (vb AB) (vb AB) Av Ax A0 A2 A4 A7 BA (vb BB) ud ud ud ud ud ud ud ud ud ud ud ud ud ud ud ud ud ud ud ud ud ud ud ud ud ud ud ud ud ud ud ud) (W.mk [] u A8 A9) (pH noK (pI 0 (fun AA Bi=>
 zL (zA AA 2) fun AE=>
 zL (zA AA 3) fun AF=>
 onW Bi fun AT AU AV Bj=>
 opt (zB P 43 2 AE) fun AJ=>
 opt (zE P 40 AV AJ) fun AK=>
 opt (zB P 43 2 AF) fun AL=>
 opt (zE P 40 AV AL) fun AM=>
 uL L 70 [AK,AM] AV Bj (kp L 24 k (fj24_0 AA AE AF (zA AA 4) (zA AA 5) (zA AA 6) (zA AA 7) (zA AA 29) (zA AA 30) (zA AA 31) (zA AA 32) (zA AA 33) (zA AA 34) (zA AA 35) (zA AA 36) (zA AA 37) (zA AA 38) (zA AA 39) (zA AA 40) (zA AA 41) (zA AA 42) (zA AA 43) (zA AA 44) (zA AA 45) (zA AA 46) AJ AK AL AM (zA AA 51) (zA AA 52) (zA AA 53) (zA AA 54) (zA AA 55) (zA AA 56) (zA AA 57) (zA AA 58) (zA AA 59) (zA AA 60)) AT AU) fun AD AW Bn=>
 opt (zB P 43 4 AE) fun AX=>
 opt (zE P 41 AW AX) fun AY=>
 opt (zB P 43 4 AF) fun AZ=>
 opt (zE P 41 AW AZ) fun Aa=>
 uL L 71 [AY,Aa] AW Bn (kp L 24 k (fj24_0 AA AE AF (zA AA 4) (zA AA 5) (vb AD) (zA AA 7) (zA AA 29) (zA AA 30) (zA AA 31) (zA AA 32) (zA AA 33) (zA AA 34) (zA AA 35) (zA AA 36) (zA AA 37) (zA AA 38) (zA AA 39) (zA AA 40) (zA AA 41) (zA AA 42) (zA AA 43) (zA AA 44) (zA AA 45) (zA AA 46) AJ AK AL AM (vb AD) AX AY AZ Aa (zA AA 56) (zA AA 57) (zA AA 58) (zA AA 59) (zA AA 60)) AT AU) fun Ab BC BD=>
 grd AD (fun Br=>
 Br BC BD (.bool Ab)) (fun Bs Bt BE=>
 rtB (sel AD BE (.bool false)) fun BF=>
 zJ P L 24 k .ret (fj24_0 AA AE AF (vb BF) (zA AA 5) (vb AD) (vb Ab) (zA AA 29) (zA AA 30) (zA AA 31) (zA AA 32) (zA AA 33) (zA AA 34) (zA AA 35) (zA AA 36) (zA AA 37) (zA AA 38) (zA AA 39) (zA AA 40) (zA AA 41) (zA AA 42) (zA AA 43) (zA AA 44) (zA AA 45) (zA AA 46) AJ AK AL AM (vb AD) AX AY AZ Aa (vb Ab) (vb AD) (vb AD) BE (vb BF)) (W.mk AT AU Bs Bt)) BC BD) (zJ P L 24 k))))) A5 A6) AS A3) AR A1) Ay Az) AQ Aw) AP Au) Ar As) Ao Ap) AO Am) Aj Ak) AN Ah) h4 n5
theorem F24_eq:EY2 24 hint24 F24:=fun _ _ _ _ _ _ _ _ _=>by kernel_rfl
noncomputable def B24_1000004:TYB:=fun L lp rd df t w ka=>
 zL (zA t 2) fun AD=>
 zL (zA t 3) fun AE=>
 rtI .i64 (zA t 5) fun AB=>
 onW w fun AF AG AC AH=>
 opt (zB P 43 1 AD) fun AI=>
 opt (zE P 23 AC AI) fun AJ=>
 opt (zX P .len [23] [AJ] AC) fun AX=>
 rtI .i64 AX fun AK=>
 fb (wB AB AK) fun AL=>
 br AL (
 pM (fun AY=>
 opt (zB P 43 1 AD) fun AM=>
 opt (zE P 23 AC AM) fun AN=>
 opt (zR P 23 AN (.int .i64 AB)) fun AO=>
 opt (zE P 9 AC AO) fun AP=>
 opt (zB P 43 1 AE) fun AQ=>
 opt (zE P 23 AC AQ) fun AR=>
 opt (zR P 23 AR (.int .i64 AB)) fun AS=>
 opt (zE P 9 AC AS) fun AT=>
 yB pW P .neq 9 false AP AT fun AU=>
 gt (lks [(W.mk AF AG AC AH)] []) (
 br AU (
 ka .ret (fj24_0 t AD AE (vb false) (vi AB) (zA t 6) (zA t 7) (vi AB) AI AJ (vi AK) (vb AL) (zA t 34) (zA t 35) AM AN (vi AB) AO AP AQ AR (vi AB) AS AT (vb AU) (zA t 47) (zA t 48) (zA t 49) (zA t 50) (zA t 51) (zA t 52) (zA t 53) (zA t 54) (zA t 55) (zA t 56) (zA t 57) (zA t 58) (zA t 59) (zA t 60)) (W.mk AF AG AC AH)) (
 AY (fj24_0 t AD AE (zA t 4) (vi AB) (zA t 6) (zA t 7) (vi AB) AI AJ (vi AK) (vb AL) (zA t 34) (zA t 35) AM AN (vi AB) AO AP AQ AR (vi AB) AS AT (vb AU) (zA t 47) (zA t 48) (zA t 49) (zA t 50) (zA t 51) (zA t 52) (zA t 53) (zA t 54) (zA t 55) (zA t 56) (zA t 57) (zA t 58) (zA t 59) (zA t 60)) (W.mk AF AG AC AH)))) (fun AA AZ=>
 zL (zA AA 2) fun Aa=>
 zL (zA AA 3) fun Ab=>
 rtI .i64 (zA AA 5) fun AV=>
 onW AZ fun Ac Ad Ae Af=>
 fi (wH .i64 (uF AV 1)) fun AW=>
 lp 1000004 ⟨24,rd,df⟩ (fj24_0 AA Aa Ab (zA AA 4) (vi AW) (zA AA 6) (zA AA 7) (zA AA 29) (zA AA 30) (zA AA 31) (zA AA 32) (zA AA 33) (vi AV) (vi AW) (zA AA 36) (zA AA 37) (zA AA 38) (zA AA 39) (zA AA 40) (zA AA 41) (zA AA 42) (zA AA 43) (zA AA 44) (zA AA 45) (zA AA 46) (zA AA 47) (zA AA 48) (zA AA 49) (zA AA 50) (zA AA 51) (zA AA 52) (zA AA 53) (zA AA 54) (zA AA 55) (zA AA 56) (zA AA 57) (zA AA 58) (zA AA 59) (zA AA 60)) (W.mk Ac Ad Ae Af) ka)) (
 ka (.exit 0) (fj24_0 t AD AE (zA t 4) (vi AB) (zA t 6) (zA t 7) (vi AB) AI AJ (vi AK) (vb AL) (zA t 34) (zA t 35) (zA t 36) (zA t 37) (zA t 38) (zA t 39) (zA t 40) (zA t 41) (zA t 42) (zA t 43) (zA t 44) (zA t 45) (zA t 46) (zA t 47) (zA t 48) (zA t 49) (zA t 50) (zA t 51) (zA t 52) (zA t 53) (zA t 54) (zA t 55) (zA t 56) (zA t 57) (zA t 58) (zA t 59) (zA t 60)) (W.mk AF AG AC AH))
theorem B24_1000004_eq:EYB 24 1000004 hint24 B24_1000004:=fun _ _ _ _ _ _ _=>by kernel_rfl
theorem l24:yU P 24=true:=by kernel_rfl
theorem r24:xW P 24=some [.tmp 4]:=by kernel_rfl
theorem lp24_1000004:vC (yZ P 24 1000004)=true:=by kernel_rfl
noncomputable abbrev fo105(s4:Value):Fr:=gf66 ud ud ud ud s4 ud ud ud ud ud ud ud ud ud ud ud ud ud ud ud ud ud ud ud ud ud ud ud ud ud ud ud ud ud ud ud ud ud ud ud ud ud ud ud ud ud ud ud ud ud ud ud ud ud ud ud ud ud ud ud ud ud ud ud ud ud
noncomputable def F105:TY2:=fun L lp p0 p1 df u h n k=>
 eBox p0 h n fun h1 n2 v3=>
 eBox p1 h1 n2 fun h4 n5 v6=>
 opt (zB P 50 0 v3) fun v7=>
 opt (zE P 3 h4 v7) fun v8=>
 rtI .i64 v8 fun a9=>
 opt (zB P 50 0 v6) fun Bh=>
 opt (zE P 3 h4 Bh) fun Bi=>
 rtI .i64 Bi fun Bj=>
 fb (xN a9 Bj) fun AC=>
 grd AC (fun Bk=>
 opt (zB P 50 1 v3) fun Bl=>
 Bk h4 n5 Bl) (fun AL Ac Bm=>
 grd AC (fun Bn=>
 opt (zE P 3 AL Bm) fun Bo=>
 rtI .i64 Bo fun Bp=>
 Bn AL Ac (.int .i64 Bp)) (fun Ad Ae Bq=>
 grd AC (fun Br=>
 opt (zB P 50 1 v6) fun Bs=>
 Br Ad Ae Bs) (fun AM Af Bt=>
 grd AC (fun Bu=>
 opt (zE P 3 AM Bt) fun Bv=>
 rtI .i64 Bv fun Bw=>
 Bu AM Af (.int .i64 Bw)) (fun Ag Ah Bx=>
 grd AC (fun By=>
 yB xN P .eql 3 false Bq Bx fun Bz=>
 By Ag Ah (.bool Bz)) (fun Ai Aj B0=>
 wV (.bool AC) (fun B1=>
 rtB (sel B1 B0 (.bool false)) fun AD=>
 grd AD (fun B2=>
 opt (zB P 50 2 v3) fun B3=>
 B2 Ai Aj B3) (fun AN Ak B4=>
 grd AD (fun B5=>
 opt (zE P 3 AN B4) fun B6=>
 rtI .i64 B6 fun B7=>
 B5 AN Ak (.int .i64 B7)) (fun Al Am B8=>
 grd AD (fun B9=>
 opt (zB P 50 2 v6) fun CA=>
 B9 Al Am CA) (fun AO An CB=>
 grd AD (fun CC=>
 opt (zE P 3 AO CB) fun CD=>
 rtI .i64 CD fun CE=>
 CC AO An (.int .i64 CE)) (fun Ao Ap CF=>
 grd AD (fun CG=>
 yB xN P .eql 3 false B8 CF fun CH=>
 CG Ao Ap (.bool CH)) (fun Aq Ar CI=>
 wV (.bool AD) (fun CJ=>
 rtB (sel CJ CI (.bool false)) fun AE=>
 grd AE (fun CK=>
 opt (zB P 50 3 v3) fun CL=>
 CK Aq Ar CL) (fun AP As CM=>
 grd AE (fun CN=>
 opt (zE P 3 AP CM) fun CO=>
 rtI .i64 CO fun CP=>
 CN AP As (.int .i64 CP)) (fun At Au CQ=>
 grd AE (fun CR=>
 opt (zB P 50 3 v6) fun CS=>
 CR At Au CS) (fun AQ Av CT=>
 grd AE (fun CU=>
 opt (zE P 3 AQ CT) fun CV=>
 rtI .i64 CV fun CW=>
 CU AQ Av (.int .i64 CW)) (fun Aw Ax CX=>
 grd AE (fun CY=>
 yB xN P .eql 3 false CQ CX fun CZ=>
 CY Aw Ax (.bool CZ)) (fun Ay Az Ca=>
 wV (.bool AE) (fun Cb=>
 rtB (sel Cb Ca (.bool false)) fun AF=>
 grd AF (fun Cc=>
 opt (zB P 50 4 v3) fun Cd=>
 Cc Ay Az Cd) (fun AR A0 Ce=>
 grd AF (fun Cf=>
 opt (zE P 3 AR Ce) fun Cg=>
 rtI .i64 Cg fun Ch=>
 Cf AR A0 (.int .i64 Ch)) (fun A1 A2 Ci=>
 grd AF (fun Cj=>
 opt (zB P 50 4 v6) fun Ck=>
 Cj A1 A2 Ck) (fun AS A3 Cl=>
 grd AF (fun Cm=>
 opt (zE P 3 AS Cl) fun Cn=>
 rtI .i64 Cn fun Co=>
 Cm AS A3 (.int .i64 Co)) (fun A4 A5 Cp=>
 grd AF (fun Cq=>
 yB xN P .eql 3 false Ci Cp fun Cr=>
 Cq A4 A5 (.bool Cr)) (fun A6 A7 Cs=>
 wV (.bool AF) (fun Ct=>
 rtB (sel Ct Cs (.bool false)) fun AG=>
 grd AG (fun Cu=>
 opt (zB P 50 5 v3) fun Cv=>
 Cu A6 A7 Cv) (fun AT A8 Cw=>
 grd AG (fun Cx=>
 opt (zE P 9 AT Cw) fun Cy=>
 Cx AT A8 Cy) (fun A9 BA Cz=>
 grd AG (fun C0=>
 opt (zB P 50 5 v6) fun C1=>
 C0 A9 BA C1) (fun AU BB C2=>
 grd AG (fun C3=>
 opt (zE P 9 AU C2) fun C4=>
 C3 AU BB C4) (fun BC BD C5=>
 grd AG (fun C6=>
 yB xN P .eql 9 false Cz C5 fun C7=>
 C6 BC BD (.bool C7)) (fun BE BF C8=>
 wV (.bool AG) (fun C9=>
 rtB (sel C9 C8 (.bool false)) fun AH=>
 grd AH (fun DA=>
 opt (zB P 50 7 v3) fun DB=>
 DA BE BF DB) (fun AV BG DC=>
 grd AH (fun DD=>
 opt (zE P 3 AV DC) fun DE=>
 rtI .i64 DE fun DF=>
 DD AV BG (.int .i64 DF)) (fun BH BI DG=>
 grd AH (fun DH=>
 opt (zB P 50 7 v6) fun DI=>
 DH BH BI DI) (fun AW BJ DJ=>
 grd AH (fun DK=>
 opt (zE P 3 AW DJ) fun DL=>
 rtI .i64 DL fun DM=>
 DK AW BJ (.int .i64 DM)) (fun BK BL DN=>
 grd AH (fun DO=>
 yB xN P .eql 3 false DG DN fun DP=>
 DO BK BL (.bool DP)) (fun BM BN DQ=>
 wV (.bool AH) (fun DR=>
 rtB (sel DR DQ (.bool false)) fun AI=>
 grd AI (fun DS=>
 opt (zB P 50 8 v3) fun DT=>
 DS BM BN DT) (fun AX BO DU=>
 grd AI (fun DV=>
 opt (zE P 3 AX DU) fun DW=>
 rtI .i64 DW fun DX=>
 DV AX BO (.int .i64 DX)) (fun BP BQ DY=>
 grd AI (fun DZ=>
 opt (zB P 50 8 v6) fun Da=>
 DZ BP BQ Da) (fun AY BR Db=>
 grd AI (fun Dc=>
 opt (zE P 3 AY Db) fun Dd=>
 rtI .i64 Dd fun De=>
 Dc AY BR (.int .i64 De)) (fun BS BT Df=>
 grd AI (fun Dg=>
 yB xN P .eql 3 false DY Df fun Dh=>
 Dg BS BT (.bool Dh)) (fun BU BV Di=>
 wV (.bool AI) (fun Dj=>
 rtB (sel Dj Di (.bool false)) fun AJ=>
 grd AJ (fun Dk=>
 opt (zB P 50 6 v3) fun Dl=>
 Dk BU BV Dl) (fun AZ BW Dm=>
 grd AJ (fun Dn=>
 opt (zE P 40 AZ Dm) fun Do=>
 Dn AZ BW Do) (fun BX BY Dp=>
 grd AJ (fun Dq=>
 opt (zB P 50 6 v6) fun Dr=>
 Dq BX BY Dr) (fun Aa BZ Ds=>
 grd AJ (fun Dt=>
 opt (zE P 40 Aa Ds) fun Du=>
 Dt Aa BZ Du) (fun Ba Bb Dv=>
 grd AJ (fun Dw=>
 uL L 70 [Dp,Dv] Ba Bb (kp L 105 k (fo105 (.bool false)) [] u) fun D0 D1 D2=>
 Dw D1 D2 (.bool D0)) (fun D3 D4 D5=>
 wV (.bool AJ) (fun D6=>
 rtB (sel D6 D5 (.bool false)) fun D7=>
 zJ P L 105 k .ret (fo105 (.bool D7)) (W.mk [] u D3 D4)) false) Ba Bb) Aa BZ) BX BY) AZ BW) BU BV) false) BS BT) AY BR) BP BQ) AX BO) BM BN) false) BK BL) AW BJ) BH BI) AV BG) BE BF) false) BC BD) AU BB) A9 BA) AT A8) A6 A7) false) A4 A5) AS A3) A1 A2) AR A0) Ay Az) false) Aw Ax) AQ Av) At Au) AP As) Aq Ar) false) Ao Ap) AO An) Al Am) AN Ak) Ai Aj) false) Ag Ah) AM Af) Ad Ae) AL Ac) h4 n5
theorem F105_eq:EY2 105 hq0 F105:=fun _ _ _ _ _ _ _ _ _=>by kernel_rfl
theorem l105:yU P 105=true:=by kernel_rfl
theorem r105:xW P 105=some [.tmp 4]:=by kernel_rfl
noncomputable abbrev fo23(s2:Value):Fr:=gf4 ud ud s2 ud
noncomputable abbrev hint23:rD:=hq [(4,0,[(.int .i64)])]
noncomputable def F23:TY1:=fun L lp p0 df u h n k=>
 rtI .i64 p0 fun ap0=>
 zJ P L 23 k .ret (fo23 (.int .i64 ap0)) (W.mk [] u h n)
theorem F23_eq:EY1 23 hint23 F23:=fun _ _ _ _ _ _ _ _=>by kernel_rfl
theorem l23:yU P 23=true:=by kernel_rfl
theorem r23:xW P 23=some [.tmp 2]:=by kernel_rfl
noncomputable abbrev fo16(s0:Value):Fr:=gf36 s0 ud ud ud ud ud ud ud ud ud ud ud ud ud ud ud ud ud ud ud ud ud ud ud ud ud ud ud ud ud ud ud ud ud ud ud
noncomputable def F16:TY0:=fun L lp df u h n k=>
 zS P 23 1 [(0,(.string (ByteArray.mk #[103])))] h n fun h1 n2 v3=>
 zS P 40 1 [(0,(.int .i64 0))] h1 n2 fun h4 n5 v6=>
 opt (uZ P 50 [(0,(.int .i64 9))]) fun v7=>
 zS P 51 1 [(0,v7)] h4 n5 fun h8 n9 Ag=>
 zS P 41 1 [(0,Ag)] h8 n9 fun Ah Ai Aj=>
 opt (uZ P 43 [(0,(.string (ByteArray.mk #[102]))),(1,v3),(2,v6),(3,(.string (ByteArray.mk #[103]))),(4,Aj)]) fun Ak=>
 tZ P 43 Ah Ai fun Al Am AC=>
 zW P 43 AC Ak Al Am fun An Ao Bj=>
 yO L 22 [(.string (ByteArray.mk #[102,117,110,99,32,102,10,114,101,103,115,32,103,10,112,97,114,97,109,115,32,48,10,114,101,115,117,108,116,32,103,10,98,108,111,99,107,10,32,32,114,101,116,32,48,10,101,110,100,10]))] An Ao (kp L 16 k (fo16 (.bool false)) [] u) fun AD As At=>
 opt (xO 0 AD) fun Au=>
 opt (xO 1 AD) fun Av=>
 rtI .i64 Av fun Aw=>
 opt (xO 2 AD) fun Ax=>
 rtI .i64 Ax fun Ay=>
 tZ P 43 As At fun Az A0 AH=>
 zW P 43 AH Au Az A0 fun AI A1 Bk=>
 opt (zE P 43 AI AC) fun A2=>
 yO L 19 [A2] AI A1 (kp L 16 k (fo16 (.bool false)) [] u) fun A6 AJ AK=>
 yB xN P .eql 9 false A6 (.string (ByteArray.mk #[102,117,110,99,32,102,10,114,101,103,115,32,103,10,112,97,114,97,109,115,32,48,10,114,101,115,117,108,116,32,103,10,98,108,111,99,107,10,32,32,114,101,116,32,48,10,101,110,100,10])) fun AA=>
 grd AA (fun A7=>
 A7 AJ AK (.int .i64 Ay)) (fun AL AM A8=>
 grd AA (fun A9=>
 pJ L .i64 23 [A8] AL AM (kp L 16 k (fo16 (.bool false)) [] u) fun BD BE BF=>
 A9 BE BF (.int .i64 BD)) (fun AN AO BG=>
 grd AA (fun BH=>
 yB xN P .eql 3 true BG (.int .i64 0) fun BI=>
 BH AN AO (.bool BI)) (fun AP AQ BJ=>
 wV (.bool AA) (fun BK=>
 rtB (sel BK BJ (.bool false)) fun AE=>
 grd AE (fun BL=>
 BL AP AQ (.int .i64 Aw)) (fun AR AS BM=>
 grd AE (fun BN=>
 yB xN P .eql 3 true BM (.int .i64 0) fun BO=>
 BN AR AS (.bool BO)) (fun AF AT BP=>
 wV (.bool AE) (fun BQ=>
 rtB (sel BQ BP (.bool false)) fun AB=>
 grd AB (fun BR=>
 opt (zE P 43 AF AC) fun BS=>
 BR AF AT BS) (fun AG AU BT=>
 grd AB (fun BU=>
 opt (zE P 43 AG AH) fun BV=>
 BU AG AU BV) (fun AV AW BW=>
 grd AB (fun BX=>
 uL L 24 [BT,BW] AV AW (kp L 16 k (fo16 (.bool false)) [] u) fun Bb Bc Bd=>
 BX Bc Bd (.bool Bb)) (fun Be Bf Bg=>
 wV (.bool AB) (fun Bh=>
 rtB (sel Bh Bg (.bool false)) fun Bi=>
 zJ P L 16 k .ret (fo16 (.bool Bi)) (W.mk [] u Be Bf)) false) AV AW) AG AU) AF AT) false) AR AS) AP AQ) false) AN AO) AL AM) AJ AK
theorem F16_eq:EY0 16 hq0 F16:=fun _ _ _ _ _ _ _=>by kernel_rfl
theorem l16:yU P 16=true:=by kernel_rfl
theorem r16:xW P 16=some [.tmp 0]:=by kernel_rfl
theorem l5:yU P 5=true:=by kernel_rfl
theorem r5:xW P 5=some [.tmp 4]:=by kernel_rfl
noncomputable abbrev fo87(s2:Value):Fr:=gf21 ud ud s2 ud ud ud ud ud ud ud ud ud ud ud ud ud ud ud ud ud ud
noncomputable abbrev hint87:rD:=hq [(4,0,[(.int .u8)])]
noncomputable def F87:TY1:=fun L lp p0 df u h n k=>
 rtI .u8 p0 fun ap0=>
 fb (sQ 97 ap0) fun a1=>
 grd a1 (fun k2=>
 k2 h n (.int .u8 ap0)) (fun h3 n4 v5=>
 grd a1 (fun k6=>
 yB sQ P .leq 5 true v5 (.int .u8 122) fun Aa=>
 k6 h3 n4 (.bool Aa)) (fun h7 n8 v9=>
 rtB (sel a1 v9 (.bool false)) fun AB=>
 grd (nt AB) (fun Ac=>
 Ac h7 n8 (.int .u8 ap0)) (fun AJ AK Ad=>
 grd (nt AB) (fun Ae=>
 yB igeB P .geq 5 true Ad (.int .u8 65) fun Af=>
 Ae AJ AK (.bool Af)) (fun AL AM Ag=>
 grd (nt AB) (fun Ah=>
 Ah AL AM Ag) (fun AN AO AD=>
 grd (gv AD) (fun Ai=>
 Ai AN AO (.int .u8 ap0)) (fun AP AQ Aj=>
 grd (gv AD) (fun Ak=>
 yB sQ P .leq 5 true Aj (.int .u8 90) fun Al=>
 Ak AP AQ (.bool Al)) (fun AR AS Am=>
 grd (nt AB) (fun An=>
 wV AD (fun Ao=>
 rtB (sel Ao Am (.bool false)) fun Ap=>
 An AR AS (.bool Ap)) false) (fun AT AU Aq=>
 rtB (sel AB (.bool true) Aq) fun AE=>
 grd (nt AE) (fun Ar=>
 Ar AT AU (.int .u8 ap0)) (fun AV AW As=>
 grd (nt AE) (fun At=>
 yB xN P .eql 5 true As (.int .u8 95) fun Au=>
 At AV AW (.bool Au)) (fun Av Aw Ax=>
 rtB (sel AE (.bool true) Ax) fun Ay=>
 zJ P L 87 k .ret (fo87 (.bool Ay)) (W.mk [] u Av Aw)) AV AW) AT AU) AR AS) AP AQ) AN AO) AL AM) AJ AK) h7 n8) h3 n4) h n
theorem F87_eq:EY1 87 hint87 F87:=fun _ _ _ _ _ _ _ _=>by kernel_rfl
theorem l87:yU P 87=true:=by kernel_rfl
theorem r87:xW P 87=some [.tmp 2]:=by kernel_rfl
noncomputable abbrev fo88(s2:Value):Fr:=gf9 ud ud s2 ud ud ud ud ud ud
noncomputable abbrev hint88:rD:=hq [(4,0,[(.int .u8)])]
noncomputable def F88:TY1:=fun L lp p0 df u h n k=>
 rtI .u8 p0 fun ap0=>
 fb (sQ 48 ap0) fun a1=>
 grd a1 (fun k2=>
 k2 h n (.int .u8 ap0)) (fun h3 n4 v5=>
 grd a1 (fun k6=>
 yB sQ P .leq 5 true v5 (.int .u8 57) fun AH=>
 k6 h3 n4 (.bool AH)) (fun h7 n8 v9=>
 rtB (sel a1 v9 (.bool false)) fun AL=>
 zJ P L 88 k .ret (fo88 (.bool AL)) (W.mk [] u h7 n8)) h3 n4) h n
theorem F88_eq:EY1 88 hint88 F88:=fun _ _ _ _ _ _ _ _=>by kernel_rfl
theorem l88:yU P 88=true:=by kernel_rfl
theorem r88:xW P 88=some [.tmp 2]:=by kernel_rfl
noncomputable abbrev fo49(s2:Value):Fr:=gf38 ud ud s2 ud ud ud ud ud ud ud ud ud ud ud ud ud ud ud ud ud ud ud ud ud ud ud ud ud ud ud ud ud ud ud ud ud ud ud
noncomputable abbrev fj49_0(t:Fr)(s0 s2 s3 s4 s5 s17 s18 s19 s20 s21 s22 s23 s24 s25 s26 s27 s28 s29 s37:Value):Fr:=gf38 s0 (zA t 1) s2 s3 s4 s5 (zA t 6) (zA t 7) (zA t 8) (zA t 9) (zA t 10) (zA t 11) (zA t 12) (zA t 13) (zA t 14) (zA t 15) (zA t 16) s17 s18 s19 s20 s21 s22 s23 s24 s25 s26 s27 s28 s29 (zA t 30) (zA t 31) (zA t 32) (zA t 33) (zA t 34) (zA t 35) (zA t 36) s37
noncomputable abbrev hint49:rD:=hq [(0,1000005,[.val,.any,.any,.bool,(.int .i64)]),(1,0,[.any,.any,.any,.bool]),(1,1,[.val,.any,.any,.bool,(.int .i64)]),(2,0,[.val,.any,.any,.bool,(.int .i64)]),(2,2,[.val]),(2,10,[.val,.any,.any,.bool,(.int .i64)])]
noncomputable def F49:TY1:=fun L lp p0 df u h n k=>
 yB xN P .eql 9 true p0 (.string (ByteArray.mk #[])) fun a1=>
 grd (nt a1) (fun k2=>
 k2 h n p0) (fun h3 n4 v5=>
 grd (nt a1) (fun k6=>
 opt (zX P .len [9] [v5] h3) fun AS=>
 rtI .i64 AS fun AT=>
 k6 h3 n4 (.int .i64 AT)) (fun h7 n8 v9=>
 grd (nt a1) (fun AU=>
 yB igtB P .gtr 3 true v9 (.int .i64 20) fun AV=>
 AU h7 n8 (.bool AV)) (fun AJ AK AL=>
 rtB (sel a1 (.bool true) AL) fun AM=>
 br AM (
 zJ P L 49 k .ret (fo49 (.bool false)) (W.mk [] u AJ AK)) (
 opt (rF P 9 p0 (.int .i64 0)) fun AW=>
 rtI .u8 AW fun AO=>
 uL L 87 [(.int .u8 AO)] AJ AK (kp L 49 k (fo49 (.bool false)) [] u) fun AP Aa Ab=>
 lp 1000005 ⟨49,none,df⟩ (gf38 p0 ud (vb false) (vb AP) (vi 0) ud ud p0 (vb a1) (vb a1) v5 v9 AL (vb AM) p0 (.int .u8 AO) (vb AP) ud ud ud ud ud ud ud ud ud ud ud ud ud ud ud ud ud ud ud ud ud) (W.mk [] u Aa Ab) (pH noK (pI 0 (fun AA Ac=>
 rtB (zA AA 3) fun AD=>
 onW Ac fun Ad Ae Af Ag=>
 zJ P L 49 k .ret (fj49_0 AA (zA AA 0) (vb AD) (vb AD) (zA AA 4) (zA AA 5) (zA AA 17) (zA AA 18) (zA AA 19) (zA AA 20) (zA AA 21) (zA AA 22) (zA AA 23) (zA AA 24) (zA AA 25) (zA AA 26) (zA AA 27) (zA AA 28) (zA AA 29) (vb AD)) (W.mk Ad Ae Af Ag)) (zJ P L 49 k))))) h7 n8) h3 n4) h n
theorem F49_eq:EY1 49 hint49 F49:=fun _ _ _ _ _ _ _ _=>by kernel_rfl
noncomputable def B49_1000005:TYB:=fun L lp rd df t w ka=>
 zL (zA t 0) fun AA=>
 rtB (zA t 3) fun AI=>
 rtI .i64 (zA t 4) fun AB=>
 onW w fun AJ AK AO AS=>
 opt (zX P .len [9] [AA] AO) fun Ab=>
 rtI .i64 Ab fun AG=>
 fb (wB AB AG) fun AH=>
 br AH (
 pM (fun Ac=>
 opt (rF P 9 AA (.int .i64 AB)) fun Ad=>
 rtI .u8 Ad fun AL=>
 uL L 87 [(.int .u8 AL)] AO AS (kb ka (fj49_0 t AA (zA t 2) (vb AI) (vi AB) (zA t 5) (vi AB) AA (vi AG) (vb AH) (zA t 21) (zA t 22) AA (vi AB) (.int .u8 AL) (zA t 26) (zA t 27) (zA t 28) (zA t 29) (zA t 37)) AJ AK) fun AE Ah Ai=>
 opt (rF P 9 AA (.int .i64 AB)) fun Aj=>
 rtI .u8 Aj fun AN=>
 uL L 88 [(.int .u8 AN)] Ah Ai (kb ka (fj49_0 t AA (zA t 2) (vb AI) (vi AB) (vb AE) (vi AB) AA (vi AG) (vb AH) (zA t 21) (zA t 22) AA (vi AB) (.int .u8 AL) (vb AE) AA (vi AB) (.int .u8 AN) (zA t 37)) AJ AK) fun AM AT AU=>
 opt (aUn .not (.bool AE)) fun An=>
 rtB An fun AF=>
 grd AF (fun Ao=>
 Ao AT AU (.bool AM)) (fun AV AW AP=>
 grd AF (fun Ap=>
 opt (aUn .not AP) fun Aq=>
 rtB Aq fun Ar=>
 Ap AV AW (.bool Ar)) (fun AX AY AQ=>
 rtB (sel AF AQ (.bool false)) fun AR=>
 br AR (
 ka .ret (gf38 AA (zA t 1) (vb false) (vb AI) (vi AB) (vb AE) (vb AM) (zA t 7) (zA t 8) (zA t 9) (zA t 10) (zA t 11) (zA t 12) (zA t 13) (zA t 14) (zA t 15) (zA t 16) (vi AB) AA (vi AG) (vb AH) (zA t 21) (zA t 22) AA (vi AB) (.int .u8 AL) (vb AE) AA (vi AB) (.int .u8 AN) (vb AM) (vb AE) (vb AF) (vb AF) AP AQ (vb AR) (zA t 37)) (W.mk AJ AK AX AY)) (
 Ac (gf38 AA (zA t 1) (zA t 2) (vb AI) (vi AB) (vb AE) (vb AM) (zA t 7) (zA t 8) (zA t 9) (zA t 10) (zA t 11) (zA t 12) (zA t 13) (zA t 14) (zA t 15) (zA t 16) (vi AB) AA (vi AG) (vb AH) (zA t 21) (zA t 22) AA (vi AB) (.int .u8 AL) (vb AE) AA (vi AB) (.int .u8 AN) (vb AM) (vb AE) (vb AF) (vb AF) AP AQ (vb AR) (zA t 37)) (W.mk AJ AK AX AY))) AV AW) AT AU) (fun AC As=>
 zL (zA AC 0) fun At=>
 rtB (zA AC 3) fun Au=>
 rtI .i64 (zA AC 4) fun AZ=>
 onW As fun Av Aw Ax Ay=>
 fi (wH .i64 (uF AZ 1)) fun Aa=>
 lp 1000005 ⟨49,rd,df⟩ (fj49_0 AC At (zA AC 2) (vb Au) (vi Aa) (zA AC 5) (zA AC 17) (zA AC 18) (zA AC 19) (zA AC 20) (vi AZ) (vi Aa) (zA AC 23) (zA AC 24) (zA AC 25) (zA AC 26) (zA AC 27) (zA AC 28) (zA AC 29) (zA AC 37)) (W.mk Av Aw Ax Ay) ka)) (
 ka (.exit 0) (fj49_0 t AA (zA t 2) (vb AI) (vi AB) (zA t 5) (vi AB) AA (vi AG) (vb AH) (zA t 21) (zA t 22) (zA t 23) (zA t 24) (zA t 25) (zA t 26) (zA t 27) (zA t 28) (zA t 29) (zA t 37)) (W.mk AJ AK AO AS))
theorem B49_1000005_eq:EYB 49 1000005 hint49 B49_1000005:=fun _ _ _ _ _ _ _=>by kernel_rfl
theorem l49:yU P 49=true:=by kernel_rfl
theorem r49:xW P 49=some [.tmp 2]:=by kernel_rfl
theorem lp49_1000005:vC (yZ P 49 1000005)=true:=by kernel_rfl
noncomputable abbrev fo48(s2:Value):Fr:=gf26 ud ud s2 ud ud ud ud ud ud ud ud ud ud ud ud ud ud ud ud ud ud ud ud ud ud ud
noncomputable abbrev hint48:rD:=hq [(2,2,[(.int .i64)]),(2,3,[(.int .i64)]),(2,7,[.any,.any,.any,.val]),(4,0,[(.int .i64)])]
noncomputable def F48:TY1:=fun L lp p0 df u h n k=>
 rtI .i64 p0 fun ap0=>
 fb (wB ap0 0) fun a1=>
 br a1 (
 fb (xN ap0 (-9223372036854775808)) fun a2=>
 br a2 (
 zJ P L 48 k .ret (fo48 (.string (ByteArray.mk #[45,57,50,50,51,51,55,50,48,51,54,56,53,52,55,55,53,56,48,56]))) (W.mk [] u h n)) (
 opt (aUn .neg (.int .i64 ap0)) fun v3=>
 rtI .i64 v3 fun a4=>
 yO L 48 [(.int .i64 a4)] h n (fun c8 h9 AH=>
 zJ P L 48 k (.panic c8) (fo48 (.string (ByteArray.mk #[]))) (W.mk [] u h9 AH)) fun a5 h6 n7=>
 xY uF P .add 9 true (.string (ByteArray.mk #[45])) a5 fun AL=>
 zJ P L 48 k .ret (fo48 AL) (W.mk [] u h6 n7))) (
 opt (qBin P .rem 3 true (.int .i64 ap0) (.int .i64 10)) fun AM=>
 rtI .i64 AM fun AN=>
 opt (qBin P .rem 3 true (.int .i64 ap0) (.int .i64 10)) fun AO=>
 rtI .i64 AO fun AP=>
 fi (wH .i64 (uF AP 1)) fun AQ=>
 opt (uJ P h 9 (.string (ByteArray.mk #[48,49,50,51,52,53,54,55,56,57])) (some (.int .i64 AN)) (some (.int .i64 AQ)) none) fun AA=>
 fb (wB 9 ap0) fun AR=>
 br AR (
 opt (qBin P .quo 3 true (.int .i64 ap0) (.int .i64 10)) fun AS=>
 rtI .i64 AS fun AT=>
 yO L 48 [(.int .i64 AT)] h n (fun AU AV AW=>
 zJ P L 48 k (.panic AU) (fo48 (.string (ByteArray.mk #[]))) (W.mk [] u AV AW)) fun AX AY AZ=>
 xY uF P .add 9 false AX AA fun Aa=>
 zJ P L 48 k .ret (fo48 Aa) (W.mk [] u AY AZ)) (
 zJ P L 48 k .ret (fo48 AA) (W.mk [] u h n)))
theorem F48_eq:EY1 48 hint48 F48:=fun _ _ _ _ _ _ _ _=>by kernel_rfl
theorem l48:yU P 48=true:=by kernel_rfl
theorem r48:xW P 48=some [.tmp 2]:=by kernel_rfl
noncomputable abbrev fo50(s2:Value):Fr:=gf9 ud ud s2 ud ud ud ud ud ud
noncomputable abbrev hint50:rD:=hq [(4,0,[(.int .i64)])]
noncomputable def F50:TY1:=fun L lp p0 df u h n k=>
 rtI .i64 p0 fun ap0=>
 fb (sQ 0 ap0) fun a1=>
 grd a1 (fun k2=>
 k2 h n (.int .i64 ap0)) (fun h3 n4 v5=>
 grd a1 (fun k6=>
 yB sQ P .leq 3 true v5 (.int .i64 99999) fun AG=>
 k6 h3 n4 (.bool AG)) (fun h7 n8 v9=>
 rtB (sel a1 v9 (.bool false)) fun AK=>
 zJ P L 50 k .ret (fo50 (.bool AK)) (W.mk [] u h7 n8)) h3 n4) h n
theorem F50_eq:EY1 50 hint50 F50:=fun _ _ _ _ _ _ _ _=>by kernel_rfl
theorem l50:yU P 50=true:=by kernel_rfl
theorem r50:xW P 50=some [.tmp 2]:=by kernel_rfl
noncomputable abbrev fo107(s2:Value):Fr:=gf23 ud ud s2 ud ud ud ud ud ud ud ud ud ud ud ud ud ud ud ud ud ud ud ud
noncomputable def F107:TY1:=fun L lp p0 df u h n k=>
 uL L 49 [p0] h n (kp L 107 k (fo107 (.bool false)) [] u) fun a1 h2 n3=>
 grd a1 (fun k7=>
 k7 h2 n3 p0) (fun h8 n9 AY=>
 grd a1 (fun AZ=>
 yB pW P .neq 9 true AY (.string (ByteArray.mk #[99,111,110,115,116])) fun Aa=>
 AZ h8 n9 (.bool Aa)) (fun AI AJ Ab=>
 rtB (sel a1 Ab (.bool false)) fun AB=>
 grd AB (fun Ac=>
 Ac AI AJ p0) (fun AK AL Ad=>
 grd AB (fun Ae=>
 yB pW P .neq 9 true Ad (.string (ByteArray.mk #[99,111,112,121])) fun Af=>
 Ae AK AL (.bool Af)) (fun AM AN Ag=>
 rtB (sel AB Ag (.bool false)) fun AC=>
 grd AC (fun Ah=>
 Ah AM AN p0) (fun AO AP Ai=>
 grd AC (fun Aj=>
 yB pW P .neq 9 true Ai (.string (ByteArray.mk #[108,111,97,100])) fun Ak=>
 Aj AO AP (.bool Ak)) (fun AQ AR Al=>
 rtB (sel AC Al (.bool false)) fun AD=>
 grd AD (fun Am=>
 Am AQ AR p0) (fun AS AT An=>
 grd AD (fun Ao=>
 yB pW P .neq 9 true An (.string (ByteArray.mk #[99,97,108,108])) fun Ap=>
 Ao AS AT (.bool Ap)) (fun Aq Ar As=>
 rtB (sel AD As (.bool false)) fun At=>
 zJ P L 107 k .ret (fo107 (.bool At)) (W.mk [] u Aq Ar)) AS AT) AQ AR) AO AP) AM AN) AK AL) AI AJ) h8 n9) h2 n3
theorem F107_eq:EY1 107 hq0 F107:=fun _ _ _ _ _ _ _ _=>by kernel_rfl
theorem l107:yU P 107=true:=by kernel_rfl
theorem r107:xW P 107=some [.tmp 2]:=by kernel_rfl
noncomputable abbrev fo115(s2:Value):Fr:=gf5 ud ud s2 ud ud
noncomputable abbrev hint115:rD:=hq [(4,0,[(.int .i64)])]
noncomputable def F115:TY1:=fun L lp p0 df u h n k=>
 rtI .i64 p0 fun ap0=>
 yO L 48 [(.int .i64 ap0)] h n (fun c4 h5 n6=>
 zJ P L 115 k (.panic c4) (fo115 (.string (ByteArray.mk #[]))) (W.mk [] u h5 n6)) fun a1 h2 n3=>
 zJ P L 115 k .ret (fo115 a1) (W.mk [] u h2 n3)
theorem F115_eq:EY1 115 hint115 F115:=fun _ _ _ _ _ _ _ _=>by kernel_rfl
theorem l115:yU P 115=true:=by kernel_rfl
theorem r115:xW P 115=some [.tmp 2]:=by kernel_rfl
noncomputable abbrev fj61_0(t:Fr)(s0 s2 s3 s4 s5 s6 s7 s8 s9 s10 s19:Value):Fr:=gf20 s0 (zA t 1) s2 s3 s4 s5 s6 s7 s8 s9 s10 (zA t 11) (zA t 12) (zA t 13) (zA t 14) (zA t 15) (zA t 16) (zA t 17) (zA t 18) s19
noncomputable abbrev hint61:rD:=hq [(0,1000003,[.val,.any,.any,.val,(.int .i64)]),(1,0,[.any,.any,.any,.val]),(1,1,[.val,.any,.any,.val,(.int .i64)]),(2,0,[.val,.any,.any,.val,(.int .i64)])]
noncomputable def F61:TY1:=fun L lp p0 df u h n k=>
 lp 1000003 ⟨61,none,df⟩ (gf20 p0 ud (.string (ByteArray.mk #[])) (.string (ByteArray.mk #[])) (vi 0) ud ud ud ud ud ud ud ud ud ud ud ud ud ud ud) (W.mk [] u h n) (pH noK (pI 0 (fun t1 w2=>
 zL (zA t1 3) fun s3=>
 onW w2 fun d4 u5 h6 n7=>
 zJ P L 61 k .ret (fj61_0 t1 (zA t1 0) s3 s3 (zA t1 4) (zA t1 5) (zA t1 6) (zA t1 7) (zA t1 8) (zA t1 9) (zA t1 10) s3) (W.mk d4 u5 h6 n7)) (zJ P L 61 k)))
theorem F61_eq:EY1 61 hint61 F61:=fun _ _ _ _ _ _ _ _=>by kernel_rfl
noncomputable def B61_1000003:TYB:=fun L lp rd df t w ka=>
 zL (zA t 0) fun s8=>
 zL (zA t 3) fun s9=>
 rtI .i64 (zA t 4) fun AB=>
 onW w fun AH AI AE AM=>
 opt (zX P .len [40] [s8] AE) fun AR=>
 rtI .i64 AR fun AF=>
 fb (wB AB AF) fun AG=>
 br AG (
 pM (fun AS=>
 xY uF P .add 9 true s9 (.string (ByteArray.mk #[32])) fun AJ=>
 opt (zR P 40 s8 (.int .i64 AB)) fun AK=>
 opt (zE P 3 AE AK) fun AT=>
 rtI .i64 AT fun AL=>
 yO L 115 [(.int .i64 AL)] AE AM (kb ka (gf20 s8 (zA t 1) (zA t 2) s9 (vi AB) (vi AB) s8 (vi AF) (vb AG) (zA t 9) (zA t 10) s9 AJ s8 (vi AB) AK (vi AL) (zA t 17) (zA t 18) (zA t 19)) AH AI) fun AN AX AY=>
 xY uF P .add 9 false AJ AN fun AO=>
 AS (gf20 s8 (zA t 1) (zA t 2) AO (vi AB) (vi AB) s8 (vi AF) (vb AG) (zA t 9) (zA t 10) s9 AJ s8 (vi AB) AK (vi AL) AN AO (zA t 19)) (W.mk AH AI AX AY)) (fun AC AZ=>
 zL (zA AC 0) fun Aa=>
 zL (zA AC 3) fun Ab=>
 rtI .i64 (zA AC 4) fun AP=>
 onW AZ fun Ac Ad Ae Af=>
 fi (wH .i64 (uF AP 1)) fun AQ=>
 lp 1000003 ⟨61,rd,df⟩ (fj61_0 AC Aa (zA AC 2) Ab (vi AQ) (zA AC 5) (zA AC 6) (zA AC 7) (zA AC 8) (vi AP) (vi AQ) (zA AC 19)) (W.mk Ac Ad Ae Af) ka)) (
 ka (.exit 0) (fj61_0 t s8 (zA t 2) s9 (vi AB) (vi AB) s8 (vi AF) (vb AG) (zA t 9) (zA t 10) (zA t 19)) (W.mk AH AI AE AM))
theorem B61_1000003_eq:EYB 61 1000003 hint61 B61_1000003:=fun _ _ _ _ _ _ _=>by kernel_rfl
theorem l61:yU P 61=true:=by kernel_rfl
theorem r61:xW P 61=some [.tmp 2]:=by kernel_rfl
theorem lp61_1000003:vC (yZ P 61 1000003)=true:=by kernel_rfl
noncomputable abbrev fj106_2(t:Fr)(s1 s2 s3 s8 s17 s26 s27 s37 s38 s45 s46 s47 s48 s49 s50 s51 s52 s53 s54 s55 s56 s57 s58 s59 s60 s61 s62 s63 s64 s65 s66 s67 s68 s69 s70 s71 s72 s73 s74 s75 s76:Value):Fr:=gf78 (zA t 0) s1 s2 s3 (zA t 4) (zA t 5) (zA t 6) (zA t 7) s8 (zA t 9) (zA t 10) (zA t 11) (zA t 12) (zA t 13) (zA t 14) (zA t 15) (zA t 16) s17 (zA t 18) (zA t 19) (zA t 20) (zA t 21) (zA t 22) (zA t 23) (zA t 24) (zA t 25) s26 s27 (zA t 28) (zA t 29) (zA t 30) (zA t 31) (zA t 32) (zA t 33) (zA t 34) (zA t 35) (zA t 36) s37 s38 (zA t 39) (zA t 40) (zA t 41) (zA t 42) (zA t 43) (zA t 44) s45 s46 s47 s48 s49 s50 s51 s52 s53 s54 s55 s56 s57 s58 s59 s60 s61 s62 s63 s64 s65 s66 s67 s68 s69 s70 s71 s72 s73 s74 s75 s76 (zA t 77)
noncomputable abbrev fj106_0(t:Fr)(s1 s2 s3 s8 s17 s20 s21 s22 s23 s24 s25 s26 s27 s28 s29 s30 s31 s32 s33 s34 s35 s36 s37 s38 s39 s40 s41 s42 s43 s44 s77:Value):Fr:=gf78 (zA t 0) s1 s2 s3 (zA t 4) (zA t 5) (zA t 6) (zA t 7) s8 (zA t 9) (zA t 10) (zA t 11) (zA t 12) (zA t 13) (zA t 14) (zA t 15) (zA t 16) s17 (zA t 18) (zA t 19) s20 s21 s22 s23 s24 s25 s26 s27 s28 s29 s30 s31 s32 s33 s34 s35 s36 s37 s38 s39 s40 s41 s42 s43 s44 (zA t 45) (zA t 46) (zA t 47) (zA t 48) (zA t 49) (zA t 50) (zA t 51) (zA t 52) (zA t 53) (zA t 54) (zA t 55) (zA t 56) (zA t 57) (zA t 58) (zA t 59) (zA t 60) (zA t 61) (zA t 62) (zA t 63) (zA t 64) (zA t 65) (zA t 66) (zA t 67) (zA t 68) (zA t 69) (zA t 70) (zA t 71) (zA t 72) (zA t 73) (zA t 74) (zA t 75) (zA t 76) s77
noncomputable abbrev fj106_1(t:Fr)(s2 s3:Value):Fr:=fj106_0 t (zA t 1) s2 s3 (zA t 8) (zA t 17) (zA t 20) (zA t 21) (zA t 22) (zA t 23) (zA t 24) (zA t 25) (zA t 26) (zA t 27) (zA t 28) (zA t 29) (zA t 30) (zA t 31) (zA t 32) (zA t 33) (zA t 34) (zA t 35) (zA t 36) (zA t 37) (zA t 38) (zA t 39) (zA t 40) (zA t 41) (zA t 42) (zA t 43) (zA t 44) (zA t 77)
noncomputable abbrev hint106:rD:=hq [(1,0,[.any,.any,.val,.val]),(2,4,[.any,.any,.val,.val]),(2,7,[.any,.val,.val,.val,.any,.any,.any,.any,(.int .i64),.any,.any,.any,.any,.any,.any,.any,.any,.bool]),(2,8,[.any,.any,.val,.val]),(2,11,[.any,.any,.val,.val]),(2,15,[.any,.any,.val,.val]),(2,18,[.any,.any,.val,.val]),(2,22,[.any,.any,.val,.val]),(2,26,[.any,.any,.val,.val]),(2,28,[.any,.any,.val,.val])]
noncomputable def F106:TY1:=fun L lp p0 df u h n k=>
 eBox p0 h n fun h1 n2 v3=>
 tZ P 50 h1 n2 fun h4 n5 v6=>
 opt (zB P 50 0 v3) fun v7=>
 opt (zE P 3 h4 v7) fun v8=>
 rtI .i64 v8 fun a9=>
 opt (uZ P 50 [(0,(.int .i64 a9))]) fun AY=>
 tZ P 50 h4 n5 fun Bt Bu AS=>
 zW P 50 AS AY Bt Bu fun AU Ac Ds=>
 opt (zB P 50 0 v3) fun AZ=>
 opt (zE P 3 AU AZ) fun Bv=>
 rtI .i64 Bv fun AT=>
 pM (fun Bw=>
 fb (xN AT 1) fun AQ=>
 brJ AQ (fun Bx=>
 opt (zB P 50 1 v3) fun Am=>
 opt (zE P 3 AU Am) fun By=>
 rtI .i64 By fun An=>
 opt (zB P 50 1 AS) fun Ao=>
 zW P 3 Ao (.int .i64 An) AU Ac fun Ap Bz Dt=>
 opt (zB P 50 4 v3) fun Aq=>
 opt (zE P 3 Ap Aq) fun B0=>
 rtI .i64 B0 fun Ar=>
 opt (zB P 50 4 AS) fun As=>
 zW P 3 As (.int .i64 Ar) Ap Bz fun B1 B2 Du=>
 Bx (gf78 p0 v3 v6 AS v7 (vi a9) AY AZ (vi AT) (vb AQ) (vb AQ) Am (vi An) Ao Aq (vi Ar) As ud ud ud ud ud ud ud ud ud ud ud ud ud ud ud ud ud ud ud ud ud ud ud ud ud ud ud ud ud ud ud ud ud ud ud ud ud ud ud ud ud ud ud ud ud ud ud ud ud ud ud ud ud ud ud ud ud ud ud ud ud) (W.mk [] u B1 B2)) (fun B3=>
 fb (xN AT 2) fun Aa=>
 brJ Aa (fun B4=>
 B4 (gf78 p0 v3 v6 AS v7 (vi a9) AY AZ (vi AT) (vb AQ) (vb AQ) ud ud ud ud ud ud (vb Aa) (vb Aa) ud ud ud ud ud ud ud ud ud ud ud ud ud ud ud ud ud ud ud ud ud ud ud ud ud ud ud ud ud ud ud ud ud ud ud ud ud ud ud ud ud ud ud ud ud ud ud ud ud ud ud ud ud ud ud ud ud ud ud) (W.mk [] u AU Ac)) (fun B5=>
 fb (xN AT 4) fun At=>
 B5 (gf78 p0 v3 v6 AS v7 (vi a9) AY AZ (vi AT) (vb AQ) (vb AQ) ud ud ud ud ud ud (vb At) (vb Aa) (vb At) ud ud ud ud ud ud ud ud ud ud ud ud ud ud ud ud ud ud ud ud ud ud ud ud ud ud ud ud ud ud ud ud ud ud ud ud ud ud ud ud ud ud ud ud ud ud ud ud ud ud ud ud ud ud ud ud ud ud) (W.mk [] u AU Ac)) (fun AA B6=>
 zL (zA AA 1) fun AC=>
 zL (zA AA 2) fun AL=>
 zL (zA AA 3) fun AD=>
 rtI .i64 (zA AA 8) fun AG=>
 rtB (zA AA 17) fun AJ=>
 onW B6 fun AM AN AE AO=>
 brJ AJ (fun B7=>
 opt (zB P 50 1 AC) fun Au=>
 opt (zE P 3 AE Au) fun B8=>
 rtI .i64 B8 fun Av=>
 opt (zB P 50 1 AD) fun Aw=>
 zW P 3 Aw (.int .i64 Av) AE AO fun Ax B9 Dv=>
 opt (zB P 50 2 AC) fun Ay=>
 opt (zE P 3 Ax Ay) fun CA=>
 rtI .i64 CA fun Az=>
 opt (zB P 50 2 AD) fun A0=>
 zW P 3 A0 (.int .i64 Az) Ax B9 fun CB CC Dw=>
 B7 (fj106_0 AA AC AL AD (vi AG) (vb AJ) Au (vi Av) Aw Ay (vi Az) A0 (zA AA 26) (zA AA 27) (zA AA 28) (zA AA 29) (zA AA 30) (zA AA 31) (zA AA 32) (zA AA 33) (zA AA 34) (zA AA 35) (zA AA 36) (zA AA 37) (zA AA 38) (zA AA 39) (zA AA 40) (zA AA 41) (zA AA 42) (zA AA 43) (zA AA 44) (zA AA 77)) (W.mk AM AN CB CC)) (fun CD=>
 fb (xN AG 3) fun AF=>
 brJ AF (fun CE=>
 opt (zB P 50 1 AC) fun A1=>
 opt (zE P 3 AE A1) fun CF=>
 rtI .i64 CF fun A2=>
 opt (zB P 50 1 AD) fun A3=>
 zW P 3 A3 (.int .i64 A2) AE AO fun A4 CG Dx=>
 opt (zB P 50 5 AC) fun A5=>
 opt (zE P 9 A4 A5) fun A6=>
 opt (zB P 50 5 AD) fun A7=>
 zW P 9 A7 A6 A4 CG fun A8 CH Dy=>
 opt (zB P 50 6 AC) fun A9=>
 opt (zE P 40 A8 A9) fun BA=>
 opt (zB P 50 6 AD) fun BB=>
 zW P 40 BB BA A8 CH fun CI CJ Dz=>
 CE (fj106_0 AA AC AL AD (vi AG) (vb AJ) (zA AA 20) (zA AA 21) (zA AA 22) (zA AA 23) (zA AA 24) (zA AA 25) (vb AF) (vb AF) A1 (vi A2) A3 A5 A6 A7 A9 BA BB (zA AA 37) (zA AA 38) (zA AA 39) (zA AA 40) (zA AA 41) (zA AA 42) (zA AA 43) (zA AA 44) (zA AA 77)) (W.mk AM AN CI CJ)) (fun CK=>
 fb (xN AG 5) fun AH=>
 brJ AH (fun CL=>
 opt (zB P 50 2 AC) fun BC=>
 opt (zE P 3 AE BC) fun CM=>
 rtI .i64 CM fun BD=>
 opt (zB P 50 2 AD) fun BE=>
 zW P 3 BE (.int .i64 BD) AE AO fun BF CN D0=>
 opt (zB P 50 3 AC) fun BG=>
 opt (zE P 3 BF BG) fun CO=>
 rtI .i64 CO fun BH=>
 opt (zB P 50 3 AD) fun BI=>
 zW P 3 BI (.int .i64 BH) BF CN fun CP CQ D1=>
 CL (fj106_0 AA AC AL AD (vi AG) (vb AJ) (zA AA 20) (zA AA 21) (zA AA 22) (zA AA 23) (zA AA 24) (zA AA 25) (vb AF) (vb AF) (zA AA 28) (zA AA 29) (zA AA 30) (zA AA 31) (zA AA 32) (zA AA 33) (zA AA 34) (zA AA 35) (zA AA 36) (vb AH) (vb AH) BC (vi BD) BE BG (vi BH) BI (zA AA 77)) (W.mk AM AN CP CQ)) (fun CR=>
 fb (xN AG 6) fun AI=>
 brJ AI (fun CS=>
 opt (zB P 50 1 AC) fun BJ=>
 opt (zE P 3 AE BJ) fun CT=>
 rtI .i64 CT fun BK=>
 opt (zB P 50 1 AD) fun BL=>
 zW P 3 BL (.int .i64 BK) AE AO fun BM CU D2=>
 opt (zB P 50 5 AC) fun BN=>
 opt (zE P 9 BM BN) fun BO=>
 opt (zB P 50 5 AD) fun BP=>
 zW P 9 BP BO BM CU fun BQ CV D3=>
 opt (zB P 50 6 AC) fun BR=>
 opt (zE P 40 BQ BR) fun BS=>
 opt (zB P 50 6 AD) fun BT=>
 zW P 40 BT BS BQ CV fun CW CX D4=>
 CS (fj106_2 AA AC AL AD (vi AG) (vb AJ) (vb AF) (vb AF) (vb AH) (vb AH) (vb AI) (vb AI) BJ (vi BK) BL BN BO BP BR BS BT (zA AA 56) (zA AA 57) (zA AA 58) (zA AA 59) (zA AA 60) (zA AA 61) (zA AA 62) (zA AA 63) (zA AA 64) (zA AA 65) (zA AA 66) (zA AA 67) (zA AA 68) (zA AA 69) (zA AA 70) (zA AA 71) (zA AA 72) (zA AA 73) (zA AA 74) (zA AA 75) (zA AA 76)) (W.mk AM AN CW CX)) (fun CY=>
 fb (xN AG 7) fun AK=>
 brJ AK (fun CZ=>
 opt (zB P 50 2 AC) fun BU=>
 opt (zE P 3 AE BU) fun Ca=>
 rtI .i64 Ca fun BV=>
 opt (zB P 50 2 AD) fun BW=>
 zW P 3 BW (.int .i64 BV) AE AO fun BX Cb D5=>
 opt (zB P 50 7 AC) fun BY=>
 opt (zE P 3 BX BY) fun Cc=>
 rtI .i64 Cc fun BZ=>
 opt (zB P 50 7 AD) fun Ba=>
 zW P 3 Ba (.int .i64 BZ) BX Cb fun Bb Cd D6=>
 opt (zB P 50 8 AC) fun Bc=>
 opt (zE P 3 Bb Bc) fun Ce=>
 rtI .i64 Ce fun Bd=>
 opt (zB P 50 8 AD) fun Be=>
 zW P 3 Be (.int .i64 Bd) Bb Cd fun Cf Cg D7=>
 CZ (fj106_2 AA AC AL AD (vi AG) (vb AJ) (vb AF) (vb AF) (vb AH) (vb AH) (vb AI) (vb AI) (zA AA 47) (zA AA 48) (zA AA 49) (zA AA 50) (zA AA 51) (zA AA 52) (zA AA 53) (zA AA 54) (zA AA 55) (vb AK) (vb AK) BU (vi BV) BW BY (vi BZ) Ba Bc (vi Bd) Be (zA AA 67) (zA AA 68) (zA AA 69) (zA AA 70) (zA AA 71) (zA AA 72) (zA AA 73) (zA AA 74) (zA AA 75) (zA AA 76)) (W.mk AM AN Cf Cg)) (fun Ch=>
 fb (xN AG 8) fun AR=>
 brJ AR (fun Ci=>
 opt (zB P 50 7 AC) fun Bf=>
 opt (zE P 3 AE Bf) fun Cj=>
 rtI .i64 Cj fun Bg=>
 opt (zB P 50 7 AD) fun Bh=>
 zW P 3 Bh (.int .i64 Bg) AE AO fun Ck Cl D8=>
 Ci (fj106_2 AA AC AL AD (vi AG) (vb AJ) (vb AF) (vb AF) (vb AH) (vb AH) (vb AI) (vb AI) (zA AA 47) (zA AA 48) (zA AA 49) (zA AA 50) (zA AA 51) (zA AA 52) (zA AA 53) (zA AA 54) (zA AA 55) (vb AK) (vb AK) (zA AA 58) (zA AA 59) (zA AA 60) (zA AA 61) (zA AA 62) (zA AA 63) (zA AA 64) (zA AA 65) (zA AA 66) (vb AR) (vb AR) Bf (vi Bg) Bh (zA AA 72) (zA AA 73) (zA AA 74) (zA AA 75) (zA AA 76)) (W.mk AM AN Ck Cl)) (fun Cm=>
 fb (xN AG 9) fun AV=>
 brJ AV (fun Cn=>
 opt (zB P 50 2 AC) fun Bi=>
 opt (zE P 3 AE Bi) fun Co=>
 rtI .i64 Co fun Bj=>
 opt (zB P 50 2 AD) fun Bk=>
 zW P 3 Bk (.int .i64 Bj) AE AO fun Cp Cq D9=>
 Cn (fj106_2 AA AC AL AD (vi AG) (vb AJ) (vb AF) (vb AF) (vb AH) (vb AH) (vb AI) (vb AI) (zA AA 47) (zA AA 48) (zA AA 49) (zA AA 50) (zA AA 51) (zA AA 52) (zA AA 53) (zA AA 54) (zA AA 55) (vb AK) (vb AK) (zA AA 58) (zA AA 59) (zA AA 60) (zA AA 61) (zA AA 62) (zA AA 63) (zA AA 64) (zA AA 65) (zA AA 66) (vb AR) (vb AR) (zA AA 69) (zA AA 70) (zA AA 71) (vb AV) (vb AV) Bi (vi Bj) Bk) (W.mk AM AN Cp Cq)) (fun Cr=>
 Cr (fj106_2 AA AC AL AD (vi AG) (vb AJ) (vb AF) (vb AF) (vb AH) (vb AH) (vb AI) (vb AI) (zA AA 47) (zA AA 48) (zA AA 49) (zA AA 50) (zA AA 51) (zA AA 52) (zA AA 53) (zA AA 54) (zA AA 55) (vb AK) (vb AK) (zA AA 58) (zA AA 59) (zA AA 60) (zA AA 61) (zA AA 62) (zA AA 63) (zA AA 64) (zA AA 65) (zA AA 66) (vb AR) (vb AR) (zA AA 69) (zA AA 70) (zA AA 71) (vb AV) (vb AV) (zA AA 74) (zA AA 75) (zA AA 76)) (W.mk AM AN AE AO)) (fun Ad Cs=>
 zL (zA Ad 2) fun Ct=>
 zL (zA Ad 3) fun Cu=>
 onW Cs fun Cv Cw Cx Cy=>
 Cm (fj106_1 Ad Ct Cu) (W.mk Cv Cw Cx Cy))) (fun Ae Cz=>
 zL (zA Ae 2) fun C0=>
 zL (zA Ae 3) fun C1=>
 onW Cz fun C2 C3 C4 C5=>
 Ch (fj106_1 Ae C0 C1) (W.mk C2 C3 C4 C5))) (fun Af C6=>
 zL (zA Af 2) fun C7=>
 zL (zA Af 3) fun C8=>
 onW C6 fun C9 DA DB DC=>
 CY (fj106_1 Af C7 C8) (W.mk C9 DA DB DC))) (fun Ag DD=>
 zL (zA Ag 2) fun DE=>
 zL (zA Ag 3) fun DF=>
 onW DD fun DG DH DI DJ=>
 CR (fj106_1 Ag DE DF) (W.mk DG DH DI DJ))) (fun Ah DK=>
 zL (zA Ah 2) fun DL=>
 zL (zA Ah 3) fun DM=>
 onW DK fun DN DO DP DQ=>
 CK (fj106_1 Ah DL DM) (W.mk DN DO DP DQ))) (fun Ai DR=>
 zL (zA Ai 2) fun DS=>
 zL (zA Ai 3) fun DT=>
 onW DR fun DU DV DW DX=>
 CD (fj106_1 Ai DS DT) (W.mk DU DV DW DX))) (fun Aj DY=>
 zL (zA Aj 2) fun DZ=>
 zL (zA Aj 3) fun Da=>
 onW DY fun Db Dc Dd De=>
 B3 (fj106_1 Aj DZ Da) (W.mk Db Dc Dd De)))) (fun Ak Df=>
 zL (zA Ak 2) fun Dg=>
 zL (zA Ak 3) fun Dh=>
 onW Df fun Di Dj Dk Dl=>
 Bw (fj106_1 Ak Dg Dh) (W.mk Di Dj Dk Dl))) (fun AB Dm=>
 zL (zA AB 2) fun Bl=>
 zL (zA AB 3) fun Bm=>
 onW Dm fun Dn Do Bn Dp=>
 opt (zE P 50 Bn Bm) fun Bo=>
 zW P 50 Bl Bo Bn Dp fun Dq Dr EA=>
 zJ P L 106 k .ret (fj106_0 AB (zA AB 1) Bl Bm (zA AB 8) (zA AB 17) (zA AB 20) (zA AB 21) (zA AB 22) (zA AB 23) (zA AB 24) (zA AB 25) (zA AB 26) (zA AB 27) (zA AB 28) (zA AB 29) (zA AB 30) (zA AB 31) (zA AB 32) (zA AB 33) (zA AB 34) (zA AB 35) (zA AB 36) (zA AB 37) (zA AB 38) (zA AB 39) (zA AB 40) (zA AB 41) (zA AB 42) (zA AB 43) (zA AB 44) Bo) (W.mk Dn Do Dq Dr))
theorem F106_eq:EY1 106 hint106 F106:=fun _ _ _ _ _ _ _ _=>by kernel_rfl
theorem l106:yU P 106=true:=by kernel_rfl
theorem r106:xW P 106=some [.cell 2 50]:=by kernel_rfl
noncomputable abbrev fo51(s2:Value):Fr:=gf92 ud ud s2 ud ud ud ud ud ud ud ud ud ud ud ud ud ud ud ud ud ud ud ud ud ud ud ud ud ud ud ud ud ud ud ud ud ud ud ud ud ud ud ud ud ud ud ud ud ud ud ud ud ud ud ud ud ud ud ud ud ud ud ud ud ud ud ud ud ud ud ud ud ud ud ud ud ud ud ud ud ud ud ud ud ud ud ud ud ud ud ud ud
noncomputable abbrev fj51_0(t:Fr)(s1 s2 s4 s5 s6 s7 s54 s55 s56 s57 s58 s59 s60 s61 s62 s63 s64 s65 s66 s67 s68 s69 s70 s71 s72 s73 s74 s75 s76 s77 s78 s79 s80 s81 s82 s83 s84 s85 s86 s87 s88 s89 s90 s91:Value):Fr:=gf92 (zA t 0) s1 s2 (zA t 3) s4 s5 s6 s7 (zA t 8) (zA t 9) (zA t 10) (zA t 11) (zA t 12) (zA t 13) (zA t 14) (zA t 15) (zA t 16) (zA t 17) (zA t 18) (zA t 19) (zA t 20) (zA t 21) (zA t 22) (zA t 23) (zA t 24) (zA t 25) (zA t 26) (zA t 27) (zA t 28) (zA t 29) (zA t 30) (zA t 31) (zA t 32) (zA t 33) (zA t 34) (zA t 35) (zA t 36) (zA t 37) (zA t 38) (zA t 39) (zA t 40) (zA t 41) (zA t 42) (zA t 43) (zA t 44) (zA t 45) (zA t 46) (zA t 47) (zA t 48) (zA t 49) (zA t 50) (zA t 51) (zA t 52) (zA t 53) s54 s55 s56 s57 s58 s59 s60 s61 s62 s63 s64 s65 s66 s67 s68 s69 s70 s71 s72 s73 s74 s75 s76 s77 s78 s79 s80 s81 s82 s83 s84 s85 s86 s87 s88 s89 s90 s91
noncomputable abbrev hint51:rD:=hq [(0,1000010,[.any,.val,.any,.any,.val,(.int .i64)]),(1,0,[.any,.val]),(1,1,[.any,.val,.any,.any,.val,(.int .i64)]),(2,0,[.any,.val,.any,.any,.val,(.int .i64)]),(2,2,[.any,.val]),(2,5,[.any,.val]),(2,8,[.any,.val,.any,.any,.val]),(2,14,[.any,.val,.any,.any,.val,(.int .i64)])]
noncomputable def F51:TY1:=fun L lp p0 df u h n k=>
 eBox p0 h n fun h1 n2 v3=>
 opt (zB P 50 0 v3) fun v4=>
 opt (zE P 3 h1 v4) fun v5=>
 rtI .i64 v5 fun a6=>
 fb (wB a6 1) fun a7=>
 grd (nt a7) (fun k8=>
 opt (zB P 50 0 v3) fun B9=>
 k8 h1 n2 B9) (fun h9 BN Ae=>
 grd (nt a7) (fun CA=>
 opt (zE P 3 h9 Ae) fun CB=>
 rtI .i64 CB fun CC=>
 CA h9 BN (.int .i64 CC)) (fun BO BP Af=>
 grd (nt a7) (fun CD=>
 yB igtB P .gtr 3 true Af (.int .i64 9) fun CE=>
 CD BO BP (.bool CE)) (fun BQ BR Ag=>
 rtB (sel a7 (.bool true) Ag) fun AH=>
 grd (nt AH) (fun CF=>
 opt (zB P 50 6 v3) fun CG=>
 CF BQ BR CG) (fun Ah BS Ai=>
 grd (nt AH) (fun CH=>
 opt (zE P 40 Ah Ai) fun CI=>
 CH Ah BS CI) (fun Aj BT Ak=>
 grd (nt AH) (fun CJ=>
 opt (zX P .len [40] [Ak] Aj) fun CK=>
 rtI .i64 CK fun CL=>
 CJ Aj BT (.int .i64 CL)) (fun BU BV Al=>
 grd (nt AH) (fun CM=>
 yB igtB P .gtr 3 true Al (.int .i64 16) fun CN=>
 CM BU BV (.bool CN)) (fun AR AS Am=>
 rtB (sel AH (.bool true) Am) fun An=>
 br An (
 zJ P L 51 k .ret (fo51 (.bool false)) (W.mk [] u AR AS)) (
 opt (zE P 50 AR v3) fun Ao=>
 yO L 106 [Ao] AR AS (fun DY DZ Da=>
 false) fun Ap AY AT=>
 gt (Nat.ble AS AT) (
 opt (zE P 50 AY v3) fun AU=>
 uL L 105 [AU,Ap] AY AT (fun CO CP CQ=>
 gt (lks [(W.mk [] u AY AT),(W.mk [] u AR AS)] [⟨true,(lkQ (fun Aq=>zE P 50 Aq v3) v3 AU),0,1⟩]) (
 zJ P L 51 k (.panic CO) (fo51 (.bool false)) (W.mk [] u CP CQ))) fun AK AL AZ=>
 gt (Nat.ble AT AZ) (
 gt (lks [(W.mk [] u AL AZ),(W.mk [] u AY AT),(W.mk [] u AR AS)] [⟨true,(lkQ (fun Aq=>zE P 50 Aq v3) v3 AU),0,1⟩]) (
 opt (aUn .not (.bool AK)) fun CR=>
 rtB CR fun Ar=>
 br Ar (
 zJ P L 51 k .ret (fo51 (.bool false)) (W.mk [] u AL AZ)) (
 opt (zB P 50 2 v3) fun As=>
 opt (zE P 3 AL As) fun CS=>
 rtI .i64 CS fun At=>
 opt (zB P 50 3 v3) fun Au=>
 opt (zE P 3 AL Au) fun CT=>
 rtI .i64 CT fun Av=>
 opt (zB P 50 7 v3) fun Aw=>
 opt (zE P 3 AL Aw) fun CU=>
 rtI .i64 CU fun Ax=>
 opt (zB P 50 8 v3) fun Ay=>
 opt (zE P 3 AL Ay) fun CV=>
 rtI .i64 CV fun Az=>
 zS P 40 4 [(0,(.int .i64 At)),(1,(.int .i64 Av)),(2,(.int .i64 Ax)),(3,(.int .i64 Az))] AL AZ fun BW CW A0=>
 opt (zB P 50 6 v3) fun A1=>
 opt (zE P 40 BW A1) fun A2=>
 wD P [40,40] [A0,A2] BW CW fun A3 BX AV=>
 opt (zB P 50 0 v3) fun A4=>
 opt (zE P 3 A3 A4) fun CX=>
 rtI .i64 CX fun A5=>
 fb (xN A5 6) fun AJ=>
 grd AJ (fun CY=>
 opt (zB P 50 1 v3) fun CZ=>
 CY A3 BX CZ) (fun A6 BY A7=>
 grd AJ (fun Ca=>
 opt (zE P 3 A6 A7) fun Cb=>
 rtI .i64 Cb fun Cc=>
 Ca A6 BY (.int .i64 Cc)) (fun BZ Ba A8=>
 grd AJ (fun Cd=>
 yB xN P .eql 3 true A8 (.int .i64 (-1)) fun Ce=>
 Cd BZ Ba (.bool Ce)) (fun A9 Bb BA=>
 rtB (sel AJ BA (.bool false)) fun BB=>
 opt (aUn .not (.bool BB)) fun Cf=>
 rtB Cf fun BC=>
 brJ BC (fun Cg=>
 opt (zB P 50 1 v3) fun Bc=>
 opt (zE P 3 A9 Bc) fun Ch=>
 rtI .i64 Ch fun Bd=>
 zS P 40 1 [(0,(.int .i64 Bd))] A9 Bb fun Ci Cj Be=>
 wD P [40,40] [AV,Be] Ci Cj fun Ck Cl Bf=>
 Cg (gf92 p0 v3 (vb false) (vb AK) Bf ud ud ud v4 (vi a6) (vb a7) (vb a7) Ae Af Ag (vb AH) (vb AH) Ai Ak Al Am (vb An) AU Ao Ap (vb AK) (vb AK) (vb Ar) As (vi At) Au (vi Av) Aw (vi Ax) Ay (vi Az) A0 A1 A2 AV A4 (vi A5) (vb AJ) (vb AJ) A7 A8 BA (vb BB) (vb BC) AV Bc (vi Bd) Be Bf ud ud ud ud ud ud ud ud ud ud ud ud ud ud ud ud ud ud ud ud ud ud ud ud ud ud ud ud ud ud ud ud ud ud ud ud ud ud) (W.mk [] u Ck Cl)) (fun Cm=>
 Cm (gf92 p0 v3 (vb false) (vb AK) AV ud ud ud v4 (vi a6) (vb a7) (vb a7) Ae Af Ag (vb AH) (vb AH) Ai Ak Al Am (vb An) AU Ao Ap (vb AK) (vb AK) (vb Ar) As (vi At) Au (vi Av) Aw (vi Ax) Ay (vi Az) A0 A1 A2 AV A4 (vi A5) (vb AJ) (vb AJ) A7 A8 BA (vb BB) (vb BC) ud ud ud ud ud ud ud ud ud ud ud ud ud ud ud ud ud ud ud ud ud ud ud ud ud ud ud ud ud ud ud ud ud ud ud ud ud ud ud ud ud ud ud) (W.mk [] u A9 Bb)) (fun AB Cn=>
 zL (zA AB 1) fun Co=>
 zL (zA AB 4) fun Cp=>
 onW Cn fun Cq Cr Cs Ct=>
 lp 1000010 ⟨51,none,df⟩ (fj51_0 AB Co (zA AB 2) Cp (vi 0) (zA AB 6) (zA AB 7) (zA AB 54) (zA AB 55) (zA AB 56) (zA AB 57) (zA AB 58) (zA AB 59) (zA AB 60) (zA AB 61) (zA AB 62) (zA AB 63) (zA AB 64) (zA AB 65) (zA AB 66) (zA AB 67) (zA AB 68) (zA AB 69) (zA AB 70) (zA AB 71) (zA AB 72) (zA AB 73) (zA AB 74) (zA AB 75) (zA AB 76) (zA AB 77) (zA AB 78) (zA AB 79) (zA AB 80) (zA AB 81) (zA AB 82) (zA AB 83) (zA AB 84) (zA AB 85) (zA AB 86) (zA AB 87) (zA AB 88) (zA AB 89) (zA AB 90) (zA AB 91)) (W.mk Cq Cr Cs Ct) (pH noK (pI 0 (fun AA Cu=>
 zL (zA AA 1) fun AG=>
 onW Cu fun AW AX AO BD=>
 opt (zB P 50 0 AG) fun AP=>
 opt (zE P 3 AO AP) fun Cv=>
 rtI .i64 Cv fun AM=>
 pM (fun Cw=>
 fb (xN AM 3) fun AE=>
 br AE (
 opt (zB P 50 5 AG) fun BE=>
 opt (zE P 9 AO BE) fun BF=>
 uL L 107 [BF] AO BD (kp L 51 k (fj51_0 AA AG (zA AA 2) (zA AA 4) (zA AA 5) (zA AA 6) (zA AA 7) (zA AA 54) (zA AA 55) (zA AA 56) (zA AA 57) (zA AA 58) (zA AA 59) (zA AA 60) (zA AA 61) (zA AA 62) (zA AA 63) (zA AA 64) (zA AA 65) (zA AA 66) AP (vi AM) (vb AE) (vb AE) BE BF (zA AA 73) (zA AA 74) (zA AA 75) (zA AA 76) (zA AA 77) (zA AA 78) (zA AA 79) (zA AA 80) (zA AA 81) (zA AA 82) (zA AA 83) (zA AA 84) (zA AA 85) (zA AA 86) (zA AA 87) (zA AA 88) (zA AA 89) (zA AA 90) (zA AA 91)) AW AX) fun AF Bg Bh=>
 grd AF (fun C0=>
 opt (zB P 50 6 AG) fun C1=>
 C0 Bg Bh C1) (fun BG Bi Bj=>
 grd AF (fun C2=>
 opt (zE P 40 BG Bj) fun C3=>
 C2 BG Bi C3) (fun BH Bk Bl=>
 grd AF (fun C4=>
 opt (zX P .len [40] [Bl] BH) fun C5=>
 rtI .i64 C5 fun C6=>
 C4 BH Bk (.int .i64 C6)) (fun Bm Bn Bo=>
 grd AF (fun C7=>
 yB xN P .eql 3 true Bo (.int .i64 1) fun C8=>
 C7 Bm Bn (.bool C8)) (fun Bp Bq Br=>
 grd AF (fun C9=>
 C9 Bp Bq Br) (fun Bs Bt AQ=>
 grd (gnv AQ) (fun DA=>
 opt (zB P 50 6 AG) fun DB=>
 DA Bs Bt DB) (fun BI Bu Bv=>
 grd (gnv AQ) (fun DC=>
 opt (zE P 40 BI Bv) fun DD=>
 DC BI Bu DD) (fun BJ Bw Bx=>
 grd (gnv AQ) (fun DE=>
 opt (zX P .len [40] [Bx] BJ) fun DF=>
 rtI .i64 DF fun DG=>
 DE BJ Bw (.int .i64 DG)) (fun By Bz B0=>
 grd (gnv AQ) (fun DH=>
 yB xN P .eql 3 true B0 (.int .i64 2) fun DI=>
 DH By Bz (.bool DI)) (fun B1 B2 B3=>
 grd AF (fun DJ=>
 wV AQ (fun DK=>
 rtB (sel DK (.bool true) B3) fun DL=>
 DJ B1 B2 (.bool DL)) false) (fun DM DN B4=>
 rtB (sel AF B4 (.bool false)) fun B5=>
 zJ P L 51 k .ret (fj51_0 AA AG (vb B5) (zA AA 4) (zA AA 5) (zA AA 6) (vb AF) (zA AA 54) (zA AA 55) (zA AA 56) (zA AA 57) (zA AA 58) (zA AA 59) (zA AA 60) (zA AA 61) (zA AA 62) (zA AA 63) (zA AA 64) (zA AA 65) (zA AA 66) AP (vi AM) (vb AE) (vb AE) BE BF (vb AF) (vb AF) (vb AF) Bj Bl Bo Br AQ Bv Bx B0 B3 B4 (vb B5) (zA AA 87) (zA AA 88) (zA AA 89) (zA AA 90) (zA AA 91)) (W.mk AW AX DM DN)) B1 B2) By Bz) BJ Bw) BI Bu) Bs Bt) Bp Bq) Bm Bn) BH Bk) BG Bi) Bg Bh) (
 fb (xN AM 6) fun AN=>
 br AN (
 opt (zB P 50 5 AG) fun BK=>
 opt (zE P 9 AO BK) fun BL=>
 uL L 49 [BL] AO BD (kp L 51 k (fj51_0 AA AG (zA AA 2) (zA AA 4) (zA AA 5) (zA AA 6) (zA AA 7) (zA AA 54) (zA AA 55) (zA AA 56) (zA AA 57) (zA AA 58) (zA AA 59) (zA AA 60) (zA AA 61) (zA AA 62) (zA AA 63) (zA AA 64) (zA AA 65) (zA AA 66) AP (vi AM) (vb AE) (vb AE) (zA AA 71) (zA AA 72) (zA AA 73) (zA AA 74) (zA AA 75) (zA AA 76) (zA AA 77) (zA AA 78) (zA AA 79) (zA AA 80) (zA AA 81) (zA AA 82) (zA AA 83) (zA AA 84) (zA AA 85) (zA AA 86) (vb AN) (vb AN) BK BL (zA AA 91)) AW AX) fun B6 DR DS=>
 zJ P L 51 k .ret (fj51_0 AA AG (vb B6) (zA AA 4) (zA AA 5) (zA AA 6) (zA AA 7) (zA AA 54) (zA AA 55) (zA AA 56) (zA AA 57) (zA AA 58) (zA AA 59) (zA AA 60) (zA AA 61) (zA AA 62) (zA AA 63) (zA AA 64) (zA AA 65) (zA AA 66) AP (vi AM) (vb AE) (vb AE) (zA AA 71) (zA AA 72) (zA AA 73) (zA AA 74) (zA AA 75) (zA AA 76) (zA AA 77) (zA AA 78) (zA AA 79) (zA AA 80) (zA AA 81) (zA AA 82) (zA AA 83) (zA AA 84) (zA AA 85) (zA AA 86) (vb AN) (vb AN) BK BL (vb B6)) (W.mk AW AX DR DS)) (
 Cw (fj51_0 AA AG (zA AA 2) (zA AA 4) (zA AA 5) (zA AA 6) (zA AA 7) (zA AA 54) (zA AA 55) (zA AA 56) (zA AA 57) (zA AA 58) (zA AA 59) (zA AA 60) (zA AA 61) (zA AA 62) (zA AA 63) (zA AA 64) (zA AA 65) (zA AA 66) AP (vi AM) (vb AE) (vb AE) (zA AA 71) (zA AA 72) (zA AA 73) (zA AA 74) (zA AA 75) (zA AA 76) (zA AA 77) (zA AA 78) (zA AA 79) (zA AA 80) (zA AA 81) (zA AA 82) (zA AA 83) (zA AA 84) (zA AA 85) (zA AA 86) (vb AN) (vb AN) (zA AA 89) (zA AA 90) (zA AA 91)) (W.mk AW AX AO BD)))) (fun AC DT=>
 onW DT fun DU DV DW DX=>
 zJ P L 51 k .ret (fj51_0 AC (zA AC 1) (vb true) (zA AC 4) (zA AC 5) (zA AC 6) (zA AC 7) (zA AC 54) (zA AC 55) (zA AC 56) (zA AC 57) (zA AC 58) (zA AC 59) (zA AC 60) (zA AC 61) (zA AC 62) (zA AC 63) (zA AC 64) (zA AC 65) (zA AC 66) (zA AC 67) (zA AC 68) (zA AC 69) (zA AC 70) (zA AC 71) (zA AC 72) (zA AC 73) (zA AC 74) (zA AC 75) (zA AC 76) (zA AC 77) (zA AC 78) (zA AC 79) (zA AC 80) (zA AC 81) (zA AC 82) (zA AC 83) (zA AC 84) (zA AC 85) (zA AC 86) (zA AC 87) (zA AC 88) (zA AC 89) (zA AC 90) (zA AC 91)) (W.mk DU DV DW DX))) (zJ P L 51 k))))) BZ Ba) A6 BY) A3 BX)))))) BU BV) Aj BT) Ah BS) BQ BR) BO BP) h9 BN) h1 n2
theorem F51_eq:EY1 51 hint51 F51:=fun _ _ _ _ _ _ _ _=>by kernel_rfl
noncomputable def B51_1000010:TYB:=fun L lp rd df t w ka=>
 zL (zA t 1) fun AG=>
 zL (zA t 4) fun AB=>
 rtI .i64 (zA t 5) fun AC=>
 onW w fun AH AI AJ AN=>
 opt (zX P .len [40] [AB] AJ) fun AS=>
 rtI .i64 AS fun AE=>
 fb (wB AC AE) fun AF=>
 br AF (
 pM (fun AT=>
 opt (zR P 40 AB (.int .i64 AC)) fun AK=>
 opt (zE P 3 AJ AK) fun AU=>
 rtI .i64 AU fun AL=>
 uL L 50 [(.int .i64 AL)] AJ AN (kb ka (fj51_0 t AG (zA t 2) AB (vi AC) (zA t 6) (zA t 7) (vi AC) AB (vi AE) (vb AF) (zA t 58) (zA t 59) AB (vi AC) AK (vi AL) (zA t 64) (zA t 65) (zA t 66) (zA t 67) (zA t 68) (zA t 69) (zA t 70) (zA t 71) (zA t 72) (zA t 73) (zA t 74) (zA t 75) (zA t 76) (zA t 77) (zA t 78) (zA t 79) (zA t 80) (zA t 81) (zA t 82) (zA t 83) (zA t 84) (zA t 85) (zA t 86) (zA t 87) (zA t 88) (zA t 89) (zA t 90) (zA t 91)) AH AI) fun AD AO AP=>
 opt (aUn .not (.bool AD)) fun AY=>
 rtB AY fun AM=>
 br AM (
 ka .ret (fj51_0 t AG (vb false) AB (vi AC) (vb AD) (zA t 7) (vi AC) AB (vi AE) (vb AF) (zA t 58) (zA t 59) AB (vi AC) AK (vi AL) (vb AD) (vb AD) (vb AM) (zA t 67) (zA t 68) (zA t 69) (zA t 70) (zA t 71) (zA t 72) (zA t 73) (zA t 74) (zA t 75) (zA t 76) (zA t 77) (zA t 78) (zA t 79) (zA t 80) (zA t 81) (zA t 82) (zA t 83) (zA t 84) (zA t 85) (zA t 86) (zA t 87) (zA t 88) (zA t 89) (zA t 90) (zA t 91)) (W.mk AH AI AO AP)) (
 AT (fj51_0 t AG (zA t 2) AB (vi AC) (vb AD) (zA t 7) (vi AC) AB (vi AE) (vb AF) (zA t 58) (zA t 59) AB (vi AC) AK (vi AL) (vb AD) (vb AD) (vb AM) (zA t 67) (zA t 68) (zA t 69) (zA t 70) (zA t 71) (zA t 72) (zA t 73) (zA t 74) (zA t 75) (zA t 76) (zA t 77) (zA t 78) (zA t 79) (zA t 80) (zA t 81) (zA t 82) (zA t 83) (zA t 84) (zA t 85) (zA t 86) (zA t 87) (zA t 88) (zA t 89) (zA t 90) (zA t 91)) (W.mk AH AI AO AP))) (fun AA AZ=>
 zL (zA AA 1) fun Aa=>
 zL (zA AA 4) fun Ab=>
 rtI .i64 (zA AA 5) fun AQ=>
 onW AZ fun Ac Ad Ae Af=>
 fi (wH .i64 (uF AQ 1)) fun AR=>
 lp 1000010 ⟨51,rd,df⟩ (fj51_0 AA Aa (zA AA 2) Ab (vi AR) (zA AA 6) (zA AA 7) (zA AA 54) (zA AA 55) (zA AA 56) (zA AA 57) (vi AQ) (vi AR) (zA AA 60) (zA AA 61) (zA AA 62) (zA AA 63) (zA AA 64) (zA AA 65) (zA AA 66) (zA AA 67) (zA AA 68) (zA AA 69) (zA AA 70) (zA AA 71) (zA AA 72) (zA AA 73) (zA AA 74) (zA AA 75) (zA AA 76) (zA AA 77) (zA AA 78) (zA AA 79) (zA AA 80) (zA AA 81) (zA AA 82) (zA AA 83) (zA AA 84) (zA AA 85) (zA AA 86) (zA AA 87) (zA AA 88) (zA AA 89) (zA AA 90) (zA AA 91)) (W.mk Ac Ad Ae Af) ka)) (
 ka (.exit 0) (fj51_0 t AG (zA t 2) AB (vi AC) (zA t 6) (zA t 7) (vi AC) AB (vi AE) (vb AF) (zA t 58) (zA t 59) (zA t 60) (zA t 61) (zA t 62) (zA t 63) (zA t 64) (zA t 65) (zA t 66) (zA t 67) (zA t 68) (zA t 69) (zA t 70) (zA t 71) (zA t 72) (zA t 73) (zA t 74) (zA t 75) (zA t 76) (zA t 77) (zA t 78) (zA t 79) (zA t 80) (zA t 81) (zA t 82) (zA t 83) (zA t 84) (zA t 85) (zA t 86) (zA t 87) (zA t 88) (zA t 89) (zA t 90) (zA t 91)) (W.mk AH AI AJ AN))
theorem B51_1000010_eq:EYB 51 1000010 hint51 B51_1000010:=fun _ _ _ _ _ _ _=>by kernel_rfl
theorem l51:yU P 51=true:=by kernel_rfl
theorem r51:xW P 51=some [.tmp 2]:=by kernel_rfl
theorem lp51_1000010:vC (yZ P 51 1000010)=true:=by kernel_rfl
noncomputable abbrev fo18(s2:Value):Fr:=gf107 ud ud s2 ud ud ud ud ud ud ud ud ud ud ud ud ud ud ud ud ud ud ud ud ud ud ud ud ud ud ud ud ud ud ud ud ud ud ud ud ud ud ud ud ud ud ud ud ud ud ud ud ud ud ud ud ud ud ud ud ud ud ud ud ud ud ud ud ud ud ud ud ud ud ud ud ud ud ud ud ud ud ud ud ud ud ud ud ud ud ud ud ud ud ud ud ud ud ud ud ud ud ud ud ud ud ud ud
noncomputable abbrev fj18_0(t:Fr)(s1 s2 s5 s6 s9 s10 s11 s42 s43 s44 s45 s46 s47 s48 s49 s50 s51 s52 s53 s54 s55 s56 s86 s87 s88 s89 s90 s91 s92 s93 s96 s97 s98 s99 s100 s101 s102 s103 s104 s105 s106:Value):Fr:=gf107 (zA t 0) s1 s2 (zA t 3) (zA t 4) s5 s6 (zA t 7) (zA t 8) s9 s10 s11 (zA t 12) (zA t 13) (zA t 14) (zA t 15) (zA t 16) (zA t 17) (zA t 18) (zA t 19) (zA t 20) (zA t 21) (zA t 22) (zA t 23) (zA t 24) (zA t 25) (zA t 26) (zA t 27) (zA t 28) (zA t 29) (zA t 30) (zA t 31) (zA t 32) (zA t 33) (zA t 34) (zA t 35) (zA t 36) (zA t 37) (zA t 38) (zA t 39) (zA t 40) (zA t 41) s42 s43 s44 s45 s46 s47 s48 s49 s50 s51 s52 s53 s54 s55 s56 (zA t 57) (zA t 58) (zA t 59) (zA t 60) (zA t 61) (zA t 62) (zA t 63) (zA t 64) (zA t 65) (zA t 66) (zA t 67) (zA t 68) (zA t 69) (zA t 70) (zA t 71) (zA t 72) (zA t 73) (zA t 74) (zA t 75) (zA t 76) (zA t 77) (zA t 78) (zA t 79) (zA t 80) (zA t 81) (zA t 82) (zA t 83) (zA t 84) (zA t 85) s86 s87 s88 s89 s90 s91 s92 s93 (zA t 94) (zA t 95) s96 s97 s98 s99 s100 s101 s102 s103 s104 s105 s106
noncomputable abbrev pO(t:Fr)(s1 s2 s7 s8 s9 s10 s57 s58 s59 s60 s61 s62 s63 s64 s65 s66 s67 s68 s69 s70 s71 s72 s73 s74 s75 s76 s77 s78 s79 s80 s81 s82 s83 s84 s85 s94 s95:Value):Fr:=gf107 (zA t 0) s1 s2 (zA t 3) (zA t 4) (zA t 5) (zA t 6) s7 s8 s9 s10 (zA t 11) (zA t 12) (zA t 13) (zA t 14) (zA t 15) (zA t 16) (zA t 17) (zA t 18) (zA t 19) (zA t 20) (zA t 21) (zA t 22) (zA t 23) (zA t 24) (zA t 25) (zA t 26) (zA t 27) (zA t 28) (zA t 29) (zA t 30) (zA t 31) (zA t 32) (zA t 33) (zA t 34) (zA t 35) (zA t 36) (zA t 37) (zA t 38) (zA t 39) (zA t 40) (zA t 41) (zA t 42) (zA t 43) (zA t 44) (zA t 45) (zA t 46) (zA t 47) (zA t 48) (zA t 49) (zA t 50) (zA t 51) (zA t 52) (zA t 53) (zA t 54) (zA t 55) (zA t 56) s57 s58 s59 s60 s61 s62 s63 s64 s65 s66 s67 s68 s69 s70 s71 s72 s73 s74 s75 s76 s77 s78 s79 s80 s81 s82 s83 s84 s85 (zA t 86) (zA t 87) (zA t 88) (zA t 89) (zA t 90) (zA t 91) (zA t 92) (zA t 93) s94 s95 (zA t 96) (zA t 97) (zA t 98) (zA t 99) (zA t 100) (zA t 101) (zA t 102) (zA t 103) (zA t 104) (zA t 105) (zA t 106)
noncomputable abbrev pP:rD:=hq [(0,1000006,[.any,.val,.any,.any,.any,(.int .i64)]),(0,1000012,[.any,.val,.any,.any,.any,.any,.any,(.int .i64)]),(0,1000018,[.any,.val,.any,.any,.any,.any,.any,.any,.any,(.int .i64)]),(0,1000023,[.any,.val,.any,.any,.any,.any,.any,.any,.any,(.int .i64),(.int .i64)]),(1,0,[.any,.val]),(1,1,[.any,.val,.any,.any,.any,(.int .i64)]),(1,2,[.any,.val]),(1,3,[.any,.val,.any,.any,.any,.any,.any,(.int .i64)]),(1,5,[.any,.val,.any,.any,.any,.any,.any,.any,.any,(.int .i64)]),(1,6,[.any,.val,.any,.any,.any,.any,.any,.any,.any,(.int .i64)]),(1,7,[.any,.val,.any,.any,.any,.any,.any,.any,.any,(.int .i64),(.int .i64)]),(2,0,[.any,.val,.any,.any,.any,(.int .i64)]),(2,4,[.any,.val]),(2,10,[.any,.val,.any,.any,.any,(.int .i64)]),(2,16,[.any,.val,.any,.any,.any,.any,.any,(.int .i64)]),(2,21,[.any,.val,.any,.any,.any,.any,.any,.any,.any,(.int .i64)]),(2,27,[.any,.val,.any,.any,.any,.any,.any,.any,.any,(.int .i64),(.int .i64)])]
noncomputable def F18:TY1:=fun L lp p0 df u h n k=>
 eBox p0 h n fun h1 n2 v3=>
 opt (zB P 43 0 v3) fun v4=>
 opt (zE P 9 h1 v4) fun v5=>
 uL L 49 [v5] h1 n2 (kp L 18 k (fo18 (.bool false)) [] u) fun a6 h7 n8=>
 opt (zB P 43 3 v3) fun AU=>
 opt (zE P 9 h7 AU) fun AV=>
 uL L 49 [AV] h7 n8 (kp L 18 k (fo18 (.bool false)) [] u) fun AJ AW AX=>
 opt (aUn .not (.bool a6)) fun BH=>
 rtB BH fun AH=>
 grd (nt AH) (fun BI=>
 BI AW AX (.bool AJ)) (fun AY AZ Aa=>
 grd (nt AH) (fun BJ=>
 opt (aUn .not Aa) fun BK=>
 rtB BK fun BL=>
 BJ AY AZ (.bool BL)) (fun Ab Ac Ad=>
 rtB (sel AH (.bool true) Ad) fun AD=>
 grd (nt AD) (fun BM=>
 opt (zB P 43 1 v3) fun BN=>
 BM Ab Ac BN) (fun AK Ae Af=>
 grd (nt AD) (fun BO=>
 opt (zE P 23 AK Af) fun BP=>
 BO AK Ae BP) (fun AL Ag Ah=>
 grd (nt AD) (fun BQ=>
 opt (zX P .len [23] [Ah] AL) fun BR=>
 rtI .i64 BR fun BS=>
 BQ AL Ag (.int .i64 BS)) (fun Ai Aj Ak=>
 grd (nt AD) (fun BT=>
 yB igtB P .gtr 3 true Ak (.int .i64 500) fun BU=>
 BT Ai Aj (.bool BU)) (fun Al Am An=>
 rtB (sel AD (.bool true) An) fun AE=>
 grd (nt AE) (fun BV=>
 opt (zB P 43 2 v3) fun BW=>
 BV Al Am BW) (fun AM Ao Ap=>
 grd (nt AE) (fun BX=>
 opt (zE P 40 AM Ap) fun BY=>
 BX AM Ao BY) (fun AN Aq Ar=>
 grd (nt AE) (fun BZ=>
 opt (zX P .len [40] [Ar] AN) fun Ba=>
 rtI .i64 Ba fun Bb=>
 BZ AN Aq (.int .i64 Bb)) (fun As At Au=>
 grd (nt AE) (fun Bc=>
 yB igtB P .gtr 3 true Au (.int .i64 16) fun Bd=>
 Bc As At (.bool Bd)) (fun Av Aw Ax=>
 rtB (sel AE (.bool true) Ax) fun AF=>
 grd (nt AF) (fun Be=>
 opt (zB P 43 4 v3) fun Bf=>
 Be Av Aw Bf) (fun AO Ay Az=>
 grd (nt AF) (fun Bg=>
 opt (zE P 41 AO Az) fun Bh=>
 Bg AO Ay Bh) (fun AP A0 A1=>
 grd (nt AF) (fun Bi=>
 opt (zX P .len [41] [A1] AP) fun Bj=>
 rtI .i64 Bj fun Bk=>
 Bi AP A0 (.int .i64 Bk)) (fun A2 A3 A4=>
 grd (nt AF) (fun Bl=>
 yB igtB P .gtr 3 true A4 (.int .i64 200) fun Bm=>
 Bl A2 A3 (.bool Bm)) (fun A5 A6 A7=>
 rtB (sel AF (.bool true) A7) fun A8=>
 br A8 (
 zJ P L 18 k .ret (fo18 (.bool false)) (W.mk [] u A5 A6)) (
 lp 1000006 ⟨18,none,df⟩ (gf107 p0 v3 (vb false) (vb a6) (vb AJ) (vi 0) ud ud ud ud ud ud v4 v5 (vb a6) AU AV (vb AJ) (vb a6) (vb AH) (vb AH) Aa Ad (vb AD) (vb AD) Af Ah Ak An (vb AE) (vb AE) Ap Ar Au Ax (vb AF) (vb AF) Az A1 A4 A7 (vb A8) ud ud ud ud ud ud ud ud ud ud ud ud ud ud ud ud ud ud ud ud ud ud ud ud ud ud ud ud ud ud ud ud ud ud ud ud ud ud ud ud ud ud ud ud ud ud ud ud ud ud ud ud ud ud ud ud ud ud ud ud ud ud ud ud ud) (W.mk [] u A5 A6) (pH noK (pI 0 (fun AA Bn=>
 zL (zA AA 1) fun Bo=>
 onW Bn fun Bp Bq Br Bs=>
 lp 1000012 ⟨18,none,df⟩ (pO AA Bo (zA AA 2) (vi 0) (zA AA 8) (zA AA 9) (zA AA 10) (zA AA 57) (zA AA 58) (zA AA 59) (zA AA 60) (zA AA 61) (zA AA 62) (zA AA 63) (zA AA 64) (zA AA 65) (zA AA 66) (zA AA 67) (zA AA 68) (zA AA 69) (zA AA 70) (zA AA 71) (zA AA 72) (zA AA 73) (zA AA 74) (zA AA 75) (zA AA 76) (zA AA 77) (zA AA 78) (zA AA 79) (zA AA 80) (zA AA 81) (zA AA 82) (zA AA 83) (zA AA 84) (zA AA 85) (zA AA 94) (zA AA 95)) (W.mk Bp Bq Br Bs) (pH noK (pI 2 (fun AB Bt=>
 zL (zA AB 1) fun Bu=>
 onW Bt fun Bv Bw Bx By=>
 lp 1000018 ⟨18,none,df⟩ (pO AB Bu (zA AB 2) (zA AB 7) (zA AB 8) (vi 0) (zA AB 10) (zA AB 57) (zA AB 58) (zA AB 59) (zA AB 60) (zA AB 61) (zA AB 62) (zA AB 63) (zA AB 64) (zA AB 65) (zA AB 66) (zA AB 67) (zA AB 68) (zA AB 69) (zA AB 70) (zA AB 71) (zA AB 72) (zA AB 73) (zA AB 74) (zA AB 75) (zA AB 76) (zA AB 77) (zA AB 78) (zA AB 79) (zA AB 80) (zA AB 81) (zA AB 82) (zA AB 83) (zA AB 84) (zA AB 85) (zA AB 94) (zA AB 95)) (W.mk Bv Bw Bx By) (pH noK (pI 4 (fun AC Bz=>
 onW Bz fun B0 B1 B2 B3=>
 zJ P L 18 k .ret (pO AC (zA AC 1) (vb true) (zA AC 7) (zA AC 8) (zA AC 9) (zA AC 10) (zA AC 57) (zA AC 58) (zA AC 59) (zA AC 60) (zA AC 61) (zA AC 62) (zA AC 63) (zA AC 64) (zA AC 65) (zA AC 66) (zA AC 67) (zA AC 68) (zA AC 69) (zA AC 70) (zA AC 71) (zA AC 72) (zA AC 73) (zA AC 74) (zA AC 75) (zA AC 76) (zA AC 77) (zA AC 78) (zA AC 79) (zA AC 80) (zA AC 81) (zA AC 82) (zA AC 83) (zA AC 84) (zA AC 85) (zA AC 94) (zA AC 95)) (W.mk B0 B1 B2 B3)) (zJ P L 18 k)))) (zJ P L 18 k)))) (zJ P L 18 k))))) A2 A3) AP A0) AO Ay) Av Aw) As At) AN Aq) AM Ao) Al Am) Ai Aj) AL Ag) AK Ae) Ab Ac) AY AZ) AW AX
theorem F18_eq:EY1 18 pP F18:=fun _ _ _ _ _ _ _ _=>by kernel_rfl
noncomputable def B18_1000006:TYB:=fun L lp rd df t w ka=>
 zL (zA t 1) fun AD=>
 rtI .i64 (zA t 5) fun AB=>
 onW w fun AJ AK AE AQ=>
 opt (zB P 43 1 AD) fun AF=>
 opt (zE P 23 AE AF) fun AG=>
 opt (zX P .len [23] [AG] AE) fun AV=>
 rtI .i64 AV fun AH=>
 fb (wB AB AH) fun AI=>
 br AI (
 pM (fun AW=>
 opt (zB P 43 1 AD) fun AL=>
 opt (zE P 23 AE AL) fun AM=>
 opt (zR P 23 AM (.int .i64 AB)) fun AN=>
 opt (zE P 9 AE AN) fun AO=>
 uL L 49 [AO] AE AQ (kb ka (fj18_0 t AD (zA t 2) (vi AB) (zA t 6) (zA t 9) (zA t 10) (zA t 11) (vi AB) AF AG (vi AH) (vb AI) (zA t 47) (zA t 48) AL AM (vi AB) AN AO (zA t 54) (zA t 55) (zA t 56) (zA t 86) (zA t 87) (zA t 88) (zA t 89) (zA t 90) (zA t 91) (zA t 92) (zA t 93) (zA t 96) (zA t 97) (zA t 98) (zA t 99) (zA t 100) (zA t 101) (zA t 102) (zA t 103) (zA t 104) (zA t 105) (zA t 106)) AJ AK) fun AC AR AS=>
 opt (aUn .not (.bool AC)) fun Aa=>
 rtB Aa fun AP=>
 br AP (
 ka .ret (fj18_0 t AD (vb false) (vi AB) (vb AC) (zA t 9) (zA t 10) (zA t 11) (vi AB) AF AG (vi AH) (vb AI) (zA t 47) (zA t 48) AL AM (vi AB) AN AO (vb AC) (vb AC) (vb AP) (zA t 86) (zA t 87) (zA t 88) (zA t 89) (zA t 90) (zA t 91) (zA t 92) (zA t 93) (zA t 96) (zA t 97) (zA t 98) (zA t 99) (zA t 100) (zA t 101) (zA t 102) (zA t 103) (zA t 104) (zA t 105) (zA t 106)) (W.mk AJ AK AR AS)) (
 AW (fj18_0 t AD (zA t 2) (vi AB) (vb AC) (zA t 9) (zA t 10) (zA t 11) (vi AB) AF AG (vi AH) (vb AI) (zA t 47) (zA t 48) AL AM (vi AB) AN AO (vb AC) (vb AC) (vb AP) (zA t 86) (zA t 87) (zA t 88) (zA t 89) (zA t 90) (zA t 91) (zA t 92) (zA t 93) (zA t 96) (zA t 97) (zA t 98) (zA t 99) (zA t 100) (zA t 101) (zA t 102) (zA t 103) (zA t 104) (zA t 105) (zA t 106)) (W.mk AJ AK AR AS))) (fun AA Ab=>
 zL (zA AA 1) fun Ac=>
 rtI .i64 (zA AA 5) fun AT=>
 onW Ab fun Ad Ae Af Ag=>
 fi (wH .i64 (uF AT 1)) fun AU=>
 lp 1000006 ⟨18,rd,df⟩ (fj18_0 AA Ac (zA AA 2) (vi AU) (zA AA 6) (zA AA 9) (zA AA 10) (zA AA 11) (zA AA 42) (zA AA 43) (zA AA 44) (zA AA 45) (zA AA 46) (vi AT) (vi AU) (zA AA 49) (zA AA 50) (zA AA 51) (zA AA 52) (zA AA 53) (zA AA 54) (zA AA 55) (zA AA 56) (zA AA 86) (zA AA 87) (zA AA 88) (zA AA 89) (zA AA 90) (zA AA 91) (zA AA 92) (zA AA 93) (zA AA 96) (zA AA 97) (zA AA 98) (zA AA 99) (zA AA 100) (zA AA 101) (zA AA 102) (zA AA 103) (zA AA 104) (zA AA 105) (zA AA 106)) (W.mk Ad Ae Af Ag) ka)) (
 ka (.exit 0) (fj18_0 t AD (zA t 2) (vi AB) (zA t 6) (zA t 9) (zA t 10) (zA t 11) (vi AB) AF AG (vi AH) (vb AI) (zA t 47) (zA t 48) (zA t 49) (zA t 50) (zA t 51) (zA t 52) (zA t 53) (zA t 54) (zA t 55) (zA t 56) (zA t 86) (zA t 87) (zA t 88) (zA t 89) (zA t 90) (zA t 91) (zA t 92) (zA t 93) (zA t 96) (zA t 97) (zA t 98) (zA t 99) (zA t 100) (zA t 101) (zA t 102) (zA t 103) (zA t 104) (zA t 105) (zA t 106)) (W.mk AJ AK AE AQ))
theorem B18_1000006_eq:EYB 18 1000006 pP B18_1000006:=fun _ _ _ _ _ _ _=>by kernel_rfl
noncomputable def B18_1000012:TYB:=fun L lp rd df t w ka=>
 zL (zA t 1) fun AD=>
 rtI .i64 (zA t 7) fun AB=>
 onW w fun AJ AK AE AQ=>
 opt (zB P 43 2 AD) fun AF=>
 opt (zE P 40 AE AF) fun AG=>
 opt (zX P .len [40] [AG] AE) fun AV=>
 rtI .i64 AV fun AH=>
 fb (wB AB AH) fun AI=>
 br AI (
 pM (fun AW=>
 opt (zB P 43 2 AD) fun AL=>
 opt (zE P 40 AE AL) fun AM=>
 opt (zR P 40 AM (.int .i64 AB)) fun AN=>
 opt (zE P 3 AE AN) fun AX=>
 rtI .i64 AX fun AO=>
 uL L 50 [(.int .i64 AO)] AE AQ (kb ka (pO t AD (zA t 2) (vi AB) (zA t 8) (zA t 9) (zA t 10) (vi AB) AF AG (vi AH) (vb AI) (zA t 62) (zA t 63) AL AM (vi AB) AN (vi AO) (zA t 69) (zA t 70) (zA t 71) (zA t 72) (zA t 73) (zA t 74) (zA t 75) (zA t 76) (zA t 77) (zA t 78) (zA t 79) (zA t 80) (zA t 81) (zA t 82) (zA t 83) (zA t 84) (zA t 85) (zA t 94) (zA t 95)) AJ AK) fun AC AR AS=>
 opt (aUn .not (.bool AC)) fun Ab=>
 rtB Ab fun AP=>
 br AP (
 ka .ret (pO t AD (vb false) (vi AB) (vb AC) (zA t 9) (zA t 10) (vi AB) AF AG (vi AH) (vb AI) (zA t 62) (zA t 63) AL AM (vi AB) AN (vi AO) (vb AC) (vb AC) (vb AP) (zA t 72) (zA t 73) (zA t 74) (zA t 75) (zA t 76) (zA t 77) (zA t 78) (zA t 79) (zA t 80) (zA t 81) (zA t 82) (zA t 83) (zA t 84) (zA t 85) (zA t 94) (zA t 95)) (W.mk AJ AK AR AS)) (
 AW (pO t AD (zA t 2) (vi AB) (vb AC) (zA t 9) (zA t 10) (vi AB) AF AG (vi AH) (vb AI) (zA t 62) (zA t 63) AL AM (vi AB) AN (vi AO) (vb AC) (vb AC) (vb AP) (zA t 72) (zA t 73) (zA t 74) (zA t 75) (zA t 76) (zA t 77) (zA t 78) (zA t 79) (zA t 80) (zA t 81) (zA t 82) (zA t 83) (zA t 84) (zA t 85) (zA t 94) (zA t 95)) (W.mk AJ AK AR AS))) (fun AA Ac=>
 zL (zA AA 1) fun Ad=>
 rtI .i64 (zA AA 7) fun AT=>
 onW Ac fun Ae Af Ag Ah=>
 fi (wH .i64 (uF AT 1)) fun AU=>
 lp 1000012 ⟨18,rd,df⟩ (pO AA Ad (zA AA 2) (vi AU) (zA AA 8) (zA AA 9) (zA AA 10) (zA AA 57) (zA AA 58) (zA AA 59) (zA AA 60) (zA AA 61) (vi AT) (vi AU) (zA AA 64) (zA AA 65) (zA AA 66) (zA AA 67) (zA AA 68) (zA AA 69) (zA AA 70) (zA AA 71) (zA AA 72) (zA AA 73) (zA AA 74) (zA AA 75) (zA AA 76) (zA AA 77) (zA AA 78) (zA AA 79) (zA AA 80) (zA AA 81) (zA AA 82) (zA AA 83) (zA AA 84) (zA AA 85) (zA AA 94) (zA AA 95)) (W.mk Ae Af Ag Ah) ka)) (
 ka (.exit 2) (pO t AD (zA t 2) (vi AB) (zA t 8) (zA t 9) (zA t 10) (vi AB) AF AG (vi AH) (vb AI) (zA t 62) (zA t 63) (zA t 64) (zA t 65) (zA t 66) (zA t 67) (zA t 68) (zA t 69) (zA t 70) (zA t 71) (zA t 72) (zA t 73) (zA t 74) (zA t 75) (zA t 76) (zA t 77) (zA t 78) (zA t 79) (zA t 80) (zA t 81) (zA t 82) (zA t 83) (zA t 84) (zA t 85) (zA t 94) (zA t 95)) (W.mk AJ AK AE AQ))
theorem B18_1000012_eq:EYB 18 1000012 pP B18_1000012:=fun _ _ _ _ _ _ _=>by kernel_rfl
noncomputable def B18_1000018:TYB:=fun L lp rd df t w ka=>
 zL (zA t 1) fun AE=>
 rtI .i64 (zA t 9) fun AC=>
 onW w fun AJ AK AD AL=>
 opt (zB P 43 4 AE) fun AF=>
 opt (zE P 41 AD AF) fun AG=>
 opt (zX P .len [41] [AG] AD) fun AV=>
 rtI .i64 AV fun AH=>
 fb (wB AC AH) fun AI=>
 br AI (
 pM (fun AS=>
 opt (zB P 43 4 AE) fun AM=>
 opt (zE P 41 AD AM) fun AN=>
 opt (zR P 41 AN (.int .i64 AC)) fun AO=>
 opt (zE P 51 AD AO) fun AP=>
 opt (zX P .len [51] [AP] AD) fun AW=>
 rtI .i64 AW fun AQ=>
 fb (wB 400 AQ) fun AR=>
 br AR (
 ka .ret (pO t AE (vb false) (zA t 7) (zA t 8) (vi AC) (zA t 10) (zA t 57) (zA t 58) (zA t 59) (zA t 60) (zA t 61) (zA t 62) (zA t 63) (zA t 64) (zA t 65) (zA t 66) (zA t 67) (zA t 68) (zA t 69) (zA t 70) (zA t 71) (vi AC) AF AG (vi AH) (vb AI) (zA t 77) (zA t 78) AM AN (vi AC) AO AP (vi AQ) (vb AR) (zA t 94) (zA t 95)) (W.mk AJ AK AD AL)) (
 lp 1000023 ⟨18,rd,df⟩ (pO t AE (zA t 2) (zA t 7) (zA t 8) (vi AC) (vi 0) (zA t 57) (zA t 58) (zA t 59) (zA t 60) (zA t 61) (zA t 62) (zA t 63) (zA t 64) (zA t 65) (zA t 66) (zA t 67) (zA t 68) (zA t 69) (zA t 70) (zA t 71) (vi AC) AF AG (vi AH) (vb AI) (zA t 77) (zA t 78) AM AN (vi AC) AO AP (vi AQ) (vb AR) (zA t 94) (zA t 95)) (W.mk AJ AK AD AL) (pH noK (pI 6 (fun AA AX=>
 zL (zA AA 1) fun AY=>
 rtI .i64 (zA AA 9) fun AZ=>
 onW AX fun Aa Ab Ac Ad=>
 AS (pO AA AY (zA AA 2) (zA AA 7) (zA AA 8) (vi AZ) (zA AA 10) (zA AA 57) (zA AA 58) (zA AA 59) (zA AA 60) (zA AA 61) (zA AA 62) (zA AA 63) (zA AA 64) (zA AA 65) (zA AA 66) (zA AA 67) (zA AA 68) (zA AA 69) (zA AA 70) (zA AA 71) (zA AA 72) (zA AA 73) (zA AA 74) (zA AA 75) (zA AA 76) (zA AA 77) (zA AA 78) (zA AA 79) (zA AA 80) (zA AA 81) (zA AA 82) (zA AA 83) (zA AA 84) (zA AA 85) (zA AA 94) (zA AA 95)) (W.mk Aa Ab Ac Ad)) (pI 5 AS ka))))) (fun AB Ae=>
 zL (zA AB 1) fun Af=>
 rtI .i64 (zA AB 9) fun AT=>
 onW Ae fun Ag Ah Ai Aj=>
 fi (wH .i64 (uF AT 1)) fun AU=>
 lp 1000018 ⟨18,rd,df⟩ (pO AB Af (zA AB 2) (zA AB 7) (zA AB 8) (vi AU) (zA AB 10) (zA AB 57) (zA AB 58) (zA AB 59) (zA AB 60) (zA AB 61) (zA AB 62) (zA AB 63) (zA AB 64) (zA AB 65) (zA AB 66) (zA AB 67) (zA AB 68) (zA AB 69) (zA AB 70) (zA AB 71) (zA AB 72) (zA AB 73) (zA AB 74) (zA AB 75) (zA AB 76) (vi AT) (vi AU) (zA AB 79) (zA AB 80) (zA AB 81) (zA AB 82) (zA AB 83) (zA AB 84) (zA AB 85) (zA AB 94) (zA AB 95)) (W.mk Ag Ah Ai Aj) ka)) (
 ka (.exit 4) (pO t AE (zA t 2) (zA t 7) (zA t 8) (vi AC) (zA t 10) (zA t 57) (zA t 58) (zA t 59) (zA t 60) (zA t 61) (zA t 62) (zA t 63) (zA t 64) (zA t 65) (zA t 66) (zA t 67) (zA t 68) (zA t 69) (zA t 70) (zA t 71) (vi AC) AF AG (vi AH) (vb AI) (zA t 77) (zA t 78) (zA t 79) (zA t 80) (zA t 81) (zA t 82) (zA t 83) (zA t 84) (zA t 85) (zA t 94) (zA t 95)) (W.mk AJ AK AD AL))
theorem B18_1000018_eq:EYB 18 1000018 pP B18_1000018:=fun _ _ _ _ _ _ _=>by kernel_rfl
noncomputable def B18_1000023:TYB:=fun L lp rd df t w ka=>
 zL (zA t 1) fun AF=>
 rtI .i64 (zA t 9) fun AB=>
 rtI .i64 (zA t 10) fun AC=>
 onW w fun AM AN AD AV=>
 opt (zB P 43 4 AF) fun AG=>
 opt (zE P 41 AD AG) fun AH=>
 opt (zR P 41 AH (.int .i64 AB)) fun AI=>
 opt (zE P 51 AD AI) fun AJ=>
 opt (zX P .len [51] [AJ] AD) fun Aa=>
 rtI .i64 Aa fun AK=>
 fb (wB AC AK) fun AL=>
 br AL (
 pM (fun Ab=>
 opt (zB P 43 4 AF) fun AO=>
 opt (zE P 41 AD AO) fun AP=>
 opt (zR P 41 AP (.int .i64 AB)) fun AQ=>
 opt (zE P 51 AD AQ) fun AR=>
 opt (zR P 51 AR (.int .i64 AC)) fun AS=>
 opt (zE P 50 AD AS) fun AT=>
 uL L 51 [AT] AD AV (kb ka (fj18_0 t AF (zA t 2) (zA t 5) (zA t 6) (vi AB) (vi AC) (zA t 11) (zA t 42) (zA t 43) (zA t 44) (zA t 45) (zA t 46) (zA t 47) (zA t 48) (zA t 49) (zA t 50) (zA t 51) (zA t 52) (zA t 53) (zA t 54) (zA t 55) (zA t 56) (vi AC) AG AH (vi AB) AI AJ (vi AK) (vb AL) AO AP (vi AB) AQ AR (vi AC) AS AT (zA t 104) (zA t 105) (zA t 106)) AM AN) fun AE AW AX=>
 opt (aUn .not (.bool AE)) fun Af=>
 rtB Af fun AU=>
 br AU (
 ka .ret (fj18_0 t AF (vb false) (zA t 5) (zA t 6) (vi AB) (vi AC) (vb AE) (zA t 42) (zA t 43) (zA t 44) (zA t 45) (zA t 46) (zA t 47) (zA t 48) (zA t 49) (zA t 50) (zA t 51) (zA t 52) (zA t 53) (zA t 54) (zA t 55) (zA t 56) (vi AC) AG AH (vi AB) AI AJ (vi AK) (vb AL) AO AP (vi AB) AQ AR (vi AC) AS AT (vb AE) (vb AE) (vb AU)) (W.mk AM AN AW AX)) (
 Ab (fj18_0 t AF (zA t 2) (zA t 5) (zA t 6) (vi AB) (vi AC) (vb AE) (zA t 42) (zA t 43) (zA t 44) (zA t 45) (zA t 46) (zA t 47) (zA t 48) (zA t 49) (zA t 50) (zA t 51) (zA t 52) (zA t 53) (zA t 54) (zA t 55) (zA t 56) (vi AC) AG AH (vi AB) AI AJ (vi AK) (vb AL) AO AP (vi AB) AQ AR (vi AC) AS AT (vb AE) (vb AE) (vb AU)) (W.mk AM AN AW AX))) (fun AA Ag=>
 zL (zA AA 1) fun Ah=>
 rtI .i64 (zA AA 9) fun Ai=>
 rtI .i64 (zA AA 10) fun AY=>
 onW Ag fun Aj Ak Al Am=>
 fi (wH .i64 (uF AY 1)) fun AZ=>
 lp 1000023 ⟨18,rd,df⟩ (pO AA Ah (zA AA 2) (zA AA 7) (zA AA 8) (vi Ai) (vi AZ) (zA AA 57) (zA AA 58) (zA AA 59) (zA AA 60) (zA AA 61) (zA AA 62) (zA AA 63) (zA AA 64) (zA AA 65) (zA AA 66) (zA AA 67) (zA AA 68) (zA AA 69) (zA AA 70) (zA AA 71) (zA AA 72) (zA AA 73) (zA AA 74) (zA AA 75) (zA AA 76) (zA AA 77) (zA AA 78) (zA AA 79) (zA AA 80) (zA AA 81) (zA AA 82) (zA AA 83) (zA AA 84) (zA AA 85) (vi AY) (vi AZ)) (W.mk Aj Ak Al Am) ka)) (
 ka (.exit 6) (fj18_0 t AF (zA t 2) (zA t 5) (zA t 6) (vi AB) (vi AC) (zA t 11) (zA t 42) (zA t 43) (zA t 44) (zA t 45) (zA t 46) (zA t 47) (zA t 48) (zA t 49) (zA t 50) (zA t 51) (zA t 52) (zA t 53) (zA t 54) (zA t 55) (zA t 56) (vi AC) AG AH (vi AB) AI AJ (vi AK) (vb AL) (zA t 96) (zA t 97) (zA t 98) (zA t 99) (zA t 100) (zA t 101) (zA t 102) (zA t 103) (zA t 104) (zA t 105) (zA t 106)) (W.mk AM AN AD AV))
theorem B18_1000023_eq:EYB 18 1000023 pP B18_1000023:=fun _ _ _ _ _ _ _=>by kernel_rfl
theorem l18:yU P 18=true:=by kernel_rfl
theorem r18:xW P 18=some [.tmp 2]:=by kernel_rfl
theorem lp18_1000006:vC (yZ P 18 1000006)=true:=by kernel_rfl
theorem lp18_1000012:vC (yZ P 18 1000012)=true:=by kernel_rfl
theorem lp18_1000018:vC (yZ P 18 1000018)=true:=by kernel_rfl
theorem lp18_1000023:vC (yZ P 18 1000023)=true:=by kernel_rfl
noncomputable abbrev fo62(s2:Value):Fr:=gf108 ud ud s2 ud ud ud ud ud ud ud ud ud ud ud ud ud ud ud ud ud ud ud ud ud ud ud ud ud ud ud ud ud ud ud ud ud ud ud ud ud ud ud ud ud ud ud ud ud ud ud ud ud ud ud ud ud ud ud ud ud ud ud ud ud ud ud ud ud ud ud ud ud ud ud ud ud ud ud ud ud ud ud ud ud ud ud ud ud ud ud ud ud ud ud ud ud ud ud ud ud ud ud ud ud ud ud ud ud
noncomputable abbrev fj62_0(t:Fr)(s1 s2 s104 s105 s106 s107:Value):Fr:=gf108 (zA t 0) s1 s2 (zA t 3) (zA t 4) (zA t 5) (zA t 6) (zA t 7) (zA t 8) (zA t 9) (zA t 10) (zA t 11) (zA t 12) (zA t 13) (zA t 14) (zA t 15) (zA t 16) (zA t 17) (zA t 18) (zA t 19) (zA t 20) (zA t 21) (zA t 22) (zA t 23) (zA t 24) (zA t 25) (zA t 26) (zA t 27) (zA t 28) (zA t 29) (zA t 30) (zA t 31) (zA t 32) (zA t 33) (zA t 34) (zA t 35) (zA t 36) (zA t 37) (zA t 38) (zA t 39) (zA t 40) (zA t 41) (zA t 42) (zA t 43) (zA t 44) (zA t 45) (zA t 46) (zA t 47) (zA t 48) (zA t 49) (zA t 50) (zA t 51) (zA t 52) (zA t 53) (zA t 54) (zA t 55) (zA t 56) (zA t 57) (zA t 58) (zA t 59) (zA t 60) (zA t 61) (zA t 62) (zA t 63) (zA t 64) (zA t 65) (zA t 66) (zA t 67) (zA t 68) (zA t 69) (zA t 70) (zA t 71) (zA t 72) (zA t 73) (zA t 74) (zA t 75) (zA t 76) (zA t 77) (zA t 78) (zA t 79) (zA t 80) (zA t 81) (zA t 82) (zA t 83) (zA t 84) (zA t 85) (zA t 86) (zA t 87) (zA t 88) (zA t 89) (zA t 90) (zA t 91) (zA t 92) (zA t 93) (zA t 94) (zA t 95) (zA t 96) (zA t 97) (zA t 98) (zA t 99) (zA t 100) (zA t 101) (zA t 102) (zA t 103) s104 s105 s106 s107
noncomputable abbrev hint62:rD:=hq [(1,0,[.any,.val]),(2,3,[.any,.val]),(2,5,[.any,.val]),(2,7,[.any,.val]),(2,9,[.any,.val]),(2,11,[.any,.val]),(2,13,[.any,.val]),(2,14,[.any,.val]),(2,17,[.any,.val]),(2,19,[.any,.val])]
noncomputable def F62:TY1:=fun L lp p0 df u h n k=>
 eBox p0 h n fun h1 n2 v3=>
 opt (zB P 50 0 v3) fun v4=>
 opt (zE P 3 h1 v4) fun v5=>
 rtI .i64 v5 fun a6=>
 pM (fun k7=>
 fb (xN a6 1) fun a8=>
 br a8 (
 opt (zB P 50 1 v3) fun v9=>
 opt (zE P 3 h1 v9) fun BR=>
 rtI .i64 BR fun BS=>
 yO L 115 [(.int .i64 BS)] h1 n2 (fun C2 C3 C4=>
 false) fun BT AO AF=>
 gt (Nat.ble n2 AF) (
 opt (zB P 50 4 v3) fun AP=>
 opt (zE P 3 AO AP) fun BU=>
 rtI .i64 BU fun A3=>
 yO L 115 [(.int .i64 A3)] AO AF (fun C5 C6 C7=>
 false) fun BV A4 AQ=>
 gt (Nat.ble AF AQ) (
 xY uF P .add 9 true BT (.string (ByteArray.mk #[32,61,32,99,111,110,115,116,32])) fun BW=>
 xY uF P .add 9 false BW BV fun BX=>
 gt (lks [(W.mk [] u A4 AQ),(W.mk [] u AO AF),(W.mk [] u h1 n2)] [⟨true,(lkQ (fun BY=>zE P 3 BY AP) AP (.int .i64 A3)),0,1⟩]) (
 zJ P L 62 k .ret (fo62 BX) (W.mk [] u A4 AQ))))) (
 fb (xN a6 2) fun AR=>
 br AR (
 opt (zB P 50 1 v3) fun BZ=>
 opt (zE P 3 h1 BZ) fun Ba=>
 rtI .i64 Ba fun Bb=>
 yO L 115 [(.int .i64 Bb)] h1 n2 (fun C8 C9 DA=>
 false) fun Bc AS AG=>
 gt (Nat.ble n2 AG) (
 opt (zB P 50 2 v3) fun AT=>
 opt (zE P 3 AS AT) fun Bd=>
 rtI .i64 Bd fun A5=>
 yO L 115 [(.int .i64 A5)] AS AG (fun DB DC DD=>
 false) fun Be A6 AU=>
 gt (Nat.ble AG AU) (
 xY uF P .add 9 true Bc (.string (ByteArray.mk #[32,61,32,99,111,112,121,32])) fun Bf=>
 xY uF P .add 9 false Bf Be fun Bg=>
 gt (lks [(W.mk [] u A6 AU),(W.mk [] u AS AG),(W.mk [] u h1 n2)] [⟨true,(lkQ (fun Bh=>zE P 3 Bh AT) AT (.int .i64 A5)),0,1⟩]) (
 zJ P L 62 k .ret (fo62 Bg) (W.mk [] u A6 AU))))) (
 fb (xN a6 3) fun AV=>
 br AV (
 opt (zB P 50 1 v3) fun Bi=>
 opt (zE P 3 h1 Bi) fun Bj=>
 rtI .i64 Bj fun Bk=>
 yO L 115 [(.int .i64 Bk)] h1 n2 (fun DE DF DG=>
 false) fun Bl AW AH=>
 gt (Nat.ble n2 AH) (
 opt (zB P 50 6 v3) fun AX=>
 opt (zE P 40 AW AX) fun A7=>
 yO L 61 [A7] AW AH (fun DH DI DJ=>
 false) fun Bm AY AZ=>
 gt (Nat.ble AH AZ) (
 xY uF P .add 9 true Bl (.string (ByteArray.mk #[32,61,32])) fun Bn=>
 opt (zB P 50 5 v3) fun Aa=>
 opt (zE P 9 AY Aa) fun A8=>
 xY uF P .add 9 false Bn A8 fun Bo=>
 xY uF P .add 9 false Bo Bm fun Bp=>
 gt (lks [(W.mk [] u AY AZ),(W.mk [] u AW AH),(W.mk [] u h1 n2)] [⟨true,(lkQ (fun Bq=>zE P 9 Bq Aa) Aa A8),0,2⟩,⟨true,(lkQ (fun Br=>zE P 40 Br AX) AX A7),0,1⟩]) (
 zJ P L 62 k .ret (fo62 Bp) (W.mk [] u AY AZ))))) (
 fb (xN a6 4) fun Ab=>
 br Ab (
 opt (zB P 50 1 v3) fun Bs=>
 opt (zE P 3 h1 Bs) fun Bt=>
 rtI .i64 Bt fun Bu=>
 yO L 115 [(.int .i64 Bu)] h1 n2 (fun DK DL DM=>
 false) fun Bv Ac AI=>
 gt (Nat.ble n2 AI) (
 opt (zB P 50 2 v3) fun Ad=>
 opt (zE P 3 Ac Ad) fun Bw=>
 rtI .i64 Bw fun A9=>
 yO L 115 [(.int .i64 A9)] Ac AI (fun DN DO DP=>
 false) fun Bx BA Ae=>
 gt (Nat.ble AI Ae) (
 xY uF P .add 9 true Bv (.string (ByteArray.mk #[32,61,32,108,111,97,100,32])) fun By=>
 xY uF P .add 9 false By Bx fun Bz=>
 gt (lks [(W.mk [] u BA Ae),(W.mk [] u Ac AI),(W.mk [] u h1 n2)] [⟨true,(lkQ (fun B0=>zE P 3 B0 Ad) Ad (.int .i64 A9)),0,1⟩]) (
 zJ P L 62 k .ret (fo62 Bz) (W.mk [] u BA Ae))))) (
 fb (xN a6 5) fun Af=>
 br Af (
 opt (zB P 50 2 v3) fun B1=>
 opt (zE P 3 h1 B1) fun B2=>
 rtI .i64 B2 fun B3=>
 yO L 115 [(.int .i64 B3)] h1 n2 (fun DQ DR DS=>
 false) fun B4 Ag AJ=>
 gt (Nat.ble n2 AJ) (
 opt (zB P 50 3 v3) fun Ah=>
 opt (zE P 3 Ag Ah) fun B5=>
 rtI .i64 B5 fun BB=>
 yO L 115 [(.int .i64 BB)] Ag AJ (fun DT DU DV=>
 false) fun B6 BC Ai=>
 gt (Nat.ble AJ Ai) (
 xY uF P .add 9 true (.string (ByteArray.mk #[115,116,111,114,101,32])) B4 fun B7=>
 xY uF P .add 9 true B7 (.string (ByteArray.mk #[32])) fun B8=>
 xY uF P .add 9 false B8 B6 fun B9=>
 gt (lks [(W.mk [] u BC Ai),(W.mk [] u Ag AJ),(W.mk [] u h1 n2)] [⟨true,(lkQ (fun CA=>zE P 3 CA Ah) Ah (.int .i64 BB)),0,1⟩]) (
 zJ P L 62 k .ret (fo62 B9) (W.mk [] u BC Ai))))) (
 fb (xN a6 6) fun Aj=>
 br Aj (
 opt (zB P 50 1 v3) fun CB=>
 opt (zE P 3 h1 CB) fun CC=>
 rtI .i64 CC fun CD=>
 fb (wB CD 0) fun CE=>
 br CE (
 opt (zB P 50 6 v3) fun CF=>
 opt (zE P 40 h1 CF) fun CG=>
 yO L 61 [CG] h1 n2 (fun DW DX DY=>
 false) fun CH Ak Al=>
 gt (Nat.ble n2 Al) (
 opt (zB P 50 5 v3) fun Am=>
 opt (zE P 9 Ak Am) fun BD=>
 xY uF P .add 9 true (.string (ByteArray.mk #[99,97,108,108,32])) BD fun CI=>
 xY uF P .add 9 false CI CH fun CJ=>
 gt (lks [(W.mk [] u Ak Al),(W.mk [] u h1 n2)] [⟨true,(lkQ (fun CK=>zE P 9 CK Am) Am BD),0,1⟩]) (
 zJ P L 62 k .ret (fo62 CJ) (W.mk [] u Ak Al)))) (
 opt (zB P 50 1 v3) fun CL=>
 opt (zE P 3 h1 CL) fun CM=>
 rtI .i64 CM fun CN=>
 yO L 115 [(.int .i64 CN)] h1 n2 (fun DZ Da Db=>
 false) fun CO An AK=>
 gt (Nat.ble n2 AK) (
 opt (zB P 50 6 v3) fun Ao=>
 opt (zE P 40 An Ao) fun BE=>
 yO L 61 [BE] An AK (fun Dc Dd De=>
 false) fun CP Ap Aq=>
 gt (Nat.ble AK Aq) (
 xY uF P .add 9 true CO (.string (ByteArray.mk #[32,61,32,99,97,108,108,32])) fun CQ=>
 opt (zB P 50 5 v3) fun Ar=>
 opt (zE P 9 Ap Ar) fun BF=>
 xY uF P .add 9 false CQ BF fun CR=>
 xY uF P .add 9 false CR CP fun CS=>
 gt (lks [(W.mk [] u Ap Aq),(W.mk [] u An AK),(W.mk [] u h1 n2)] [⟨true,(lkQ (fun CT=>zE P 9 CT Ar) Ar BF),0,2⟩,⟨true,(lkQ (fun CU=>zE P 40 CU Ao) Ao BE),0,1⟩]) (
 zJ P L 62 k .ret (fo62 CS) (W.mk [] u Ap Aq)))))) (
 fb (xN a6 7) fun As=>
 br As (
 opt (zB P 50 2 v3) fun CV=>
 opt (zE P 3 h1 CV) fun CW=>
 rtI .i64 CW fun CX=>
 yO L 115 [(.int .i64 CX)] h1 n2 (fun Df Dg Dh=>
 false) fun CY At AL=>
 gt (Nat.ble n2 AL) (
 opt (zB P 50 7 v3) fun Au=>
 opt (zE P 3 At Au) fun CZ=>
 rtI .i64 CZ fun BG=>
 yO L 115 [(.int .i64 BG)] At AL (fun Di Dj Dk=>
 false) fun Ca Av AM=>
 gt (Nat.ble AL AM) (
 opt (zB P 50 8 v3) fun Aw=>
 opt (zE P 3 Av Aw) fun Cb=>
 rtI .i64 Cb fun BH=>
 yO L 115 [(.int .i64 BH)] Av AM (fun Dl Dm Dn=>
 false) fun Cc BI Ax=>
 gt (Nat.ble AM Ax) (
 xY uF P .add 9 true (.string (ByteArray.mk #[98,114,32])) CY fun Cd=>
 xY uF P .add 9 true Cd (.string (ByteArray.mk #[32])) fun Ce=>
 xY uF P .add 9 false Ce Ca fun Cf=>
 xY uF P .add 9 true Cf (.string (ByteArray.mk #[32])) fun Cg=>
 xY uF P .add 9 false Cg Cc fun Ch=>
 gt (lks [(W.mk [] u BI Ax),(W.mk [] u Av AM),(W.mk [] u At AL),(W.mk [] u h1 n2)] [⟨true,(lkQ (fun Ci=>zE P 3 Ci Aw) Aw (.int .i64 BH)),0,2⟩,⟨true,(lkQ (fun Cj=>zE P 3 Cj Au) Au (.int .i64 BG)),0,1⟩]) (
 zJ P L 62 k .ret (fo62 Ch) (W.mk [] u BI Ax)))))) (
 fb (xN a6 8) fun Ay=>
 br Ay (
 opt (zB P 50 7 v3) fun Ck=>
 opt (zE P 3 h1 Ck) fun Cl=>
 rtI .i64 Cl fun Cm=>
 yO L 115 [(.int .i64 Cm)] h1 n2 (fun Cn Co Cp=>
 zJ P L 62 k (.panic Cn) (fo62 (.string (ByteArray.mk #[]))) (W.mk [] u Co Cp)) fun Cq Cr Cs=>
 xY uF P .add 9 true (.string (ByteArray.mk #[106,117,109,112,32])) Cq fun Ct=>
 zJ P L 62 k .ret (fo62 Ct) (W.mk [] u Cr Cs)) (
 k7 (gf108 p0 v3 (.string (ByteArray.mk #[])) v4 (vi a6) (vb a8) (vb a8) ud ud ud ud ud ud ud ud (vb AR) (vb AR) ud ud ud ud ud ud ud ud (vb AV) (vb AV) ud ud ud ud ud ud ud ud ud ud ud (vb Ab) (vb Ab) ud ud ud ud ud ud ud ud (vb Af) (vb Af) ud ud ud ud ud ud ud ud ud (vb Aj) (vb Aj) ud ud ud ud ud ud ud ud ud ud ud ud ud ud ud ud ud ud ud ud ud (vb As) (vb As) ud ud ud ud ud ud ud ud ud ud ud ud ud ud (vb Ay) (vb Ay) ud ud ud ud ud ud ud ud) (W.mk [] u h1 n2)))))))))) (fun AE Cu=>
 zL (zA AE 1) fun Az=>
 onW Cu fun BJ BK BL Cv=>
 opt (zB P 50 2 Az) fun A0=>
 opt (zE P 3 BL A0) fun Cw=>
 rtI .i64 Cw fun A1=>
 yO L 115 [(.int .i64 A1)] BL Cv (kp L 62 k (fj62_0 AE Az (zA AE 2) A0 (vi A1) (zA AE 106) (zA AE 107)) BJ BK) fun BM C0 C1=>
 xY uF P .add 9 true (.string (ByteArray.mk #[114,101,116,32])) BM fun BN=>
 zJ P L 62 k .ret (fj62_0 AE Az BN A0 (vi A1) BM BN) (W.mk BJ BK C0 C1))
theorem F62_eq:EY1 62 hint62 F62:=fun _ _ _ _ _ _ _ _=>by kernel_rfl
theorem l62:yU P 62=true:=by kernel_rfl
theorem r62:xW P 62=some [.tmp 2]:=by kernel_rfl
noncomputable abbrev fo21(s2:Value):Fr:=gf76 ud ud s2 ud ud ud ud ud ud ud ud ud ud ud ud ud ud ud ud ud ud ud ud ud ud ud ud ud ud ud ud ud ud ud ud ud ud ud ud ud ud ud ud ud ud ud ud ud ud ud ud ud ud ud ud ud ud ud ud ud ud ud ud ud ud ud ud ud ud ud ud ud ud ud ud ud
noncomputable abbrev fj21_1(t:Fr)(s1 s4 s5 s6 s7 s16 s17 s18 s19 s20 s21 s22 s23 s24 s25 s26 s27 s28 s29 s30 s51 s52 s53 s54 s55 s56 s57 s58 s61 s62 s63 s64 s65 s66 s67 s68 s69 s70 s71 s72 s73:Value):Fr:=gf76 (zA t 0) s1 (zA t 2) (zA t 3) s4 s5 s6 s7 (zA t 8) (zA t 9) (zA t 10) (zA t 11) (zA t 12) (zA t 13) (zA t 14) (zA t 15) s16 s17 s18 s19 s20 s21 s22 s23 s24 s25 s26 s27 s28 s29 s30 (zA t 31) (zA t 32) (zA t 33) (zA t 34) (zA t 35) (zA t 36) (zA t 37) (zA t 38) (zA t 39) (zA t 40) (zA t 41) (zA t 42) (zA t 43) (zA t 44) (zA t 45) (zA t 46) (zA t 47) (zA t 48) (zA t 49) (zA t 50) s51 s52 s53 s54 s55 s56 s57 s58 (zA t 59) (zA t 60) s61 s62 s63 s64 s65 s66 s67 s68 s69 s70 s71 s72 s73 (zA t 74) (zA t 75)
noncomputable abbrev fj21_0(t:Fr)(s1 s2 s4 s6 s7 s31 s32 s33 s34 s35 s36 s37 s38 s39 s40 s41 s42 s43 s44 s45 s46 s47 s48 s49 s50 s51 s52 s53 s54 s55 s56 s57 s58 s59 s60 s74 s75:Value):Fr:=gf76 (zA t 0) s1 s2 (zA t 3) s4 (zA t 5) s6 s7 (zA t 8) (zA t 9) (zA t 10) (zA t 11) (zA t 12) (zA t 13) (zA t 14) (zA t 15) (zA t 16) (zA t 17) (zA t 18) (zA t 19) (zA t 20) (zA t 21) (zA t 22) (zA t 23) (zA t 24) (zA t 25) (zA t 26) (zA t 27) (zA t 28) (zA t 29) (zA t 30) s31 s32 s33 s34 s35 s36 s37 s38 s39 s40 s41 s42 s43 s44 s45 s46 s47 s48 s49 s50 s51 s52 s53 s54 s55 s56 s57 s58 s59 s60 (zA t 61) (zA t 62) (zA t 63) (zA t 64) (zA t 65) (zA t 66) (zA t 67) (zA t 68) (zA t 69) (zA t 70) (zA t 71) (zA t 72) (zA t 73) s74 s75
noncomputable abbrev hint21:rD:=hq [(0,1000006,[.any,.val,.any,.any,.val,(.int .i64)]),(0,1000011,[.any,.val,.any,.any,.val,.any,(.int .i64)]),(0,1000015,[.any,.val,.any,.any,.val,.any,(.int .i64),(.int .i64)]),(1,0,[.any,.val,.any,.any,.val]),(1,1,[.any,.val,.any,.any,.val,(.int .i64)]),(1,2,[.any,.any,.any,.any,.val]),(1,3,[.any,.val,.any,.any,.val,.any,(.int .i64)]),(1,4,[.any,.val,.any,.any,.val,.any,(.int .i64)]),(1,5,[.any,.val,.any,.any,.val,.any,(.int .i64),(.int .i64)]),(2,0,[.any,.val,.any,.any,.val,(.int .i64)]),(2,3,[.any,.val])]
noncomputable def F21:TY1:=fun L lp p0 df u h n k=>
 eBox p0 h n fun h1 n2 v3=>
 opt (zE P 43 h1 v3) fun v4=>
 uL L 18 [v4] h1 n2 (fun c8 h9 Ak=>
 zJ P L 21 k (.panic c8) (fo21 (.string (ByteArray.mk #[]))) (W.mk [] u h9 Ak)) fun a5 h6 n7=>
 opt (aUn .not (.bool a5)) fun Al=>
 rtB Al fun AS=>
 br AS (
 zJ P L 21 k .ret (fo21 (.string (ByteArray.mk #[]))) (W.mk [] u h6 n7)) (
 opt (zB P 43 0 v3) fun AT=>
 opt (zE P 9 h6 AT) fun AU=>
 xY uF P .add 9 true (.string (ByteArray.mk #[102,117,110,99,32])) AU fun AV=>
 xY uF P .add 9 true AV (.string (ByteArray.mk #[10,114,101,103,115])) fun AW=>
 lp 1000006 ⟨21,none,df⟩ (gf76 p0 v3 (.string (ByteArray.mk #[])) (vb a5) AW (vi 0) ud ud v4 (vb a5) (vb a5) (vb AS) AT AU AV AW ud ud ud ud ud ud ud ud ud ud ud ud ud ud ud ud ud ud ud ud ud ud ud ud ud ud ud ud ud ud ud ud ud ud ud ud ud ud ud ud ud ud ud ud ud ud ud ud ud ud ud ud ud ud ud ud ud ud ud ud) (W.mk [] u h6 n7) (pH noK (pI 0 (fun AB Am=>
 zL (zA AB 1) fun AG=>
 zL (zA AB 4) fun AX=>
 onW Am fun AH AI AJ AK=>
 opt (zB P 43 2 AG) fun AY=>
 opt (zE P 40 AJ AY) fun AZ=>
 yO L 61 [AZ] AJ AK (fun At Au Av=>
 false) fun Aa AL AM=>
 gt (Nat.ble AK AM) (
 xY uF P .add 9 true AX (.string (ByteArray.mk #[10,112,97,114,97,109,115])) fun Ab=>
 xY uF P .add 9 false Ab Aa fun Ac=>
 xY uF P .add 9 true Ac (.string (ByteArray.mk #[10,114,101,115,117,108,116,32])) fun Ad=>
 opt (zB P 43 3 AG) fun AD=>
 opt (zE P 9 AL AD) fun AN=>
 xY uF P .add 9 false Ad AN fun Ae=>
 xY uF P .add 9 true Ae (.string (ByteArray.mk #[10])) fun Af=>
 gt (lks [(W.mk AH AI AL AM),(W.mk AH AI AJ AK)] [⟨true,(lkQ (fun An=>zE P 9 An AD) AD AN),0,1⟩]) (
 lp 1000011 ⟨21,none,df⟩ (fj21_0 AB AG (zA AB 2) Af (vi 0) (zA AB 7) AX Ab AY AZ Aa Ac Ad AD AN Ae Af (zA AB 42) (zA AB 43) (zA AB 44) (zA AB 45) (zA AB 46) (zA AB 47) (zA AB 48) (zA AB 49) (zA AB 50) (zA AB 51) (zA AB 52) (zA AB 53) (zA AB 54) (zA AB 55) (zA AB 56) (zA AB 57) (zA AB 58) (zA AB 59) (zA AB 60) (zA AB 74) (zA AB 75)) (W.mk AH AI AL AM) (pH noK (pI 2 (fun AA Ao=>
 zL (zA AA 4) fun AO=>
 onW Ao fun Ap Aq Ar As=>
 xY uF P .add 9 true AO (.string (ByteArray.mk #[101,110,100,10])) fun Ag=>
 zJ P L 21 k .ret (fj21_0 AA (zA AA 1) Ag AO (zA AA 6) (zA AA 7) (zA AA 31) (zA AA 32) (zA AA 33) (zA AA 34) (zA AA 35) (zA AA 36) (zA AA 37) (zA AA 38) (zA AA 39) (zA AA 40) (zA AA 41) (zA AA 42) (zA AA 43) (zA AA 44) (zA AA 45) (zA AA 46) (zA AA 47) (zA AA 48) (zA AA 49) (zA AA 50) (zA AA 51) (zA AA 52) (zA AA 53) (zA AA 54) (zA AA 55) (zA AA 56) (zA AA 57) (zA AA 58) (zA AA 59) (zA AA 60) AO Ag) (W.mk Ap Aq Ar As)) (zJ P L 21 k)))))) (zJ P L 21 k))))
theorem F21_eq:EY1 21 hint21 F21:=fun _ _ _ _ _ _ _ _=>by kernel_rfl
noncomputable def B21_1000006:TYB:=fun L lp rd df t w ka=>
 zL (zA t 1) fun AD=>
 zL (zA t 4) fun AE=>
 rtI .i64 (zA t 5) fun AB=>
 onW w fun AJ AK AC AL=>
 opt (zB P 43 1 AD) fun AF=>
 opt (zE P 23 AC AF) fun AG=>
 opt (zX P .len [23] [AG] AC) fun AU=>
 rtI .i64 AU fun AH=>
 fb (wB AB AH) fun AI=>
 br AI (
 pM (fun AV=>
 xY uF P .add 9 true AE (.string (ByteArray.mk #[32])) fun AM=>
 opt (zB P 43 1 AD) fun AN=>
 opt (zE P 23 AC AN) fun AO=>
 opt (zR P 23 AO (.int .i64 AB)) fun AP=>
 opt (zE P 9 AC AP) fun AQ=>
 xY uF P .add 9 false AM AQ fun AR=>
 AV (fj21_1 t AD AR (vi AB) (zA t 6) (zA t 7) (vi AB) AF AG (vi AH) (vb AI) (zA t 21) (zA t 22) AE AM AN AO (vi AB) AP AQ AR (zA t 51) (zA t 52) (zA t 53) (zA t 54) (zA t 55) (zA t 56) (zA t 57) (zA t 58) (zA t 61) (zA t 62) (zA t 63) (zA t 64) (zA t 65) (zA t 66) (zA t 67) (zA t 68) (zA t 69) (zA t 70) (zA t 71) (zA t 72) (zA t 73)) (W.mk AJ AK AC AL)) (fun AA AW=>
 zL (zA AA 1) fun AX=>
 zL (zA AA 4) fun AY=>
 rtI .i64 (zA AA 5) fun AS=>
 onW AW fun AZ Aa Ab Ac=>
 fi (wH .i64 (uF AS 1)) fun AT=>
 lp 1000006 ⟨21,rd,df⟩ (fj21_1 AA AX AY (vi AT) (zA AA 6) (zA AA 7) (zA AA 16) (zA AA 17) (zA AA 18) (zA AA 19) (zA AA 20) (vi AS) (vi AT) (zA AA 23) (zA AA 24) (zA AA 25) (zA AA 26) (zA AA 27) (zA AA 28) (zA AA 29) (zA AA 30) (zA AA 51) (zA AA 52) (zA AA 53) (zA AA 54) (zA AA 55) (zA AA 56) (zA AA 57) (zA AA 58) (zA AA 61) (zA AA 62) (zA AA 63) (zA AA 64) (zA AA 65) (zA AA 66) (zA AA 67) (zA AA 68) (zA AA 69) (zA AA 70) (zA AA 71) (zA AA 72) (zA AA 73)) (W.mk AZ Aa Ab Ac) ka)) (
 ka (.exit 0) (fj21_1 t AD AE (vi AB) (zA t 6) (zA t 7) (vi AB) AF AG (vi AH) (vb AI) (zA t 21) (zA t 22) (zA t 23) (zA t 24) (zA t 25) (zA t 26) (zA t 27) (zA t 28) (zA t 29) (zA t 30) (zA t 51) (zA t 52) (zA t 53) (zA t 54) (zA t 55) (zA t 56) (zA t 57) (zA t 58) (zA t 61) (zA t 62) (zA t 63) (zA t 64) (zA t 65) (zA t 66) (zA t 67) (zA t 68) (zA t 69) (zA t 70) (zA t 71) (zA t 72) (zA t 73)) (W.mk AJ AK AC AL))
theorem B21_1000006_eq:EYB 21 1000006 hint21 B21_1000006:=fun _ _ _ _ _ _ _=>by kernel_rfl
noncomputable def B21_1000011:TYB:=fun L lp rd df t w ka=>
 zL (zA t 1) fun AE=>
 zL (zA t 4) fun AF=>
 rtI .i64 (zA t 6) fun AC=>
 onW w fun AK AL AD AM=>
 opt (zB P 43 4 AE) fun AG=>
 opt (zE P 41 AD AG) fun AH=>
 opt (zX P .len [41] [AH] AD) fun AR=>
 rtI .i64 AR fun AI=>
 fb (wB AC AI) fun AJ=>
 br AJ (
 pM (fun AN=>
 xY uF P .add 9 true AF (.string (ByteArray.mk #[98,108,111,99,107,10])) fun AO=>
 lp 1000015 ⟨21,rd,df⟩ (fj21_0 t AE (zA t 2) AO (vi AC) (vi 0) (zA t 31) (zA t 32) (zA t 33) (zA t 34) (zA t 35) (zA t 36) (zA t 37) (zA t 38) (zA t 39) (zA t 40) (zA t 41) (vi AC) AG AH (vi AI) (vb AJ) (zA t 47) (zA t 48) AF AO (zA t 51) (zA t 52) (zA t 53) (zA t 54) (zA t 55) (zA t 56) (zA t 57) (zA t 58) (zA t 59) (zA t 60) (zA t 74) (zA t 75)) (W.mk AK AL AD AM) (pH noK (pI 4 (fun AA AS=>
 zL (zA AA 1) fun AT=>
 zL (zA AA 4) fun AU=>
 rtI .i64 (zA AA 6) fun AV=>
 onW AS fun AW AX AY AZ=>
 AN (fj21_0 AA AT (zA AA 2) AU (vi AV) (zA AA 7) (zA AA 31) (zA AA 32) (zA AA 33) (zA AA 34) (zA AA 35) (zA AA 36) (zA AA 37) (zA AA 38) (zA AA 39) (zA AA 40) (zA AA 41) (zA AA 42) (zA AA 43) (zA AA 44) (zA AA 45) (zA AA 46) (zA AA 47) (zA AA 48) (zA AA 49) (zA AA 50) (zA AA 51) (zA AA 52) (zA AA 53) (zA AA 54) (zA AA 55) (zA AA 56) (zA AA 57) (zA AA 58) (zA AA 59) (zA AA 60) (zA AA 74) (zA AA 75)) (W.mk AW AX AY AZ)) (pI 3 AN ka)))) (fun AB Aa=>
 zL (zA AB 1) fun Ab=>
 zL (zA AB 4) fun Ac=>
 rtI .i64 (zA AB 6) fun AP=>
 onW Aa fun Ad Ae Af Ag=>
 fi (wH .i64 (uF AP 1)) fun AQ=>
 lp 1000011 ⟨21,rd,df⟩ (fj21_0 AB Ab (zA AB 2) Ac (vi AQ) (zA AB 7) (zA AB 31) (zA AB 32) (zA AB 33) (zA AB 34) (zA AB 35) (zA AB 36) (zA AB 37) (zA AB 38) (zA AB 39) (zA AB 40) (zA AB 41) (zA AB 42) (zA AB 43) (zA AB 44) (zA AB 45) (zA AB 46) (vi AP) (vi AQ) (zA AB 49) (zA AB 50) (zA AB 51) (zA AB 52) (zA AB 53) (zA AB 54) (zA AB 55) (zA AB 56) (zA AB 57) (zA AB 58) (zA AB 59) (zA AB 60) (zA AB 74) (zA AB 75)) (W.mk Ad Ae Af Ag) ka)) (
 ka (.exit 2) (fj21_0 t AE (zA t 2) AF (vi AC) (zA t 7) (zA t 31) (zA t 32) (zA t 33) (zA t 34) (zA t 35) (zA t 36) (zA t 37) (zA t 38) (zA t 39) (zA t 40) (zA t 41) (vi AC) AG AH (vi AI) (vb AJ) (zA t 47) (zA t 48) (zA t 49) (zA t 50) (zA t 51) (zA t 52) (zA t 53) (zA t 54) (zA t 55) (zA t 56) (zA t 57) (zA t 58) (zA t 59) (zA t 60) (zA t 74) (zA t 75)) (W.mk AK AL AD AM))
theorem B21_1000011_eq:EYB 21 1000011 hint21 B21_1000011:=fun _ _ _ _ _ _ _=>by kernel_rfl
noncomputable def B21_1000015:TYB:=fun L lp rd df t w ka=>
 zL (zA t 1) fun AE=>
 zL (zA t 4) fun AF=>
 rtI .i64 (zA t 6) fun AB=>
 rtI .i64 (zA t 7) fun AC=>
 onW w fun AM AN AD AV=>
 opt (zB P 43 4 AE) fun AG=>
 opt (zE P 41 AD AG) fun AH=>
 opt (zR P 41 AH (.int .i64 AB)) fun AI=>
 opt (zE P 51 AD AI) fun AJ=>
 opt (zX P .len [51] [AJ] AD) fun Ab=>
 rtI .i64 Ab fun AK=>
 fb (wB AC AK) fun AL=>
 br AL (
 pM (fun Ac=>
 xY uF P .add 9 true AF (.string (ByteArray.mk #[32,32])) fun AO=>
 opt (zB P 43 4 AE) fun AP=>
 opt (zE P 41 AD AP) fun AQ=>
 opt (zR P 41 AQ (.int .i64 AB)) fun AR=>
 opt (zE P 51 AD AR) fun AS=>
 opt (zR P 51 AS (.int .i64 AC)) fun AT=>
 opt (zE P 50 AD AT) fun AU=>
 yO L 62 [AU] AD AV (kb ka (fj21_1 t AE AF (zA t 5) (vi AB) (vi AC) (zA t 16) (zA t 17) (zA t 18) (zA t 19) (zA t 20) (zA t 21) (zA t 22) (zA t 23) (zA t 24) (zA t 25) (zA t 26) (zA t 27) (zA t 28) (zA t 29) (zA t 30) (vi AC) AG AH (vi AB) AI AJ (vi AK) (vb AL) AF AO AP AQ (vi AB) AR AS (vi AC) AT AU (zA t 71) (zA t 72) (zA t 73)) AM AN) fun AW Ag Ah=>
 xY uF P .add 9 false AO AW fun AX=>
 xY uF P .add 9 true AX (.string (ByteArray.mk #[10])) fun AY=>
 Ac (fj21_1 t AE AY (zA t 5) (vi AB) (vi AC) (zA t 16) (zA t 17) (zA t 18) (zA t 19) (zA t 20) (zA t 21) (zA t 22) (zA t 23) (zA t 24) (zA t 25) (zA t 26) (zA t 27) (zA t 28) (zA t 29) (zA t 30) (vi AC) AG AH (vi AB) AI AJ (vi AK) (vb AL) AF AO AP AQ (vi AB) AR AS (vi AC) AT AU AW AX AY) (W.mk AM AN Ag Ah)) (fun AA Ai=>
 zL (zA AA 1) fun Aj=>
 zL (zA AA 4) fun Ak=>
 rtI .i64 (zA AA 6) fun Al=>
 rtI .i64 (zA AA 7) fun AZ=>
 onW Ai fun Am An Ao Ap=>
 fi (wH .i64 (uF AZ 1)) fun Aa=>
 lp 1000015 ⟨21,rd,df⟩ (fj21_0 AA Aj (zA AA 2) Ak (vi Al) (vi Aa) (zA AA 31) (zA AA 32) (zA AA 33) (zA AA 34) (zA AA 35) (zA AA 36) (zA AA 37) (zA AA 38) (zA AA 39) (zA AA 40) (zA AA 41) (zA AA 42) (zA AA 43) (zA AA 44) (zA AA 45) (zA AA 46) (zA AA 47) (zA AA 48) (zA AA 49) (zA AA 50) (zA AA 51) (zA AA 52) (zA AA 53) (zA AA 54) (zA AA 55) (zA AA 56) (zA AA 57) (zA AA 58) (vi AZ) (vi Aa) (zA AA 74) (zA AA 75)) (W.mk Am An Ao Ap) ka)) (
 ka (.exit 4) (fj21_0 t AE (zA t 2) AF (vi AB) (vi AC) (zA t 31) (zA t 32) (zA t 33) (zA t 34) (zA t 35) (zA t 36) (zA t 37) (zA t 38) (zA t 39) (zA t 40) (zA t 41) (zA t 42) (zA t 43) (zA t 44) (zA t 45) (zA t 46) (zA t 47) (zA t 48) (zA t 49) (zA t 50) (vi AC) AG AH (vi AB) AI AJ (vi AK) (vb AL) (zA t 59) (zA t 60) (zA t 74) (zA t 75)) (W.mk AM AN AD AV))
theorem B21_1000015_eq:EYB 21 1000015 hint21 B21_1000015:=fun _ _ _ _ _ _ _=>by kernel_rfl
theorem l21:yU P 21=true:=by kernel_rfl
theorem r21:xW P 21=some [.tmp 2]:=by kernel_rfl
theorem lp21_1000006:vC (yZ P 21 1000006)=true:=by kernel_rfl
theorem lp21_1000011:vC (yZ P 21 1000011)=true:=by kernel_rfl
theorem lp21_1000015:vC (yZ P 21 1000015)=true:=by kernel_rfl
noncomputable abbrev fj17_1(t:Fr)(s1 s3 s5 s6 s44 s45 s46 s47 s48 s49 s50 s51 s52 s55 s56 s57 s58 s59 s60 s61 s62 s63 s64 s65 s66 s67 s68 s69 s70 s71 s72 s73 s74 s75 s78 s79 s80 s81 s82 s83 s84 s85 s86 s87 s88 s89 s90 s91 s92 s93 s94 s95 s96 s97 s98 s99 s100 s101:Value):Fr:=gf104 (zA t 0) s1 (zA t 2) s3 (zA t 4) s5 s6 (zA t 7) (zA t 8) (zA t 9) (zA t 10) (zA t 11) (zA t 12) (zA t 13) (zA t 14) (zA t 15) (zA t 16) (zA t 17) (zA t 18) (zA t 19) (zA t 20) (zA t 21) (zA t 22) (zA t 23) (zA t 24) (zA t 25) (zA t 26) (zA t 27) (zA t 28) (zA t 29) (zA t 30) (zA t 31) (zA t 32) (zA t 33) (zA t 34) (zA t 35) (zA t 36) (zA t 37) (zA t 38) (zA t 39) (zA t 40) (zA t 41) (zA t 42) (zA t 43) s44 s45 s46 s47 s48 s49 s50 s51 s52 (zA t 53) (zA t 54) s55 s56 s57 s58 s59 s60 s61 s62 s63 s64 s65 s66 s67 s68 s69 s70 s71 s72 s73 s74 s75 (zA t 76) (zA t 77) s78 s79 s80 s81 s82 s83 s84 s85 s86 s87 s88 s89 s90 s91 s92 s93 s94 s95 s96 s97 s98 s99 s100 s101 (zA t 102) (zA t 103)
noncomputable abbrev fj17_0(t:Fr)(s1 s2 s3 s4 s5 s6 s24 s25 s26 s27 s28 s29 s30 s31 s32 s33 s34 s35 s36 s37 s38 s39 s40 s41 s42 s43 s53 s54 s64 s65 s66 s67 s68 s69 s70 s71 s72 s73 s74 s75 s76 s77 s102 s103:Value):Fr:=gf104 (zA t 0) s1 s2 s3 s4 s5 s6 (zA t 7) (zA t 8) (zA t 9) (zA t 10) (zA t 11) (zA t 12) (zA t 13) (zA t 14) (zA t 15) (zA t 16) (zA t 17) (zA t 18) (zA t 19) (zA t 20) (zA t 21) (zA t 22) (zA t 23) s24 s25 s26 s27 s28 s29 s30 s31 s32 s33 s34 s35 s36 s37 s38 s39 s40 s41 s42 s43 (zA t 44) (zA t 45) (zA t 46) (zA t 47) (zA t 48) (zA t 49) (zA t 50) (zA t 51) (zA t 52) s53 s54 (zA t 55) (zA t 56) (zA t 57) (zA t 58) (zA t 59) (zA t 60) (zA t 61) (zA t 62) (zA t 63) s64 s65 s66 s67 s68 s69 s70 s71 s72 s73 s74 s75 s76 s77 (zA t 78) (zA t 79) (zA t 80) (zA t 81) (zA t 82) (zA t 83) (zA t 84) (zA t 85) (zA t 86) (zA t 87) (zA t 88) (zA t 89) (zA t 90) (zA t 91) (zA t 92) (zA t 93) (zA t 94) (zA t 95) (zA t 96) (zA t 97) (zA t 98) (zA t 99) (zA t 100) (zA t 101) s102 s103
noncomputable abbrev fj17_2(t:Fr)(s1 s3 s5:Value):Fr:=fj17_0 t s1 (zA t 2) s3 (zA t 4) s5 (zA t 6) (zA t 24) (zA t 25) (zA t 26) (zA t 27) (zA t 28) (zA t 29) (zA t 30) (zA t 31) (zA t 32) (zA t 33) (zA t 34) (zA t 35) (zA t 36) (zA t 37) (zA t 38) (zA t 39) (zA t 40) (zA t 41) (zA t 42) (zA t 43) (zA t 53) (zA t 54) (zA t 64) (zA t 65) (zA t 66) (zA t 67) (zA t 68) (zA t 69) (zA t 70) (zA t 71) (zA t 72) (zA t 73) (zA t 74) (zA t 75) (zA t 76) (zA t 77) (zA t 102) (zA t 103)
noncomputable abbrev hint17:rD:=hq [(0,1000003,[.any,.val,.any,(.int .i64),(.int .i64)]),(0,1000007,[.any,.val,.any,(.int .i64),.any,(.int .i64)]),(0,1000011,[.any,.val,.any,(.int .i64),.any,(.int .i64),(.int .i64)]),(1,0,[.any,.val,.any,(.int .i64)]),(1,1,[.any,.val,.any,(.int .i64),(.int .i64)]),(1,2,[.any,.any,.any,(.int .i64)]),(1,3,[.any,.val,.any,(.int .i64),.any,(.int .i64)]),(1,4,[.any,.val,.any,(.int .i64),.any,(.int .i64)]),(1,5,[.any,.val,.any,(.int .i64),.any,(.int .i64),(.int .i64)]),(2,0,[.any,.val,.any,(.int .i64),(.int .i64)])]
noncomputable def F17:TY1:=fun L lp p0 df u h n k=>
 eBox p0 h n fun h1 n2 v3=>
 opt (zB P 43 1 v3) fun v4=>
 opt (zE P 23 h1 v4) fun v5=>
 opt (zX P .len [23] [v5] h1) fun v6=>
 rtI .i64 v6 fun a7=>
 opt (zB P 43 2 v3) fun v8=>
 opt (zE P 40 h1 v8) fun v9=>
 opt (zX P .len [40] [v9] h1) fun AZ=>
 rtI .i64 AZ fun AK=>
 fi (wH .i64 (uF a7 AK)) fun AL=>
 opt (zB P 43 0 v3) fun AM=>
 opt (zE P 9 h1 AM) fun AN=>
 opt (zX P .len [9] [AN] h1) fun Aa=>
 rtI .i64 Aa fun AO=>
 opt (qBin P .quo 3 true (.int .i64 AO) (.int .i64 8)) fun Ab=>
 rtI .i64 Ab fun AP=>
 fi (wH .i64 (uF AL AP)) fun AQ=>
 opt (zB P 43 3 v3) fun AR=>
 opt (zE P 9 h1 AR) fun AS=>
 opt (zX P .len [9] [AS] h1) fun Ac=>
 rtI .i64 Ac fun AT=>
 opt (qBin P .quo 3 true (.int .i64 AT) (.int .i64 8)) fun Ad=>
 rtI .i64 Ad fun AU=>
 fi (wH .i64 (uF AQ AU)) fun AV=>
 lp 1000003 ⟨17,none,df⟩ (gf104 p0 v3 (vb false) (vi AV) (vi 0) ud ud v4 v5 (vi a7) v8 v9 (vi AK) (vi AL) AM AN (vi AO) (vi AP) (vi AQ) AR AS (vi AT) (vi AU) (vi AV) ud ud ud ud ud ud ud ud ud ud ud ud ud ud ud ud ud ud ud ud ud ud ud ud ud ud ud ud ud ud ud ud ud ud ud ud ud ud ud ud ud ud ud ud ud ud ud ud ud ud ud ud ud ud ud ud ud ud ud ud ud ud ud ud ud ud ud ud ud ud ud ud ud ud ud ud ud ud ud ud) (W.mk [] u h1 n2) (pH noK (pI 0 (fun AD Ae=>
 zL (zA AD 1) fun Af=>
 rtI .i64 (zA AD 3) fun Ag=>
 onW Ae fun Ah Ai Aj Ak=>
 lp 1000007 ⟨17,none,df⟩ (fj17_2 AD Af (vi Ag) (vi 0)) (W.mk Ah Ai Aj Ak) (pH noK (pI 2 (fun AA Al=>
 rtI .i64 (zA AA 3) fun AE=>
 onW Al fun Am An Ao Ap=>
 fb (wB 3000 AE) fun AW=>
 zJ P L 17 k .ret (fj17_0 AA (zA AA 1) (vb AW) (vi AE) (zA AA 4) (zA AA 5) (zA AA 6) (zA AA 24) (zA AA 25) (zA AA 26) (zA AA 27) (zA AA 28) (zA AA 29) (zA AA 30) (zA AA 31) (zA AA 32) (zA AA 33) (zA AA 34) (zA AA 35) (zA AA 36) (zA AA 37) (zA AA 38) (zA AA 39) (zA AA 40) (zA AA 41) (zA AA 42) (zA AA 43) (zA AA 53) (zA AA 54) (zA AA 64) (zA AA 65) (zA AA 66) (zA AA 67) (zA AA 68) (zA AA 69) (zA AA 70) (zA AA 71) (zA AA 72) (zA AA 73) (zA AA 74) (zA AA 75) (zA AA 76) (zA AA 77) (vi AE) (vb AW)) (W.mk Am An Ao Ap)) (zJ P L 17 k)))) (zJ P L 17 k)))
theorem F17_eq:EY1 17 hint17 F17:=fun _ _ _ _ _ _ _ _=>by kernel_rfl
noncomputable def B17_1000003:TYB:=fun L lp rd df t w ka=>
 zL (zA t 1) fun AE=>
 rtI .i64 (zA t 3) fun AF=>
 rtI .i64 (zA t 4) fun AB=>
 onW w fun AN AO AG AP=>
 opt (zB P 43 1 AE) fun AH=>
 opt (zE P 23 AG AH) fun AI=>
 opt (zX P .len [23] [AI] AG) fun Ac=>
 rtI .i64 Ac fun AJ=>
 fb (wB AB AJ) fun AC=>
 grd AC (fun Ad=>
 Ad AG AP (.int .i64 AF)) (fun AQ AR AK=>
 grd AC (fun Ae=>
 yB sQ P .leq 3 true AK (.int .i64 3000) fun Af=>
 Ae AQ AR (.bool Af)) (fun AD AS AL=>
 rtB (sel AC AL (.bool false)) fun AM=>
 br AM (
 pM (fun Ag=>
 opt (zB P 43 1 AE) fun AT=>
 opt (zE P 23 AD AT) fun AU=>
 opt (zR P 23 AU (.int .i64 AB)) fun AV=>
 opt (zE P 9 AD AV) fun AW=>
 opt (zX P .len [9] [AW] AD) fun Ah=>
 rtI .i64 Ah fun AX=>
 opt (qBin P .quo 3 true (.int .i64 AX) (.int .i64 8)) fun Ai=>
 rtI .i64 Ai fun AY=>
 fi (wH .i64 (uF AF AY)) fun AZ=>
 Ag (fj17_0 t AE (zA t 2) (vi AZ) (vi AB) (zA t 5) (zA t 6) (vi AB) AH AI (vi AJ) (vb AC) (vb AC) AK AL (vb AM) (zA t 33) (zA t 34) (vi AF) AT AU (vi AB) AV AW (vi AX) (vi AY) (vi AZ) (zA t 53) (zA t 54) (zA t 64) (zA t 65) (zA t 66) (zA t 67) (zA t 68) (zA t 69) (zA t 70) (zA t 71) (zA t 72) (zA t 73) (zA t 74) (zA t 75) (zA t 76) (zA t 77) (zA t 102) (zA t 103)) (W.mk AN AO AD AS)) (fun AA Aj=>
 zL (zA AA 1) fun Ak=>
 rtI .i64 (zA AA 3) fun Al=>
 rtI .i64 (zA AA 4) fun Aa=>
 onW Aj fun Am An Ao Ap=>
 fi (wH .i64 (uF Aa 1)) fun Ab=>
 lp 1000003 ⟨17,rd,df⟩ (fj17_0 AA Ak (zA AA 2) (vi Al) (vi Ab) (zA AA 5) (zA AA 6) (zA AA 24) (zA AA 25) (zA AA 26) (zA AA 27) (zA AA 28) (zA AA 29) (zA AA 30) (zA AA 31) (zA AA 32) (vi Aa) (vi Ab) (zA AA 35) (zA AA 36) (zA AA 37) (zA AA 38) (zA AA 39) (zA AA 40) (zA AA 41) (zA AA 42) (zA AA 43) (zA AA 53) (zA AA 54) (zA AA 64) (zA AA 65) (zA AA 66) (zA AA 67) (zA AA 68) (zA AA 69) (zA AA 70) (zA AA 71) (zA AA 72) (zA AA 73) (zA AA 74) (zA AA 75) (zA AA 76) (zA AA 77) (zA AA 102) (zA AA 103)) (W.mk Am An Ao Ap) ka)) (
 ka (.exit 0) (fj17_0 t AE (zA t 2) (vi AF) (vi AB) (zA t 5) (zA t 6) (vi AB) AH AI (vi AJ) (vb AC) (vb AC) AK AL (vb AM) (zA t 33) (zA t 34) (zA t 35) (zA t 36) (zA t 37) (zA t 38) (zA t 39) (zA t 40) (zA t 41) (zA t 42) (zA t 43) (zA t 53) (zA t 54) (zA t 64) (zA t 65) (zA t 66) (zA t 67) (zA t 68) (zA t 69) (zA t 70) (zA t 71) (zA t 72) (zA t 73) (zA t 74) (zA t 75) (zA t 76) (zA t 77) (zA t 102) (zA t 103)) (W.mk AN AO AD AS))) AQ AR) AG AP
theorem B17_1000003_eq:EYB 17 1000003 hint17 B17_1000003:=fun _ _ _ _ _ _ _=>by kernel_rfl
noncomputable def B17_1000007:TYB:=fun L lp rd df t w ka=>
 zL (zA t 1) fun AE=>
 rtI .i64 (zA t 3) fun AF=>
 rtI .i64 (zA t 5) fun AB=>
 onW w fun AO AP AG AQ=>
 opt (zB P 43 4 AE) fun AI=>
 opt (zE P 41 AG AI) fun AJ=>
 opt (zX P .len [41] [AJ] AG) fun Ae=>
 rtI .i64 Ae fun AK=>
 fb (wB AB AK) fun AC=>
 grd AC (fun Af=>
 Af AG AQ (.int .i64 AF)) (fun AR AS AL=>
 grd AC (fun Ag=>
 yB sQ P .leq 3 true AL (.int .i64 3000) fun Ah=>
 Ag AR AS (.bool Ah)) (fun AD AT AM=>
 rtB (sel AC AM (.bool false)) fun AN=>
 br AN (
 pM (fun AU=>
 fi (wH .i64 (uF AF 1)) fun AV=>
 opt (zB P 43 4 AE) fun AW=>
 opt (zE P 41 AD AW) fun AX=>
 opt (zR P 41 AX (.int .i64 AB)) fun AY=>
 opt (zE P 51 AD AY) fun AZ=>
 opt (zX P .len [51] [AZ] AD) fun Ai=>
 rtI .i64 Ai fun Aa=>
 fi (wH .i64 (uF AV Aa)) fun Ab=>
 lp 1000011 ⟨17,rd,df⟩ (fj17_1 t AE (vi Ab) (vi AB) (vi 0) (vi AB) AI AJ (vi AK) (vb AC) (vb AC) AL AM (vb AN) (vi AF) (vi AV) AW AX (vi AB) AY AZ (vi Aa) (vi Ab) (zA t 64) (zA t 65) (zA t 66) (zA t 67) (zA t 68) (zA t 69) (zA t 70) (zA t 71) (zA t 72) (zA t 73) (zA t 74) (zA t 75) (zA t 78) (zA t 79) (zA t 80) (zA t 81) (zA t 82) (zA t 83) (zA t 84) (zA t 85) (zA t 86) (zA t 87) (zA t 88) (zA t 89) (zA t 90) (zA t 91) (zA t 92) (zA t 93) (zA t 94) (zA t 95) (zA t 96) (zA t 97) (zA t 98) (zA t 99) (zA t 100) (zA t 101)) (W.mk AO AP AD AT) (pH noK (pI 4 (fun AH Aj=>
 zL (zA AH 1) fun Ak=>
 rtI .i64 (zA AH 3) fun Al=>
 rtI .i64 (zA AH 5) fun Am=>
 onW Aj fun An Ao Ap Aq=>
 AU (fj17_2 AH Ak (vi Al) (vi Am)) (W.mk An Ao Ap Aq)) (pI 3 AU ka)))) (fun AA Ar=>
 zL (zA AA 1) fun As=>
 rtI .i64 (zA AA 3) fun At=>
 rtI .i64 (zA AA 5) fun Ac=>
 onW Ar fun Au Av Aw Ax=>
 fi (wH .i64 (uF Ac 1)) fun Ad=>
 lp 1000007 ⟨17,rd,df⟩ (fj17_0 AA As (zA AA 2) (vi At) (zA AA 4) (vi Ad) (zA AA 6) (zA AA 24) (zA AA 25) (zA AA 26) (zA AA 27) (zA AA 28) (zA AA 29) (zA AA 30) (zA AA 31) (zA AA 32) (zA AA 33) (zA AA 34) (zA AA 35) (zA AA 36) (zA AA 37) (zA AA 38) (zA AA 39) (zA AA 40) (zA AA 41) (zA AA 42) (zA AA 43) (vi Ac) (vi Ad) (zA AA 64) (zA AA 65) (zA AA 66) (zA AA 67) (zA AA 68) (zA AA 69) (zA AA 70) (zA AA 71) (zA AA 72) (zA AA 73) (zA AA 74) (zA AA 75) (zA AA 76) (zA AA 77) (zA AA 102) (zA AA 103)) (W.mk Au Av Aw Ax) ka)) (
 ka (.exit 2) (fj17_1 t AE (vi AF) (vi AB) (zA t 6) (vi AB) AI AJ (vi AK) (vb AC) (vb AC) AL AM (vb AN) (zA t 55) (zA t 56) (zA t 57) (zA t 58) (zA t 59) (zA t 60) (zA t 61) (zA t 62) (zA t 63) (zA t 64) (zA t 65) (zA t 66) (zA t 67) (zA t 68) (zA t 69) (zA t 70) (zA t 71) (zA t 72) (zA t 73) (zA t 74) (zA t 75) (zA t 78) (zA t 79) (zA t 80) (zA t 81) (zA t 82) (zA t 83) (zA t 84) (zA t 85) (zA t 86) (zA t 87) (zA t 88) (zA t 89) (zA t 90) (zA t 91) (zA t 92) (zA t 93) (zA t 94) (zA t 95) (zA t 96) (zA t 97) (zA t 98) (zA t 99) (zA t 100) (zA t 101)) (W.mk AO AP AD AT))) AR AS) AG AQ
theorem B17_1000007_eq:EYB 17 1000007 hint17 B17_1000007:=fun _ _ _ _ _ _ _=>by kernel_rfl
noncomputable def B17_1000011:TYB:=fun L lp rd df t w ka=>
 zL (zA t 1) fun AF=>
 rtI .i64 (zA t 3) fun AH=>
 rtI .i64 (zA t 5) fun AC=>
 rtI .i64 (zA t 6) fun AD=>
 onW w fun AI AJ AG AT=>
 opt (zB P 43 4 AF) fun AK=>
 opt (zE P 41 AG AK) fun AL=>
 opt (zR P 41 AL (.int .i64 AC)) fun AM=>
 opt (zE P 51 AG AM) fun AN=>
 opt (zX P .len [51] [AN] AG) fun Ar=>
 rtI .i64 Ar fun AO=>
 fb (wB AD AO) fun AE=>
 grd AE (fun As=>
 As AG AT (.int .i64 AH)) (fun AU AV AP=>
 grd AE (fun At=>
 yB sQ P .leq 3 true AP (.int .i64 3000) fun Au=>
 At AU AV (.bool Au)) (fun AB AQ AR=>
 rtB (sel AE AR (.bool false)) fun AS=>
 br AS (
 pM (fun Av=>
 opt (zB P 43 4 AF) fun AW=>
 opt (zE P 41 AB AW) fun AX=>
 opt (zR P 41 AX (.int .i64 AC)) fun AY=>
 opt (zE P 51 AB AY) fun AZ=>
 opt (zR P 51 AZ (.int .i64 AD)) fun Aa=>
 opt (zB P 50 6 Aa) fun Ab=>
 opt (zE P 40 AB Ab) fun Ac=>
 opt (zX P .len [40] [Ac] AB) fun Aw=>
 rtI .i64 Aw fun Ad=>
 fi (wH .i64 (uF AH Ad)) fun Ae=>
 opt (zB P 43 4 AF) fun Af=>
 opt (zE P 41 AB Af) fun Ag=>
 opt (zR P 41 Ag (.int .i64 AC)) fun Ah=>
 opt (zE P 51 AB Ah) fun Ai=>
 opt (zR P 51 Ai (.int .i64 AD)) fun Aj=>
 opt (zB P 50 5 Aj) fun Ak=>
 opt (zE P 9 AB Ak) fun Al=>
 opt (zX P .len [9] [Al] AB) fun Ax=>
 rtI .i64 Ax fun Am=>
 opt (qBin P .quo 3 true (.int .i64 Am) (.int .i64 8)) fun Ay=>
 rtI .i64 Ay fun An=>
 fi (wH .i64 (uF Ae An)) fun Ao=>
 gt (lks [(W.mk AI AJ AB AQ)] []) (
 Av (fj17_1 t AF (vi Ao) (vi AC) (vi AD) (zA t 44) (zA t 45) (zA t 46) (zA t 47) (zA t 48) (zA t 49) (zA t 50) (zA t 51) (zA t 52) (zA t 55) (zA t 56) (zA t 57) (zA t 58) (zA t 59) (zA t 60) (zA t 61) (zA t 62) (zA t 63) (vi AD) AK AL (vi AC) AM AN (vi AO) (vb AE) (vb AE) AP AR (vb AS) (vi AH) AW AX (vi AC) AY AZ (vi AD) Aa Ab Ac (vi Ad) (vi Ae) Af Ag (vi AC) Ah Ai (vi AD) Aj Ak Al (vi Am) (vi An) (vi Ao)) (W.mk AI AJ AB AQ))) (fun AA Az=>
 zL (zA AA 1) fun A0=>
 rtI .i64 (zA AA 3) fun A1=>
 rtI .i64 (zA AA 5) fun A2=>
 rtI .i64 (zA AA 6) fun Ap=>
 onW Az fun A3 A4 A5 A6=>
 fi (wH .i64 (uF Ap 1)) fun Aq=>
 lp 1000011 ⟨17,rd,df⟩ (fj17_0 AA A0 (zA AA 2) (vi A1) (zA AA 4) (vi A2) (vi Aq) (zA AA 24) (zA AA 25) (zA AA 26) (zA AA 27) (zA AA 28) (zA AA 29) (zA AA 30) (zA AA 31) (zA AA 32) (zA AA 33) (zA AA 34) (zA AA 35) (zA AA 36) (zA AA 37) (zA AA 38) (zA AA 39) (zA AA 40) (zA AA 41) (zA AA 42) (zA AA 43) (zA AA 53) (zA AA 54) (zA AA 64) (zA AA 65) (zA AA 66) (zA AA 67) (zA AA 68) (zA AA 69) (zA AA 70) (zA AA 71) (zA AA 72) (zA AA 73) (zA AA 74) (zA AA 75) (vi Ap) (vi Aq) (zA AA 102) (zA AA 103)) (W.mk A3 A4 A5 A6) ka)) (
 ka (.exit 4) (fj17_0 t AF (zA t 2) (vi AH) (zA t 4) (vi AC) (vi AD) (zA t 24) (zA t 25) (zA t 26) (zA t 27) (zA t 28) (zA t 29) (zA t 30) (zA t 31) (zA t 32) (zA t 33) (zA t 34) (zA t 35) (zA t 36) (zA t 37) (zA t 38) (zA t 39) (zA t 40) (zA t 41) (zA t 42) (zA t 43) (zA t 53) (zA t 54) (vi AD) AK AL (vi AC) AM AN (vi AO) (vb AE) (vb AE) AP AR (vb AS) (zA t 76) (zA t 77) (zA t 102) (zA t 103)) (W.mk AI AJ AB AQ))) AU AV) AG AT
theorem B17_1000011_eq:EYB 17 1000011 hint17 B17_1000011:=fun _ _ _ _ _ _ _=>by kernel_rfl
theorem l17:yU P 17=true:=by kernel_rfl
theorem r17:xW P 17=some [.tmp 2]:=by kernel_rfl
theorem lp17_1000003:vC (yZ P 17 1000003)=true:=by kernel_rfl
theorem lp17_1000007:vC (yZ P 17 1000007)=true:=by kernel_rfl
theorem lp17_1000011:vC (yZ P 17 1000011)=true:=by kernel_rfl
noncomputable abbrev fo4(s2:Value):Fr:=gf63 ud ud s2 ud ud ud ud ud ud ud ud ud ud ud ud ud ud ud ud ud ud ud ud ud ud ud ud ud ud ud ud ud ud ud ud ud ud ud ud ud ud ud ud ud ud ud ud ud ud ud ud ud ud ud ud ud ud ud ud ud ud ud ud
noncomputable abbrev hint4:rD:=hq [(2,4,[.any,.val]),(2,8,[.any,.val,.any,.any,.any,.bool,.val]),(2,10,[.any,.val,.any,.any,.any,.any,.val])]
noncomputable def F4:TY1:=fun L lp p0 df u h n k=>
 eBox p0 h n fun h1 n2 v3=>
 uL L 16 [] h1 n2 (kp L 4 k (fo4 (.bool false)) [] u) fun a4 h5 n6=>
 opt (zE P 43 h5 v3) fun A0=>
 uL L 17 [A0] h5 n6 (kp L 4 k (fo4 (.bool false)) [] u) fun A4 AT AU=>
 opt (aUn .not (.bool a4)) fun A5=>
 rtB A5 fun AV=>
 grd (nt AV) (fun A6=>
 A6 AT AU (.bool A4)) (fun AG AW A7=>
 wV (.bool AV) (fun A8=>
 rtB (sel A8 (.bool true) A7) fun A9=>
 br A9 (
 zJ P L 4 k .ret (fo4 (.bool a4)) (W.mk [] u AG AW)) (
 opt (zE P 43 AG v3) fun BA=>
 uL L 18 [BA] AG AW (kp L 4 k (fo4 (.bool false)) [] u) fun AB AX BE=>
 opt (zE P 43 AX v3) fun BF=>
 yO L 19 [BF] AX BE (kp L 4 k (fo4 (.bool false)) [] u) fun AD AY BJ=>
 opt (zE P 43 AY v3) fun BK=>
 uL L 20 [BK] AY BJ (kp L 4 k (fo4 (.bool false)) [] u) fun BO AZ Aa=>
 yB pW P .neq 4 false (.bool BO) (.bool AB) fun AC=>
 grd (nt AC) (fun BP=>
 BP AZ Aa AD) (fun AH Ab BQ=>
 grd (nt AC) (fun BR=>
 opt (zE P 43 AH v3) fun BS=>
 BR AH Ab BS) (fun Ac Ad BT=>
 grd (nt AC) (fun BU=>
 yO L 21 [BT] Ac Ad (kp L 4 k (fo4 (.bool false)) [] u) fun BY BZ Ba=>
 BU BZ Ba BY) (fun Ae Af Bb=>
 grd (nt AC) (fun Bc=>
 yB pW P .neq 9 false BQ Bb fun Bd=>
 Bc Ae Af (.bool Bd)) (fun AI AJ Be=>
 wV (.bool AC) (fun Bf=>
 rtB (sel Bf (.bool true) Be) fun Bg=>
 br Bg (
 zJ P L 4 k .ret (fo4 (.bool false)) (W.mk [] u AI AJ)) (
 opt (aUn .not (.bool AB)) fun Bh=>
 rtB Bh fun AE=>
 grd (nt AE) (fun Bi=>
 Bi AI AJ AD) (fun AK Ag Bj=>
 grd (nt AE) (fun Bk=>
 opt (zX P .len [9] [Bj] AK) fun Bl=>
 rtI .i64 Bl fun Bm=>
 Bk AK Ag (.int .i64 Bm)) (fun Ah Ai Bn=>
 grd (nt AE) (fun Bo=>
 yB igtB P .gtr 3 true Bn (.int .i64 65536) fun Bp=>
 Bo Ah Ai (.bool Bp)) (fun AL AM Bq=>
 wV (.bool AE) (fun Br=>
 rtB (sel Br (.bool true) Bq) fun Bs=>
 br Bs (
 grd (nt AB) (fun Bt=>
 Bt AL AM AD) (fun Aj Ak Bu=>
 grd (nt AB) (fun Bv=>
 yB xN P .eql 9 true Bu (.string (ByteArray.mk #[])) fun Bw=>
 Bv Aj Ak (.bool Bw)) (fun Bx By Bz=>
 wV (.bool AB) (fun B0=>
 rtB (sel B0 (.bool true) Bz) fun B1=>
 zJ P L 4 k .ret (fo4 (.bool B1)) (W.mk [] u Bx By)) false) Aj Ak) AL AM) (
 yO L 22 [AD] AL AM (kp L 4 k (fo4 (.bool false)) [] u) fun AN B5 B6=>
 opt (xO 0 AN) fun B7=>
 opt (xO 1 AN) fun B8=>
 rtI .i64 B8 fun B9=>
 opt (xO 2 AN) fun CA=>
 rtI .i64 CA fun CB=>
 tZ P 43 B5 B6 fun CC CD Al=>
 zW P 43 Al B7 CC CD fun CE CF Ci=>
 pJ L .i64 23 [(.int .i64 CB)] CE CF (kp L 4 k (fo4 (.bool false)) [] u) fun CJ Am An=>
 fb (xN CJ 0) fun AO=>
 grd AO (fun CK=>
 CK Am An (.int .i64 B9)) (fun Ao Ap CL=>
 grd AO (fun CM=>
 yB xN P .eql 3 true CL (.int .i64 0) fun CN=>
 CM Ao Ap (.bool CN)) (fun AP Aq CO=>
 wV (.bool AO) (fun CP=>
 rtB (sel CP CO (.bool false)) fun AF=>
 grd AF (fun CQ=>
 opt (zE P 43 AP v3) fun CR=>
 CQ AP Aq CR) (fun AQ Ar CS=>
 grd AF (fun CT=>
 opt (zE P 43 AQ Al) fun CU=>
 CT AQ Ar CU) (fun As At CV=>
 grd AF (fun CW=>
 uL L 24 [CS,CV] As At (kp L 4 k (fo4 (.bool false)) [] u) fun Ca Cb Cc=>
 CW Cb Cc (.bool Ca)) (fun Cd Ce Cf=>
 wV (.bool AF) (fun Cg=>
 rtB (sel Cg Cf (.bool false)) fun Ch=>
 zJ P L 4 k .ret (fo4 (.bool Ch)) (W.mk [] u Cd Ce)) false) As At) AQ Ar) AP Aq) false) Ao Ap) Am An)) false) Ah Ai) AK Ag) AI AJ)) false) Ae Af) Ac Ad) AH Ab) AZ Aa)) false) AT AU
theorem F4_eq:EY1 4 hint4 F4:=fun _ _ _ _ _ _ _ _=>by kernel_rfl
theorem l4:yU P 4=true:=by kernel_rfl
theorem r4:xW P 4=some [.tmp 2]:=by kernel_rfl
open Go.Ex Go.Ex.Vir
set_option maxRecDepth 100000
theorem xF(p:Addr):qY (.pointer (some p))=some (.pointer (some p)):=rfl
abbrev ptr(b off:Nat):Value:=.pointer (some ⟨b,off,none⟩)
abbrev sB(e:Int):yF:=[⟨.iface 191 (.agg ⟨[.int .i64 e]⟩),false,false⟩]
abbrev I64(x:Int):Value:=.int .i64 x
def WordsAt(lo hi n:Nat)(h:zH)(b:Nat)(ws:List Tx):Prop:=lo≤b∧(b<hi∧hi≤n)∧ws.length<100000∧(∀s∈ws,s.length<1000000)∧∃sv,Cel h b 0 [sv]∧Row n h sv 9 1 ws.length (ws.map str)∧∀x,wQ sv=some x→lo≤x∧x<hi∧x≠b
theorem WordsAt.touch{lo hi n n' b:Nat}{h h':zH}{ws:List Tx}{S:List Nat}(w:WordsAt lo hi n h b ws)(t:TouchE S h n h' n')(hS:∀x∈S,x<lo∨hi≤x):WordsAt lo hi n' h' b ws:=by
 obtain⟨h1,h2,h2b,h2c,sv,h3,h4,h5⟩:=w;refine⟨h1,⟨h2.1,Nat.le_trans h2.2 t.1⟩,h2b,h2c,sv,h3.touch t (Nat.lt_of_lt_of_le h2.1 h2.2) (fun hb=>?_),h4.touch t (fun x hx hxS=>?_),h5⟩
 · rcases hS b hb with h9|h9 <;> omega
 · have h7:=h5 x hx;rcases hS x hxS with h9|h9 <;> omega
def RQ{α : Type}(lo hi w:Nat)(h:zH)(n:Nat)(r:Res α)(V: α→Value→Prop):Out→zH→Nat→Prop:=fun o h' n'=>TouchE [w] h n h' n'∧
 match r with
 | .ok (a,ws)=>∃v,o = .ret v∧V a v∧WordsAt lo hi n' h' w ws
 | .error e=>o = .panic (sB e)
theorem need_comes(b:Bool)(e:Int)(h:zH)(n:Nat):ComesE P 8 120 [.bool b,I64 e] h n fun o h' n'=>h'=h∧n'=n∧o=(bif b then .ret (.tuple ⟨[]⟩) else .panic (sB e)):=by
 refine xE zK mixed (hint:=hint120) l120 fun u k hk=>?_;rw [F120_eq];unfold F120;have e1:uZ P 191 [(0,.int .i64 e)]=some (.agg ⟨[.int .i64 e]⟩):=by kernel_rfl
 have e2:qMakeIface P 191 (.agg ⟨[.int .i64 e]⟩)=some (.iface 191 (.agg ⟨[.int .i64 e]⟩)):=by kernel_rfl
 cases b
 · repeat' (first
    | exact xH r120 (hk _ _ _ ⟨rfl,rfl,rfl⟩)
    | with_reducible first|refine tV (fun _=>?_) (fun _=>?_)|refine tW (fun _=>?_) (fun _=>?_)|refine vN (fun _=>?_) (fun _=>?_)|refine vO (fun _=>?_) (fun _=>?_)|refine vI (fun _=>?_) (fun _=>?_)|refine vJ (fun _=>?_) (fun _=>?_)|refine vD (fun _=>?_) (fun _=>?_)|refine vK (fun _=>?_) (fun _=>?_)|refine vL (fun _=>?_) (fun _=>?_)|refine vM (fun _=>?_) (fun _=>?_)
    | simp only[↓zD,↓zI,↓zC,↓zF,↓xK,↓xI,↓zQ,↓yS,↓xJ,↓wP,↓wT,↓uB,↓yR,↓yV,↓rM,↓sR,↓wF,↓yY,↓xM,↓yP,↓xQ,↓xD,↓xR,↓zM,↓yC,↓zN,↓yD,Bool.not_true,Bool.not_false,yW,yI,  ↓e1,↓e2,ePanic,brJ])
 · repeat' (first
    | exact pB r120 (hk _ _ _ ⟨rfl,rfl,rfl⟩)
    | with_reducible first|refine tV (fun _=>?_) (fun _=>?_)|refine tW (fun _=>?_) (fun _=>?_)|refine vN (fun _=>?_) (fun _=>?_)|refine vO (fun _=>?_) (fun _=>?_)|refine vI (fun _=>?_) (fun _=>?_)|refine vJ (fun _=>?_) (fun _=>?_)|refine vD (fun _=>?_) (fun _=>?_)|refine vK (fun _=>?_) (fun _=>?_)|refine vL (fun _=>?_) (fun _=>?_)|refine vM (fun _=>?_) (fun _=>?_)
    | simp only[↓zD,↓zI,↓zC,↓zF,↓xK,↓xI,↓zQ,↓yS,↓xJ,↓wP,↓wT,↓uB,↓yR,↓yV,↓rM,↓sR,↓wF,↓yY,↓xM,↓yP,↓xQ,↓xD,↓xR,↓zM,↓yC,↓zN,↓yD,Bool.not_true,Bool.not_false,yW,yI,  brJ])
theorem yQ{b:Bool}{e:Int}{h:zH}{n:Nat}{Kp:KC}{K:Value→zH→Nat→Bool}(ht:b=true→K (.tuple ⟨[]⟩) h n=true)(hf:b=false→Kp (sB e) h n=true):yO (loS P 8) 120 [.bool b,I64 e] h n Kp K=true:=by
 refine xL (need_comes b e h n) (fun v h' n' q=>?_) (fun c h' n' q=>?_)
 · obtain⟨rfl,rfl,q⟩:=q
   cases b with
   | true=>injection q with q;subst q;exact ht rfl
   | false=>cases q
 · obtain⟨rfl,rfl,q⟩:=q
   cases b with
   | true=>cases q
   | false=>injection q with q;subst q;exact hf rfl
theorem len_pure{lo hi n b:Nat}{h:zH}{ws:List Tx}(w:WordsAt lo hi n h b ws):pA P 8 154 [ptr b 0] h n (I64 (ws.length:Nat)):=by
 obtain⟨h1,h2,h2b,h2c,sv,h3,h4,h5⟩:=w;refine zZ zK mixed (hint:=hq0) l154 fun u k hk=>?_;rw [F154_eq];unfold F154;have e1:zE P 23 h (ptr b 0)=some sv:=zG h3 sh23 rfl;have e2:=yX (P:=P) us23 h4 [] h
 repeat' (first
  | exact zV r154 rfl (hk _ _ _ ⟨rfl,rfl,rfl⟩)
  | with_reducible first|refine tV (fun _=>?_) (fun _=>?_)|refine tW (fun _=>?_) (fun _=>?_)|refine vN (fun _=>?_) (fun _=>?_)|refine vO (fun _=>?_) (fun _=>?_)|refine vI (fun _=>?_) (fun _=>?_)|refine vJ (fun _=>?_) (fun _=>?_)|refine vD (fun _=>?_) (fun _=>?_)|refine vK (fun _=>?_) (fun _=>?_)|refine vL (fun _=>?_) (fun _=>?_)|refine vM (fun _=>?_) (fun _=>?_)
  | simp only[↓zD,↓zI,↓zC,↓zF,↓xK,↓xI,↓zQ,↓yS,↓xJ,↓wP,↓wT,↓uB,↓yR,↓yV,↓rM,↓sR,↓wF,↓yY,↓xM,↓yP,↓xQ,↓xD,↓xR,↓zM,↓yC,↓zN,↓yD,Bool.not_true,Bool.not_false,yW,yI,  ↓xF,↓fa189_0,↓e1,↓e2])
theorem peek_pure{lo hi n b:Nat}{h:zH}{ws:List Tx}(w:WordsAt lo hi n h b ws):pA P 8 156 [ptr b 0,I64 1] h n (str (wordAt1 ws)):=by
 obtain⟨h1,h2,h2b,h2c,sv,h3,h4,h5⟩:=w;refine zZ zK mixed (hint:=hint156) l156 fun u k hk=>?_;rw [F156_eq];unfold F156;have e1:zE P 23 h (ptr b 0)=some sv:=zG h3 sh23 rfl;have e2:=yX (P:=P) us23 h4 [] h;by_cases hl:1<ws.length
 · have e3:sQ (ws.length:Nat) 1=false:=by rw[vW];exact decide_eq_false (by omega)
   obtain⟨p,q1,q2⟩:=xG (P:=P) (k:=.i64) h4 ix23 (tl:=9) sh9 (i:=1) (x:=str ws[1]) (by rw[List.getElem?_map,List.getElem?_eq_getElem hl];rfl);rw [show wordAt1 ws=ws[1] from by unfold wordAt1;rw [List.getElem?_eq_getElem hl];rfl]at hk;have q1':zR P 23 sv (.int .i64 1)=some p:=q1
   repeat' (first
    | exact zV r156 rfl (hk _ _ _ ⟨rfl,rfl,rfl⟩)
    | with_reducible first|refine tV (fun _=>?_) (fun _=>?_)|refine tW (fun _=>?_) (fun _=>?_)|refine vN (fun _=>?_) (fun _=>?_)|refine vO (fun _=>?_) (fun _=>?_)|refine vI (fun _=>?_) (fun _=>?_)|refine vJ (fun _=>?_) (fun _=>?_)|refine vD (fun _=>?_) (fun _=>?_)|refine vK (fun _=>?_) (fun _=>?_)|refine vL (fun _=>?_) (fun _=>?_)|refine vM (fun _=>?_) (fun _=>?_)
    | simp only[↓zD,↓zI,↓zC,↓zF,↓xK,↓xI,↓zQ,↓yS,↓xJ,↓wP,↓wT,↓uB,↓yR,↓yV,↓rM,↓sR,↓wF,↓yY,↓xM,↓yP,↓xQ,↓xD,↓xR,↓zM,↓yC,↓zN,↓yD,Bool.not_true,Bool.not_false,yW,yI,  ↓xF,↓fa189_0,↓e1,↓e2,↓e3,↓zY,↓q1',↓q2])
 · have e3:sQ (ws.length:Nat) 1=true:=by rw[vW];exact decide_eq_true (by omega)
   rw[show wordAt1 ws=[] from by unfold wordAt1;rw [List.getElem?_eq_none (by omega)];rfl]at hk
   repeat' (first
    | exact zV r156 rfl (hk _ _ _ ⟨rfl,rfl,rfl⟩)
    | with_reducible first|refine tV (fun _=>?_) (fun _=>?_)|refine tW (fun _=>?_) (fun _=>?_)|refine vN (fun _=>?_) (fun _=>?_)|refine vO (fun _=>?_) (fun _=>?_)|refine vI (fun _=>?_) (fun _=>?_)|refine vJ (fun _=>?_) (fun _=>?_)|refine vD (fun _=>?_) (fun _=>?_)|refine vK (fun _=>?_) (fun _=>?_)|refine vL (fun _=>?_) (fun _=>?_)|refine vM (fun _=>?_) (fun _=>?_)
    | simp only[↓zD,↓zI,↓zC,↓zF,↓xK,↓xI,↓zQ,↓yS,↓xJ,↓wP,↓wT,↓uB,↓yR,↓yV,↓rM,↓sR,↓wF,↓yY,↓xM,↓yP,↓xQ,↓xD,↓xR,↓zM,↓yC,↓zN,↓yD,Bool.not_true,Bool.not_false,yW,yI,  ↓xF,↓fa189_0,↓e1,↓e2,↓e3,↓zY])
theorem next_comes{lo hi n b:Nat}{h:zH}{ws:List Tx}(w:WordsAt lo hi n h b ws):ComesE P 8 153 [ptr b 0] h n (RQ lo hi b h n (nextW ws) fun s v=>v=str s):=by
 obtain⟨h1,h2,h2b,h2c,sv,h3,h4,h5⟩:=w;refine xE zK mixed (hint:=hq0) l153 fun u k hk=>?_;rw [F153_eq];unfold F153;have e1:zE P 23 h (ptr b 0)=some sv:=zG h3 sh23 rfl;have e2:=yX (P:=P) us23 h4 [] h
 cases ws with
 | nil =>
  have e3:wB 0 (([]:List Tx).length:Nat)=false:=rfl
  repeat' (first
   | refine yQ (fun e=>by cases e) (fun _=>xH r153 (hk _ _ _ ⟨TouchE.refl _ _ _,rfl⟩))
   | with_reducible first|refine tV (fun _=>?_) (fun _=>?_)|refine tW (fun _=>?_) (fun _=>?_)|refine vN (fun _=>?_) (fun _=>?_)|refine vO (fun _=>?_) (fun _=>?_)|refine vI (fun _=>?_) (fun _=>?_)|refine vJ (fun _=>?_) (fun _=>?_)|refine vD (fun _=>?_) (fun _=>?_)|refine vK (fun _=>?_) (fun _=>?_)|refine vL (fun _=>?_) (fun _=>?_)|refine vM (fun _=>?_) (fun _=>?_)
   | simp only[↓zD,↓zI,↓zC,↓zF,↓xK,↓xI,↓zQ,↓yS,↓xJ,↓wP,↓wT,↓uB,↓yR,↓yV,↓rM,↓sR,↓wF,↓yY,↓xM,↓yP,↓xQ,↓xD,↓xR,↓zM,↓yC,↓zN,↓yD,Bool.not_true,Bool.not_false,yW,yI,  ↓xF,↓fa189_0,↓e1,↓e2,↓e3,↓zY])
 | cons s r =>
  have e3:wB 0 ((s::r).length:Nat)=true:=by rw[zT];exact decide_eq_true (by simp)
  obtain⟨p,q1,q2⟩:=xG (P:=P) (k:=.i64) h4 ix23 (tl:=9) sh9 (i:=0) (x:=str s) rfl;have q1':zR P 23 sv (.int .i64 0)=some p:=q1;obtain⟨sv',p1,p2,p3⟩:=slice_fromI (P:=P) (ty:=23) us23 in23 h4 (k:=.i64) (i:=1) (by simp);have p1':uJ P h 23 sv (some (.int .i64 1)) none none=some sv':=p1;have p4:sv'.oneCell'=true:=p2.one
  repeat' (first
   | refine yQ (fun _=>?_) (fun e=>by cases e)
   | refine wA h3 sh23 (by simp) p4 (fun h' c1 c2=>?_)
   | refine zV r153 (v:=str s) rfl (hk _ _ _ ⟨yA c2 (by simp),_,rfl,rfl,h1,h2,?_,fun x hx=>h2c x (List.mem_cons_of_mem _ hx),sv',c1,?_,?_⟩)
   | with_reducible first|refine tV (fun _=>?_) (fun _=>?_)|refine tW (fun _=>?_) (fun _=>?_)|refine vN (fun _=>?_) (fun _=>?_)|refine vO (fun _=>?_) (fun _=>?_)|refine vI (fun _=>?_) (fun _=>?_)|refine vJ (fun _=>?_) (fun _=>?_)|refine vD (fun _=>?_) (fun _=>?_)|refine vK (fun _=>?_) (fun _=>?_)|refine vL (fun _=>?_) (fun _=>?_)|refine vM (fun _=>?_) (fun _=>?_)
   | simp only[↓zD,↓zI,↓zC,↓zF,↓xK,↓xI,↓zQ,↓yS,↓xJ,↓wP,↓wT,↓uB,↓yR,↓yV,↓rM,↓sR,↓wF,↓yY,↓xM,↓yP,↓xQ,↓xD,↓xR,↓zM,↓yC,↓zN,↓yD,Bool.not_true,Bool.not_false,yW,yI,  ↓xF,↓fa189_0,↓e1,↓e2,↓e3,↓zY,↓q1',↓q2,↓p1'])
  · simp at h2b;omega
  · have p5:Row n h sv' 9 1 r.length (r.map str):=by simpa using p2
    exact p5.touch (yA c2 (S:=[b]) (by simp)) fun x hx=>by
     have:=(h5 x (by rw[← p3];exact hx)).2.2;simp;exact this
  · intro x hx;exact h5 x (by rw[← p3];exact hx)
open Go.Ex Go.Ex.Vir Go.RowKit
structure Env (m:Int) (h:zH):Prop where
 tabs:TabsH (tb m) h
 syn:ErrH h 2
 rng:ErrH h 3
theorem Env.touch{m:Int}{h h':zH}{n n':Nat}{S:List Nat}(e:Env m h)(t:TouchE S h n h' n')(hn:8≤n)(hS:∀x∈S,8≤x):Env m h':=by
 refine⟨e.tabs.touch t (fun p hp=>Nat.lt_of_lt_of_le (tb_ok m p hp).1 hn) (fun p hp hx=>?_),e.syn.touch t (by omega) (fun hx=>?_),e.rng.touch t (by omega) (fun hx=>?_)⟩
 · have:=(tb_ok m p hp).1;have:=hS _ hx;omega
 · have:=hS _ hx;omega
 · have:=hS _ hx;omega
theorem letter_pure(c:Int)(h:zH)(n:Nat):pA P 8 110 [.int .u8 c] h n (.bool (qF c)):=by
 refine zZ zK mixed (hint:=hint110) l110 fun u k hk=>?_;rw [F110_eq];unfold F110
 repeat' (first
  | refine zV r110 (v:=.bool _) rfl (hk _ _ _ ⟨congrArg Value.bool ?_,rfl,rfl⟩)
  | with_reducible first|refine tV (fun _=>?_) (fun _=>?_)|refine tW (fun _=>?_) (fun _=>?_)|refine vN (fun _=>?_) (fun _=>?_)|refine vO (fun _=>?_) (fun _=>?_)|refine vI (fun _=>?_) (fun _=>?_)|refine vJ (fun _=>?_) (fun _=>?_)|refine vD (fun _=>?_) (fun _=>?_)|refine vK (fun _=>?_) (fun _=>?_)|refine vL (fun _=>?_) (fun _=>?_)|refine vM (fun _=>?_) (fun _=>?_)
  | simp only[↓zD,↓zI,↓zC,↓zF,↓xK,↓xI,↓zQ,↓yS,↓xJ,↓wP,↓wT,↓uB,↓yR,↓yV,↓rM,↓sR,↓wF,↓yY,↓xM,↓yP,↓xQ,↓xD,↓xR,↓zM,↓yC,↓zN,↓yD,Bool.not_true,Bool.not_false,yW,yI])
 all_goals (unfold qF;first|exact(decide_eq_true (by omega)).symm|exact(decide_eq_false (by omega)).symm)
theorem digit_pure(c:Int)(h:zH)(n:Nat):pA P 8 111 [.int .u8 c] h n (.bool (digit c)):=by
 refine zZ zK mixed (hint:=hint111) l111 fun u k hk=>?_;rw [F111_eq];unfold F111
 repeat' (first
  | refine zV r111 (v:=.bool _) rfl (hk _ _ _ ⟨congrArg Value.bool ?_,rfl,rfl⟩)
  | with_reducible first|refine tV (fun _=>?_) (fun _=>?_)|refine tW (fun _=>?_) (fun _=>?_)|refine vN (fun _=>?_) (fun _=>?_)|refine vO (fun _=>?_) (fun _=>?_)|refine vI (fun _=>?_) (fun _=>?_)|refine vJ (fun _=>?_) (fun _=>?_)|refine vD (fun _=>?_) (fun _=>?_)|refine vK (fun _=>?_) (fun _=>?_)|refine vL (fun _=>?_) (fun _=>?_)|refine vM (fun _=>?_) (fun _=>?_)
  | simp only[↓zD,↓zI,↓zC,↓zF,↓xK,↓xI,↓zQ,↓yS,↓xJ,↓wP,↓wT,↓uB,↓yR,↓yV,↓rM,↓sR,↓wF,↓yY,↓xM,↓yP,↓xQ,↓xD,↓xR,↓zM,↓yC,↓zN,↓yD,Bool.not_true,Bool.not_false,yW,yI])
 all_goals (unfold digit;first|exact(decide_eq_true (by omega)).symm|exact(decide_eq_false (by omega)).symm)
theorem named_loop(s:Tx)(h:zH)(n:Nat)(d:List Deferred)(u:Option yF)(ka:KX)(hs:s.length<1000):∀(m i:Nat),m+i=s.length→∀t,zA t 0=str s→zA t 18 = .int .i64 (s.length:Nat)→zA t 19 = .int .i64 i→
 ((s.drop i).all nameB=true→∀t',ka (.exit 0) t' ⟨d,u,h,n⟩=true)→((s.drop i).all nameB=false→∀t',zA t' 2 = .bool false→ka .ret t' ⟨d,u,h,n⟩=true)→
 lpS P 8 1000004 ⟨58,none,false⟩ t ⟨d,u,h,n⟩ ka=true:=by
 intro m
 induction m with
 | zero =>
  intro i hi t h0 h18 h19 hE hR;refine yK zK mixed (hint:=hint58) l58 lp58_1000004 ?_;rw [B58_1000004_eq];unfold B58_1000004;rw [h0,h18,h19]
  repeat' (first
   | omega
   | with_reducible first|refine tV (fun _=>?_) (fun _=>?_)|refine tW (fun _=>?_) (fun _=>?_)|refine vN (fun _=>?_) (fun _=>?_)|refine vO (fun _=>?_) (fun _=>?_)|refine vI (fun _=>?_) (fun _=>?_)|refine vJ (fun _=>?_) (fun _=>?_)|refine vD (fun _=>?_) (fun _=>?_)|refine vK (fun _=>?_) (fun _=>?_)|refine vL (fun _=>?_) (fun _=>?_)|refine vM (fun _=>?_) (fun _=>?_)
   | simp only[↓zD,↓zI,↓zC,↓zF,↓xK,↓xI,↓zQ,↓yS,↓xJ,↓wP,↓wT,↓uB,↓yR,↓yV,↓rM,↓sR,↓wF,↓yY,↓xM,↓yP,↓xQ,↓xD,↓xR,↓zM,↓yC,↓zN,↓yD,Bool.not_true,Bool.not_false,yW,yI])
  refine hE ?_ _;rw [List.drop_eq_nil_of_le (by omega)];rfl
 | succ m ih =>
  intro i hi t h0 h18 h19 hE hR;have hlt:i<s.length:=by omega
  have hx:s[i]? = some (s[i]):=List.getElem?_eq_getElem hlt;have hd:s.drop i=s[i]::s.drop (i+1):=List.drop_eq_getElem_cons hlt;refine yK zK mixed (hint:=hint58) l58 lp58_1000004 ?_;rw [B58_1000004_eq];unfold B58_1000004;rw [h0,h18,h19];generalize s[i]=c at hx hd
  rw[hd]at hE hR;have hix:rF P 9 (str s) (.int .i64 i)=some (.int .u8 (c.toNat:Nat)):=index_strL us9 s .i64 i c hx;cases hl:qF c.toNat <;> cases hdg:digit c.toNat
  all_goals
   have ea:(c::s.drop (i+1)).all nameB=((qF c.toNat || digit c.toNat) && (s.drop (i+1)).all nameB):=rfl;rw [ea,hl,hdg]at hE hR;have pl:pA P 8 110 [.int .u8 (c.toNat:Nat)] h n (.bool _):=letter_pure _ h n;have pd:pA P 8 111 [.int .u8 (c.toNat:Nat)] h n (.bool _):=digit_pure _ h n;rw [hl]at pl;rw [hdg]at pd
   repeat' (first
    | with_reducible refine zU pl ?_
    | with_reducible refine zU pd ?_
    | exact hR rfl _ rfl
    | exact ih (i+1) (by omega) _ rfl rfl rfl hE hR
    | omega
    | with_reducible refine vT (by omega) ?_
    | with_reducible first|refine tV (fun _=>?_) (fun _=>?_)|refine tW (fun _=>?_) (fun _=>?_)|refine vN (fun _=>?_) (fun _=>?_)|refine vO (fun _=>?_) (fun _=>?_)|refine vI (fun _=>?_) (fun _=>?_)|refine vJ (fun _=>?_) (fun _=>?_)|refine vD (fun _=>?_) (fun _=>?_)|refine vK (fun _=>?_) (fun _=>?_)|refine vL (fun _=>?_) (fun _=>?_)|refine vM (fun _=>?_) (fun _=>?_)
    | simp only[↓zD,↓zI,↓zC,↓zF,↓xK,↓xI,↓zQ,↓yS,↓xJ,↓wP,↓wT,↓uB,↓yR,↓yV,↓rM,↓sR,↓wF,↓yY,↓xM,↓yP,↓xQ,↓xD,↓xR,↓zM,↓yC,↓zN,↓yD,Bool.not_true,Bool.not_false,yW,yI,  ↓hix,yI,fg0,fg18,fg19])
theorem qT(s:Tx)(h:zH)(n:Nat):pA P 8 58 [str s] h n (.bool (named s)):=by
 refine zZ zK mixed (hint:=hint58) l58 fun u k hk=>?_;rw [F58_eq];unfold F58;rw [cmpS_eq]
 cases s with
 | nil =>
  have e0:(([]:List UInt8) == (ByteArray.mk #[]).data.toList)=true:=rfl;show(fun b=>_) (([]:List UInt8) == (ByteArray.mk #[]).data.toList)=true;rw [e0];dsimp only
  repeat' (first
   | exact zV r58 (v:=.bool _) rfl (hk _ _ _ ⟨rfl,rfl,rfl⟩)
   | with_reducible first|refine tV (fun _=>?_) (fun _=>?_)|refine tW (fun _=>?_) (fun _=>?_)|refine vN (fun _=>?_) (fun _=>?_)|refine vO (fun _=>?_) (fun _=>?_)|refine vI (fun _=>?_) (fun _=>?_)|refine vJ (fun _=>?_) (fun _=>?_)|refine vD (fun _=>?_) (fun _=>?_)|refine vK (fun _=>?_) (fun _=>?_)|refine vL (fun _=>?_) (fun _=>?_)|refine vM (fun _=>?_) (fun _=>?_)
   | simp only[↓zD,↓zI,↓zC,↓zF,↓xK,↓xI,↓zQ,↓yS,↓xJ,↓wP,↓wT,↓uB,↓yR,↓yV,↓rM,↓sR,↓wF,↓yY,↓xM,↓yP,↓xQ,↓xD,↓xR,↓zM,↓yC,↓zN,↓yD,Bool.not_true,Bool.not_false,yW,yI])
 | cons c r =>
  have e0:((c::r) == (ByteArray.mk #[]).data.toList)=false:=rfl;show(fun b=>_) ((c::r) == (ByteArray.mk #[]).data.toList)=true;rw [e0];dsimp only;have hix:rF P 9 (str (c::r)) (.int .i64 0)=some (.int .u8 (c.toNat:Nat)):=index_strL us9 (c::r) .i64 0 c rfl;have hlen:zX P .len [9] [str (c::r)] h=some (.int .i64 ((c::r).length:Nat)):=len_strL us9 (c::r) [] h;have hn:named (c::r)=(decide ((c::r).length≤20) && (qF c.toNat && (c::r).all nameB)):=rfl;rw [hn]at hk;have pl:pA P 8 110 [.int .u8 (c.toNat:Nat)] h n (.bool _):=letter_pure _ h n;cases hl:qF c.toNat
  all_goals
   rw[hl]at pl hk
   repeat' (first
    | with_reducible refine zU pl ?_
    | refine zV r58 (v:=.bool _) rfl (hk _ _ _ ⟨congrArg Value.bool ?_,rfl,rfl⟩)
    | with_reducible first|refine tV (fun _=>?_) (fun _=>?_)|refine tW (fun _=>?_) (fun _=>?_)|refine vN (fun _=>?_) (fun _=>?_)|refine vO (fun _=>?_) (fun _=>?_)|refine vI (fun _=>?_) (fun _=>?_)|refine vJ (fun _=>?_) (fun _=>?_)|refine vD (fun _=>?_) (fun _=>?_)|refine vK (fun _=>?_) (fun _=>?_)|refine vL (fun _=>?_) (fun _=>?_)|refine vM (fun _=>?_) (fun _=>?_)
    | simp only[↓zD,↓zI,↓zC,↓zF,↓xK,↓xI,↓zQ,↓yS,↓xJ,↓wP,↓wT,↓uB,↓yR,↓yV,↓rM,↓sR,↓wF,↓yY,↓xM,↓yP,↓xQ,↓xD,↓xR,↓zM,↓yC,↓zN,↓yD,Bool.not_true,Bool.not_false,yW,yI,  ↓hix,↓hlen])
  · simp
  · simp
  · rename_i hgt;rw [decide_eq_false (by omega)];rfl
  · rename_i hle;have hle2:(c::r).length≤20:=by omega
    rw[decide_eq_true hle2]at hk;refine named_loop (c::r) h n [] u _ (by omega) _ 0 (Nat.add_zero _) _ rfl rfl rfl ?_ ?_
    · intro ha t'
      repeat' (first
       | refine zV r58 (v:=.bool true) rfl (hk _ _ _ ⟨congrArg Value.bool ?_,rfl,rfl⟩)
       | with_reducible first|refine tV (fun _=>?_) (fun _=>?_)|refine tW (fun _=>?_) (fun _=>?_)|refine vN (fun _=>?_) (fun _=>?_)|refine vO (fun _=>?_) (fun _=>?_)|refine vI (fun _=>?_) (fun _=>?_)|refine vJ (fun _=>?_) (fun _=>?_)|refine vD (fun _=>?_) (fun _=>?_)|refine vK (fun _=>?_) (fun _=>?_)|refine vL (fun _=>?_) (fun _=>?_)|refine vM (fun _=>?_) (fun _=>?_)
       | simp only[↓zD,↓zI,↓zC,↓zF,↓xK,↓xI,↓zQ,↓yS,↓xJ,↓wP,↓wT,↓uB,↓yR,↓yV,↓rM,↓sR,↓wF,↓yY,↓xM,↓yP,↓xQ,↓xD,↓xR,↓zM,↓yC,↓zN,↓yD,Bool.not_true,Bool.not_false,yW,yI])
      rw[List.drop_zero]at ha;rw [ha];rfl
    · intro ha t' h2
      repeat' (first
       | refine zV r58 (v:=.bool false) h2 (hk _ _ _ ⟨congrArg Value.bool ?_,rfl,rfl⟩)
       | with_reducible first|refine tV (fun _=>?_) (fun _=>?_)|refine tW (fun _=>?_) (fun _=>?_)|refine vN (fun _=>?_) (fun _=>?_)|refine vO (fun _=>?_) (fun _=>?_)|refine vI (fun _=>?_) (fun _=>?_)|refine vJ (fun _=>?_) (fun _=>?_)|refine vD (fun _=>?_) (fun _=>?_)|refine vK (fun _=>?_) (fun _=>?_)|refine vL (fun _=>?_) (fun _=>?_)|refine vM (fun _=>?_) (fun _=>?_)
       | simp only[↓zD,↓zI,↓zC,↓zF,↓xK,↓xI,↓zQ,↓yS,↓xJ,↓wP,↓wT,↓uB,↓yR,↓yV,↓rM,↓sR,↓wF,↓yY,↓xM,↓yP,↓xQ,↓xD,↓xR,↓zM,↓yC,↓zN,↓yD,Bool.not_true,Bool.not_false,yW,yI])
      rw[List.drop_zero]at ha;rw [ha];rfl
theorem want_comes{lo hi n b:Nat}{h:zH}{ws:List Tx}(w:WordsAt lo hi n h b ws)(x:Tx):ComesE P 8 116 [ptr b 0,str x] h n (RQ lo hi b h n (wantW x ws) fun _ v=>v = .tuple ⟨[]⟩):=by
 refine xE zK mixed (hint:=hq0) l116 fun u k hk=>?_;rw [F116_eq];unfold F116;refine xL (next_comes w) (fun v h' n' q=>?_) (fun c h' n' q=>?_)
 · obtain⟨q1,q2⟩:=q
   cases ws with
   | nil=>cases q2
   | cons s r =>
    obtain⟨v',q2,rfl,q3⟩:=q2;injection q2 with q2;subst q2
    unfold wantW at hk;dsimp only at hk;cases hb:(s == x) <;> rw[hb]at hk
    all_goals
     repeat' (first
      | rw[vX,hb]
      | refine yQ (fun e=>?_) (fun e=>?_)
      | cases e
      | exact xH r116 (hk _ _ _ ⟨q1,rfl⟩)
      | exact pB r116 (hk _ _ _ ⟨q1,_,rfl,rfl,q3⟩)
      | with_reducible first|refine tV (fun _=>?_) (fun _=>?_)|refine tW (fun _=>?_) (fun _=>?_)|refine vN (fun _=>?_) (fun _=>?_)|refine vO (fun _=>?_) (fun _=>?_)|refine vI (fun _=>?_) (fun _=>?_)|refine vJ (fun _=>?_) (fun _=>?_)|refine vD (fun _=>?_) (fun _=>?_)|refine vK (fun _=>?_) (fun _=>?_)|refine vL (fun _=>?_) (fun _=>?_)|refine vM (fun _=>?_) (fun _=>?_)
      | simp only[↓zD,↓zI,↓zC,↓zF,↓xK,↓xI,↓zQ,↓yS,↓xJ,↓wP,↓wT,↓uB,↓yR,↓yV,↓rM,↓sR,↓wF,↓yY,↓xM,↓yP,↓xQ,↓xD,↓xR,↓zM,↓yC,↓zN,↓yD,Bool.not_true,Bool.not_false,yW,yI])
 · obtain⟨q1,q2⟩:=q
   cases ws with
   | nil=>injection q2 with q2;subst q2;exact xH r116 (hk _ _ _ ⟨q1,rfl⟩)
   | cons s r=>obtain⟨v',q2,_⟩:=q2;cases q2
theorem name_comes{lo hi n b:Nat}{h:zH}{ws:List Tx}(w:WordsAt lo hi n h b ws):ComesE P 8 117 [ptr b 0] h n (RQ lo hi b h n (rE ws) fun s v=>v=str s):=by
 refine xE zK mixed (hint:=hq0) l117 fun u k hk=>?_;rw [F117_eq];unfold F117;refine xL (next_comes w) (fun v h' n' q=>?_) (fun c h' n' q=>?_)
 · obtain⟨q1,q2⟩:=q
   cases ws with
   | nil=>cases q2
   | cons s r =>
    obtain⟨v',q2,rfl,q3⟩:=q2;injection q2 with q2;subst q2
    unfold rE at hk;dsimp only at hk;have pn:=qT s h' n';cases hb:named s <;> rw[hb]at hk pn
    all_goals
     repeat' (first
      | with_reducible refine zU pn ?_
      | refine yQ (fun e=>?_) (fun e=>?_)
      | cases e
      | exact xH r117 (hk _ _ _ ⟨q1,rfl⟩)
      | exact zV r117 (v:=str s) rfl (hk _ _ _ ⟨q1,_,rfl,rfl,q3⟩)
      | with_reducible first|refine tV (fun _=>?_) (fun _=>?_)|refine tW (fun _=>?_) (fun _=>?_)|refine vN (fun _=>?_) (fun _=>?_)|refine vO (fun _=>?_) (fun _=>?_)|refine vI (fun _=>?_) (fun _=>?_)|refine vJ (fun _=>?_) (fun _=>?_)|refine vD (fun _=>?_) (fun _=>?_)|refine vK (fun _=>?_) (fun _=>?_)|refine vL (fun _=>?_) (fun _=>?_)|refine vM (fun _=>?_) (fun _=>?_)
      | simp only[↓zD,↓zI,↓zC,↓zF,↓xK,↓xI,↓zQ,↓yS,↓xJ,↓wP,↓wT,↓uB,↓yR,↓yV,↓rM,↓sR,↓wF,↓yY,↓xM,↓yP,↓xQ,↓xD,↓xR,↓zM,↓yC,↓zN,↓yD,Bool.not_true,Bool.not_false,yW,yI])
 · obtain⟨q1,q2⟩:=q
   cases ws with
   | nil=>injection q2 with q2;subst q2;exact xH r117 (hk _ _ _ ⟨q1,rfl⟩)
   | cons s r=>obtain⟨v',q2,_⟩:=q2;cases q2
theorem end_comes{lo hi n b:Nat}{h:zH}{ws:List Tx}(w:WordsAt lo hi n h b ws):ComesE P 8 118 [ptr b 0] h n (RQ lo hi b h n (endW ws) fun _ v=>v = .tuple ⟨[]⟩):=by
 have w0:=w;obtain⟨h1,h2,h2b,h2c,sv,h3,h4,h5⟩:=w;refine xE zK mixed (hint:=hq0) l118 fun u k hk=>?_;rw [F118_eq];unfold F118;have e1:zE P 23 h (ptr b 0)=some sv:=zG h3 sh23 rfl;have e2:=yX (P:=P) us23 h4 [] h
 cases ws with
 | nil =>
  have e3:xN (([]:List Tx).length:Nat) 0=true:=rfl
  repeat' (first
   | refine yQ (fun e=>?_) (fun e=>?_)
   | cases e
   | exact pB r118 (hk _ _ _ ⟨TouchE.refl _ _ _,_,rfl,rfl,w0⟩)
   | with_reducible first|refine tV (fun _=>?_) (fun _=>?_)|refine tW (fun _=>?_) (fun _=>?_)|refine vN (fun _=>?_) (fun _=>?_)|refine vO (fun _=>?_) (fun _=>?_)|refine vI (fun _=>?_) (fun _=>?_)|refine vJ (fun _=>?_) (fun _=>?_)|refine vD (fun _=>?_) (fun _=>?_)|refine vK (fun _=>?_) (fun _=>?_)|refine vL (fun _=>?_) (fun _=>?_)|refine vM (fun _=>?_) (fun _=>?_)
   | simp only[↓zD,↓zI,↓zC,↓zF,↓xK,↓xI,↓zQ,↓yS,↓xJ,↓wP,↓wT,↓uB,↓yR,↓yV,↓rM,↓sR,↓wF,↓yY,↓xM,↓yP,↓xQ,↓xD,↓xR,↓zM,↓yC,↓zN,↓yD,Bool.not_true,Bool.not_false,yW,yI,  ↓xF,↓fa189_0,↓e1,↓e2,↓e3,↓zY])
 | cons s r =>
  have e3:xN ((s::r).length:Nat) 0=false:=by rw[xZ];exact decide_eq_false (by simp only[List.length_cons];omega)
  repeat' (first
   | refine yQ (fun e=>?_) (fun e=>?_)
   | cases e
   | exact xH r118 (hk _ _ _ ⟨TouchE.refl _ _ _,rfl⟩)
   | with_reducible first|refine tV (fun _=>?_) (fun _=>?_)|refine tW (fun _=>?_) (fun _=>?_)|refine vN (fun _=>?_) (fun _=>?_)|refine vO (fun _=>?_) (fun _=>?_)|refine vI (fun _=>?_) (fun _=>?_)|refine vJ (fun _=>?_) (fun _=>?_)|refine vD (fun _=>?_) (fun _=>?_)|refine vK (fun _=>?_) (fun _=>?_)|refine vL (fun _=>?_) (fun _=>?_)|refine vM (fun _=>?_) (fun _=>?_)
   | simp only[↓zD,↓zI,↓zC,↓zF,↓xK,↓xI,↓zQ,↓yS,↓xJ,↓wP,↓wT,↓uB,↓yR,↓yV,↓rM,↓sR,↓wF,↓yY,↓xM,↓yP,↓xQ,↓xD,↓xR,↓zM,↓yC,↓zN,↓yD,Bool.not_true,Bool.not_false,yW,yI,  ↓xF,↓fa189_0,↓e1,↓e2,↓e3,↓zY])
theorem atoi_bad{m:Int}{h:zH}(n:Nat)(hE:Env m h)(s:Tx)(hs:s.length≤1000000)(hv:∀a,Lib.atoiAll s≠.ok a) :
 Rets P 8 179 [str s] h n fun v h' n'=>∃x,v = .tuple #[.int .i64 x,.iface 240 (.pointer (some ⟨n,0,none⟩))]∧Ext h n h' n':=by
 have hs':(⟨⟨s⟩⟩:ByteArray).size≤281474976710656:=by show s.length≤_;omega
 cases ha:Lib.atoiAll s with
 | ok a=>exact absurd ha (hv a)
 | range=>
  refine(err_of_calls h_atoi rfl hE.rng (by omega) (x:=Lib.atoiSat s) fun wd ⟨te,pe,hw⟩=>?_).mono fun v h' n' ⟨e1,e2⟩=>⟨_,e1,e2⟩;exact(Any.strconv_Atoi_range Tryz.laysC172 ⟨⟨s⟩⟩ hs' ha _ wd hw (.inr ⟨te,pe,rfl⟩)).mono fun e w' ⟨N,a1,a2,a3,a4⟩=>⟨N,a1,a2,a4⟩
 | _=>
  refine(err_of_calls h_atoi rfl hE.syn (by omega) (x:=0) fun wd ⟨te,pe,hw⟩=>?_).mono fun v h' n' ⟨e1,e2⟩=>⟨_,e1,e2⟩;exact(Any.strconv_Atoi_syntax Tryz.laysC172 ⟨⟨s⟩⟩ hs' ha _ wd hw (.inr ⟨te,pe,rfl⟩)).mono fun e w' ⟨N,a1,a2,a3,a4⟩=>⟨N,a1,a2,a4⟩
theorem err_ne(v:Value)(K:Bool→Bool):yB xN P .eql 99 true (.iface 240 v) .nilIface K=K false:=by kernel_rfl
theorem err_eq(K:Bool→Bool):yB xN P .eql 99 true .nilIface .nilIface K=K true:=by kernel_rfl
theorem any_comes{m:Int}{lo hi n b:Nat}{h:zH}{ws:List Tx}(w:WordsAt lo hi n h b ws)(hE:Env m h)(hg:8≤lo):ComesE P 8 155 [ptr b 0] h n (RQ lo hi b h n (anyW ws) fun a v=>v=I64 a):=by
 refine xE zK mixed (hint:=hq0) l155 fun u k hk=>?_;rw [F155_eq];unfold F155;refine xL (next_comes w) (fun v h' n' q=>?_) (fun c h' n' q=>?_)
 · obtain⟨q1,q2⟩:=q
   cases ws with
   | nil=>cases q2
   | cons s r =>
    obtain⟨v',q2,rfl,q3⟩:=q2;injection q2 with q2;subst q2
    have hsl:s.length≤1000000:=by have:=w.2.2.2.1 s (by simp);omega
    have hE':Env m h':=hE.touch q1 (Nat.le_trans hg (Nat.le_trans w.1 (Nat.le_of_lt (Nat.lt_of_lt_of_le w.2.1.1 w.2.1.2)))) (fun x hx=>by
     simp at hx;subst hx;exact Nat.le_trans hg w.1)
    unfold anyW at hk;dsimp only at hk;by_cases hok:∃a,Lib.atoiAll s = .ok a
    · obtain⟨a,ha⟩:=hok;rw [anyOf_ok ha]at hk;have pa:=atoi_pure (h:=h') n' s a hsl ha;obtain⟨b1,b2⟩:=Lib.atoiAll_bounds ha;have pi:=itoa_pure n' hE'.tabs a b1 b2;have x0:xO 0 (.tuple #[.int .i64 a,.nilIface])=some (.int .i64 a):=rfl;have x1:xO 1 (.tuple #[.int .i64 a,.nilIface])=some .nilIface:=rfl;refine yH pa ?_;cases hb:(Lib.itoa a == s) <;> rw[hb]at hk
      all_goals
       simp only[↓x0,↓x1,↓zC,↓zD,↓err_eq,↓yS];refine yH pi ?_
       repeat' (first
        | rw[vX,hb]
        | refine yQ (fun e=>?_) (fun e=>?_)
        | cases e
        | exact xH r155 (hk _ _ _ ⟨q1,rfl⟩)
        | exact zV r155 (v:=I64 a) rfl (hk _ _ _ ⟨q1,_,rfl,rfl,q3⟩)
        | with_reducible first|refine tV (fun _=>?_) (fun _=>?_)|refine tW (fun _=>?_) (fun _=>?_)|refine vN (fun _=>?_) (fun _=>?_)|refine vO (fun _=>?_) (fun _=>?_)|refine vI (fun _=>?_) (fun _=>?_)|refine vJ (fun _=>?_) (fun _=>?_)|refine vD (fun _=>?_) (fun _=>?_)|refine vK (fun _=>?_) (fun _=>?_)|refine vL (fun _=>?_) (fun _=>?_)|refine vM (fun _=>?_) (fun _=>?_)
        | simp only[↓zD,↓zI,↓zC,↓zF,↓xK,↓xI,↓zQ,↓yS,↓xJ,↓wP,↓wT,↓uB,↓yR,↓yV,↓rM,↓sR,↓wF,↓yY,↓xM,↓yP,↓xQ,↓xD,↓xR,↓zM,↓yC,↓zN,↓yD,Bool.not_true,Bool.not_false,yW,yI])
    · rw[anyOf_bad (fun a ha=>hok ⟨a,ha⟩)]at hk;refine uT (atoi_bad n' hE' s hsl (fun a ha=>hok ⟨a,ha⟩)) fun v h2 n2 ⟨x,e1,e2⟩=>?_;subst e1;have x0:xO 0 (.tuple #[.int .i64 x,.iface 240 (.pointer (some ⟨n',0,none⟩))])=some (.int .i64 x):=rfl;have x1:xO 1 (.tuple #[.int .i64 x,.iface 240 (.pointer (some ⟨n',0,none⟩))])=some (.iface 240 (.pointer (some ⟨n',0,none⟩))):=rfl;simp only[↓x0,↓x1,↓zC,↓zD,↓err_ne,↓xJ]
      repeat' (first
       | refine yQ (fun e=>?_) (fun e=>?_)
       | cases e
       | exact xH r155 (hk _ _ _ ⟨q1.trans (e2.touch _),rfl⟩)
       | with_reducible first|refine tV (fun _=>?_) (fun _=>?_)|refine tW (fun _=>?_) (fun _=>?_)|refine vN (fun _=>?_) (fun _=>?_)|refine vO (fun _=>?_) (fun _=>?_)|refine vI (fun _=>?_) (fun _=>?_)|refine vJ (fun _=>?_) (fun _=>?_)|refine vD (fun _=>?_) (fun _=>?_)|refine vK (fun _=>?_) (fun _=>?_)|refine vL (fun _=>?_) (fun _=>?_)|refine vM (fun _=>?_) (fun _=>?_)
       | simp only[↓zD,↓zI,↓zC,↓zF,↓xK,↓xI,↓zQ,↓yS,↓xJ,↓wP,↓wT,↓uB,↓yR,↓yV,↓rM,↓sR,↓wF,↓yY,↓xM,↓yP,↓xQ,↓xD,↓xR,↓zM,↓yC,↓zN,↓yD,Bool.not_true,Bool.not_false,yW,yI])
 · obtain⟨q1,q2⟩:=q
   cases ws with
   | nil=>injection q2 with q2;subst q2;exact xH r155 (hk _ _ _ ⟨q1,rfl⟩)
   | cons s r=>obtain⟨v',q2,_⟩:=q2;cases q2
theorem number_comes{m:Int}{lo hi n b:Nat}{h:zH}{ws:List Tx}(w:WordsAt lo hi n h b ws)(hE:Env m h)(hg:8≤lo):ComesE P 8 122 [ptr b 0] h n (RQ lo hi b h n (wM ws) fun a v=>v=I64 a):=by
 refine xE zK mixed (hint:=hq0) l122 fun u k hk=>?_;rw [F122_eq];unfold F122;refine callI_comes (any_comes w hE hg) (fun v h' n' q=>?_) (fun c h' n' q=>?_)
 · obtain⟨q1,q2⟩:=q;unfold wM at hk
   cases ha:anyW ws with
   | error e=>rw [ha]at q2;cases q2
   | ok p=>
    obtain⟨a,r⟩:=p;rw [ha]at q2 hk;obtain⟨v',q2,rfl,q3⟩:=q2;injection q2 with q2;subst q2
    refine⟨a,rfl,?_⟩;dsimp only at hk;by_cases hs:0≤a∧a≤99999
    · rw[if_pos (show xS a=true from decide_eq_true hs)]at hk;have e1:sQ 0 a=true:=by rw[vW];exact decide_eq_true hs.1
      have e2:sQ a 99999=true:=by rw[vW];exact decide_eq_true hs.2
      repeat' (first
       | refine yQ (fun e=>?_) (fun e=>?_)
       | cases e
       | exact zV r122 (v:=I64 a) rfl (hk _ _ _ ⟨q1,_,rfl,rfl,q3⟩)
       | with_reducible first|refine tV (fun _=>?_) (fun _=>?_)|refine tW (fun _=>?_) (fun _=>?_)|refine vN (fun _=>?_) (fun _=>?_)|refine vO (fun _=>?_) (fun _=>?_)|refine vI (fun _=>?_) (fun _=>?_)|refine vJ (fun _=>?_) (fun _=>?_)|refine vD (fun _=>?_) (fun _=>?_)|refine vK (fun _=>?_) (fun _=>?_)|refine vL (fun _=>?_) (fun _=>?_)|refine vM (fun _=>?_) (fun _=>?_)
       | simp only[↓zD,↓zI,↓zC,↓zF,↓xK,↓xI,↓zQ,↓yS,↓xJ,↓wP,↓wT,↓uB,↓yR,↓yV,↓rM,↓sR,↓wF,↓yY,↓xM,↓yP,↓xQ,↓xD,↓xR,↓zM,↓yC,↓zN,↓yD,Bool.not_true,Bool.not_false,yW,yI])
      all_goals omega
    · rw[if_neg (show ¬xS a=true from fun h=>hs (of_decide_eq_true h))]at hk
      repeat' (first
       | refine yQ (fun e=>?_) (fun e=>?_)
       | cases e
       | exact xH r122 (hk _ _ _ ⟨q1,rfl⟩)
       | with_reducible first|refine tV (fun _=>?_) (fun _=>?_)|refine tW (fun _=>?_) (fun _=>?_)|refine vN (fun _=>?_) (fun _=>?_)|refine vO (fun _=>?_) (fun _=>?_)|refine vI (fun _=>?_) (fun _=>?_)|refine vJ (fun _=>?_) (fun _=>?_)|refine vD (fun _=>?_) (fun _=>?_)|refine vK (fun _=>?_) (fun _=>?_)|refine vL (fun _=>?_) (fun _=>?_)|refine vM (fun _=>?_) (fun _=>?_)
       | simp only[↓zD,↓zI,↓zC,↓zF,↓xK,↓xI,↓zQ,↓yS,↓xJ,↓wP,↓wT,↓uB,↓yR,↓yV,↓rM,↓sR,↓wF,↓yY,↓xM,↓yP,↓xQ,↓xD,↓xR,↓zM,↓yC,↓zN,↓yD,Bool.not_true,Bool.not_false,yW,yI])
      all_goals omega
 · obtain⟨q1,q2⟩:=q;unfold wM at hk
   cases ha:anyW ws with
   | error e=>rw [ha]at q2 hk;injection q2 with q2;subst q2;exact xH r122 (hk _ _ _ ⟨q1,rfl⟩)
   | ok p=>rw [ha]at q2;obtain⟨v',q2,_⟩:=q2;cases q2
def RQO{α : Type}(lo hi w:Nat)(h:zH)(n:Nat)(e:Nat)(f: α→Value)(r:Res (List α)):Out→zH→Nat→Prop:=fun o h' n'=>TouchE [w] h n h' n'∧
 match r with
 | .ok (l,ws)=>∃v,o = .ret v∧Own n n' h' v e 1 l.length (l.map f)∧l.length<100000∧WordsAt lo hi n' h' w ws
 | .error x=>o = .panic (sB x)
theorem touch_blk{h h':zH}{n n' lo:Nat}{v:Value}(hn:n≤n')(hb:∀b,b<n→wQ v≠some b→yG h' b=yG h b):TouchE (wQ v).toList h n h' n':=
 ⟨hn,fun b hbn hS=>hb b hbn fun e=>hS (by rw[e];simp)⟩
theorem I64_one(x:Int):(I64 x).oneCell'=true:=rfl
theorem rN(x:Tx):(str x).oneCell'=true:=rfl
theorem endA_panic(kn:KN)(ka:KX)(c:yF)(t:Fr)(w:W):pH kn ka (.panic c) t w=ka (.panic c) t w:=rfl
theorem blkA_panic(id:Nat)(kn:KN)(ka:KX)(c:yF)(t:Fr)(w:W):pI id kn ka (.panic c) t w=ka (.panic c) t w:=rfl
theorem nameW_len{ws r:List Tx}{x:Tx}(h:rE ws = .ok (x,r)):r.length+1≤ws.length:=by
 cases ws with
 | nil=>cases h
 | cons s t=>
  unfold rE at h;dsimp only at h;split at h
  · injection h with h;injection h with _ h;subst h;simp
  · cases h
theorem anyW_len{ws r:List Tx}{x:Int}(h:anyW ws = .ok (x,r)):r.length+1≤ws.length:=by
 cases ws with
 | nil=>cases h
 | cons s t=>
  unfold anyW at h;dsimp only at h;split at h
  · injection h with h;injection h with _ h;subst h;simp
  · cases h
theorem numberW_len{ws r:List Tx}{x:Int}(h:wM ws = .ok (x,r)):r.length+1≤ws.length:=by
 unfold wM at h;split at h
 · cases h
 · rename_i v t e;split at h
   · injection h with h;injection h with h1 h2;subst h1 h2;exact anyW_len e
   · cases h
theorem restS_loop{m:Int}{lo hi b n0:Nat}{h0:zH}(hn0:hi≤n0)(hg:8≤lo)(u:Option yF)(ka:KX):∀(k:Nat) (ws:List Tx) (acc:List Tx) (sv:Value) (h:zH) (n:Nat) (t:Fr),ws.length≤k→WordsAt lo hi n h b ws→Env m h→
 Own n0 n h sv 9 1 acc.length (acc.map str)→acc.length+ws.length<100000→TouchE [b] h0 n0 h n→zA t 0=ptr b 0→zA t 1 = .func (.func 117) ⟨[ptr b 0]⟩ ⟨[]⟩→zA t 5=sv→
 (∀l ws' t' h' n' sv',restW rE k ws = .ok (l,ws')→zA t' 5=sv'→TouchE [b] h0 n0 h' n'→Own n0 n' h' sv' 9 1 (acc++l).length ((acc++l).map str)→(acc++l).length<100000→WordsAt lo hi n' h' b ws'→ka (.exit 0) t' ⟨[],u,h',n'⟩=true)→
 (∀e t' h' n',restW rE k ws = .error e→TouchE [b] h0 n0 h' n'→ka (.panic (sB e)) t' ⟨[],u,h',n'⟩=true)→
 lpS P 8 1000002 ⟨119,none,false⟩ t ⟨[],u,h,n⟩ ka=true:=by
 intro k
 induction k with
 | zero=>
  intro ws acc sv h n t hk w hE ho hlen ht t0 t1 t5 hok herr;have hws:ws=[]:=List.length_eq_zero_iff.1 (by omega);subst hws;refine yK zK mixed (hint:=hint119) l119 lp119_1000002 ?_;rw [B119_1000002_eq];unfold B119_1000002;rw [t0,t1,t5];simp only[↓zF,↓xI];refine rL (len_pure w) ?_;have e3:wB 0 (([]:List Tx).length:Nat)=false:=rfl;simp only[↓e3,↓zY,↓wT];exact hok [] [] _ h n sv rfl rfl ht (by rw[List.append_nil];exact ho) (by rw[List.append_nil];omega) w
 | succ k ih =>
  intro ws acc sv h n t hk w hE ho hlen ht t0 t1 t5 hok herr;refine yK zK mixed (hint:=hint119) l119 lp119_1000002 ?_;rw [B119_1000002_eq];unfold B119_1000002;rw [t0,t1,t5];simp only[↓zF,↓xI];refine rL (len_pure w) ?_
  cases ws with
  | nil=>
   have e3:wB 0 (([]:List Tx).length:Nat)=false:=rfl;simp only[↓e3,↓zY,↓wT];exact hok [] [] _ h n sv rfl rfl ht (by rw[List.append_nil];exact ho) (by rw[List.append_nil];omega) w
  | cons s r=>
   have e3:wB 0 ((s::r).length:Nat)=true:=by rw[zT];exact decide_eq_true (by simp only[List.length_cons];omega)
   simp only[↓e3,↓zY,↓wP,↓xR];have hn8:8≤n:=Nat.le_trans hg (Nat.le_trans w.1 (Nat.le_of_lt (Nat.lt_of_lt_of_le w.2.1.1 w.2.1.2)));have hn80:8≤n0:=by have h8:=w.2.1.1;have h9:=w.1;omega
   refine qJ (first:=[ptr b 0]) (cap:=[]) (args:=[]) (name_comes w) (fun v h1 n1 q=>?_) (fun c h1 n1 q=>?_)
   · obtain⟨q1,q2⟩:=q
     cases ha:rE (s::r) with
     | error e=>rw [ha]at q2;cases q2
     | ok p=>
      obtain⟨x,r'⟩:=p;rw [ha]at q2;obtain⟨v',q2,rfl,q3⟩:=q2;injection q2 with q2;subst q2
      have hb:b<n:=Nat.lt_of_lt_of_le w.2.1.1 w.2.1.2;have hb0:lo≤b:=w.1;have ho1:=ho.touch q1 (fun x hx hS=>by have:=(ho.ge x hx).1;have:=w.2.1.1;simp at hS;omega);refine tI on23 (rN x) fun h2 c2 e2=>?_;have ho2:=ho1.touch (e2.touch []) (fun _ _ h=>by cases h);have hrl:r'.length+1≤(s::r).length:=nameW_len ha;simp only[List.length_cons]at hrl hlen hk;refine qS ap23 ho2 (by have:=ht.1;have:=q1.1;omega) c2 rfl (by simpa using rN x) (by omega) fun sv' h3 n3 o3 n3le k3=>?_;have q4:=q3.touch (e2.touch []) (fun _ h=>by cases h);have t3:=touch_blk (lo:=0) n3le k3;have hS:∀x∈(wQ sv).toList,n0≤x:=fun x hx=>(ho.ge x (by simpa using hx)).1;have q5:=q4.touch t3 (fun x hx=>.inr (Nat.le_trans hn0 (hS x hx)));have tt:TouchE [b] h0 n0 h3 n3:=((ht.trans q1).trans (e2.touch _)).step t3 (fun x hx=>.inr (hS x hx));have hEn:Env m h3:=((hE.touch q1 (by omega) (fun x hx=>by simp at hx;omega)).touch (e2.touch []) (by have:=q1.1;omega) (fun _ h=>by cases h)).touch t3 (by have:=q1.1;omega) (fun x hx=>by have:=hS x hx;omega);simp only[↓fg0,↓fg1,↓fg5,↓zF,↓xI]
      have eL:(acc++[x]).length=acc.length+1:=by simp
      have eM:(acc++[x]).map str=acc.map str++[str x]:=by simp
      refine ih r' (acc++[x]) sv' h3 n3 _ (by omega) q5 hEn (by rw[eL,eM];exact o3) (by rw[eL];omega) tt rfl rfl rfl ?_ ?_
      · intro l ws' t' h' n' sv'' hr s5 tt' oo' ll' ww';refine hok (x::l) ws' t' h' n' sv'' (restW_ok ha hr) s5 tt' (by rw[List.append_assoc]at oo';exact oo') (by rw[List.append_assoc]at ll';exact ll') ww'
      · intro e t' h' n' hr tt';exact herr e t' h' n' (restW_er2 ha hr) tt'
   · obtain⟨q1,q2⟩:=q
     cases ha:rE (s::r) with
     | error e=>rw [ha]at q2;injection q2 with q2;subst q2;exact herr e _ h1 n1 (restW_er1 ha) (ht.trans q1)
     | ok p=>rw [ha]at q2;obtain⟨v',q2,_⟩:=q2;cases q2
theorem restS_comes{m:Int}{lo hi n b:Nat}{h:zH}{ws:List Tx}(w:WordsAt lo hi n h b ws)(hE:Env m h)(hg:8≤lo) :
 ComesE P 8 119 [ptr b 0,.func (.func 117) ⟨[ptr b 0]⟩ ⟨[]⟩] h n (RQO lo hi b h n 9 str (sE ws)):=by
 refine xE zK mixed (hint:=hint119) l119 fun u k hk=>?_;rw [F119_eq];unfold F119;refine restS_loop (m:=m) (n0:=n) (h0:=h) w.2.1.2 hg u _ ws.length ws [] (.slice none 0 0) h n _ (Nat.le_refl _) w hE (.inl ⟨rfl,rfl,rfl⟩) (by have:=w.2.2.1;simpa using this) (TouchE.refl _ _ _) rfl rfl rfl ?_ ?_
 · intro l ws' t' h' n' sv' hr s5 tt oo ll ww;have hr':sE ws = .ok (l,ws'):=hr;rw [hr']at hk;simp only[↓zM,↓zN,↓zF,↓xI,s5];exact zV r119 rfl (hk _ _ _ ⟨tt,_,rfl,oo,ll,ww⟩)
 · intro e t' h' n' hr tt;have hr':sE ws = .error e:=hr;rw [hr']at hk;simp only[↓endA_panic,↓blkA_panic];exact xH r119 (hk _ _ _ ⟨tt,rfl⟩)
theorem restI_loop{m:Int}{lo hi b n0:Nat}{h0:zH}(hn0:hi≤n0)(hg:8≤lo)(u:Option yF)(ka:KX):∀(k:Nat) (ws:List Tx) (acc:List Int) (sv:Value) (h:zH) (n:Nat) (t:Fr),ws.length≤k→WordsAt lo hi n h b ws→Env m h→
 Own n0 n h sv 3 1 acc.length (acc.map I64)→acc.length+ws.length<100000→TouchE [b] h0 n0 h n→zA t 0=ptr b 0→zA t 1 = .func (.func 122) ⟨[ptr b 0]⟩ ⟨[]⟩→zA t 5=sv→
 (∀l ws' t' h' n' sv',restW wM k ws = .ok (l,ws')→zA t' 5=sv'→TouchE [b] h0 n0 h' n'→Own n0 n' h' sv' 3 1 (acc++l).length ((acc++l).map I64)→(acc++l).length<100000→WordsAt lo hi n' h' b ws'→ka (.exit 0) t' ⟨[],u,h',n'⟩=true)→
 (∀e t' h' n',restW wM k ws = .error e→TouchE [b] h0 n0 h' n'→ka (.panic (sB e)) t' ⟨[],u,h',n'⟩=true)→
 lpS P 8 1000002 ⟨121,none,false⟩ t ⟨[],u,h,n⟩ ka=true:=by
 intro k
 induction k with
 | zero=>
  intro ws acc sv h n t hk w hE ho hlen ht t0 t1 t5 hok herr;have hws:ws=[]:=List.length_eq_zero_iff.1 (by omega);subst hws;refine yK zK mixed (hint:=hint121) l121 lp121_1000002 ?_;rw [B121_1000002_eq];unfold B121_1000002;rw [t0,t1,t5];simp only[↓zF,↓xI];refine rL (len_pure w) ?_;have e3:wB 0 (([]:List Tx).length:Nat)=false:=rfl;simp only[↓e3,↓zY,↓wT];exact hok [] [] _ h n sv rfl rfl ht (by rw[List.append_nil];exact ho) (by rw[List.append_nil];omega) w
 | succ k ih =>
  intro ws acc sv h n t hk w hE ho hlen ht t0 t1 t5 hok herr;refine yK zK mixed (hint:=hint121) l121 lp121_1000002 ?_;rw [B121_1000002_eq];unfold B121_1000002;rw [t0,t1,t5];simp only[↓zF,↓xI];refine rL (len_pure w) ?_
  cases ws with
  | nil=>
   have e3:wB 0 (([]:List Tx).length:Nat)=false:=rfl;simp only[↓e3,↓zY,↓wT];exact hok [] [] _ h n sv rfl rfl ht (by rw[List.append_nil];exact ho) (by rw[List.append_nil];omega) w
  | cons s r=>
   have e3:wB 0 ((s::r).length:Nat)=true:=by rw[zT];exact decide_eq_true (by simp only[List.length_cons];omega)
   simp only[↓e3,↓zY,↓wP,↓xR];have hn8:8≤n:=Nat.le_trans hg (Nat.le_trans w.1 (Nat.le_of_lt (Nat.lt_of_lt_of_le w.2.1.1 w.2.1.2)));have hn80:8≤n0:=by have h8:=w.2.1.1;have h9:=w.1;omega
   refine invokeI_comes (first:=[ptr b 0]) (cap:=[]) (args:=[]) (number_comes w hE hg) (fun v h1 n1 q=>?_) (fun c h1 n1 q=>?_)
   · obtain⟨q1,q2⟩:=q
     cases ha:wM (s::r) with
     | error e=>rw [ha]at q2;cases q2
     | ok p=>
      obtain⟨x,r'⟩:=p;rw [ha]at q2;obtain⟨v',q2,rfl,q3⟩:=q2;injection q2 with q2;subst q2
      refine⟨x,rfl,?_⟩;have hb:b<n:=Nat.lt_of_lt_of_le w.2.1.1 w.2.1.2;have hb0:lo≤b:=w.1;have ho1:=ho.touch q1 (fun x hx hS=>by have:=(ho.ge x hx).1;have:=w.2.1.1;simp at hS;omega);refine tI on40 (I64_one x) fun h2 c2 e2=>?_;have ho2:=ho1.touch (e2.touch []) (fun _ _ h=>by cases h);have hrl:r'.length+1≤(s::r).length:=numberW_len ha;simp only[List.length_cons]at hrl hlen hk;refine qS ap40 ho2 (by have:=ht.1;have:=q1.1;omega) c2 rfl (by simpa using I64_one x) (by omega) fun sv' h3 n3 o3 n3le k3=>?_;have q4:=q3.touch (e2.touch []) (fun _ h=>by cases h);have t3:=touch_blk (lo:=0) n3le k3;have hS:∀x∈(wQ sv).toList,n0≤x:=fun x hx=>(ho.ge x (by simpa using hx)).1;have q5:=q4.touch t3 (fun x hx=>.inr (Nat.le_trans hn0 (hS x hx)));have tt:TouchE [b] h0 n0 h3 n3:=((ht.trans q1).trans (e2.touch _)).step t3 (fun x hx=>.inr (hS x hx));have hEn:Env m h3:=((hE.touch q1 (by omega) (fun x hx=>by simp at hx;omega)).touch (e2.touch []) (by have:=q1.1;omega) (fun _ h=>by cases h)).touch t3 (by have:=q1.1;omega) (fun x hx=>by have:=hS x hx;omega)
      simp only[↓fg0,↓fg1,↓fg5,↓zF,↓xI];have eL:(acc++[x]).length=acc.length+1:=by simp
      have eM:(acc++[x]).map I64=acc.map I64++[I64 x]:=by simp
      refine ih r' (acc++[x]) sv' h3 n3 _ (by omega) q5 hEn (by rw[eL,eM];exact o3) (by rw[eL];omega) tt rfl rfl rfl ?_ ?_
      · intro l ws' t' h' n' sv'' hr s5 tt' oo' ll' ww';refine hok (x::l) ws' t' h' n' sv'' (restW_ok ha hr) s5 tt' (by rw[List.append_assoc]at oo';exact oo') (by rw[List.append_assoc]at ll';exact ll') ww'
      · intro e t' h' n' hr tt';exact herr e t' h' n' (restW_er2 ha hr) tt'
   · obtain⟨q1,q2⟩:=q
     cases ha:wM (s::r) with
     | error e=>rw [ha]at q2;injection q2 with q2;subst q2;exact herr e _ h1 n1 (restW_er1 ha) (ht.trans q1)
     | ok p=>rw [ha]at q2;obtain⟨v',q2,_⟩:=q2;cases q2
theorem restI_comes{m:Int}{lo hi n b:Nat}{h:zH}{ws:List Tx}(w:WordsAt lo hi n h b ws)(hE:Env m h)(hg:8≤lo) :
 ComesE P 8 121 [ptr b 0,.func (.func 122) ⟨[ptr b 0]⟩ ⟨[]⟩] h n (RQO lo hi b h n 3 I64 (uH ws)):=by
 refine xE zK mixed (hint:=hint121) l121 fun u k hk=>?_;rw [F121_eq];unfold F121;refine restI_loop (m:=m) (n0:=n) (h0:=h) w.2.1.2 hg u _ ws.length ws [] (.slice none 0 0) h n _ (Nat.le_refl _) w hE (.inl ⟨rfl,rfl,rfl⟩) (by have:=w.2.2.1;simpa using this) (TouchE.refl _ _ _) rfl rfl rfl ?_ ?_
 · intro l ws' t' h' n' sv' hr s5 tt oo ll ww;have hr':uH ws = .ok (l,ws'):=hr;rw [hr']at hk;simp only[↓zM,↓zN,↓zF,↓xI,s5];exact zV r121 rfl (hk _ _ _ ⟨tt,_,rfl,oo,ll,ww⟩)
 · intro e t' h' n' hr tt;have hr':uH ws = .error e:=hr;rw [hr']at hk;simp only[↓endA_panic,↓blkA_panic];exact xH r121 (hk _ _ _ ⟨tt,rfl⟩)
def vH(i:Ins)(sv:Value):List Value:=[I64 i.kind,I64 i.d,I64 i.a,I64 i.b,I64 i.n,str i.name,sv,I64 i.t,I64 i.f]
def InsAt(lo n:Nat)(h:zH)(ib:Nat)(i:Ins):Prop:=ib<n∧∃sv,Cel h ib (50+1) (vH i sv)∧Own lo n h sv 3 1 i.args.length (i.args.map I64)∧i.args.length<100000∧wQ sv≠some ib
theorem InsAt.touch{lo n n' ib:Nat}{h h':zH}{i:Ins}{S:List Nat}(w:InsAt lo n h ib i)(t:TouchE S h n h' n')(h1:ib∉S)(hS:∀x∈S,x<lo):InsAt lo n' h' ib i:=by
 obtain⟨a,sv,b,c,d,e⟩:=w;exact⟨Nat.lt_of_lt_of_le a t.1,sv,b.touch t a h1,c.touch t (fun x hx hxS=>by have:=(c.ge x hx).1;have:=hS x hxS;omega),d,e⟩
theorem InsAt.low{lo lo' n ib:Nat}{h:zH}{i:Ins}(w:InsAt lo n h ib i)(hl:lo'≤lo):InsAt lo' n h ib i:=by
 obtain⟨a,sv,b,c,d⟩:=w;exact⟨a,sv,b,c.low hl,d⟩
theorem InsAt.store{lo n ib off:Nat}{h:zH}{i i':Ins}{v:Value}{ty:TypeId}{K:KH}(w:InsAt lo n h ib i)(hs:yJ P ty = .scal)(ho:off<9)(hv:v.oneCell'=true)(he:∀sv,(vH i sv).set off v=vH i' sv)(ha:i'.args=i.args)
(hlt:ib<lo∨True)(hK:∀h',InsAt lo n h' ib i'→TouchE [ib] h n h' n→K h' n undef=true):zW P ty (.pointer (some ⟨ib,off,none⟩)) v h n K=true:=by
 obtain⟨a,sv,b,c,d,e⟩:=w;refine wA b hs (by show off<9;exact ho) hv fun h' c' k'=>?_;have t:TouchE [ib] h n h' n:=yA k' (by simp);refine hK h' ⟨a,sv,?_,?_,?_,e⟩ t
 · rw[← he];exact c'
 · rw[ha];exact c.touch t (fun x hx hxS=>by simp at hxS;subst hxS;exact e hx)
 · rw[ha];exact d
def RQI(lo hi w ib:Nat)(h:zH)(n:Nat)(r:Res Ins):Out→zH→Nat→Prop:=fun o h' n'=>TouchE [w,ib] h n h' n'∧
 match r with
 | .ok (i,ws)=>o = .ret (.tuple ⟨[]⟩)∧InsAt n n' h' ib i∧WordsAt lo hi n' h' w ws
 | .error e=>o = .panic (sB e)
def RQV(lo hi w:Nat)(h:zH)(n:Nat)(r:Res Ins):Out→zH→Nat→Prop:=fun o h' n'=>TouchE [w] h n h' n'∧
 match r with
 | .ok (i,ws)=>∃sv,o = .ret (.agg ⟨vH i sv⟩)∧Own n n' h' sv 3 1 i.args.length (i.args.map I64)∧i.args.length<100000∧WordsAt lo hi n' h' w ws
 | .error e=>o = .panic (sB e)
theorem called_comes{m:Int}{lo hi n b ib:Nat}{h:zH}{ws:List Tx}{i:Ins}{sv0:Value}(w:WordsAt lo hi n h b ws)(hE:Env m h)(hg:8≤lo)(hc:Cel h ib (50+1) (vH i sv0))(hib:ib<n)(hhi:hi≤ib) :
 ComesE P 8 158 [ptr ib 0,ptr b 0] h n (RQI lo hi b ib h n (qD i ws)):=by
 have hn8:8≤n:=Nat.le_trans hg (Nat.le_trans w.1 (Nat.le_of_lt (Nat.lt_of_lt_of_le w.2.1.1 w.2.1.2)));have hb8:8≤b:=Nat.le_trans hg w.1;have hbi:b≠ib:=fun e=>by have:=w.2.1.1;omega
 have hi8:8≤ib:=by have h8:=w.2.1.1;omega
 refine xE zK mixed (hint:=hq0) l158 fun u k hk=>?_;rw [F158_eq];unfold F158;unfold qD at hk;refine xL (name_comes w) (fun v h1 n1 q=>?_) (fun c h1 n1 q=>?_)
 · obtain⟨q1,q2⟩:=q
   cases ha:rE ws with
   | error e=>rw [ha]at q2;cases q2
   | ok p=>
    obtain⟨s,r⟩:=p;rw [ha]at q2 hk;obtain⟨v',q2,rfl,w1⟩:=q2;injection q2 with q2;subst q2
    dsimp only at hk;have c1:=hc.touch q1 hib (by simp;exact fun e=>hbi e.symm);try simp only[↓zC,↓xF,↓uK,↓tC,↓vZ]
    refine wA c1 sh3 (by simp[vH]) rfl fun h2 c2 k2=>?_;try simp only[↓zC,↓xF,↓uK,↓tC,↓vZ]
    refine wA c2 sh9 (by simp[vH]) rfl fun h3 c3 k3=>?_;have t3:TouchE [b,ib] h n h3 n1:=((q1.mono (by simp)).trans (yA k2 (by simp))).trans (yA k3 (by simp));have t13:TouchE [ib] h1 n1 h3 n1:=(yA k2 (by simp)).trans (yA k3 (by simp));have w3:=w1.touch t13 (fun x hx=>by simp at hx;subst hx;exact .inr hhi);have hE3:Env m h3:=hE.touch t3 hn8 (fun x hx=>by simp at hx;rcases hx with rfl|rfl <;> omega);simp only[↓xK];refine xL (restI_comes w3 hE3 hg) (fun v h4 n4 q=>?_) (fun c h4 n4 q=>?_)
    · obtain⟨q4,q5⟩:=q
      cases hb:uH r with
      | error e=>rw [hb]at q5;cases q5
      | ok p=>
       obtain⟨l,r'⟩:=p;rw [hb]at q5 hk;obtain⟨v',q5,o4,l4,w4⟩:=q5;injection q5 with q5;subst q5
       dsimp only at hk;have c4:=c3.touch q4 (Nat.lt_of_lt_of_le hib q1.1) (by simp;exact fun e=>hbi e.symm);try simp only[↓zC,↓xF,↓uK,↓tC,↓vZ]
       refine wA c4 sh40 (by simp[vH]) o4.one fun h5 c5 k5=>?_;have t45:TouchE [ib] h4 n4 h5 n4:=yA k5 (by simp);have hib1:ib<n1:=Nat.lt_of_lt_of_le hib q1.1;have o5:=o4.touch t45 (fun x hx hS=>by have:=(o4.ge x hx).1;simp at hS;omega);have w5:=w4.touch t45 (fun x hx=>by simp at hx;subst hx;exact .inr hhi);have t5:TouchE [b,ib] h n h5 n4:=(t3.step (q4.mono (S':=[b,ib]) (by simp)) (fun x hx=>.inl hx)).trans (t45.mono (by simp));have e1:zE P 40 h5 (.pointer (some ⟨ib,6,none⟩))=some v:=zG c5 sh40 (by simp[vH]);have e2:=yX (P:=P) us40 (o5.row (Nat.le_refl 1)) [] h5;try simp only[↓zC,↓xF,↓uK,↓tC,↓vZ,↓e1,↓e2,↓zD]
       by_cases hl:l.length≤16
       · rw[if_pos hl]at hk;have e3:sQ (l.length:Nat) 16=true:=by rw[vW];exact decide_eq_true (by omega)
         simp only[↓e3,↓zY];refine yQ (fun _=>?_) (fun e=>by cases e);refine pB r158 (hk _ _ _ ⟨t5,rfl,⟨Nat.lt_of_lt_of_le hib t5.1,v,c5,o5.low q1.1,l4,fun e=>?_⟩,w5⟩);have:=(o4.ge _ e).1;omega
       · rw[if_neg hl]at hk;have e3:sQ (l.length:Nat) 16=false:=by rw[vW];exact decide_eq_false (by omega)
         simp only[↓e3,↓zY];refine yQ (fun e=>by cases e) (fun _=>?_);exact xH r158 (hk _ _ _ ⟨t5,rfl⟩)
    · obtain⟨q4,q5⟩:=q
      cases hb:uH r with
      | error e=>rw [hb]at q5 hk;injection q5 with q5;subst q5;exact xH r158 (hk _ _ _ ⟨t3.step (q4.mono (S':=[b,ib]) (by simp)) (fun x hx=>.inl hx),rfl⟩)
      | ok p=>rw [hb]at q5;obtain⟨v',q5,_⟩:=q5;cases q5
 · obtain⟨q1,q2⟩:=q
   cases ha:rE ws with
   | error e=>rw [ha]at q2 hk;injection q2 with q2;subst q2;exact xH r158 (hk _ _ _ ⟨q1.mono (by simp),rfl⟩)
   | ok p=>rw [ha]at q2;obtain⟨v',q2,_⟩:=q2;cases q2
theorem row_new{h:zH}{n e:Nat}{cs:List Value}(hl:cs.length<inf):Row (n+1) (h.set .dead (mkC cs 0 0) n) (.slice (some ⟨n,0,none⟩) cs.length cs.length) e 1 cs.length cs:=by
 refine .inr ⟨n,0,cs.length,cs.length,0,0,Nat.lt_succ_self _,rfl,by simp,?_,by omega,fun j v ej=>?_,.inl ⟨hl,Nat.le_refl _⟩⟩
 · rw[zP,if_pos rfl];rfl
 · unfold xX;rw [zP,if_pos rfl,Nat.zero_add];exact(uW cs 0 0 j).trans ej
theorem splitL_mem(c:UInt8):∀(s x:Tx),x∈vB c s→x.length≤s.length:=by
 intro s
 induction s with
 | nil=>intro x hx;simp [vB]at hx;subst hx;exact Nat.le_refl _
 | cons a r ih=>
  intro x hx;unfold vB at hx;split at hx
  · rcases List.mem_cons.1 hx with rfl|hx
    · simp
    · have:=ih x hx;simp only[List.length_cons];omega
  · split at hx
    · rename_i e;exact absurd e (splitL_ne c r)
    · rename_i y t e;rcases List.mem_cons.1 hx with rfl|hx
      · have:=ih y (by rw[e];simp);simp only[List.length_cons];omega
      · have:=ih x (by rw[e];exact List.mem_cons_of_mem _ hx);simp only[List.length_cons];omega
theorem of_loop(ws:List Tx)(p sv:Value)(h:zH)(n:Nat)(u:Option yF)(ka:KX)(hr:Row n h sv 9 1 ws.length (ws.map str))(hlen:ws.length<100000):∀(m i:Nat),m+i=ws.length→∀t,zA t 7=p→zA t 29=sv→zA t 30=I64 (ws.length:Nat)→zA t 31=I64 (i:Nat)→
 ((ws.drop i).all (fun s=> !(s == []))=true→∀t',zA t' 7=p→ka (.exit 0) t' ⟨[],u,h,n⟩=true)→((ws.drop i).all (fun s=> !(s == []))=false→∀t',ka (.panic (sB 3)) t' ⟨[],u,h,n⟩=true)→
 lpS P 8 1000005 ⟨162,none,false⟩ t ⟨[],u,h,n⟩ ka=true:=by
 intro m
 induction m with
 | zero=>
  intro i hi t t7 t29 t30 t31 hE hR;refine yK zK mixed (hint:=hint162) l162 lp162_1000005 ?_;rw [B162_1000005_eq];unfold B162_1000005;rw [t7,t29,t30,t31];have e3:wB (i:Nat) (ws.length:Nat)=false:=by rw[zT];exact decide_eq_false (by omega)
  simp only[↓zF,↓zD,↓xI,↓e3,↓zY,↓wT];refine hE ?_ _ rfl;rw [List.drop_eq_nil_of_le (by omega)];rfl
 | succ m ih=>
  intro i hi t t7 t29 t30 t31 hE hR;have hlt:i<ws.length:=by omega
  have hd:ws.drop i=ws[i]::ws.drop (i+1):=List.drop_eq_getElem_cons hlt;obtain⟨q,q1,q2⟩:=xG (P:=P) (k:=.i64) hr ix23 (tl:=9) sh9 (i:=i) (x:=str ws[i]) (by rw[List.getElem?_map,List.getElem?_eq_getElem hlt];rfl);generalize ws[i]=y at hd q2
  rw[hd]at hE hR;refine yK zK mixed (hint:=hint162) l162 lp162_1000005 ?_;rw [B162_1000005_eq];unfold B162_1000005;rw [t7,t29,t30,t31];have e3:wB (i:Nat) (ws.length:Nat)=true:=by rw[zT];exact decide_eq_true (by omega)
  simp only[↓zF,↓zD,↓xI,↓e3,↓zY,↓wP,↓xR,↓q1,↓q2,↓zC];have ec:((ByteArray.mk #[]).data.toList:List UInt8)=[]:=rfl;rw [cmpS_ne,ec];have ea:(y::ws.drop (i+1)).all (fun s=> !(s == []))=(!(y == []) && (ws.drop (i+1)).all (fun s=> !(s == []))):=rfl;rw [ea]at hE hR;show yO (loS P 8) 120 [.bool (!(y == [])),I64 3] h n _ _=true;refine yQ (fun hb=>?_) (fun hb=>?_)
  · rw[hb]at hE hR;simp only[↓fg7,↓fg29,↓fg30,↓fg31,↓zF,↓zD,↓xI];refine vT (by omega) ?_;exact ih (i+1) (by omega) _ rfl rfl rfl rfl hE hR
  · exact hR (by rw[hb];rfl) _
theorem of_comes{m:Int}{h:zH}{n:Nat}(hE:Env m h)(hn:8≤n)(line head:Tx)(hl:line.length<90000) :
 ComesE P 8 162 [str line,str head] h n fun o h' n'=>Ext h n h' n'∧(match ofW line head with
  | .ok ws=>∃b,o = .ret (ptr b 0)∧WordsAt n n' n' h' b ws
  | .error e=>o = .panic (sB e)):=by
 refine xE zK mixed (hint:=hint162) l162 fun u k hk=>?_;rw [F162_eq];unfold F162;unfold ofW at hk;refine yH (cutPrefix_pure n line head) ?_;have x0:∀a b,xO 0 (.tuple #[str a,.bool b])=some (str a):=fun _ _=>rfl;have x1:∀a b,xO 1 (.tuple #[str a,.bool b])=some (.bool b):=fun _ _=>rfl;simp only[↓x0,↓x1,↓zC,↓zI]
 have htl:(Lib.trimPrefix line head).length≤line.length:=by
  unfold Lib.trimPrefix;split
  · rw[List.length_drop];omega
  · exact Nat.le_refl _
 have ec:((ByteArray.mk #[]).data.toList:List UInt8)=[]:=rfl
 have hgo:(Lib.hasPrefix line head && !(Lib.trimPrefix line head == []))=false→∀t,zJ P (loS P 8) 162 k (.panic (sB 3)) t ⟨[],u,h,n⟩=true:=fun e t=>by
  rw[e,if_neg Bool.false_ne_true]at hk;exact xH r162 (hk _ _ _ ⟨Ext.refl _ _,rfl⟩)
 cases hp:Lib.hasPrefix line head with
 | false=>
  simp only[↓xJ,↓yV,↓zI];refine yQ (fun e=>by cases e) (fun _=>?_);exact hgo (by rw[hp];rfl) _
 | true=>
  simp only[↓yS,↓yR,↓zI];rw [cmpS_ne,ec];simp only[↓zI];show yO (loS P 8) 120 [.bool (!(Lib.trimPrefix line head == [])),I64 3] h n _ _=true;refine yQ (fun hb=>?_) (fun hb=>?_)
  · rw[hp,hb]at hk;rw [if_pos (show(true && true)=true from rfl)]at hk;generalize Lib.trimPrefix line head=r at *
    refine uT (split_rets n hE.tabs r 32 (by omega)) fun v h1 n1 ⟨e1,e2,e3⟩=>?_;subst e1 e2 e3;have hsl:(vB 32 r).length<100000:=by rw[splitL_length];have:=List.count_le_length (a:=32) (l:=r);omega
    have hml:∀x∈vB 32 r,x.length<1000000:=fun x hx=>by have:=splitL_mem 32 r x hx;omega
    generalize vB 32 r=ws at *
    have e1:uZ P 189 [(0,.slice (some ⟨n,0,none⟩) ws.length ws.length)]=some (.agg ⟨[.slice (some ⟨n,0,none⟩) ws.length ws.length]⟩):=by kernel_rfl
    simp only[↓e1,↓zC]
    have hr:Row (n+1) (h.set .dead (mkC (ws.map str) 0 0) n) (.slice (some ⟨n,0,none⟩) ws.length ws.length) 9 1 ws.length (ws.map str):=by
     have:=row_new (h:=h) (n:=n) (e:=9) (cs:=ws.map str) (by unfold inf;simp;omega);rw [List.length_map]at this;exact this
    refine tE (by simp[cellsOf,Value.oneCell']) fun h2 c2 x2=>?_;have hr2:=hr.ext x2;have e2:zE P 23 h2 (ptr (n+1) 0)=some (.slice (some ⟨n,0,none⟩) ws.length ws.length):=zG c2 sh23 rfl;have e3:=yX (P:=P) us23 hr2 [] h2;have xx:Ext h n h2 (n+1+1):=(set_ext).trans x2;simp only[↓zC,↓xF,↓fa189_0,↓e2,↓e3,↓zD];refine of_loop ws (ptr (n+1) 0) _ h2 (n+1+1) u _ hr2 (by omega) ws.length 0 (Nat.add_zero _) _ rfl rfl rfl rfl ?_ ?_
    · intro ha t' t7;rw [List.drop_zero]at ha;rw [if_pos ha]at hk;simp only[↓zM,↓zN,↓zF,↓xI,t7];refine zV r162 rfl (hk _ _ _ ⟨xx,n+1,rfl,by omega,⟨by omega,Nat.le_refl _⟩,by omega,hml,_,c2,hr2,fun x hx=>?_⟩);have hx':some n=some x:=hx;injection hx' with hx'
      omega
    · intro ha t';rw [List.drop_zero]at ha;rw [if_neg (by rw[ha];exact Bool.false_ne_true)]at hk;simp only[↓endA_panic,↓blkA_panic];exact xH r162 (hk _ _ _ ⟨xx,rfl⟩)
  · exact hgo (by rw[hp,hb];rfl) _
structure J (m:Int) (lo hi b rb ib n0:Nat) (h0:zH) (n:Nat) (h:zH) (i:Ins) (ws:List Tx):Prop where
 t:TouchE [b] h0 n0 h n
 env:Env m h
 w:WordsAt lo hi n h b ws
 r:∃vs,vs.length=9∧Cel h rb (50+1) vs
 i:InsAt (rb+1) n h ib i
 g:8≤lo
 hi0:hi≤n0
 rb0:n0≤rb∧rb<n
 ib0:n0≤ib∧rb≠ib
section
variable {m:Int} {lo hi b rb ib n0 n:Nat} {h0 h:zH} {i:Ins} {ws:List Tx}
theorem J.b8(j:J m lo hi b rb ib n0 h0 n h i ws):8≤b∧b<hi∧b<n∧n0≤n∧ib<n:=by
 have h1:=j.g;have h2:=j.w.1;have h3:=j.w.2.1;have h4:=j.t.1;have h5:=j.i.1;omega
theorem J.call(j:J m lo hi b rb ib n0 h0 n h i ws){h':zH}{n':Nat}{ws':List Tx}(t:TouchE [b] h n h' n')(w:WordsAt lo hi n' h' b ws'):J m lo hi b rb ib n0 h0 n' h' i ws':=by
 obtain⟨b1,b2,b3,b4,b5⟩:=j.b8;obtain⟨vs,v1,v2⟩:=j.r;have hh:=j.hi0;have hr:=j.rb0;have hib:=j.ib0;refine⟨j.t.trans t,j.env.touch t (by omega) (fun x hx=>by simp at hx;omega),w,⟨vs,v1,v2.touch t hr.2 (by simp;omega)⟩,j.i.touch t (by simp;omega) (fun x hx=>by simp at hx;omega),j.g,j.hi0,⟨hr.1,Nat.lt_of_lt_of_le hr.2 t.1⟩,hib⟩
theorem J.wr(j:J m lo hi b rb ib n0 h0 n h i ws){h':zH}{i':Ins}(t:TouchE [ib] h n h' n)(w:InsAt (rb+1) n h' ib i'):J m lo hi b rb ib n0 h0 n h' i' ws:=by
 obtain⟨b1,b2,b3,b4,b5⟩:=j.b8;obtain⟨vs,v1,v2⟩:=j.r;have hh:=j.hi0;have hr:=j.rb0;have hib:=j.ib0;refine⟨j.t.step t (fun x hx=>by simp at hx;subst hx;exact .inr hib.1),j.env.touch t (by omega) (fun x hx=>by simp at hx;omega),j.w.touch t (fun x hx=>by simp at hx;subst hx;exact .inr (by omega)),⟨vs,v1,v2.touch t hr.2 (by simp;omega)⟩,w,j.g,j.hi0,hr,hib⟩
theorem J.store(j:J m lo hi b rb ib n0 h0 n h i ws){off:Nat}{i':Ins}{v:Value}{ty:TypeId}{K:KH}(hs:yJ P ty = .scal)(ho:off<9)(hv:v.oneCell'=true)(he:∀sv,(vH i sv).set off v=vH i' sv)(ha:i'.args=i.args)
(hK:∀h',J m lo hi b rb ib n0 h0 n h' i' ws→K h' n undef=true):zW P ty (.pointer (some ⟨ib,off,none⟩)) v h n K=true:=
 j.i.store hs ho hv he ha (.inr trivial) fun h' w t=>hK h' (j.wr t w)
theorem J.args(j:J m lo hi b rb ib n0 h0 n h i ws){l:List Int}{v:Value}{ty:TypeId}{K:KH}(hs:yJ P ty = .scal)(ho:Own (rb+1) n h v 3 1 l.length (l.map I64))(hl:l.length<100000)(hne:wQ v≠some ib)
(hK:∀h',J m lo hi b rb ib n0 h0 n h' { i with args:=l } ws→zE P 40 h' (.pointer (some ⟨ib,6,none⟩))=some v→Own (rb+1) n h' v 3 1 l.length (l.map I64)→K h' n undef=true):zW P ty (.pointer (some ⟨ib,6,none⟩)) v h n K=true:=by
 obtain⟨a,sv,c,d,e,f⟩:=j.i;refine wA c hs (by simp[vH]) ho.one fun h' c' k'=>?_;have t:TouchE [ib] h n h' n:=yA k' (by simp);have o':=ho.touch t (fun x hx hS=>by simp at hS;subst hS;exact hne hx);exact hK h' (j.wr t ⟨a,v,c',o',hl,hne⟩) (zG c' sh40 (by simp[vH])) o'
theorem J.num(j:J m lo hi b rb ib n0 h0 n h i ws){Kp:KC}{K:Int→zH→Nat→Bool}(hK:∀a r h' n',wM ws = .ok (a,r)→J m lo hi b rb ib n0 h0 n' h' i r→K a h' n'=true)
(hp:∀e h' n',wM ws = .error e→TouchE [b] h0 n0 h' n'→Kp (sB e) h' n'=true):pJ (loS P 8) .i64 122 [ptr b 0] h n Kp K=true:=by
 refine callI_comes (number_comes j.w j.env j.g) (fun v h1 n1 q=>?_) (fun c h1 n1 q=>?_)
 · obtain⟨q1,q2⟩:=q
   cases ha:wM ws with
   | error e=>rw [ha]at q2;cases q2
   | ok p=>
    rw[ha]at q2;obtain⟨v',q2,e,w1⟩:=q2;injection q2 with q2;subst q2
    exact⟨_,e,hK _ _ _ _ ha (j.call q1 w1)⟩
 · obtain⟨q1,q2⟩:=q
   cases ha:wM ws with
   | error e=>rw [ha]at q2;injection q2 with q2;subst q2;exact hp _ _ _ ha (j.t.trans q1)
   | ok p=>rw [ha]at q2;obtain⟨v',q2,_⟩:=q2;cases q2
theorem J.any(j:J m lo hi b rb ib n0 h0 n h i ws){Kp:KC}{K:Int→zH→Nat→Bool}(hK:∀a r h' n',anyW ws = .ok (a,r)→J m lo hi b rb ib n0 h0 n' h' i r→K a h' n'=true)
(hp:∀e h' n',anyW ws = .error e→TouchE [b] h0 n0 h' n'→Kp (sB e) h' n'=true):pJ (loS P 8) .i64 155 [ptr b 0] h n Kp K=true:=by
 refine callI_comes (any_comes j.w j.env j.g) (fun v h1 n1 q=>?_) (fun c h1 n1 q=>?_)
 · obtain⟨q1,q2⟩:=q
   cases ha:anyW ws with
   | error e=>rw [ha]at q2;cases q2
   | ok p=>
    rw[ha]at q2;obtain⟨v',q2,e,w1⟩:=q2;injection q2 with q2;subst q2
    exact⟨_,e,hK _ _ _ _ ha (j.call q1 w1)⟩
 · obtain⟨q1,q2⟩:=q
   cases ha:anyW ws with
   | error e=>rw [ha]at q2;injection q2 with q2;subst q2;exact hp _ _ _ ha (j.t.trans q1)
   | ok p=>rw [ha]at q2;obtain⟨v',q2,_⟩:=q2;cases q2
theorem J.name(j:J m lo hi b rb ib n0 h0 n h i ws){Kp:KC}{K:Value→zH→Nat→Bool}(hK:∀a r h' n',rE ws = .ok (a,r)→J m lo hi b rb ib n0 h0 n' h' i r→K (str a) h' n'=true)
(hp:∀e h' n',rE ws = .error e→TouchE [b] h0 n0 h' n'→Kp (sB e) h' n'=true):yO (loS P 8) 117 [ptr b 0] h n Kp K=true:=by
 refine xL (name_comes j.w) (fun v h1 n1 q=>?_) (fun c h1 n1 q=>?_)
 · obtain⟨q1,q2⟩:=q
   cases ha:rE ws with
   | error e=>rw [ha]at q2;cases q2
   | ok p=>
    rw[ha]at q2;obtain⟨v',q2,e,w1⟩:=q2;injection q2 with q2;subst q2;subst e
    exact hK _ _ _ _ ha (j.call q1 w1)
 · obtain⟨q1,q2⟩:=q
   cases ha:rE ws with
   | error e=>rw [ha]at q2;injection q2 with q2;subst q2;exact hp _ _ _ ha (j.t.trans q1)
   | ok p=>rw [ha]at q2;obtain⟨v',q2,_⟩:=q2;cases q2
theorem J.next(j:J m lo hi b rb ib n0 h0 n h i ws){Kp:KC}{K:Value→zH→Nat→Bool}(hK:∀a r h' n',nextW ws = .ok (a,r)→J m lo hi b rb ib n0 h0 n' h' i r→K (str a) h' n'=true)
(hp:∀e h' n',nextW ws = .error e→TouchE [b] h0 n0 h' n'→Kp (sB e) h' n'=true):yO (loS P 8) 153 [ptr b 0] h n Kp K=true:=by
 refine xL (next_comes j.w) (fun v h1 n1 q=>?_) (fun c h1 n1 q=>?_)
 · obtain⟨q1,q2⟩:=q
   cases ha:nextW ws with
   | error e=>rw [ha]at q2;cases q2
   | ok p=>
    rw[ha]at q2;obtain⟨v',q2,e,w1⟩:=q2;injection q2 with q2;subst q2;subst e
    exact hK _ _ _ _ ha (j.call q1 w1)
 · obtain⟨q1,q2⟩:=q
   cases ha:nextW ws with
   | error e=>rw [ha]at q2;injection q2 with q2;subst q2;exact hp _ _ _ ha (j.t.trans q1)
   | ok p=>rw [ha]at q2;obtain⟨v',q2,_⟩:=q2;cases q2
theorem J.want(j:J m lo hi b rb ib n0 h0 n h i ws)(x:Tx){Kp:KC}{K:Value→zH→Nat→Bool}(hK:∀r h' n',wantW x ws = .ok ((),r)→J m lo hi b rb ib n0 h0 n' h' i r→K (.tuple ⟨[]⟩) h' n'=true)
(hp:∀e h' n',wantW x ws = .error e→TouchE [b] h0 n0 h' n'→Kp (sB e) h' n'=true):yO (loS P 8) 116 [ptr b 0,str x] h n Kp K=true:=by
 refine xL (want_comes j.w x) (fun v h1 n1 q=>?_) (fun c h1 n1 q=>?_)
 · obtain⟨q1,q2⟩:=q
   cases ha:wantW x ws with
   | error e=>rw [ha]at q2;cases q2
   | ok p=>
    rw[ha]at q2;obtain⟨v',q2,e,w1⟩:=q2;injection q2 with q2;subst q2;subst e
    exact hK _ _ _ ha (j.call q1 w1)
 · obtain⟨q1,q2⟩:=q
   cases ha:wantW x ws with
   | error e=>rw [ha]at q2;injection q2 with q2;subst q2;exact hp _ _ _ ha (j.t.trans q1)
   | ok p=>rw [ha]at q2;obtain⟨v',q2,_⟩:=q2;cases q2
theorem J.nums(j:J m lo hi b rb ib n0 h0 n h i ws){Kp:KC}{K:Value→zH→Nat→Bool}(hK:∀l r v h' n',uH ws = .ok (l,r)→J m lo hi b rb ib n0 h0 n' h' i r→Own (rb+1) n' h' v 3 1 l.length (l.map I64)→l.length<100000→wQ v≠some ib→K v h' n'=true)
(hp:∀e h' n',uH ws = .error e→TouchE [b] h0 n0 h' n'→Kp (sB e) h' n'=true):yO (loS P 8) 121 [ptr b 0,.func (.func 122) ⟨[ptr b 0]⟩ ⟨[]⟩] h n Kp K=true:=by
 obtain⟨b1,b2,b3,b4,b5⟩:=j.b8;refine xL (restI_comes j.w j.env j.g) (fun v h1 n1 q=>?_) (fun c h1 n1 q=>?_)
 · obtain⟨q1,q2⟩:=q
   cases ha:uH ws with
   | error e=>rw [ha]at q2;cases q2
   | ok p=>
    rw[ha]at q2;obtain⟨v',q2,o1,l1,w1⟩:=q2;injection q2 with q2;subst q2
    exact hK _ _ _ _ _ ha (j.call q1 w1) (o1.low j.rb0.2) l1 (fun e=>by have:=(o1.ge _ e).1;omega)
 · obtain⟨q1,q2⟩:=q
   cases ha:uH ws with
   | error e=>rw [ha]at q2;injection q2 with q2;subst q2;exact hp _ _ _ ha (j.t.trans q1)
   | ok p=>rw [ha]at q2;obtain⟨v',q2,_⟩:=q2;cases q2
theorem J.called(j:J m lo hi b rb ib n0 h0 n h i ws){Kp:KC}{K:Value→zH→Nat→Bool}(hK:∀i' r h' n',qD i ws = .ok (i',r)→J m lo hi b rb ib n0 h0 n' h' i' r→K (.tuple ⟨[]⟩) h' n'=true)
(hp:∀e h' n',qD i ws = .error e→TouchE [b] h0 n0 h' n'→Kp (sB e) h' n'=true):yO (loS P 8) 158 [ptr ib 0,ptr b 0] h n Kp K=true:=by
 obtain⟨b1,b2,b3,b4,b5⟩:=j.b8;obtain⟨a,sv,c,d,e,f⟩:=j.i;obtain⟨vs,v1,v2⟩:=j.r;have hh:=j.hi0;have hr:=j.rb0;have hib:=j.ib0;refine xL (called_comes j.w j.env j.g c a (by omega)) (fun v h1 n1 q=>?_) (fun c h1 n1 q=>?_)
 · obtain⟨q1,q2⟩:=q
   cases ha:qD i ws with
   | error e=>rw [ha]at q2;cases q2
   | ok p=>
    rw[ha]at q2;obtain⟨q2,i1,w1⟩:=q2;injection q2 with q2;subst q2
    refine hK _ _ _ _ ha ⟨j.t.step q1 (fun x hx=>by simp at hx;rcases hx with rfl|rfl;exact .inl (by simp);exact .inr hib.1),j.env.touch q1 (by omega) (fun x hx=>by simp at hx;rcases hx with rfl|rfl <;> omega),w1,⟨vs,v1,v2.touch q1 hr.2 (by simp;omega)⟩,i1.low hr.2,j.g,j.hi0,⟨hr.1,Nat.lt_of_lt_of_le hr.2 q1.1⟩,hib⟩
 · obtain⟨q1,q2⟩:=q
   cases ha:qD i ws with
   | error e=>rw [ha]at q2;injection q2 with q2;subst q2;exact hp _ _ _ ha (j.t.step q1 (fun x hx=>by simp at hx;rcases hx with rfl|rfl;exact .inl (by simp);exact .inr hib.1))
   | ok p=>rw [ha]at q2;obtain⟨q2,_⟩:=q2;cases q2
theorem J.tell(j:J m lo hi b rb ib n0 h0 n h i ws){f:FuncId}(hr:xW P f=some [.cell 2 50]){k:KO}{u:Option yF}{T:Value→Fr}(hT:∀v,zA (T v) 2=ptr rb 0)
(hk:∀v h' n',RQV lo hi b h0 n0 (.ok (i,ws)) (.ret v) h' n'→k (.ret v) u h' n'=true) :
 opt (zE P 50 h (ptr ib 0)) (fun v=>zW P 50 (ptr rb 0) v h n fun h' n' _=>zJ P (loS P 8) f k .ret (T v) ⟨[],u,h',n'⟩)=true:=by
 obtain⟨b1,b2,b3,b4,b5⟩:=j.b8;obtain⟨a,sv,c,d,e,f'⟩:=j.i;obtain⟨vs,v1,v2⟩:=j.r;have hh:=j.hi0;have hrb:=j.rb0;have hib:=j.ib0;refine opt_of (xA c sh50 rfl (by decide)) ?_
 have hone:∀x∈vH i sv,x.oneCell'=true:=by
  intro x hx;simp only[vH,List.mem_cons,List.not_mem_nil,or_false]at hx;rcases hx with rfl|rfl|rfl|rfl|rfl|rfl|rfl|rfl|rfl <;> first|rfl|exact d.one
 refine xU v2 sh50 rfl v1 hone fun h' c' k'=>?_;have t:TouchE [rb] h n h' n:=yA k' (by simp);refine leaveC hr (hT _) (xA c' sh50 rfl (by decide)) (hk _ _ _ ⟨j.t.step t (fun x hx=>by simp at hx;subst hx;exact .inr hrb.1),sv,rfl,?_,e,j.w.touch t (fun x hx=>by simp at hx;subst hx;exact .inr (by omega))⟩);exact(d.touch t (fun x hx hS=>by have:=(d.ge x hx).1;simp at hS;omega)).low (by omega)
end
set_option maxHeartbeats 4000000
theorem wO(Q:Fr→W→Prop){z:Bool}{A B:KN→Bool}{kn:KN}(hkn:∀t w,Q t w→kn t w=true)(ht:z=true→∀kk:KN,(∀t w,Q t w→kk t w=true)→A kk=true)(hf:z=false→∀kk:KN,(∀t w,Q t w→kk t w=true)→B kk=true):brJ z A B kn=true:=by
 cases z with
 | true=>exact ht rfl kn hkn
 | false=>exact hf rfl kn hkn
theorem wG(Q:Fr→W→Prop){A:KN→Bool}{kn:KN}(hkn:∀t w,Q t w→kn t w=true)(h:∀kk:KN,(∀t w,Q t w→kk t w=true)→A kk=true):pM A kn=true:=h kn hkn
def Done(m:Int)(lo hi b rb ib n0:Nat)(h0:zH)(u:Option yF)(g:Res Ins)(t:Fr)(w:W):Prop:=
 zA t 2=ptr rb 0∧zA t 3=ptr ib 0∧∃h n i ws,w=⟨[],u,h,n⟩∧J m lo hi b rb ib n0 h0 n h i ws∧g = .ok (i,ws)
theorem defining_comes{m:Int}{lo hi n b:Nat}{h:zH}{ws:List Tx}(w:WordsAt lo hi n h b ws)(hE:Env m h)(hg:8≤lo) :
 ComesE P 8 157 [ptr b 0] h n (RQV lo hi b h n (wN ws)):=by
 refine xE zK mixed (hint:=hint157) l157 fun u k hk=>?_;rw [F157_eq];unfold F157;have hn8:8≤n:=by have:=w.1;have:=w.2.1;omega
 refine wZ ze50 fun h1 c1 x1=>?_;have w1:=w.touch (x1.touch []) (fun _ h=>by cases h);have hE1:=hE.touch (x1.touch []) hn8 (fun _ h=>by cases h);refine callI_comes (number_comes w1 hE1 hg) (fun v h2 n2 q=>?_) (fun c h2 n2 q=>?_)
 · obtain⟨q1,q2⟩:=q
   cases ha:wM ws with
   | error e=>rw [ha]at q2;cases q2
   | ok p =>
    obtain⟨a,r⟩:=p;have hm:wN ws=wN ws:=rfl;conv at hm=>rhs;unfold wN
    rw[ha]at q2 hm;obtain⟨v',q2,rfl,w2⟩:=q2;injection q2 with q2;subst q2
    dsimp only at hm;refine⟨a,rfl,?_⟩;have e1:uZ P 50 [(1,.int .i64 a)]=some (.agg ⟨vH { Ins.z with d:=a } (.slice none 0 0)⟩):=by kernel_rfl
    simp only[↓e1,↓zC];have q1n:=q1.1;have hbn:b<n:=by have:=w.2.1;omega
    refine wZ ze50 fun h3 c3 x3=>?_;refine xU c3 sh50 rfl rfl (by intro x hx;simp only[vH,List.mem_cons,List.not_mem_nil,or_false]at hx;rcases hx with rfl|rfl|rfl|rfl|rfl|rfl|rfl|rfl|rfl <;> rfl) fun h4 c4 k4=>?_;have t14:TouchE [n2] h2 n2 h4 (n2+1):=(x3.touch _).trans (yA k4 (by simp));have t04:TouchE [b] h n h4 (n2+1):=((x1.touch [b]).trans q1).step t14 (fun x hx=>by simp at hx;subst hx;exact .inr (by omega))
    have j:J m lo hi b n n2 n h (n2+1) h4 { Ins.z with d:=a } r:=by
     refine⟨t04,hE.touch t04 hn8 (fun x hx=>by simp at hx;subst hx;have:=w.1;omega),w2.touch t14 (fun x hx=>by simp at hx;subst hx;exact .inr (by have:=w.2.1;omega)),⟨_,rfl,(c1.touch q1 (by omega) (by simp;omega)).touch t14 (by omega) (by simp;omega)⟩,⟨by omega,_,c4,.inl ⟨rfl,rfl,rfl⟩,by show 0<100000;omega,fun e=>by cases e⟩,hg,w.2.1.2,⟨Nat.le_refl _,by omega⟩,⟨by omega,by omega⟩⟩
    refine j.want tEq (fun r1 h5 n5 hw j=>?_) (fun e h5 n5 hw t5=>?_)
    · rw[hw]at hm;dsimp only at hm;refine j.name (fun s r2 h6 n6 hs j=>?_) (fun e h6 n6 hs t6=>?_)
      · rw[hs]at hm;dsimp only at hm;have e0:∀K,yB xN P .eql 9 true (str s) (.string (ByteArray.mk #[99,111,110,115,116])) K=K (s == tConst):=fun K=>vX _ _ _ _ _ K;have e1:∀K,yB xN P .eql 9 true (str s) (.string (ByteArray.mk #[99,111,112,121])) K=K (s == tCopy):=fun K=>vX _ _ _ _ _ K;have e2:∀K,yB xN P .eql 9 true (str s) (.string (ByteArray.mk #[108,111,97,100])) K=K (s == tLoad):=fun K=>vX _ _ _ _ _ K;have e3:∀K,yB xN P .eql 9 true (str s) (.string (ByteArray.mk #[99,97,108,108])) K=K (s == pU):=fun K=>vX _ _ _ _ _ K;simp only[↓e0,↓e1,↓e2,↓e3];refine wG (Done m lo hi b n n2 n h u (wN ws)) (fun t w q=>?_) (fun kk hkk=>?_)
        · obtain⟨t2,t3,h8,n8,i8,ws8,rfl,j8,g8⟩:=q;rw [g8]at hk;simp only[t2,t3,↓zF,↓xI];exact j8.tell r157 (fun _=>rfl) (fun v h' n' q=>hk _ _ _ q)
        refine wO (Done m lo hi b n n2 n h u (wN ws)) (fun t w q=>?_) (fun hc kk' hkk'=>?_) (fun hc kk hkk=>?_)
        · obtain⟨t2,t3,h8,n8,i8,ws8,rfl,j8,g8⟩:=q;simp only[t2,t3,↓zF,↓xI];exact hkk _ _ ⟨rfl,rfl,_,_,_,_,rfl,j8,g8⟩
        · rw[hc,if_pos rfl]at hm;refine j.any (fun x0 r0 ha0 na0 hx j=>?_) (fun e h7 n7 hx t7=>?_)
          · rw[hx]at hm;dsimp only at hm;try simp only[↓uK,↓zC]
            refine j.store sh3 (by decide) rfl (i':={ Ins.z with d:=a,kind:=1 }) (fun _=>rfl) rfl fun hb0 j=>?_;try simp only[↓fa50_4,↓zC]
            refine j.store sh3 (by decide) rfl (i':={ Ins.z with d:=a,kind:=1,n:=x0 }) (fun _=>rfl) rfl fun hc0 j=>?_;exact hkk' _ _ ⟨rfl,rfl,_,_,_,_,rfl,j,hm⟩
          · rw[hx]at hm;exact xH r157 (hk _ _ _ (by rw[hm];exact⟨t7,rfl⟩))
        rw[hc,if_neg Bool.false_ne_true]at hm;refine wO (Done m lo hi b n n2 n h u (wN ws)) (fun t w q=>?_) (fun hc kk' hkk'=>?_) (fun hc kk hkk=>?_)
        · obtain⟨t2,t3,h8,n8,i8,ws8,rfl,j8,g8⟩:=q;simp only[t2,t3,↓zF,↓xI];exact hkk _ _ ⟨rfl,rfl,_,_,_,_,rfl,j8,g8⟩
        · rw[hc,if_pos rfl]at hm;refine j.num (fun x0 r0 ha0 na0 hx j=>?_) (fun e h7 n7 hx t7=>?_)
          · rw[hx]at hm;dsimp only at hm;try simp only[↓uK,↓zC]
            refine j.store sh3 (by decide) rfl (i':={ Ins.z with d:=a,kind:=2 }) (fun _=>rfl) rfl fun hb0 j=>?_;try simp only[↓uX,↓zC]
            refine j.store sh3 (by decide) rfl (i':={ Ins.z with d:=a,kind:=2,a:=x0 }) (fun _=>rfl) rfl fun hc0 j=>?_;exact hkk' _ _ ⟨rfl,rfl,_,_,_,_,rfl,j,hm⟩
          · rw[hx]at hm;exact xH r157 (hk _ _ _ (by rw[hm];exact⟨t7,rfl⟩))
        rw[hc,if_neg Bool.false_ne_true]at hm;refine wO (Done m lo hi b n n2 n h u (wN ws)) (fun t w q=>?_) (fun hc kk' hkk'=>?_) (fun hc kk hkk=>?_)
        · obtain⟨t2,t3,h8,n8,i8,ws8,rfl,j8,g8⟩:=q;simp only[t2,t3,↓zF,↓xI];exact hkk _ _ ⟨rfl,rfl,_,_,_,_,rfl,j8,g8⟩
        · rw[hc,if_pos rfl]at hm;refine j.num (fun x0 r0 ha0 na0 hx j=>?_) (fun e h7 n7 hx t7=>?_)
          · rw[hx]at hm;dsimp only at hm;try simp only[↓uK,↓zC]
            refine j.store sh3 (by decide) rfl (i':={ Ins.z with d:=a,kind:=4 }) (fun _=>rfl) rfl fun hb0 j=>?_;try simp only[↓uX,↓zC]
            refine j.store sh3 (by decide) rfl (i':={ Ins.z with d:=a,kind:=4,a:=x0 }) (fun _=>rfl) rfl fun hc0 j=>?_;exact hkk' _ _ ⟨rfl,rfl,_,_,_,_,rfl,j,hm⟩
          · rw[hx]at hm;exact xH r157 (hk _ _ _ (by rw[hm];exact⟨t7,rfl⟩))
        rw[hc,if_neg Bool.false_ne_true]at hm;refine wO (Done m lo hi b n n2 n h u (wN ws)) (fun t w q=>?_) (fun hc kk' hkk'=>?_) (fun hc kk hkk=>?_)
        · obtain⟨t2,t3,h8,n8,i8,ws8,rfl,j8,g8⟩:=q;simp only[t2,t3,↓zF,↓xI];exact hkk _ _ ⟨rfl,rfl,_,_,_,_,rfl,j8,g8⟩
        · rw[hc,if_pos rfl]at hm;refine j.called (fun i' r3 h7 n7 hx j=>?_) (fun e h7 n7 hx t7=>?_)
          · rw[hx]at hm;exact hkk' _ _ ⟨rfl,rfl,_,_,_,_,rfl,j,hm⟩
          · rw[hx]at hm;exact xH r157 (hk _ _ _ (by rw[hm];exact⟨t7,rfl⟩))
        rw[hc,if_neg Bool.false_ne_true]at hm;try simp only[↓uK,↓tC,↓vZ,↓zC,↓xK]
        refine j.store sh3 (by decide) rfl (i':={ Ins.z with kind:=3,d:=a }) (fun _=>rfl) rfl fun h8 j=>?_;try simp only[↓uK,↓tC,↓vZ,↓zC,↓xK]
        refine j.store sh9 (by decide) rfl (i':={ Ins.z with kind:=3,d:=a,name:=s }) (fun _=>rfl) rfl fun h9 j=>?_;try simp only[↓xK]
        refine j.nums (fun l r3 v h7 n7 hx j o7 l7 b7=>?_) (fun e h7 n7 hx t7=>?_)
        · rw[hx]at hm;dsimp only at hm;try simp only[↓uK,↓tC,↓vZ,↓zC,↓xK]
          refine j.args sh40 o7 l7 b7 fun h10 j e6 o10=>?_;have e7:=yX (P:=P) us40 (o10.row (Nat.le_refl 1)) [] h10;try simp only[↓vZ,↓e6,↓zC,↓e7,↓zD]
          by_cases h1l:1≤l.length
          · rw[if_pos h1l]at hm;have e8:sQ 1 (l.length:Nat)=true:=by rw[vW];exact decide_eq_true (by omega)
            simp only[↓e8,↓zY];refine yQ (fun _=>?_) (fun e=>by cases e);try simp only[↓vZ,↓e6,↓zC,↓e7,↓zD]
            by_cases h2l:l.length≤2
            · rw[if_pos h2l]at hm;have e9:sQ (l.length:Nat) 2=true:=by rw[vW];exact decide_eq_true (by omega)
              simp only[↓e9,↓zY];refine yQ (fun _=>?_) (fun e=>by cases e);exact hkk _ _ ⟨rfl,rfl,_,_,_,_,rfl,j,hm⟩
            · rw[if_neg h2l]at hm;have e9:sQ (l.length:Nat) 2=false:=by rw[vW];exact decide_eq_false (by omega)
              simp only[↓e9,↓zY];refine yQ (fun e=>by cases e) (fun _=>?_);exact xH r157 (hk _ _ _ (by rw[hm];exact⟨j.t,rfl⟩))
          · rw[if_neg h1l]at hm;have e8:sQ 1 (l.length:Nat)=false:=by rw[vW];exact decide_eq_false (by omega)
            simp only[↓e8,↓zY];refine yQ (fun e=>by cases e) (fun _=>?_);exact xH r157 (hk _ _ _ (by rw[hm];exact⟨j.t,rfl⟩))
        · rw[hx]at hm;exact xH r157 (hk _ _ _ (by rw[hm];exact⟨t7,rfl⟩))
      · rw[hs]at hm;exact xH r157 (hk _ _ _ (by rw[hm];exact⟨t6,rfl⟩))
    · rw[hw]at hm;exact xH r157 (hk _ _ _ (by rw[hm];exact⟨t5,rfl⟩))
 · obtain⟨q1,q2⟩:=q;unfold wN at hk
   cases ha:wM ws with
   | error e=>rw [ha]at q2 hk;injection q2 with q2;subst q2;exact xH r157 (hk _ _ _ ⟨(x1.touch [b]).trans q1,rfl⟩)
   | ok p=>rw [ha]at q2;obtain⟨v',q2,_⟩:=q2;cases q2
theorem one_comes{m:Int}{lo hi n b:Nat}{h:zH}{ws:List Tx}(w:WordsAt lo hi n h b ws)(hE:Env m h)(hg:8≤lo) :
 ComesE P 8 123 [ptr b 0] h n (RQV lo hi b h n (oneI ws)):=by
 refine xE zK mixed (hint:=hint123) l123 fun u k hk=>?_;rw [F123_eq];unfold F123;have hn8:8≤n:=by have:=w.1;have:=w.2.1;omega
 have hbn:b<n:=by have:=w.2.1;omega
 have hm:oneI ws=oneI ws:=rfl;conv at hm=>rhs;unfold oneI
 refine wZ ze50 fun h1 c1 x1=>?_;have w1:=w.touch (x1.touch []) (fun _ h=>by cases h);have hE1:=hE.touch (x1.touch []) hn8 (fun _ h=>by cases h);refine yH (peek_pure w1) ?_;have ee:∀(x:Tx) K,yB xN P .eql 9 true (str x) (.string (ByteArray.mk #[61])) K=K (x == tEq):=fun x K=>vX _ _ _ _ _ K;simp only[↓ee]
 cases hq:(wordAt1 ws == tEq) with
 | true=>
  rw[hq,if_pos rfl]at hm;simp only[↓wP];refine xL (defining_comes w1 hE1 hg) (fun v h2 n2 q=>?_) (fun c h2 n2 q=>?_)
  · obtain⟨q1,q2⟩:=q
    cases ha:wN ws with
    | error e=>rw [ha]at q2;cases q2
    | ok p =>
     obtain⟨i,r⟩:=p;rw [ha]at q2 hm;obtain⟨sv,q2,o2,l2,w2⟩:=q2;injection q2 with q2;subst q2
     have hone:∀x∈vH i sv,x.oneCell'=true:=by
      intro x hx;simp only[vH,List.mem_cons,List.not_mem_nil,or_false]at hx;rcases hx with rfl|rfl|rfl|rfl|rfl|rfl|rfl|rfl|rfl <;> first|rfl|exact o2.one
     refine xU (c1.touch q1 (by omega) (by simp;omega)) sh50 rfl rfl hone fun h3 c3 k3=>?_;have t3:TouchE [n] h2 n2 h3 n2:=yA k3 (by simp);refine leaveC r123 rfl (xA c3 sh50 rfl (by decide)) (hk _ _ _ ?_);rw [hm];exact⟨((x1.touch [b]).trans q1).step t3 (fun x hx=>by simp at hx;subst hx;exact .inr (Nat.le_refl _)),sv,rfl,(o2.touch t3 (fun x hx hS=>by have:=(o2.ge x hx).1;simp at hS;omega)).low (by omega),l2,w2.touch t3 (fun x hx=>by simp at hx;subst hx;exact .inr (by have:=w.2.1;omega))⟩
  · obtain⟨q1,q2⟩:=q
    cases ha:wN ws with
    | error e=>rw [ha]at q2 hm;injection q2 with q2;subst q2;exact xH r123 (hk _ _ _ (by rw[hm];exact⟨(x1.touch [b]).trans q1,rfl⟩))
    | ok p=>rw [ha]at q2;obtain⟨v',q2,_⟩:=q2;cases q2
 | false =>
  rw[hq,if_neg Bool.false_ne_true]at hm;simp only[↓wT];have e1:uZ P 50 []=some (.agg ⟨vH Ins.z (.slice none 0 0)⟩):=by kernel_rfl
  simp only[↓e1,↓zC];refine wZ ze50 fun h3 c3 x3=>?_;refine xU c3 sh50 rfl rfl (by intro x hx;simp only[vH,List.mem_cons,List.not_mem_nil,or_false]at hx;rcases hx with rfl|rfl|rfl|rfl|rfl|rfl|rfl|rfl|rfl <;> rfl) fun h4 c4 k4=>?_;have t14:TouchE [n+1] h1 (n+1) h4 (n+1+1):=(x3.touch _).trans (yA k4 (by simp));have t04:TouchE [b] h n h4 (n+1+1):=(x1.touch [b]).step t14 (fun x hx=>by simp at hx;subst hx;exact .inr (by omega))
  have j:J m lo hi b n (n+1) n h (n+1+1) h4 Ins.z ws:=by
   refine⟨t04,hE.touch t04 hn8 (fun x hx=>by simp at hx;subst hx;have:=w.1;omega),w1.touch t14 (fun x hx=>by simp at hx;subst hx;exact .inr (by have:=w.2.1;omega)),⟨_,rfl,c1.touch t14 (by omega) (by simp)⟩,⟨by omega,_,c4,.inl ⟨rfl,rfl,rfl⟩,by show 0<100000;omega,fun e=>by cases e⟩,hg,w.2.1.2,⟨Nat.le_refl _,by omega⟩,⟨by omega,by omega⟩⟩
  refine j.next (fun s r h6 n6 hs j=>?_) (fun e h6 n6 hs t6=>?_)
  · rw[hs]at hm;dsimp only at hm;have e0:∀K,yB xN P .eql 9 true (str s) (.string (ByteArray.mk #[115,116,111,114,101])) K=K (s == tStore):=fun K=>vX _ _ _ _ _ K;have e1:∀K,yB xN P .eql 9 true (str s) (.string (ByteArray.mk #[99,97,108,108])) K=K (s == pU):=fun K=>vX _ _ _ _ _ K;have e2:∀K,yB xN P .eql 9 true (str s) (.string (ByteArray.mk #[98,114])) K=K (s == tBr):=fun K=>vX _ _ _ _ _ K;have e3:∀K,yB xN P .eql 9 true (str s) (.string (ByteArray.mk #[106,117,109,112])) K=K (s == tJump):=fun K=>vX _ _ _ _ _ K;have e4:∀K,yB xN P .eql 9 true (str s) (.string (ByteArray.mk #[114,101,116])) K=K (s == tRet):=fun K=>vX _ _ _ _ _ K;simp only[↓e0,↓e1,↓e2,↓e3,↓e4];refine wG (Done m lo hi b n (n+1) n h u (oneI ws)) (fun t w q=>?_) (fun kk hkk=>?_)
    · obtain⟨t2,t3,h8,n8,i8,ws8,rfl,j8,g8⟩:=q;rw [g8]at hk;simp only[t2,t3,↓zF,↓xI];exact j8.tell r123 (fun _=>rfl) (fun v h' n' q=>hk _ _ _ q)
    refine wO (Done m lo hi b n (n+1) n h u (oneI ws)) (fun t w q=>?_) (fun hc kk' hkk'=>?_) (fun hc kk hkk=>?_)
    · obtain⟨t2,t3,h8,n8,i8,ws8,rfl,j8,g8⟩:=q;simp only[t2,t3,↓zF,↓xI];exact hkk _ _ ⟨rfl,rfl,_,_,_,_,rfl,j8,g8⟩
    · rw[hc,if_pos rfl]at hm;refine j.num (fun x0 r0 ha0 na0 hx j=>?_) (fun e h7 n7 hx t7=>?_)
      · rw[hx]at hm;dsimp only at hm;try simp only[↓uK,↓zC]
        refine j.store sh3 (by decide) rfl (i':={ Ins.z with kind:=5 }) (fun _=>rfl) rfl fun hb0 j=>?_;try simp only[↓uX,↓zC]
        refine j.store sh3 (by decide) rfl (i':={ Ins.z with kind:=5,a:=x0 }) (fun _=>rfl) rfl fun hc0 j=>?_;refine j.num (fun x1 r1 ha1 na1 hx j=>?_) (fun e h7 n7 hx t7=>?_)
        · rw[hx]at hm;dsimp only at hm;try simp only[↓fa50_3,↓zC]
          refine j.store sh3 (by decide) rfl (i':={ Ins.z with kind:=5,a:=x0,b:=x1 }) (fun _=>rfl) rfl fun hc1 j=>?_;exact hkk' _ _ ⟨rfl,rfl,_,_,_,_,rfl,j,hm⟩
        · rw[hx]at hm;exact xH r123 (hk _ _ _ (by rw[hm];exact⟨t7,rfl⟩))
      · rw[hx]at hm;exact xH r123 (hk _ _ _ (by rw[hm];exact⟨t7,rfl⟩))
    rw[hc,if_neg Bool.false_ne_true]at hm;refine wO (Done m lo hi b n (n+1) n h u (oneI ws)) (fun t w q=>?_) (fun hc kk' hkk'=>?_) (fun hc kk hkk=>?_)
    · obtain⟨t2,t3,h8,n8,i8,ws8,rfl,j8,g8⟩:=q;simp only[t2,t3,↓zF,↓xI];exact hkk _ _ ⟨rfl,rfl,_,_,_,_,rfl,j8,g8⟩
    · rw[hc,if_pos rfl]at hm;simp only[↓tP,↓zC];refine j.store sh3 (by decide) rfl (i':={ Ins.z with d:= -1 }) (fun _=>rfl) rfl fun h8 j=>?_;refine j.called (fun i' r3 h7 n7 hx j=>?_) (fun e h7 n7 hx t7=>?_)
      · rw[hx]at hm;exact hkk' _ _ ⟨rfl,rfl,_,_,_,_,rfl,j,hm⟩
      · rw[hx]at hm;exact xH r123 (hk _ _ _ (by rw[hm];exact⟨t7,rfl⟩))
    rw[hc,if_neg Bool.false_ne_true]at hm;refine wO (Done m lo hi b n (n+1) n h u (oneI ws)) (fun t w q=>?_) (fun hc kk' hkk'=>?_) (fun hc kk hkk=>?_)
    · obtain⟨t2,t3,h8,n8,i8,ws8,rfl,j8,g8⟩:=q;simp only[t2,t3,↓zF,↓xI];exact hkk _ _ ⟨rfl,rfl,_,_,_,_,rfl,j8,g8⟩
    · rw[hc,if_pos rfl]at hm;refine j.num (fun x0 r0 ha0 na0 hx j=>?_) (fun e h7 n7 hx t7=>?_)
      · rw[hx]at hm;dsimp only at hm;try simp only[↓uK,↓zC]
        refine j.store sh3 (by decide) rfl (i':={ Ins.z with kind:=7 }) (fun _=>rfl) rfl fun hb0 j=>?_;try simp only[↓uX,↓zC]
        refine j.store sh3 (by decide) rfl (i':={ Ins.z with kind:=7,a:=x0 }) (fun _=>rfl) rfl fun hc0 j=>?_;refine j.num (fun x1 r1 ha1 na1 hx j=>?_) (fun e h7 n7 hx t7=>?_)
        · rw[hx]at hm;dsimp only at hm;try simp only[↓pN,↓zC]
          refine j.store sh3 (by decide) rfl (i':={ Ins.z with kind:=7,a:=x0,t:=x1 }) (fun _=>rfl) rfl fun hc1 j=>?_;refine j.num (fun x2 r2 ha2 na2 hx j=>?_) (fun e h7 n7 hx t7=>?_)
          · rw[hx]at hm;dsimp only at hm;try simp only[↓fa50_8,↓zC]
            refine j.store sh3 (by decide) rfl (i':={ Ins.z with kind:=7,a:=x0,t:=x1,f:=x2 }) (fun _=>rfl) rfl fun hc2 j=>?_;exact hkk' _ _ ⟨rfl,rfl,_,_,_,_,rfl,j,hm⟩
          · rw[hx]at hm;exact xH r123 (hk _ _ _ (by rw[hm];exact⟨t7,rfl⟩))
        · rw[hx]at hm;exact xH r123 (hk _ _ _ (by rw[hm];exact⟨t7,rfl⟩))
      · rw[hx]at hm;exact xH r123 (hk _ _ _ (by rw[hm];exact⟨t7,rfl⟩))
    rw[hc,if_neg Bool.false_ne_true]at hm;refine wO (Done m lo hi b n (n+1) n h u (oneI ws)) (fun t w q=>?_) (fun hc kk' hkk'=>?_) (fun hc kk hkk=>?_)
    · obtain⟨t2,t3,h8,n8,i8,ws8,rfl,j8,g8⟩:=q;simp only[t2,t3,↓zF,↓xI];exact hkk _ _ ⟨rfl,rfl,_,_,_,_,rfl,j8,g8⟩
    · rw[hc,if_pos rfl]at hm;refine j.num (fun x0 r0 ha0 na0 hx j=>?_) (fun e h7 n7 hx t7=>?_)
      · rw[hx]at hm;dsimp only at hm;try simp only[↓uK,↓zC]
        refine j.store sh3 (by decide) rfl (i':={ Ins.z with kind:=8 }) (fun _=>rfl) rfl fun hb0 j=>?_;try simp only[↓pN,↓zC]
        refine j.store sh3 (by decide) rfl (i':={ Ins.z with kind:=8,t:=x0 }) (fun _=>rfl) rfl fun hc0 j=>?_;exact hkk' _ _ ⟨rfl,rfl,_,_,_,_,rfl,j,hm⟩
      · rw[hx]at hm;exact xH r123 (hk _ _ _ (by rw[hm];exact⟨t7,rfl⟩))
    rw[hc,if_neg Bool.false_ne_true]at hm;refine wO (Done m lo hi b n (n+1) n h u (oneI ws)) (fun t w q=>?_) (fun hc kk' hkk'=>?_) (fun hc kk hkk=>?_)
    · obtain⟨t2,t3,h8,n8,i8,ws8,rfl,j8,g8⟩:=q;simp only[t2,t3,↓zF,↓xI];exact hkk _ _ ⟨rfl,rfl,_,_,_,_,rfl,j8,g8⟩
    · rw[hc,if_pos rfl]at hm;refine j.num (fun x0 r0 ha0 na0 hx j=>?_) (fun e h7 n7 hx t7=>?_)
      · rw[hx]at hm;dsimp only at hm;try simp only[↓uK,↓zC]
        refine j.store sh3 (by decide) rfl (i':={ Ins.z with kind:=9 }) (fun _=>rfl) rfl fun hb0 j=>?_;try simp only[↓uX,↓zC]
        refine j.store sh3 (by decide) rfl (i':={ Ins.z with kind:=9,a:=x0 }) (fun _=>rfl) rfl fun hc0 j=>?_;exact hkk' _ _ ⟨rfl,rfl,_,_,_,_,rfl,j,hm⟩
      · rw[hx]at hm;exact xH r123 (hk _ _ _ (by rw[hm];exact⟨t7,rfl⟩))
    rw[hc,if_neg Bool.false_ne_true]at hm;refine yQ (fun e=>by cases e) (fun _=>?_);exact xH r123 (hk _ _ _ (by rw[hm];exact⟨j.t,rfl⟩))
  · rw[hs]at hm;exact xH r123 (hk _ _ _ (by rw[hm];exact⟨t6,rfl⟩))
set_option maxRecDepth 1000000
theorem xcall_caught(L:Lo)(g:FuncId)(first cap:List Value)(u:Option yF)(h:zH)(n:Nat)(k:KO) :
 xcall P (Lo.next P L) 125 [.func (.func g) ⟨first⟩ ⟨cap⟩] false u h n k =
  xB h n (uG [.int .i64 0] 25) fun h1 n1=>
   qW L (.func (.func g) ⟨first⟩ ⟨cap⟩) [] h1 n1
    (fun v h2 n2=>storeAt h2 n 0 [.int .i64 0] fun h3=>sC P L Tryz.f125 none (((((fr0.set undef (.func (.func g) ⟨first⟩ ⟨cap⟩) 0).set undef (ptr n 0) 2).set undef (.func (.func 161) #[] #[ptr n 0]) 3).set undef (.func (.func g) ⟨first⟩ ⟨cap⟩) 4).set undef v 5) ⟨[{ target:=.fn (.func 161) #[ptr n 0],args:= #[] }],u,h3,n2⟩ k)
    (fun c h2 n2=>sC P L Tryz.f125 (some c) ((((fr0.set undef (.func (.func g) ⟨first⟩ ⟨cap⟩) 0).set undef (ptr n 0) 2).set undef (.func (.func 161) #[] #[ptr n 0]) 3).set undef (.func (.func g) ⟨first⟩ ⟨cap⟩) 4) ⟨[{ target:=.fn (.func 161) #[ptr n 0],args:= #[] }],u,h2,n2⟩ k):=by kernel_rfl
theorem xcall_recover0(L:Lo)(c n:Nat)(h:zH)(k:KO) :
 xcall P (Lo.next P L) 161 [ptr c 0] true none h n k=k (.ret (.tuple ⟨[]⟩)) none h n:=by kernel_rfl
theorem xcall_recover1(L:Lo)(c n:Nat)(e:Int)(h:zH)(k:KO) :
 xcall P (Lo.next P L) 161 [ptr c 0] true (some (sB e)) h n k =
  xB h n (uG [.int .i64 0] 191) fun h1 n1=>storeAt h1 n 0 [.int .i64 e] fun h2=>
   Option.rec false (fun v=>Bool.rec false (storeAt h2 c 0 (cellsOf v) fun h3=>k (.ret (.tuple ⟨[]⟩)) (some [⟨.iface 191 (.agg ⟨[.int .i64 e]⟩),true,false⟩]) h3 n1) (Nat.beq (cellsOf v).length 1)) (zE P 25 h2 (ptr n 0)):=by kernel_rfl
theorem res_caught:Tryz.f125.results.toList=[.cell 2 25]:=by kernel_rfl
theorem caught_comes{g:FuncId}{first cap:List Value}{h:zH}{n:Nat}{Q:Out→zH→Nat→Prop}
(hg:∀h1,Cel h1 n (25+1) [I64 0]→Ext h n h1 (n+1)→ComesE P 8 g (first++([]++cap)) h1 (n+1) fun o h2 n2=>Q o h2 n2∧n+1≤n2∧Cel h2 n (25+1) [I64 0])
(hw:∀c h2 n2,Q (.panic c) h2 n2→∃e,c=sB e) :
 ComesE P 8 125 [.func (.func g) ⟨first⟩ ⟨cap⟩] h n fun o h' n'=>∃h2 n2,n+1≤n2∧Cel h2 n (25+1) [I64 0]∧TouchE [n] h2 n2 h' n'∧((∃v,Q (.ret v) h2 n2∧o = .ret (I64 0))∨∃e,Q (.panic (sB e)) h2 n2∧o = .ret (I64 e)):=by
 refine comes_intro1 zK mixed fun u k hk=>?_;rw [xcall_caught,xC];have c1:Cel (h.set .dead (uG [.int .i64 0] 25) n) n (25+1) [I64 0]:=cel_mkC;have x1:Ext h n (h.set .dead (uG [.int .i64 0] 25) n) (n+1):=set_ext;generalize h.set .dead (uG [.int .i64 0] 25) n=h1 at c1 x1
 refine hg h1 c1 x1 none _ fun o h2 n2 q=>?_;obtain⟨q,hn,c2⟩:=q
 cases o with
 | ret v=>
  refine sG c2 (by simp) rfl fun h3 c3 k3=>?_;have t3:TouchE [n] h2 n2 h3 n2:=yA k3 (by simp);refine xleave_defer0 (Q:=fun h' n'=>h'=h3∧n'=n2) (v:=.tuple ⟨[]⟩) (fun k' hk'=>call_intro1 zK mixed ?_) (fun h' n' q'=>?_)
  · show xcall P (lo1 P 8) 161 [ptr n 0] true none h3 n2 k'=true;rw [xcall_recover0];exact hk' _ _ ⟨rfl,rfl⟩
  · obtain⟨rfl,rfl⟩:=q';exact leave_intro zK (xleave_cell res_caught (v:=I64 0) (zG c3 sh25 rfl) (hk _ _ _ ⟨h2,n',hn,c2,t3,.inl ⟨v,q,rfl⟩⟩))
 | panic c=>
  obtain⟨e,rfl⟩:=hw _ _ _ q;refine xleave_defer1 (c:=sB e) (Q:=fun h' n'=>TouchE [n] h2 n2 h' n'∧Cel h' n (25+1) [I64 e]) (v:=.tuple ⟨[]⟩) (x:=.iface 191 (.agg ⟨[.int .i64 e]⟩)) (fun k' hk'=>call_intro1 zK mixed ?_) (fun h' n' q'=>?_)
  · show xcall P (lo1 P 8) 161 [ptr n 0] true (some (sB e)) h2 n2 k'=true;rw [xcall_recover1,xC];have c4:Cel (h2.set .dead (uG [.int .i64 0] 191) n2) n2 (191+1) [I64 0]:=cel_mkC;have x4:Ext h2 n2 (h2.set .dead (uG [.int .i64 0] 191) n2) (n2+1):=set_ext;generalize h2.set .dead (uG [.int .i64 0] 191) n2=h4 at c4 x4
    refine sG c4 (by simp) rfl fun h5 c5 k5=>?_;have e5:zE P 25 h5 (ptr n2 0)=some (I64 e):=zG c5 sh25 rfl;rw [e5];have c6:=(c2.touch (x4.touch []) (by omega) (by simp)).touch (yA (n:=n2+1) k5 (S:=[n2]) (by simp)) (by omega) (by simp;omega);refine sG (v:=I64 e) c6 (by simp) rfl fun h7 c7 k7=>hk' _ _ ⟨?_,c7⟩;exact(x4.touch [n]).step ((yA (n:=n2+1) k5 (S:=[n,n2]) (by simp)).trans (yA k7 (by simp))) (fun x hx=>by simp at hx;rcases hx with rfl|rfl;exact .inl (by simp);exact .inr (Nat.le_refl _))
  · obtain⟨q1,q2⟩:=q';exact leave_intro zK (xleave_cell res_caught (v:=I64 e) (zG q2 sh25 rfl) (hk _ _ _ ⟨h2,n2,hn,c2,q1,.inr ⟨e,q,rfl⟩⟩))
set_option maxRecDepth 100000
def RO(M:List Nat)(n:Nat)(h:zH)(v:Value)(e sz len:Nat)(vs:List Value):Prop:=Row n h v e sz len vs∧(∀b,wQ v=some b→b∉M)∧∀b m z,wQ v=some b→tH (yG h b)≠some (m,z+1,0)
theorem RO.step{M M' S:List Nat}{n n':Nat}{h h':zH}{v:Value}{e sz len:Nat}{vs:List Value}(r:RO M n h v e sz len vs)(t:TouchE S h n h' n')(hS:∀x∈S,x∈M∨n≤x)(hM:∀x∈M',x∈M∨n≤x):RO M' n' h' v e sz len vs:=by
 refine⟨r.1.touch t fun b hb hbS=>?_,fun b hb hbM=>?_,fun b m z hb hi=>?_⟩
 · have:=r.1.lt b hb;rcases hS b hbS with h1|h1
   · exact r.2.1 b hb h1
   · omega
 · have:=r.1.lt b hb;rcases hM b hbM with h1|h1
   · exact r.2.1 b hb h1
   · omega
 · have hlt:=r.1.lt b hb;rw [t.2 b hlt (fun hbS=>(hS b hbS).elim (r.2.1 b hb) (fun h=>by omega))]at hi;exact r.2.2 b m z hb hi
theorem own_ro{M:List Nat}{lo n:Nat}{h:zH}{v:Value}{e sz len:Nat}{vs:List Value}(o:Own lo n h v e sz len vs)(hsz:1≤sz)(hM:∀b,wQ v=some b→b∉M):RO M n h v e sz len vs:=by
 refine⟨o.row hsz,hM,fun b m z hb hi=>?_⟩;rcases o with⟨rfl,_⟩|⟨b',q1,q2,rfl,q3,_⟩
 · cases hb
 · injection hb with hb
   subst hb;rw [q3]at hi;injection hi with hi;injection hi with _ hi;injection hi with _ hi;cases hi
theorem RO.hole{M:List Nat}{n n' x m z:Nat}{h h':zH}{v:Value}{e sz len:Nat}{vs:List Value}(r:RO M n h v e sz len vs)(t:TouchE [x] h n h' n')(hx:tH (yG h x)=some (m,z+1,0)):RO M n' h' v e sz len vs:=by
 have hne:∀b,wQ v=some b→b≠x:=fun b hb e=>r.2.2 b m z hb (by rw[e];exact hx);refine⟨r.1.touch t fun b hb hbS=>hne b hb (by simpa using hbS),r.2.1,fun b m z hb hi=>?_⟩;rw [t.2 b (r.1.lt b hb) (by simpa using hne b hb)]at hi;exact r.2.2 b m z hb hi
theorem Own.hole{lo n n' x m z:Nat}{h h':zH}{v:Value}{e sz len:Nat}{vs:List Value}(o:Own lo n h v e sz len vs)(t:TouchE [x] h n h' n')(hx:tH (yG h x)=some (m,z+1,0)):Own lo n' h' v e sz len vs:=by
 refine o.touch t fun b hb hbS=>?_;simp at hbS;subst hbS;rcases o with⟨rfl,_⟩|⟨b',q1,q2,rfl,q3,_⟩
 · cases hb
 · injection hb with hb
   subst hb;rw [q3]at hx;injection hx with hx;injection hx with _ hx;injection hx with _ hx;cases hx
def qE(l:List Ins)(av:List Value):List Value:=(l.zip av).flatMap fun p=>vH p.1 p.2
theorem insFlat_add{l:List Ins}{av:List Value}(h:av.length=l.length)(i:Ins)(a:Value):qE (l++[i]) (av++[a])=qE l av++vH i a:=by
 unfold qE;rw [List.zip_append h.symm,List.flatMap_append];simp
def ArgsOK(M:List Nat)(n:Nat)(h:zH)(l:List Ins)(av:List Value):Prop:=av.length=l.length∧∀(j:Nat) (i:Ins) (a:Value),l[j]? = some i→av[j]? = some a→RO M n h a 3 1 i.args.length (i.args.map I64)
def BlkRO(M:List Nat)(n:Nat)(h:zH)(v:Value)(l:List Ins):Prop:=∃av,ArgsOK M n h l av∧RO M n h v 50 9 l.length (qE l av)
def BlkOwn(M:List Nat)(lo n:Nat)(h:zH)(v:Value)(l:List Ins):Prop:=∃av,ArgsOK M n h l av∧Own lo n h v 50 9 l.length (qE l av)
theorem ArgsOK.step{M M' S:List Nat}{n n':Nat}{h h':zH}{l:List Ins}{av:List Value}(r:ArgsOK M n h l av)(t:TouchE S h n h' n')(hS:∀x∈S,x∈M∨n≤x)(hM:∀x∈M',x∈M∨n≤x):ArgsOK M' n' h' l av:=
 ⟨r.1,fun j i a h1 h2=>(r.2 j i a h1 h2).step t hS hM⟩
theorem BlkRO.step{M M' S:List Nat}{n n':Nat}{h h':zH}{v:Value}{l:List Ins}(r:BlkRO M n h v l)(t:TouchE S h n h' n')(hS:∀x∈S,x∈M∨n≤x)(hM:∀x∈M',x∈M∨n≤x):BlkRO M' n' h' v l:=by
 obtain⟨av,a,b⟩:=r;exact⟨av,a.step t hS hM,b.step t hS hM⟩
def oN(svs:List Value):List Nat:=(svs.getLast?.bind wQ).toList
def MM(pb rb:Nat)(bv:Value)(svs:List Value):List Nat:=(List.range' pb 8++[rb])++(wQ bv).toList++oN svs
structure BlksAt (M:List Nat) (lo n:Nat) (h:zH) (bs:List (List Ins)) (svs:List Value):Prop where
 len:svs.length=bs.length
 ro:∀(k:Nat) (l:List Ins) (v:Value),k+1<bs.length→bs[k]? = some l→svs[k]? = some v→BlkRO M n h v l
 last:∀(l:List Ins) (v:Value),bs.getLast? = some l→svs.getLast? = some v→BlkOwn M lo n h v l
structure RAt (lo n:Nat) (h:zH) (pb rb:Nat) (f:Fct) (vv pv bv:Value) (svs:List Value):Prop where
 cel:Cel h rb 0 [str f.name,vv,pv,str f.result,bv]
 low:8≤lo∧lo≤pb∧lo≤rb∧pb+7<n∧rb<n∧rb<pb
 vr:RO (MM pb rb bv svs) n h vv 9 1 f.vregs.length (f.vregs.map str)
 pr:RO (MM pb rb bv svs) n h pv 3 1 f.params.length (f.params.map I64)
 bo:Own lo n h bv 51 1 f.blocks.length svs
 bne:∀b,wQ bv=some b→(b<pb∨pb+7<b)∧b≠rb
 lne:∀b,svs.getLast?.bind wQ=some b→(b<pb∨pb+7<b)∧b≠rb∧wQ bv≠some b
 bl:BlksAt (MM pb rb bv svs) lo n h f.blocks svs
 bnd:f.blocks.length≤200
theorem mem_MM{pb rb:Nat}{bv:Value}{svs:List Value}{x:Nat}:x∈MM pb rb bv svs↔(pb≤x∧x≤pb+7)∨x=rb∨wQ bv=some x∨svs.getLast?.bind wQ=some x:=by
 unfold MM oN;simp only[List.mem_append,List.mem_cons,List.not_mem_nil,or_false,Option.mem_toList,List.mem_range'_1];constructor
 · rintro (((h|h)|h)|h)
   · exact .inl ⟨h.1,by omega⟩
   · exact .inr (.inl h)
   · exact .inr (.inr (.inl h))
   · exact .inr (.inr (.inr h))
 · rintro (h|h|h|h)
   · exact .inl (.inl (.inl ⟨h.1,by omega⟩))
   · exact .inl (.inl (.inr h))
   · exact .inl (.inr h)
   · exact .inr h
theorem RAt.lt{lo n:Nat}{h:zH}{pb rb:Nat}{f:Fct}{vv pv bv:Value}{svs:List Value}(r:RAt lo n h pb rb f vv pv bv svs):∀x∈MM pb rb bv svs,lo≤x∧x<n:=by
 intro x hx;obtain⟨l1,l2,l3,l4,l5,l6⟩:=r.low;rcases mem_MM.1 hx with hx|rfl|hx|hx
 · omega
 · exact⟨l3,l5⟩
 · exact r.bo.ge x hx
 · cases hs:svs.getLast? with
   | none=>rw [hs]at hx;cases hx
   | some v =>
    rw[hs]at hx
    cases hb:f.blocks.getLast? with
    | none=>
     have h1:f.blocks=[]:=List.getLast?_eq_none_iff.1 hb;have h2:=r.bl.len;rw [h1]at h2;have h3:svs=[]:=List.length_eq_zero_iff.1 h2;rw [h3]at hs;cases hs
    | some l=>
     obtain⟨av,_,o⟩:=r.bl.last l v hb hs;exact o.ge x hx
theorem RAt.step{lo n n':Nat}{h h':zH}{pb rb:Nat}{f f':Fct}{vv pv bv vv' pv':Value}{svs:List Value}{S:List Nat}(r:RAt lo n h pb rb f vv pv bv svs)(t:TouchE S h n h' n')(hS:∀x∈S,(pb≤x∧x≤pb+7)∨x=rb∨n≤x)
(hb:f'.blocks=f.blocks)(c:Cel h' rb 0 [str f'.name,vv',pv',str f'.result,bv])(hv:RO (MM pb rb bv svs) n' h' vv' 9 1 f'.vregs.length (f'.vregs.map str))(hp:RO (MM pb rb bv svs) n' h' pv' 3 1 f'.params.length (f'.params.map I64)) :
 RAt lo n' h' pb rb f' vv' pv' bv svs:=by
 obtain⟨l1,l2,l3,l4,l5,l6⟩:=r.low
 have hS':∀x∈S,x∈MM pb rb bv svs∨n≤x:=fun x hx=>by
  rcases hS x hx with h1|rfl|h1
  · exact .inl (mem_MM.2 (.inl h1))
  · exact .inl (mem_MM.2 (.inr (.inl rfl)))
  · exact .inr h1
 have hM:∀x∈MM pb rb bv svs,x∈MM pb rb bv svs∨n≤x:=fun x hx=>.inl hx;refine⟨c,⟨l1,l2,l3,Nat.lt_of_lt_of_le l4 t.1,Nat.lt_of_lt_of_le l5 t.1,l6⟩,hv,hp,?_,r.bne,r.lne,⟨?_,?_,?_⟩,by rw[hb];exact r.bnd⟩
 · rw[hb];refine r.bo.touch t fun b hb hbS=>?_;have:=r.bne b hb;have:=(r.bo.ge b hb).2;rcases hS b hbS with h1|h1|h1 <;> omega
 · rw[hb];exact r.bl.len
 · rw[hb];exact fun k l v h1 h2 h3=>(r.bl.ro k l v h1 h2 h3).step t hS' hM
 · rw[hb];intro l v h1 h2;obtain⟨av,a,o⟩:=r.bl.last l v h1 h2;refine⟨av,a.step t hS' hM,o.touch t fun b hb hbS=>?_⟩;have h3:=r.lne b (by rw[h2];exact hb);have:=(o.ge b hb).2;rcases hS b hbS with h1|h1|h1 <;> omega
theorem RAt.hole{lo n n' x m z:Nat}{h h':zH}{pb rb:Nat}{f:Fct}{vv pv bv:Value}{svs:List Value}(r:RAt lo n h pb rb f vv pv bv svs)(t:TouchE [x] h n h' n')(hx:tH (yG h x)=some (m,z+1,0)):RAt lo n' h' pb rb f vv pv bv svs:=by
 obtain⟨l1,l2,l3,l4,l5,l6⟩:=r.low;refine⟨r.cel.touch t l5 fun hr=>?_,⟨l1,l2,l3,Nat.lt_of_lt_of_le l4 t.1,Nat.lt_of_lt_of_le l5 t.1,l6⟩,r.vr.hole t hx,r.pr.hole t hx,Own.hole r.bo t hx,r.bne,r.lne,⟨r.bl.len,fun k l v h1 h2 h3=>?_,fun l v h1 h2=>?_⟩,r.bnd⟩
 · simp at hr;subst hr;rw [r.cel.1]at hx;injection hx with hx;injection hx with _ hx;injection hx with hx _;cases hx
 · obtain⟨av,a,b⟩:=r.bl.ro k l v h1 h2 h3;exact⟨av,⟨a.1,fun j i a' g1 g2=>(a.2 j i a' g1 g2).hole t hx⟩,b.hole t hx⟩
 · obtain⟨av,a,b⟩:=r.bl.last l v h1 h2;exact⟨av,⟨a.1,fun j i a' g1 g2=>(a.2 j i a' g1 g2).hole t hx⟩,Own.hole b t hx⟩
structure KW (m:Int) (S:List Nat) (nc hi b n0:Nat) (h0:zH) (n:Nat) (h:zH) (ws:List Tx):Prop where
 t:TouchE S h0 n0 h n
 env:Env m h
 w:WordsAt n0 hi n h b ws
 g:8≤n0
 nn:nc≤n
section
variable {m:Int} {S:List Nat} {nc hi b n0 n:Nat} {h0 h:zH} {ws:List Tx}
theorem KW.call(j:KW m S nc hi b n0 h0 n h ws){h':zH}{n':Nat}{ws':List Tx}(t:TouchE [b] h n h' n')(w:WordsAt n0 hi n' h' b ws'):KW m S nc hi b n0 h0 n' h' ws':=by
 have h1:=j.g;have h2:=j.w.1;have h3:=j.w.2.1;exact⟨j.t.step t (fun x hx=>by simp at hx;subst hx;exact .inr h2),j.env.touch t (by omega) (fun x hx=>by simp at hx;omega),w,h1,Nat.le_trans j.nn t.1⟩
theorem KW.mono(j:KW m S nc hi b n0 h0 n h ws){S':List Nat}(hS:∀x∈S,x∈S'):KW m S' nc hi b n0 h0 n h ws:=⟨j.t.mono hS,j.env,j.w,j.g,j.nn⟩
theorem KW.wr(j:KW m S nc hi b n0 h0 n h ws){h':zH}{n':Nat}{S':List Nat}(t:TouchE S' h n h' n')(hS:∀x∈S',(x∈S∧8≤x∧x<n0)∨n≤x):KW m S nc hi b n0 h0 n' h' ws:=by
 have h1:=j.g;have h2:=j.w.1;have h3:=j.w.2.1;have h4:=j.t.1;refine⟨j.t.step t (fun x hx=>(hS x hx).elim (fun q=>.inl q.1) (fun q=>.inr (by omega))),j.env.touch t (by omega) (fun x hx=>(hS x hx).elim (fun q=>q.2.1) (fun q=>by omega)),j.w.touch t (fun x hx=>(hS x hx).elim (fun q=>.inl q.2.2) (fun q=>.inr (by omega))),h1,Nat.le_trans j.nn t.1⟩
theorem KW.name(j:KW m S nc hi b n0 h0 n h ws){Kp:KC}{K:Value→zH→Nat→Bool}(hK:∀a r h' n',rE ws = .ok (a,r)→TouchE [b] h n h' n'→KW m S nc hi b n0 h0 n' h' r→K (str a) h' n'=true)
(hp:∀e h' n',rE ws = .error e→TouchE S h0 n0 h' n'→Kp (sB e) h' n'=true):yO (loS P 8) 117 [ptr b 0] h n Kp K=true:=by
 have hb:=j.w.1;refine xL (name_comes j.w) (fun v h1 n1 q=>?_) (fun c h1 n1 q=>?_)
 · obtain⟨q1,q2⟩:=q
   cases ha:rE ws with
   | error e=>rw [ha]at q2;cases q2
   | ok p=>
    rw[ha]at q2;obtain⟨v',q2,e,w1⟩:=q2;injection q2 with q2;subst q2
    subst e;exact hK _ _ _ _ ha q1 (j.call q1 w1)
 · obtain⟨q1,q2⟩:=q
   cases ha:rE ws with
   | error e=>rw [ha]at q2;injection q2 with q2;subst q2;exact hp _ _ _ ha (j.t.step q1 (fun x hx=>by simp at hx;subst hx;exact .inr hb))
   | ok p=>rw [ha]at q2;obtain⟨v',q2,_⟩:=q2;cases q2
theorem KW.want(j:KW m S nc hi b n0 h0 n h ws)(x:Tx){Kp:KC}{K:Value→zH→Nat→Bool}(hK:∀r h' n',wantW x ws = .ok ((),r)→TouchE [b] h n h' n'→KW m S nc hi b n0 h0 n' h' r→K (.tuple ⟨[]⟩) h' n'=true)
(hp:∀e h' n',wantW x ws = .error e→TouchE S h0 n0 h' n'→Kp (sB e) h' n'=true):yO (loS P 8) 116 [ptr b 0,str x] h n Kp K=true:=by
 have hb:=j.w.1;refine xL (want_comes j.w x) (fun v h1 n1 q=>?_) (fun c h1 n1 q=>?_)
 · obtain⟨q1,q2⟩:=q
   cases ha:wantW x ws with
   | error e=>rw [ha]at q2;cases q2
   | ok p=>
    rw[ha]at q2;obtain⟨v',q2,e,w1⟩:=q2;injection q2 with q2;subst q2
    subst e;exact hK _ _ _ ha q1 (j.call q1 w1)
 · obtain⟨q1,q2⟩:=q
   cases ha:wantW x ws with
   | error e=>rw [ha]at q2;injection q2 with q2;subst q2;exact hp _ _ _ ha (j.t.step q1 (fun x hx=>by simp at hx;subst hx;exact .inr hb))
   | ok p=>rw [ha]at q2;obtain⟨v',q2,_⟩:=q2;cases q2
theorem KW.fin(j:KW m S nc hi b n0 h0 n h ws){Kp:KC}{K:Value→zH→Nat→Bool}(hK:∀r h' n',endW ws = .ok ((),r)→TouchE [b] h n h' n'→KW m S nc hi b n0 h0 n' h' r→K (.tuple ⟨[]⟩) h' n'=true)
(hp:∀e h' n',endW ws = .error e→TouchE S h0 n0 h' n'→Kp (sB e) h' n'=true):yO (loS P 8) 118 [ptr b 0] h n Kp K=true:=by
 have hb:=j.w.1;refine xL (end_comes j.w) (fun v h1 n1 q=>?_) (fun c h1 n1 q=>?_)
 · obtain⟨q1,q2⟩:=q
   cases ha:endW ws with
   | error e=>rw [ha]at q2;cases q2
   | ok p=>
    rw[ha]at q2;obtain⟨v',q2,e,w1⟩:=q2;injection q2 with q2;subst q2
    subst e;exact hK _ _ _ ha q1 (j.call q1 w1)
 · obtain⟨q1,q2⟩:=q
   cases ha:endW ws with
   | error e=>rw [ha]at q2;injection q2 with q2;subst q2;exact hp _ _ _ ha (j.t.step q1 (fun x hx=>by simp at hx;subst hx;exact .inr hb))
   | ok p=>rw [ha]at q2;obtain⟨v',q2,_⟩:=q2;cases q2
theorem KW.names(j:KW m S nc hi b n0 h0 n h ws){Kp:KC}{K:Value→zH→Nat→Bool}(hK:∀l r v h' n',sE ws = .ok (l,r)→TouchE [b] h n h' n'→KW m S nc hi b n0 h0 n' h' r→Own n0 n' h' v 9 1 l.length (l.map str)→l.length<100000→K v h' n'=true)
(hp:∀e h' n',sE ws = .error e→TouchE S h0 n0 h' n'→Kp (sB e) h' n'=true):yO (loS P 8) 119 [ptr b 0,.func (.func 117) ⟨[ptr b 0]⟩ ⟨[]⟩] h n Kp K=true:=by
 have hb:=j.w.1;have hlo:8≤n0:=j.g;refine xL (restS_comes j.w j.env j.g) (fun v h1 n1 q=>?_) (fun c h1 n1 q=>?_)
 · obtain⟨q1,q2⟩:=q
   cases ha:sE ws with
   | error e=>rw [ha]at q2;cases q2
   | ok p=>
    rw[ha]at q2;obtain⟨v',q2,o1,l1,w1⟩:=q2;injection q2 with q2;subst q2
    exact hK _ _ _ _ _ ha q1 (j.call q1 w1) (o1.low j.t.1) l1
 · obtain⟨q1,q2⟩:=q
   cases ha:sE ws with
   | error e=>rw [ha]at q2;injection q2 with q2;subst q2;exact hp _ _ _ ha (j.t.step q1 (fun x hx=>by simp at hx;subst hx;exact .inr hb))
   | ok p=>rw [ha]at q2;obtain⟨v',q2,_⟩:=q2;cases q2
theorem KW.nums(j:KW m S nc hi b n0 h0 n h ws){Kp:KC}{K:Value→zH→Nat→Bool}(hK:∀l r v h' n',uH ws = .ok (l,r)→TouchE [b] h n h' n'→KW m S nc hi b n0 h0 n' h' r→Own n0 n' h' v 3 1 l.length (l.map I64)→l.length<100000→K v h' n'=true)
(hp:∀e h' n',uH ws = .error e→TouchE S h0 n0 h' n'→Kp (sB e) h' n'=true):yO (loS P 8) 121 [ptr b 0,.func (.func 122) ⟨[ptr b 0]⟩ ⟨[]⟩] h n Kp K=true:=by
 have hb:=j.w.1;have hlo:8≤n0:=j.g;refine xL (restI_comes j.w j.env j.g) (fun v h1 n1 q=>?_) (fun c h1 n1 q=>?_)
 · obtain⟨q1,q2⟩:=q
   cases ha:uH ws with
   | error e=>rw [ha]at q2;cases q2
   | ok p=>
    rw[ha]at q2;obtain⟨v',q2,o1,l1,w1⟩:=q2;injection q2 with q2;subst q2
    exact hK _ _ _ _ _ ha q1 (j.call q1 w1) (o1.low j.t.1) l1
 · obtain⟨q1,q2⟩:=q
   cases ha:uH ws with
   | error e=>rw [ha]at q2;injection q2 with q2;subst q2;exact hp _ _ _ ha (j.t.step q1 (fun x hx=>by simp at hx;subst hx;exact .inr hb))
   | ok p=>rw [ha]at q2;obtain⟨v',q2,_⟩:=q2;cases q2
end
def HQ(lo pb rb:Nat)(bv:Value)(svs:List Value)(h0:zH)(n0 nc:Nat)(r:Except Int Fct):Out→zH→Nat→Prop:=fun o h' n'=>TouchE [rb] h0 n0 h' n'∧
 match r with
 | .ok f'=>o = .ret (.tuple ⟨[]⟩)∧nc≤n'∧∃vv pv,RAt lo n' h' pb rb f' vv pv bv svs
 | .error e=>o = .panic (sB e)
theorem hname_comes{m:Int}{lo hi n n0 b pb rb:Nat}{h h0:zH}{ws:List Tx}{f:Fct}{vv pv bv:Value}{svs:List Value}{op en:Bool}(r:RAt lo n0 h0 pb rb f vv pv bv svs)(j:KW m [] n hi b n0 h0 n h ws) :
 ComesE P 8 63 [ptr rb 0,ptr b 0] h n (HQ lo pb rb bv svs h0 n0 n (qK ⟨0,op,en,f⟩ ws)):=by
 obtain⟨l1,l2,l3,l4,l5,l6⟩:=r.low;have hb:=j.w.1;have hrb:rb≠b:=by omega
 refine xE zK mixed (hint:=hq0) l63 fun u k hk=>?_;rw [F63_eq];unfold F63;unfold qK at hk;dsimp only at hk;refine j.want tFunc (fun r1 h1 n1 ha u1 j1=>?_) (fun e h1 n1 ha t1=>?_)
 · rw[ha]at hk;dsimp only at hk;refine j1.name (fun s r2 h2 n2 ha2 u2 j2=>?_) (fun e h2 n2 ha2 t2=>?_)
   · rw[ha2]at hk;dsimp only at hk;have c2:=r.cel.touch j2.t l5 (by simp);try simp only[↓xF,↓pE,↓fa43_0,↓zC]
     refine wA c2 sh9 (by simp) rfl fun h3 c3 k3=>?_;have t3:TouchE [rb] h2 n2 h3 n2:=yA k3 (by simp);have j3:=(j2.mono (S':=[rb]) (by simp)).wr t3 (fun x hx=>by simp at hx;subst hx;exact .inl ⟨by simp,by omega,l5⟩);have l52:rb<n2:=Nat.lt_of_lt_of_le l5 j2.t.1;refine j3.fin (fun r4 h4 n4 ha4 u4 j4=>?_) (fun e h4 n4 ha4 t4=>?_)
     · rw[ha4]at hk;refine pB r63 (hk _ _ _ ⟨j4.t,rfl,j4.nn,vv,pv,r.step j4.t (fun x hx=>by simp at hx;exact .inr (.inl hx)) rfl ?_ ?_ ?_⟩)
       · have c4:Cel h4 rb 0 [str s,vv,pv,str f.result,bv]:=Cel.touch c3 u4 l52 (by simp;omega);exact c4
       · exact r.vr.step j4.t (fun x hx=>by simp at hx;subst hx;exact .inl (mem_MM.2 (.inr (.inl rfl)))) (fun x hx=>.inl hx)
       · exact r.pr.step j4.t (fun x hx=>by simp at hx;subst hx;exact .inl (mem_MM.2 (.inr (.inl rfl)))) (fun x hx=>.inl hx)
     · rw[ha4]at hk;exact xH r63 (hk _ _ _ ⟨t4,rfl⟩)
   · rw[ha2]at hk;exact xH r63 (hk _ _ _ ⟨t2.mono (by simp),rfl⟩)
 · rw[ha]at hk;exact xH r63 (hk _ _ _ ⟨t1.mono (by simp),rfl⟩)
theorem hregs_comes{m:Int}{lo hi n n0 b pb rb:Nat}{h h0:zH}{ws:List Tx}{f:Fct}{vv pv bv:Value}{svs:List Value}{op en:Bool}(r:RAt lo n0 h0 pb rb f vv pv bv svs)(j:KW m [] n hi b n0 h0 n h ws) :
 ComesE P 8 64 [ptr rb 0,ptr b 0] h n (HQ lo pb rb bv svs h0 n0 n (qK ⟨1,op,en,f⟩ ws)):=by
 obtain⟨l1,l2,l3,l4,l5,l6⟩:=r.low;have hb:=j.w.1;have hrb:rb≠b:=by omega
 refine xE zK mixed (hint:=hq0) l64 fun u k hk=>?_;rw [F64_eq];unfold F64;unfold qK at hk;dsimp only at hk;refine j.want tRegs (fun r1 h1 n1 ha u1 j1=>?_) (fun e h1 n1 ha t1=>?_)
 · rw[ha]at hk;dsimp only at hk;try simp only[↓xK]
   refine j1.names (fun l r2 v h2 n2 ha2 u2 j2 o2 l2'=>?_) (fun e h2 n2 ha2 t2=>?_)
   · rw[ha2]at hk;dsimp only at hk;have c2:=r.cel.touch j2.t l5 (by simp);try simp only[↓xF,↓pE,↓tB,↓zC]
     refine wA c2 sh23 (by simp) o2.one fun h3 c3 k3=>?_;have t3:TouchE [rb] h2 n2 h3 n2:=yA k3 (by simp);have j3:=(j2.mono (S':=[rb]) (by simp)).wr t3 (fun x hx=>by simp at hx;subst hx;exact .inl ⟨by simp,by omega,l5⟩);have o3:=o2.touch t3 (fun x hx hS=>by have:=(o2.ge x hx).1;simp at hS;omega);have c3':Cel h3 rb 0 [str f.name,v,pv,str f.result,bv]:=c3;have e1:zE P 23 h3 (.pointer (some ⟨rb,1,none⟩))=some v:=zG c3' sh23 rfl;have e2:=yX (P:=P) us23 (o3.row (Nat.le_refl 1)) [] h3;try simp only[↓xF,↓pE,↓tB,↓zC,↓e1,↓e2,↓zD]
     by_cases hl:l.length≤500
     · rw[if_pos hl]at hk;have e3:sQ (l.length:Nat) 500=true:=by rw[vW];exact decide_eq_true (by omega)
       simp only[↓e3,↓zY];refine yQ (fun _=>?_) (fun e=>by cases e);refine pB r64 (hk _ _ _ ⟨j3.t,rfl,j3.nn,v,pv,r.step j3.t (fun x hx=>by simp at hx;exact .inr (.inl hx)) rfl c3' ?_ ?_⟩)
       · exact own_ro o3 (Nat.le_refl 1) (fun x hx hM=>by have h8:=(o3.ge x hx).1;have h9:=(r.lt x hM).2;omega)
       · exact r.pr.step j3.t (fun x hx=>by simp at hx;subst hx;exact .inl (mem_MM.2 (.inr (.inl rfl)))) (fun x hx=>.inl hx)
     · rw[if_neg hl]at hk;have e3:sQ (l.length:Nat) 500=false:=by rw[vW];exact decide_eq_false (by omega)
       simp only[↓e3,↓zY];refine yQ (fun e=>by cases e) (fun _=>?_);exact xH r64 (hk _ _ _ ⟨j3.t,rfl⟩)
   · rw[ha2]at hk;exact xH r64 (hk _ _ _ ⟨t2.mono (by simp),rfl⟩)
 · rw[ha]at hk;exact xH r64 (hk _ _ _ ⟨t1.mono (by simp),rfl⟩)
theorem hparams_comes{m:Int}{lo hi n n0 b pb rb:Nat}{h h0:zH}{ws:List Tx}{f:Fct}{vv pv bv:Value}{svs:List Value}{op en:Bool}(r:RAt lo n0 h0 pb rb f vv pv bv svs)(j:KW m [] n hi b n0 h0 n h ws) :
 ComesE P 8 65 [ptr rb 0,ptr b 0] h n (HQ lo pb rb bv svs h0 n0 n (qK ⟨2,op,en,f⟩ ws)):=by
 obtain⟨l1,l2,l3,l4,l5,l6⟩:=r.low;have hb:=j.w.1;have hrb:rb≠b:=by omega
 refine xE zK mixed (hint:=hq0) l65 fun u k hk=>?_;rw [F65_eq];unfold F65;unfold qK at hk;dsimp only at hk;refine j.want pT (fun r1 h1 n1 ha u1 j1=>?_) (fun e h1 n1 ha t1=>?_)
 · rw[ha]at hk;dsimp only at hk;try simp only[↓xK]
   refine j1.nums (fun l r2 v h2 n2 ha2 u2 j2 o2 l2'=>?_) (fun e h2 n2 ha2 t2=>?_)
   · rw[ha2]at hk;dsimp only at hk;have c2:=r.cel.touch j2.t l5 (by simp);try simp only[↓xF,↓pE,↓oM,↓zC]
     refine wA c2 sh40 (by simp) o2.one fun h3 c3 k3=>?_;have t3:TouchE [rb] h2 n2 h3 n2:=yA k3 (by simp);have j3:=(j2.mono (S':=[rb]) (by simp)).wr t3 (fun x hx=>by simp at hx;subst hx;exact .inl ⟨by simp,by omega,l5⟩);have o3:=o2.touch t3 (fun x hx hS=>by have:=(o2.ge x hx).1;simp at hS;omega);have c3':Cel h3 rb 0 [str f.name,vv,v,str f.result,bv]:=c3;have e1:zE P 40 h3 (.pointer (some ⟨rb,2,none⟩))=some v:=zG c3' sh40 rfl;have e2:=yX (P:=P) us40 (o3.row (Nat.le_refl 1)) [] h3;try simp only[↓xF,↓pE,↓oM,↓zC,↓e1,↓e2,↓zD]
     by_cases hl:l.length≤16
     · rw[if_pos hl]at hk;have e3:sQ (l.length:Nat) 16=true:=by rw[vW];exact decide_eq_true (by omega)
       simp only[↓e3,↓zY];refine yQ (fun _=>?_) (fun e=>by cases e);refine pB r65 (hk _ _ _ ⟨j3.t,rfl,j3.nn,vv,v,r.step j3.t (fun x hx=>by simp at hx;exact .inr (.inl hx)) rfl c3' ?_ ?_⟩)
       · exact r.vr.step j3.t (fun x hx=>by simp at hx;subst hx;exact .inl (mem_MM.2 (.inr (.inl rfl)))) (fun x hx=>.inl hx)
       · exact own_ro o3 (Nat.le_refl 1) (fun x hx hM=>by have h8:=(o3.ge x hx).1;have h9:=(r.lt x hM).2;omega)
     · rw[if_neg hl]at hk;have e3:sQ (l.length:Nat) 16=false:=by rw[vW];exact decide_eq_false (by omega)
       simp only[↓e3,↓zY];refine yQ (fun e=>by cases e) (fun _=>?_);exact xH r65 (hk _ _ _ ⟨j3.t,rfl⟩)
   · rw[ha2]at hk;exact xH r65 (hk _ _ _ ⟨t2.mono (by simp),rfl⟩)
 · rw[ha]at hk;exact xH r65 (hk _ _ _ ⟨t1.mono (by simp),rfl⟩)
theorem hresult_comes{m:Int}{lo hi n n0 b pb rb:Nat}{h h0:zH}{ws:List Tx}{f:Fct}{vv pv bv:Value}{svs:List Value}{op en:Bool}(r:RAt lo n0 h0 pb rb f vv pv bv svs)(j:KW m [] n hi b n0 h0 n h ws) :
 ComesE P 8 66 [ptr rb 0,ptr b 0] h n (HQ lo pb rb bv svs h0 n0 n (qK ⟨3,op,en,f⟩ ws)):=by
 obtain⟨l1,l2,l3,l4,l5,l6⟩:=r.low;have hb:=j.w.1;have hrb:rb≠b:=by omega
 refine xE zK mixed (hint:=hq0) l66 fun u k hk=>?_;rw [F66_eq];unfold F66;unfold qK at hk;dsimp only at hk;refine j.want tResult (fun r1 h1 n1 ha u1 j1=>?_) (fun e h1 n1 ha t1=>?_)
 · rw[ha]at hk;dsimp only at hk;refine j1.name (fun s r2 h2 n2 ha2 u2 j2=>?_) (fun e h2 n2 ha2 t2=>?_)
   · rw[ha2]at hk;dsimp only at hk;have c2:=r.cel.touch j2.t l5 (by simp);try simp only[↓xF,↓pE,↓fa43_3,↓zC]
     refine wA c2 sh9 (by simp) rfl fun h3 c3 k3=>?_;have t3:TouchE [rb] h2 n2 h3 n2:=yA k3 (by simp);have j3:=(j2.mono (S':=[rb]) (by simp)).wr t3 (fun x hx=>by simp at hx;subst hx;exact .inl ⟨by simp,by omega,l5⟩);have l52:rb<n2:=Nat.lt_of_lt_of_le l5 j2.t.1;refine j3.fin (fun r4 h4 n4 ha4 u4 j4=>?_) (fun e h4 n4 ha4 t4=>?_)
     · rw[ha4]at hk;refine pB r66 (hk _ _ _ ⟨j4.t,rfl,j4.nn,vv,pv,r.step j4.t (fun x hx=>by simp at hx;exact .inr (.inl hx)) rfl ?_ ?_ ?_⟩)
       · have c4:Cel h4 rb 0 [str f.name,vv,pv,str s,bv]:=Cel.touch c3 u4 l52 (by simp;omega);exact c4
       · exact r.vr.step j4.t (fun x hx=>by simp at hx;subst hx;exact .inl (mem_MM.2 (.inr (.inl rfl)))) (fun x hx=>.inl hx)
       · exact r.pr.step j4.t (fun x hx=>by simp at hx;subst hx;exact .inl (mem_MM.2 (.inr (.inl rfl)))) (fun x hx=>.inl hx)
     · rw[ha4]at hk;exact xH r66 (hk _ _ _ ⟨t4,rfl⟩)
   · rw[ha2]at hk;exact xH r66 (hk _ _ _ ⟨t2.mono (by simp),rfl⟩)
 · rw[ha]at hk;exact xH r66 (hk _ _ _ ⟨t1.mono (by simp),rfl⟩)
end Go.Proofs.YtapnnpoljobanaaGreatDoor
