/- What the law leans on: an executor of the model that is sound, deduction over it, and the walks through the code (part 18 of 21). Conditions: those that each theorem states. -/
import Derived.Test.YtapnnpoljobanaaGreatDoorShippedTakenx15
import Derived.Test.YtapnnpoljobanaaGreatDoorShippedTakenx16
import Derived.Test.YtapnnpoljobanaaGreatDoorShippedTakenx17

set_option linter.unusedVariables false
set_option linter.unusedSimpArgs false
namespace Go.Proofs.YtapnnpoljobanaaGreatDoor
open Go.Ex
set_option maxRecDepth 1000000
noncomputable abbrev fr3 (s0 s1 s2 s3 s4 s5 s6 s7 s8 s9 s10 s11 s12 s13 s14 s15 s16 s17 s18 s19 s20 s21 s22 s23 s24 s25 s26 s27 s28 s29 s30 s31 s32 s33 s34 s35 s36 s37 s38 s39 s40 s41 s42 s43 s44 s45 s46 s47 s48 s49 s50 s51 s52 s53 s54 s55 s56 s57 s58 s59 s60 s61 s62 s63 s64 s65 s66 s67 s68 s69 s70 s71 s72 s73 s74 s75 s76 s77 s78 s79 s80 s81 s82 s83 s84 s85 s86 s87 s88 s89 s90 s91 s92 s93 s94 s95 s96 s97 s98 s99 s100 s101 s102 s103 s104 s105 s106 s107 s108 s109 s110 s111 s112 s113 s114 s115 s116 s117 s118 s119 s120 s121 s122 : Value) : Fr := (.nD (.nD (.nD (.nD (.nD (.nD (.nD .lF s63 .lF) s31 (.nD .lF s95 .lF)) s15 (.nD (.nD .lF s79 .lF) s47 (.nD .lF s111 .lF))) s7 (.nD (.nD (.nD .lF s71 .lF) s39 (.nD .lF s103 .lF)) s23 (.nD (.nD .lF s87 .lF) s55 (.nD .lF s119 .lF)))) s3 (.nD (.nD (.nD (.nD .lF s67 .lF) s35 (.nD .lF s99 .lF)) s19 (.nD (.nD .lF s83 .lF) s51 (.nD .lF s115 .lF))) s11 (.nD (.nD (.nD .lF s75 .lF) s43 (.nD .lF s107 .lF)) s27 (.nD (.nD .lF s91 .lF) s59 .lF)))) s1 (.nD (.nD (.nD (.nD (.nD .lF s65 .lF) s33 (.nD .lF s97 .lF)) s17 (.nD (.nD .lF s81 .lF) s49 (.nD .lF s113 .lF))) s9 (.nD (.nD (.nD .lF s73 .lF) s41 (.nD .lF s105 .lF)) s25 (.nD (.nD .lF s89 .lF) s57 (.nD .lF s121 .lF)))) s5 (.nD (.nD (.nD (.nD .lF s69 .lF) s37 (.nD .lF s101 .lF)) s21 (.nD (.nD .lF s85 .lF) s53 (.nD .lF s117 .lF))) s13 (.nD (.nD (.nD .lF s77 .lF) s45 (.nD .lF s109 .lF)) s29 (.nD (.nD .lF s93 .lF) s61 .lF))))) s0 (.nD (.nD (.nD (.nD (.nD (.nD .lF s64 .lF) s32 (.nD .lF s96 .lF)) s16 (.nD (.nD .lF s80 .lF) s48 (.nD .lF s112 .lF))) s8 (.nD (.nD (.nD .lF s72 .lF) s40 (.nD .lF s104 .lF)) s24 (.nD (.nD .lF s88 .lF) s56 (.nD .lF s120 .lF)))) s4 (.nD (.nD (.nD (.nD .lF s68 .lF) s36 (.nD .lF s100 .lF)) s20 (.nD (.nD .lF s84 .lF) s52 (.nD .lF s116 .lF))) s12 (.nD (.nD (.nD .lF s76 .lF) s44 (.nD .lF s108 .lF)) s28 (.nD (.nD .lF s92 .lF) s60 .lF)))) s2 (.nD (.nD (.nD (.nD (.nD .lF s66 .lF) s34 (.nD .lF s98 .lF)) s18 (.nD (.nD .lF s82 .lF) s50 (.nD .lF s114 .lF))) s10 (.nD (.nD (.nD .lF s74 .lF) s42 (.nD .lF s106 .lF)) s26 (.nD (.nD .lF s90 .lF) s58 (.nD .lF s122 .lF)))) s6 (.nD (.nD (.nD (.nD .lF s70 .lF) s38 (.nD .lF s102 .lF)) s22 (.nD (.nD .lF s86 .lF) s54 (.nD .lF s118 .lF))) s14 (.nD (.nD (.nD .lF s78 .lF) s46 (.nD .lF s110 .lF)) s30 (.nD (.nD .lF s94 .lF) s62 .lF))))))
noncomputable def hint3 : yR := fun kind _ i => match kind with
  | 0 => bif Nat.beq i 1000013 then [(.int .i64), .any, .any, .any, .any, .any, .val, .any, .any, .any, .val, (.int .i64), .val, .any, .any, (.int .i64), .val, (.int .i64)] else []
  | 1 => bif Nat.beq i 0 then [(.int .i64), .any, .any, .any, .any, .any, .any, .any, .any, .any, .val, (.int .i64), .val, .any, .any, (.int .i64), .val] else bif Nat.beq i 1 then [(.int .i64), .any, .any, .any, .any, .any, .val, .any, .any, .any, .val, (.int .i64), .val, .any, .any, (.int .i64), .val, (.int .i64)] else []
  | 2 => bif Nat.beq i 0 then [(.int .i64), .any, .any, .any, .any, .any, .val, .any, .any, .any, .val, (.int .i64), .val, .any, .any, (.int .i64), .val, (.int .i64)] else bif Nat.beq i 4 then [(.int .i64), .val, .any, .any, .any, .any, .val] else bif Nat.beq i 8 then [(.int .i64), .any, .any, .any, .any, .any, .val] else []
  | 4 => bif Nat.beq i 0 then [(.int .i64), .any] else []
  | _ => []
noncomputable def T3 (L : Lo) (lp : LP) (a7 : Value) (ap0 : Int) (h158 : zE) (n159 : Nat) (p1 : Value) (a1 : Bool) (v71 : Value) (a73 : Int) (a96 : Bool) (a14 : Bool) (v18 : Value) (v22 : Value) (v28 : Value) (a31 : Bool) (v35 : Value) (v39 : Value) (a42 : Bool) (v46 : Value) (v50 : Value) (v54 : Value) (v60 : Value) (a63 : Bool) (a65 : Value) (a74 : Bool) (v78 : Value) (v82 : Value) (a85 : Bool) (v89 : Value) (v93 : Value) (a97 : Int) (a103 : Bool) (a104 : Bool) (v108 : Value) (v112 : Value) (v118 : Value) (v122 : Value) (v126 : Value) (v131 : Value) (v135 : Value) (v139 : Value) (v149 : Value) (v154 : Value) (v160 : Value) (a164 : Bool) (df : Bool) (u : Option zF) (k : KO) : Bool :=
 opt (zQ P 23 a7 (.int .i64 ap0)) fun v166 =>
 opt (zP P 9 h158 v166) fun v167 =>
 yH L 11 [v167] h158 n159 (fun c171 h172 n173 =>
 zD P L 3 k (.panic c171) (fr3 (.int .i64 ap0) p1 undef undef (.bool false) (.bool a1) a7 v71 (.int .i64 a73) (.bool a96) undef undef undef undef undef undef undef undef (.bool a1) a7 (.bool a1) (.bool a14) (.bool a14) v18 v22 v28 (.bool a31) (.bool a31) v35 v39 (.bool a42) (.bool a42) v46 v50 v54 v60 (.bool a63) undef a65 p1 a65 v71 (.int .i64 a73) p1 (.bool a74) (.bool a74) v78 v82 (.bool a85) (.bool a85) v89 v93 (.bool a96) (.int .i64 a73) (.int .i64 a97) (.bool a103) (.bool a96) (.bool a104) (.bool a104) v108 v112 v118 v122 v126 v131 v135 v139 v149 v154 v160 (.bool a164) undef a7 (.int .i64 ap0) v166 v167 undef undef undef undef undef undef undef undef undef undef undef undef undef undef undef undef undef undef undef undef undef undef undef undef undef undef undef undef undef undef undef undef undef undef undef undef undef undef undef undef undef undef undef undef undef undef undef) (W.mk [] u h172 n173)) fun a168 h169 n170 =>
 opt (zZ 0 a168) fun v174 =>
 opt (zZ 1 a168) fun v175 =>
 rtI .i64 v175 fun a176 =>
 yH L 13 [v174] h169 n170 (fun c180 h181 n182 =>
 zD P L 3 k (.panic c180) (fr3 (.int .i64 ap0) p1 undef undef (.bool false) (.bool a1) a7 v71 (.int .i64 a73) (.bool a96) v174 (.int .i64 a176) undef undef undef undef undef undef (.bool a1) a7 (.bool a1) (.bool a14) (.bool a14) v18 v22 v28 (.bool a31) (.bool a31) v35 v39 (.bool a42) (.bool a42) v46 v50 v54 v60 (.bool a63) undef a65 p1 a65 v71 (.int .i64 a73) p1 (.bool a74) (.bool a74) v78 v82 (.bool a85) (.bool a85) v89 v93 (.bool a96) (.int .i64 a73) (.int .i64 a97) (.bool a103) (.bool a96) (.bool a104) (.bool a104) v108 v112 v118 v122 v126 v131 v135 v139 v149 v154 v160 (.bool a164) a168 a7 (.int .i64 ap0) v166 v167 a168 v174 (.int .i64 a176) undef v174 undef undef undef undef undef undef undef undef undef undef undef undef undef undef undef undef undef undef undef undef undef undef undef undef undef undef undef undef undef undef undef undef undef undef undef undef undef undef undef undef undef undef) (W.mk [] u h181 n182)) fun a177 h178 n179 =>
 opt (zZ 0 a177) fun v183 =>
 opt (zZ 1 a177) fun v184 =>
 rtI .i64 v184 fun a185 =>
 opt (zZ 2 a177) fun v186 =>
 rtI .i64 v186 fun a187 =>
 opt (zZ 3 a177) fun v188 =>
 rtI .i64 v188 fun a189 =>
 eAlloc P 33 h178 n179 fun h190 n191 v192 =>
 xG P 33 v192 v183 h190 n191 fun h193 n194 v195 =>
 yH L 14 [(.int .i64 ap0)] h193 n194 (fun c199 h200 n201 =>
 zD P L 3 k (.panic c199) (fr3 (.int .i64 ap0) p1 undef undef (.bool false) (.bool a1) a7 v71 (.int .i64 a73) (.bool a96) v174 (.int .i64 a176) v192 (.int .i64 a185) (.int .i64 a187) (.int .i64 a189) undef undef (.bool a1) a7 (.bool a1) (.bool a14) (.bool a14) v18 v22 v28 (.bool a31) (.bool a31) v35 v39 (.bool a42) (.bool a42) v46 v50 v54 v60 (.bool a63) undef a65 p1 a65 v71 (.int .i64 a73) p1 (.bool a74) (.bool a74) v78 v82 (.bool a85) (.bool a85) v89 v93 (.bool a96) (.int .i64 a73) (.int .i64 a97) (.bool a103) (.bool a96) (.bool a104) (.bool a104) v108 v112 v118 v122 v126 v131 v135 v139 v149 v154 v160 (.bool a164) a168 a7 (.int .i64 ap0) v166 v167 a168 v174 (.int .i64 a176) a177 v174 a177 v183 (.int .i64 a185) (.int .i64 a187) (.int .i64 a189) (.int .i64 ap0) undef undef undef undef undef undef undef undef undef undef undef undef undef undef undef undef undef undef undef undef undef undef undef undef undef undef undef undef undef undef undef undef undef undef undef undef) (W.mk [] u h200 n201)) fun a196 h197 n198 =>
 lp 1000013 ⟨3, none, df⟩ (fr3 (.int .i64 ap0) p1 undef undef (.bool false) (.bool a1) a7 v71 (.int .i64 a73) (.bool a96) v174 (.int .i64 a176) v192 (.int .i64 a185) (.int .i64 a187) (.int .i64 a189) a196 (.int .i64 0) (.bool a1) a7 (.bool a1) (.bool a14) (.bool a14) v18 v22 v28 (.bool a31) (.bool a31) v35 v39 (.bool a42) (.bool a42) v46 v50 v54 v60 (.bool a63) undef a65 p1 a65 v71 (.int .i64 a73) p1 (.bool a74) (.bool a74) v78 v82 (.bool a85) (.bool a85) v89 v93 (.bool a96) (.int .i64 a73) (.int .i64 a97) (.bool a103) (.bool a96) (.bool a104) (.bool a104) v108 v112 v118 v122 v126 v131 v135 v139 v149 v154 v160 (.bool a164) a168 a7 (.int .i64 ap0) v166 v167 a168 v174 (.int .i64 a176) a177 v174 a177 v183 (.int .i64 a185) (.int .i64 a187) (.int .i64 a189) (.int .i64 ap0) a196 undef undef undef undef undef undef undef undef undef undef undef undef undef undef undef undef undef undef undef undef undef undef undef undef undef undef undef undef undef undef undef undef undef undef undef) (W.mk [] u h197 n198) (endA noK (blkA 0 (fun t202 w203 =>
 rtI .i64 (zB t202 0) fun s204 =>
 zA (zB t202 10) fun s205 =>
 rtI .i64 (zB t202 11) fun s206 =>
 zA (zB t202 12) fun s207 =>
 rtI .i64 (zB t202 15) fun s208 =>
 zA (zB t202 16) fun s209 =>
 onW w203 fun d210 u211 h212 n213 =>
 callI L .i64 12 [(.int .i64 s206)] h212 n213 (fun c217 h218 n219 =>
 gt (lks [(W.mk d210 u211 h212 n213)] []) (
 zD P L 3 k (.panic c217) (fr3 (.int .i64 s204) (zB t202 1) (zB t202 2) (zB t202 3) (zB t202 4) (zB t202 5) (zB t202 6) (zB t202 7) (zB t202 8) (zB t202 9) s205 (.int .i64 s206) s207 (zB t202 13) (zB t202 14) (.int .i64 s208) s209 (zB t202 17) (zB t202 18) (zB t202 19) (zB t202 20) (zB t202 21) (zB t202 22) (zB t202 23) (zB t202 24) (zB t202 25) (zB t202 26) (zB t202 27) (zB t202 28) (zB t202 29) (zB t202 30) (zB t202 31) (zB t202 32) (zB t202 33) (zB t202 34) (zB t202 35) (zB t202 36) (zB t202 37) (zB t202 38) (zB t202 39) (zB t202 40) (zB t202 41) (zB t202 42) (zB t202 43) (zB t202 44) (zB t202 45) (zB t202 46) (zB t202 47) (zB t202 48) (zB t202 49) (zB t202 50) (zB t202 51) (zB t202 52) (zB t202 53) (zB t202 54) (zB t202 55) (zB t202 56) (zB t202 57) (zB t202 58) (zB t202 59) (zB t202 60) (zB t202 61) (zB t202 62) (zB t202 63) (zB t202 64) (zB t202 65) (zB t202 66) (zB t202 67) (zB t202 68) (zB t202 69) (zB t202 70) (zB t202 71) (zB t202 72) (zB t202 73) (zB t202 74) (zB t202 75) (zB t202 76) (zB t202 77) (zB t202 78) (zB t202 79) (zB t202 80) (zB t202 81) (zB t202 82) (zB t202 83) (zB t202 84) (zB t202 85) (zB t202 86) (zB t202 87) (zB t202 88) (zB t202 89) (zB t202 90) (zB t202 91) (zB t202 92) (zB t202 93) (zB t202 94) (zB t202 95) (zB t202 96) (.int .i64 s206) (zB t202 98) (zB t202 99) (zB t202 100) (zB t202 101) (zB t202 102) (zB t202 103) (zB t202 104) (zB t202 105) (zB t202 106) (zB t202 107) (zB t202 108) (zB t202 109) (zB t202 110) (zB t202 111) (zB t202 112) (zB t202 113) (zB t202 114) (zB t202 115) (zB t202 116) (zB t202 117) (zB t202 118) (zB t202 119) (zB t202 120) (zB t202 121) (zB t202 122)) (W.mk d210 u211 h218 n219))) fun a214 h215 n216 =>
 gt (Nat.ble n213 n216) (
 fb (yO a214 0) fun a220 =>
 grd a220 (fun k221 =>
 k221 h215 n216 (.int .i64 s208)) (fun h222 n223 v224 =>
 grd a220 (fun k225 =>
 zK yO P .eql 3 true v224 (.int .i64 0) fun a229 =>
 k225 h222 n223 (.bool a229)) (fun h226 n227 v228 =>
 zW (.bool a220) (fun b230 =>
 rtB (sel b230 v228 (.bool false)) fun a231 =>
 grd a231 (fun k232 =>
 k232 h226 n227 s209) (fun h233 n234 v235 =>
 grd a231 (fun k236 =>
 zK ineB P .neq 36 true v235 (.pointer none) fun a240 =>
 k236 h233 n234 (.bool a240)) (fun h237 n238 v239 =>
 zW (.bool a231) (fun b241 =>
 rtB (sel b241 v239 (.bool false)) fun a242 =>
 grd a242 (fun k243 =>
 yH L 10 [] h237 n238 (fun c250 h251 n252 =>
 false) fun a247 h248 n249 =>
 k243 h248 n249 a247) (fun h244 n245 v246 =>
 gt (Nat.ble n238 n245) (
 grd a242 (fun k253 =>
 opt (zC P 33 0 s207) fun v257 =>
 k253 h244 n245 v257) (fun h254 n255 v256 =>
 grd a242 (fun k258 =>
 opt (zP P 9 h254 v256) fun v262 =>
 k258 h254 n255 v262) (fun h259 n260 v261 =>
 grd a242 (fun k264 =>
 k264 h259 n260 (.int .i64 s204)) (fun h265 n266 v267 =>
 grd a242 (fun k268 =>
 opt (zQ P 23 v246 v267) fun v272 =>
 k268 h265 n266 v272) (fun h269 n270 v271 =>
 grd a242 (fun k273 =>
 opt (zP P 9 h269 v271) fun v277 =>
 k273 h269 n270 v277) (fun h274 n275 v276 =>
 grd a242 (fun k278 =>
 zK yO P .eql 9 false v261 v276 fun a282 =>
 k278 h274 n275 (.bool a282)) (fun h279 n280 v281 =>
 zW (.bool a242) (fun b283 =>
 rtB (sel b283 v281 (.bool false)) fun a284 =>
 grd a284 (fun k285 =>
 opt (zP P 33 h279 s207) fun v289 =>
 k285 h279 n280 v289) (fun h286 n287 v288 =>
 grd a284 (fun k290 =>
 yH L 15 [v288] h286 n287 (fun c297 h298 n299 =>
 false) fun a294 h295 n296 =>
 k290 h295 n296 a294) (fun h291 n292 v293 =>
 gt (Nat.ble n287 n292) (
 grd a284 (fun k300 =>
 k300 h291 n292 s205) (fun h301 n302 v303 =>
 grd a284 (fun k304 =>
 zK yO P .eql 9 false v293 v303 fun a308 =>
 k304 h301 n302 (.bool a308)) (fun h305 n306 v307 =>
 zW (.bool a284) (fun b309 =>
 rtB (sel b309 v307 (.bool false)) fun a310 =>
 gt (lks [(W.mk d210 u211 h291 n292), (W.mk d210 u211 h244 n245), (W.mk d210 u211 h215 n216), (W.mk d210 u211 h212 n213)] [⟨a242, (lkQ (fun h263 => zP P 9 h263 v256) v256 v261), 1, 2⟩]) (
 zD P L 3 k .ret (fr3 (.int .i64 s204) (zB t202 1) (zB t202 2) (zB t202 3) (.bool a310) (zB t202 5) (zB t202 6) (zB t202 7) (zB t202 8) (zB t202 9) s205 (.int .i64 s206) s207 (zB t202 13) (zB t202 14) (.int .i64 s208) s209 (zB t202 17) (zB t202 18) (zB t202 19) (zB t202 20) (zB t202 21) (zB t202 22) (zB t202 23) (zB t202 24) (zB t202 25) (zB t202 26) (zB t202 27) (zB t202 28) (zB t202 29) (zB t202 30) (zB t202 31) (zB t202 32) (zB t202 33) (zB t202 34) (zB t202 35) (zB t202 36) (zB t202 37) (zB t202 38) (zB t202 39) (zB t202 40) (zB t202 41) (zB t202 42) (zB t202 43) (zB t202 44) (zB t202 45) (zB t202 46) (zB t202 47) (zB t202 48) (zB t202 49) (zB t202 50) (zB t202 51) (zB t202 52) (zB t202 53) (zB t202 54) (zB t202 55) (zB t202 56) (zB t202 57) (zB t202 58) (zB t202 59) (zB t202 60) (zB t202 61) (zB t202 62) (zB t202 63) (zB t202 64) (zB t202 65) (zB t202 66) (zB t202 67) (zB t202 68) (zB t202 69) (zB t202 70) (zB t202 71) (zB t202 72) (zB t202 73) (zB t202 74) (zB t202 75) (zB t202 76) (zB t202 77) (zB t202 78) (zB t202 79) (zB t202 80) (zB t202 81) (zB t202 82) (zB t202 83) (zB t202 84) (zB t202 85) (zB t202 86) (zB t202 87) (zB t202 88) (zB t202 89) (zB t202 90) (zB t202 91) (zB t202 92) (zB t202 93) (zB t202 94) (zB t202 95) (zB t202 96) (.int .i64 s206) (.int .i64 a214) (.bool a220) (.bool a220) v224 v228 (.bool a231) (.bool a231) v235 v239 (.bool a242) (.bool a242) v256 v261 v246 v267 v271 v276 v281 (.bool a284) (.bool a284) v288 v293 v303 v307 (.bool a310)) (W.mk d210 u211 h305 n306))) false) h301 n302) h291 n292)) h286 n287) h279 n280) false) h274 n275) h269 n270) h265 n266) h259 n260) h254 n255) h244 n245)) h237 n238) false) h233 n234) h226 n227) false) h222 n223) h215 n216)) (zD P L 3 k)))
noncomputable def F3 (L : Lo) (lp : LP) (p0 p1 : Value) (df : Bool) (u : Option zF) (h : zE) (n : Nat) (k : KO) : Bool :=
 rtI .i64 p0 fun ap0 =>
 xR L 9 [] h n (fun c4 h5 n6 =>
 zD P L 3 k (.panic c4) (fr3 (.int .i64 ap0) p1 undef undef (.bool false) undef undef undef undef undef undef undef undef undef undef undef undef undef undef undef undef undef undef undef undef undef undef undef undef undef undef undef undef undef undef undef undef undef undef undef undef undef undef undef undef undef undef undef undef undef undef undef undef undef undef undef undef undef undef undef undef undef undef undef undef undef undef undef undef undef undef undef undef undef undef undef undef undef undef undef undef undef undef undef undef undef undef undef undef undef undef undef undef undef undef undef undef undef undef undef undef undef undef undef undef undef undef undef undef undef undef undef undef undef undef undef undef undef undef undef undef undef undef) (W.mk [] u h5 n6)) fun a1 h2 n3 =>
 yH L 10 [] h2 n3 (fun c10 h11 n12 =>
 zD P L 3 k (.panic c10) (fr3 (.int .i64 ap0) p1 undef undef (.bool false) (.bool a1) undef undef undef undef undef undef undef undef undef undef undef undef (.bool a1) undef undef undef undef undef undef undef undef undef undef undef undef undef undef undef undef undef undef undef undef undef undef undef undef undef undef undef undef undef undef undef undef undef undef undef undef undef undef undef undef undef undef undef undef undef undef undef undef undef undef undef undef undef undef undef undef undef undef undef undef undef undef undef undef undef undef undef undef undef undef undef undef undef undef undef undef undef undef undef undef undef undef undef undef undef undef undef undef undef undef undef undef undef undef undef undef undef undef undef undef undef undef undef undef) (W.mk [] u h11 n12)) fun a7 h8 n9 =>
 opt (aUn .not (.bool a1)) fun v13 =>
 rtB v13 fun a14 =>
 grd (nt a14) (fun k15 =>
 k15 h8 n9 p1) (fun h16 n17 v18 =>
 grd (nt a14) (fun k19 =>
 opt (zU P .len [9] [v18] h16) fun v23 =>
 rtI .i64 v23 fun a24 =>
 k19 h16 n17 (.int .i64 a24)) (fun h20 n21 v22 =>
 grd (nt a14) (fun k25 =>
 zK igtB P .gtr 3 true v22 (.int .i64 1000) fun a29 =>
 k25 h20 n21 (.bool a29)) (fun h26 n27 v28 =>
 zW (.bool a14) (fun b30 =>
 rtB (sel b30 (.bool true) v28) fun a31 =>
 grd (nt a31) (fun k32 =>
 k32 h26 n27 (.int .i64 ap0)) (fun h33 n34 v35 =>
 grd (nt a31) (fun k36 =>
 zK wE P .lss 3 true v35 (.int .i64 0) fun a40 =>
 k36 h33 n34 (.bool a40)) (fun h37 n38 v39 =>
 zW (.bool a31) (fun b41 =>
 rtB (sel b41 (.bool true) v39) fun a42 =>
 grd (nt a42) (fun k43 =>
 k43 h37 n38 (.int .i64 ap0)) (fun h44 n45 v46 =>
 grd (nt a42) (fun k47 =>
 k47 h44 n45 a7) (fun h48 n49 v50 =>
 grd (nt a42) (fun k51 =>
 opt (zU P .len [23] [v50] h48) fun v55 =>
 rtI .i64 v55 fun a56 =>
 k51 h48 n49 (.int .i64 a56)) (fun h52 n53 v54 =>
 grd (nt a42) (fun k57 =>
 zK igeB P .geq 3 false v46 v54 fun a61 =>
 k57 h52 n53 (.bool a61)) (fun h58 n59 v60 =>
 zW (.bool a42) (fun b62 =>
 rtB (sel b62 (.bool true) v60) fun a63 =>
 zW (.bool a63) (fun z64 =>
 br z64 (
 zD P L 3 k .ret (fr3 (.int .i64 ap0) p1 undef undef (.bool a1) (.bool a1) a7 undef undef undef undef undef undef undef undef undef undef undef (.bool a1) a7 (.bool a1) (.bool a14) (.bool a14) v18 v22 v28 (.bool a31) (.bool a31) v35 v39 (.bool a42) (.bool a42) v46 v50 v54 v60 (.bool a63) (.bool a1) undef undef undef undef undef undef undef undef undef undef undef undef undef undef undef undef undef undef undef undef undef undef undef undef undef undef undef undef undef undef undef undef undef undef undef undef undef undef undef undef undef undef undef undef undef undef undef undef undef undef undef undef undef undef undef undef undef undef undef undef undef undef undef undef undef undef undef undef undef undef undef undef undef undef undef undef undef undef undef undef undef undef undef undef undef) (W.mk [] u h58 n59)) (
 yH L 11 [p1] h58 n59 (fun c68 h69 n70 =>
 zD P L 3 k (.panic c68) (fr3 (.int .i64 ap0) p1 undef undef (.bool false) (.bool a1) a7 undef undef undef undef undef undef undef undef undef undef undef (.bool a1) a7 (.bool a1) (.bool a14) (.bool a14) v18 v22 v28 (.bool a31) (.bool a31) v35 v39 (.bool a42) (.bool a42) v46 v50 v54 v60 (.bool a63) undef undef p1 undef undef undef undef undef undef undef undef undef undef undef undef undef undef undef undef undef undef undef undef undef undef undef undef undef undef undef undef undef undef undef undef undef undef undef undef undef undef undef undef undef undef undef undef undef undef undef undef undef undef undef undef undef undef undef undef undef undef undef undef undef undef undef undef undef undef undef undef undef undef undef undef undef undef undef undef undef undef undef undef undef undef undef) (W.mk [] u h69 n70)) fun a65 h66 n67 =>
 opt (zZ 0 a65) fun v71 =>
 opt (zZ 1 a65) fun v72 =>
 rtI .i64 v72 fun a73 =>
 zK yO P .eql 9 true p1 (.string (ByteArray.mk #[120, 56, 54])) fun a74 =>
 grd (nt a74) (fun k75 =>
 k75 h66 n67 p1) (fun h76 n77 v78 =>
 grd (nt a74) (fun k79 =>
 zK yO P .eql 9 true v78 (.string (ByteArray.mk #[97, 114, 109])) fun a83 =>
 k79 h76 n77 (.bool a83)) (fun h80 n81 v82 =>
 zW (.bool a74) (fun b84 =>
 rtB (sel b84 (.bool true) v82) fun a85 =>
 grd (nt a85) (fun k86 =>
 k86 h80 n81 p1) (fun h87 n88 v89 =>
 grd (nt a85) (fun k90 =>
 zK yO P .eql 9 true v89 (.string (ByteArray.mk #[114, 105, 115, 99, 118])) fun a94 =>
 k90 h87 n88 (.bool a94)) (fun h91 n92 v93 =>
 zW (.bool a85) (fun b95 =>
 rtB (sel b95 (.bool true) v93) fun a96 =>
 callI L .i64 12 [(.int .i64 a73)] h91 n92 (fun c100 h101 n102 =>
 zD P L 3 k (.panic c100) (fr3 (.int .i64 ap0) p1 undef undef (.bool false) (.bool a1) a7 v71 (.int .i64 a73) (.bool a96) undef undef undef undef undef undef undef undef (.bool a1) a7 (.bool a1) (.bool a14) (.bool a14) v18 v22 v28 (.bool a31) (.bool a31) v35 v39 (.bool a42) (.bool a42) v46 v50 v54 v60 (.bool a63) undef a65 p1 a65 v71 (.int .i64 a73) p1 (.bool a74) (.bool a74) v78 v82 (.bool a85) (.bool a85) v89 v93 (.bool a96) (.int .i64 a73) undef undef undef undef undef undef undef undef undef undef undef undef undef undef undef undef undef undef undef undef undef undef undef undef undef undef undef undef undef undef undef undef undef undef undef undef undef undef undef undef undef undef undef undef undef undef undef undef undef undef undef undef undef undef undef undef undef undef undef undef undef undef undef undef undef undef undef undef undef) (W.mk [] u h101 n102)) fun a97 h98 n99 =>
 fb (yO a97 0) fun a103 =>
 zK ineB P .neq 4 false (.bool a103) (.bool a96) fun a104 =>
 grd (nt a104) (fun k105 =>
 k105 h98 n99 (.bool a96)) (fun h106 n107 v108 =>
 grd (nt a104) (fun k109 =>
 opt (aUn .not v108) fun v113 =>
 rtB v113 fun a114 =>
 k109 h106 n107 (.bool a114)) (fun h110 n111 v112 =>
 grd (nt a104) (fun k115 =>
 k115 h110 n111 v112) (fun h116 n117 v118 =>
 grd (gv v118) (fun k119 =>
 k119 h116 n117 v71) (fun h120 n121 v122 =>
 grd (gv v118) (fun k123 =>
 zK ineB P .neq 9 true v122 (.string (ByteArray.mk #[])) fun a127 =>
 k123 h120 n121 (.bool a127)) (fun h124 n125 v126 =>
 grd (gv v118) (fun k128 =>
 k128 h124 n125 v126) (fun h129 n130 v131 =>
 grd (gnv v131) (fun k132 =>
 k132 h129 n130 (.int .i64 a73)) (fun h133 n134 v135 =>
 grd (gnv v131) (fun k136 =>
 callI L .i64 12 [v135] h133 n134 (fun c143 h144 n145 =>
 zD P L 3 k (.panic c143) (fr3 (.int .i64 ap0) p1 undef undef (.bool false) (.bool a1) a7 v71 (.int .i64 a73) (.bool a96) undef undef undef undef undef undef undef undef (.bool a1) a7 (.bool a1) (.bool a14) (.bool a14) v18 v22 v28 (.bool a31) (.bool a31) v35 v39 (.bool a42) (.bool a42) v46 v50 v54 v60 (.bool a63) undef a65 p1 a65 v71 (.int .i64 a73) p1 (.bool a74) (.bool a74) v78 v82 (.bool a85) (.bool a85) v89 v93 (.bool a96) (.int .i64 a73) (.int .i64 a97) (.bool a103) (.bool a96) (.bool a104) (.bool a104) v108 v112 v118 v122 v126 v131 v135 undef undef undef undef undef undef undef undef undef undef undef undef undef undef undef undef undef undef undef undef undef undef undef undef undef undef undef undef undef undef undef undef undef undef undef undef undef undef undef undef undef undef undef undef undef undef undef undef undef undef undef undef undef undef undef undef undef) (W.mk [] u h144 n145)) fun a140 h141 n142 =>
 k136 h141 n142 (.int .i64 a140)) (fun h137 n138 v139 =>
 grd (gnv v131) (fun k146 =>
 zK ineB P .neq 3 true v139 (.int .i64 5) fun a150 =>
 k146 h137 n138 (.bool a150)) (fun h147 n148 v149 =>
 grd (gv v118) (fun k151 =>
 zW v131 (fun b155 =>
 rtB (sel b155 (.bool true) v149) fun a156 =>
 k151 h147 n148 (.bool a156)) false) (fun h152 n153 v154 =>
 grd (nt a104) (fun k157 =>
 zW v118 (fun b161 =>
 rtB (sel b161 v154 (.bool false)) fun a162 =>
 k157 h152 n153 (.bool a162)) false) (fun h158 n159 v160 =>
 zW (.bool a104) (fun b163 =>
 rtB (sel b163 (.bool true) v160) fun a164 =>
 zW (.bool a164) (fun z165 =>
 br z165 (
 zD P L 3 k .ret (fr3 (.int .i64 ap0) p1 undef undef (.bool false) (.bool a1) a7 v71 (.int .i64 a73) (.bool a96) undef undef undef undef undef undef undef undef (.bool a1) a7 (.bool a1) (.bool a14) (.bool a14) v18 v22 v28 (.bool a31) (.bool a31) v35 v39 (.bool a42) (.bool a42) v46 v50 v54 v60 (.bool a63) undef a65 p1 a65 v71 (.int .i64 a73) p1 (.bool a74) (.bool a74) v78 v82 (.bool a85) (.bool a85) v89 v93 (.bool a96) (.int .i64 a73) (.int .i64 a97) (.bool a103) (.bool a96) (.bool a104) (.bool a104) v108 v112 v118 v122 v126 v131 v135 v139 v149 v154 v160 (.bool a164) undef undef undef undef undef undef undef undef undef undef undef undef undef undef undef undef undef undef undef undef undef undef undef undef undef undef undef undef undef undef undef undef undef undef undef undef undef undef undef undef undef undef undef undef undef undef undef undef undef undef undef undef) (W.mk [] u h158 n159)) (
 opt (zQ P 23 a7 (.int .i64 ap0)) fun v166 =>
 opt (zP P 9 h158 v166) fun v167 =>
 yH L 11 [v167] h158 n159 (fun c171 h172 n173 =>
 zD P L 3 k (.panic c171) (fr3 (.int .i64 ap0) p1 undef undef (.bool false) (.bool a1) a7 v71 (.int .i64 a73) (.bool a96) undef undef undef undef undef undef undef undef (.bool a1) a7 (.bool a1) (.bool a14) (.bool a14) v18 v22 v28 (.bool a31) (.bool a31) v35 v39 (.bool a42) (.bool a42) v46 v50 v54 v60 (.bool a63) undef a65 p1 a65 v71 (.int .i64 a73) p1 (.bool a74) (.bool a74) v78 v82 (.bool a85) (.bool a85) v89 v93 (.bool a96) (.int .i64 a73) (.int .i64 a97) (.bool a103) (.bool a96) (.bool a104) (.bool a104) v108 v112 v118 v122 v126 v131 v135 v139 v149 v154 v160 (.bool a164) undef a7 (.int .i64 ap0) v166 v167 undef undef undef undef undef undef undef undef undef undef undef undef undef undef undef undef undef undef undef undef undef undef undef undef undef undef undef undef undef undef undef undef undef undef undef undef undef undef undef undef undef undef undef undef undef undef undef) (W.mk [] u h172 n173)) fun a168 h169 n170 =>
 opt (zZ 0 a168) fun v174 =>
 opt (zZ 1 a168) fun v175 =>
 rtI .i64 v175 fun a176 =>
 yH L 13 [v174] h169 n170 (fun c180 h181 n182 =>
 zD P L 3 k (.panic c180) (fr3 (.int .i64 ap0) p1 undef undef (.bool false) (.bool a1) a7 v71 (.int .i64 a73) (.bool a96) v174 (.int .i64 a176) undef undef undef undef undef undef (.bool a1) a7 (.bool a1) (.bool a14) (.bool a14) v18 v22 v28 (.bool a31) (.bool a31) v35 v39 (.bool a42) (.bool a42) v46 v50 v54 v60 (.bool a63) undef a65 p1 a65 v71 (.int .i64 a73) p1 (.bool a74) (.bool a74) v78 v82 (.bool a85) (.bool a85) v89 v93 (.bool a96) (.int .i64 a73) (.int .i64 a97) (.bool a103) (.bool a96) (.bool a104) (.bool a104) v108 v112 v118 v122 v126 v131 v135 v139 v149 v154 v160 (.bool a164) a168 a7 (.int .i64 ap0) v166 v167 a168 v174 (.int .i64 a176) undef v174 undef undef undef undef undef undef undef undef undef undef undef undef undef undef undef undef undef undef undef undef undef undef undef undef undef undef undef undef undef undef undef undef undef undef undef undef undef undef undef undef undef undef) (W.mk [] u h181 n182)) fun a177 h178 n179 =>
 opt (zZ 0 a177) fun v183 =>
 opt (zZ 1 a177) fun v184 =>
 rtI .i64 v184 fun a185 =>
 opt (zZ 2 a177) fun v186 =>
 rtI .i64 v186 fun a187 =>
 opt (zZ 3 a177) fun v188 =>
 rtI .i64 v188 fun a189 =>
 eAlloc P 33 h178 n179 fun h190 n191 v192 =>
 xG P 33 v192 v183 h190 n191 fun h193 n194 v195 =>
 yH L 14 [(.int .i64 ap0)] h193 n194 (fun c199 h200 n201 =>
 zD P L 3 k (.panic c199) (fr3 (.int .i64 ap0) p1 undef undef (.bool false) (.bool a1) a7 v71 (.int .i64 a73) (.bool a96) v174 (.int .i64 a176) v192 (.int .i64 a185) (.int .i64 a187) (.int .i64 a189) undef undef (.bool a1) a7 (.bool a1) (.bool a14) (.bool a14) v18 v22 v28 (.bool a31) (.bool a31) v35 v39 (.bool a42) (.bool a42) v46 v50 v54 v60 (.bool a63) undef a65 p1 a65 v71 (.int .i64 a73) p1 (.bool a74) (.bool a74) v78 v82 (.bool a85) (.bool a85) v89 v93 (.bool a96) (.int .i64 a73) (.int .i64 a97) (.bool a103) (.bool a96) (.bool a104) (.bool a104) v108 v112 v118 v122 v126 v131 v135 v139 v149 v154 v160 (.bool a164) a168 a7 (.int .i64 ap0) v166 v167 a168 v174 (.int .i64 a176) a177 v174 a177 v183 (.int .i64 a185) (.int .i64 a187) (.int .i64 a189) (.int .i64 ap0) undef undef undef undef undef undef undef undef undef undef undef undef undef undef undef undef undef undef undef undef undef undef undef undef undef undef undef undef undef undef undef undef undef undef undef undef) (W.mk [] u h200 n201)) fun a196 h197 n198 =>
 lp 1000013 ⟨3, none, df⟩ (fr3 (.int .i64 ap0) p1 undef undef (.bool false) (.bool a1) a7 v71 (.int .i64 a73) (.bool a96) v174 (.int .i64 a176) v192 (.int .i64 a185) (.int .i64 a187) (.int .i64 a189) a196 (.int .i64 0) (.bool a1) a7 (.bool a1) (.bool a14) (.bool a14) v18 v22 v28 (.bool a31) (.bool a31) v35 v39 (.bool a42) (.bool a42) v46 v50 v54 v60 (.bool a63) undef a65 p1 a65 v71 (.int .i64 a73) p1 (.bool a74) (.bool a74) v78 v82 (.bool a85) (.bool a85) v89 v93 (.bool a96) (.int .i64 a73) (.int .i64 a97) (.bool a103) (.bool a96) (.bool a104) (.bool a104) v108 v112 v118 v122 v126 v131 v135 v139 v149 v154 v160 (.bool a164) a168 a7 (.int .i64 ap0) v166 v167 a168 v174 (.int .i64 a176) a177 v174 a177 v183 (.int .i64 a185) (.int .i64 a187) (.int .i64 a189) (.int .i64 ap0) a196 undef undef undef undef undef undef undef undef undef undef undef undef undef undef undef undef undef undef undef undef undef undef undef undef undef undef undef undef undef undef undef undef undef undef undef) (W.mk [] u h197 n198) (endA noK (blkA 0 (fun t202 w203 =>
 rtI .i64 (zB t202 0) fun s204 =>
 zA (zB t202 10) fun s205 =>
 rtI .i64 (zB t202 11) fun s206 =>
 zA (zB t202 12) fun s207 =>
 rtI .i64 (zB t202 15) fun s208 =>
 zA (zB t202 16) fun s209 =>
 onW w203 fun d210 u211 h212 n213 =>
 callI L .i64 12 [(.int .i64 s206)] h212 n213 (fun c217 h218 n219 =>
 gt (lks [(W.mk d210 u211 h212 n213)] []) (
 zD P L 3 k (.panic c217) (fr3 (.int .i64 s204) (zB t202 1) (zB t202 2) (zB t202 3) (zB t202 4) (zB t202 5) (zB t202 6) (zB t202 7) (zB t202 8) (zB t202 9) s205 (.int .i64 s206) s207 (zB t202 13) (zB t202 14) (.int .i64 s208) s209 (zB t202 17) (zB t202 18) (zB t202 19) (zB t202 20) (zB t202 21) (zB t202 22) (zB t202 23) (zB t202 24) (zB t202 25) (zB t202 26) (zB t202 27) (zB t202 28) (zB t202 29) (zB t202 30) (zB t202 31) (zB t202 32) (zB t202 33) (zB t202 34) (zB t202 35) (zB t202 36) (zB t202 37) (zB t202 38) (zB t202 39) (zB t202 40) (zB t202 41) (zB t202 42) (zB t202 43) (zB t202 44) (zB t202 45) (zB t202 46) (zB t202 47) (zB t202 48) (zB t202 49) (zB t202 50) (zB t202 51) (zB t202 52) (zB t202 53) (zB t202 54) (zB t202 55) (zB t202 56) (zB t202 57) (zB t202 58) (zB t202 59) (zB t202 60) (zB t202 61) (zB t202 62) (zB t202 63) (zB t202 64) (zB t202 65) (zB t202 66) (zB t202 67) (zB t202 68) (zB t202 69) (zB t202 70) (zB t202 71) (zB t202 72) (zB t202 73) (zB t202 74) (zB t202 75) (zB t202 76) (zB t202 77) (zB t202 78) (zB t202 79) (zB t202 80) (zB t202 81) (zB t202 82) (zB t202 83) (zB t202 84) (zB t202 85) (zB t202 86) (zB t202 87) (zB t202 88) (zB t202 89) (zB t202 90) (zB t202 91) (zB t202 92) (zB t202 93) (zB t202 94) (zB t202 95) (zB t202 96) (.int .i64 s206) (zB t202 98) (zB t202 99) (zB t202 100) (zB t202 101) (zB t202 102) (zB t202 103) (zB t202 104) (zB t202 105) (zB t202 106) (zB t202 107) (zB t202 108) (zB t202 109) (zB t202 110) (zB t202 111) (zB t202 112) (zB t202 113) (zB t202 114) (zB t202 115) (zB t202 116) (zB t202 117) (zB t202 118) (zB t202 119) (zB t202 120) (zB t202 121) (zB t202 122)) (W.mk d210 u211 h218 n219))) fun a214 h215 n216 =>
 gt (Nat.ble n213 n216) (
 fb (yO a214 0) fun a220 =>
 grd a220 (fun k221 =>
 k221 h215 n216 (.int .i64 s208)) (fun h222 n223 v224 =>
 grd a220 (fun k225 =>
 zK yO P .eql 3 true v224 (.int .i64 0) fun a229 =>
 k225 h222 n223 (.bool a229)) (fun h226 n227 v228 =>
 zW (.bool a220) (fun b230 =>
 rtB (sel b230 v228 (.bool false)) fun a231 =>
 grd a231 (fun k232 =>
 k232 h226 n227 s209) (fun h233 n234 v235 =>
 grd a231 (fun k236 =>
 zK ineB P .neq 36 true v235 (.pointer none) fun a240 =>
 k236 h233 n234 (.bool a240)) (fun h237 n238 v239 =>
 zW (.bool a231) (fun b241 =>
 rtB (sel b241 v239 (.bool false)) fun a242 =>
 grd a242 (fun k243 =>
 yH L 10 [] h237 n238 (fun c250 h251 n252 =>
 false) fun a247 h248 n249 =>
 k243 h248 n249 a247) (fun h244 n245 v246 =>
 gt (Nat.ble n238 n245) (
 grd a242 (fun k253 =>
 opt (zC P 33 0 s207) fun v257 =>
 k253 h244 n245 v257) (fun h254 n255 v256 =>
 grd a242 (fun k258 =>
 opt (zP P 9 h254 v256) fun v262 =>
 k258 h254 n255 v262) (fun h259 n260 v261 =>
 grd a242 (fun k264 =>
 k264 h259 n260 (.int .i64 s204)) (fun h265 n266 v267 =>
 grd a242 (fun k268 =>
 opt (zQ P 23 v246 v267) fun v272 =>
 k268 h265 n266 v272) (fun h269 n270 v271 =>
 grd a242 (fun k273 =>
 opt (zP P 9 h269 v271) fun v277 =>
 k273 h269 n270 v277) (fun h274 n275 v276 =>
 grd a242 (fun k278 =>
 zK yO P .eql 9 false v261 v276 fun a282 =>
 k278 h274 n275 (.bool a282)) (fun h279 n280 v281 =>
 zW (.bool a242) (fun b283 =>
 rtB (sel b283 v281 (.bool false)) fun a284 =>
 grd a284 (fun k285 =>
 opt (zP P 33 h279 s207) fun v289 =>
 k285 h279 n280 v289) (fun h286 n287 v288 =>
 grd a284 (fun k290 =>
 yH L 15 [v288] h286 n287 (fun c297 h298 n299 =>
 false) fun a294 h295 n296 =>
 k290 h295 n296 a294) (fun h291 n292 v293 =>
 gt (Nat.ble n287 n292) (
 grd a284 (fun k300 =>
 k300 h291 n292 s205) (fun h301 n302 v303 =>
 grd a284 (fun k304 =>
 zK yO P .eql 9 false v293 v303 fun a308 =>
 k304 h301 n302 (.bool a308)) (fun h305 n306 v307 =>
 zW (.bool a284) (fun b309 =>
 rtB (sel b309 v307 (.bool false)) fun a310 =>
 gt (lks [(W.mk d210 u211 h291 n292), (W.mk d210 u211 h244 n245), (W.mk d210 u211 h215 n216), (W.mk d210 u211 h212 n213)] [⟨a242, (lkQ (fun h263 => zP P 9 h263 v256) v256 v261), 1, 2⟩]) (
 zD P L 3 k .ret (fr3 (.int .i64 s204) (zB t202 1) (zB t202 2) (zB t202 3) (.bool a310) (zB t202 5) (zB t202 6) (zB t202 7) (zB t202 8) (zB t202 9) s205 (.int .i64 s206) s207 (zB t202 13) (zB t202 14) (.int .i64 s208) s209 (zB t202 17) (zB t202 18) (zB t202 19) (zB t202 20) (zB t202 21) (zB t202 22) (zB t202 23) (zB t202 24) (zB t202 25) (zB t202 26) (zB t202 27) (zB t202 28) (zB t202 29) (zB t202 30) (zB t202 31) (zB t202 32) (zB t202 33) (zB t202 34) (zB t202 35) (zB t202 36) (zB t202 37) (zB t202 38) (zB t202 39) (zB t202 40) (zB t202 41) (zB t202 42) (zB t202 43) (zB t202 44) (zB t202 45) (zB t202 46) (zB t202 47) (zB t202 48) (zB t202 49) (zB t202 50) (zB t202 51) (zB t202 52) (zB t202 53) (zB t202 54) (zB t202 55) (zB t202 56) (zB t202 57) (zB t202 58) (zB t202 59) (zB t202 60) (zB t202 61) (zB t202 62) (zB t202 63) (zB t202 64) (zB t202 65) (zB t202 66) (zB t202 67) (zB t202 68) (zB t202 69) (zB t202 70) (zB t202 71) (zB t202 72) (zB t202 73) (zB t202 74) (zB t202 75) (zB t202 76) (zB t202 77) (zB t202 78) (zB t202 79) (zB t202 80) (zB t202 81) (zB t202 82) (zB t202 83) (zB t202 84) (zB t202 85) (zB t202 86) (zB t202 87) (zB t202 88) (zB t202 89) (zB t202 90) (zB t202 91) (zB t202 92) (zB t202 93) (zB t202 94) (zB t202 95) (zB t202 96) (.int .i64 s206) (.int .i64 a214) (.bool a220) (.bool a220) v224 v228 (.bool a231) (.bool a231) v235 v239 (.bool a242) (.bool a242) v256 v261 v246 v267 v271 v276 v281 (.bool a284) (.bool a284) v288 v293 v303 v307 (.bool a310)) (W.mk d210 u211 h305 n306))) false) h301 n302) h291 n292)) h286 n287) h279 n280) false) h274 n275) h269 n270) h265 n266) h259 n260) h254 n255) h244 n245)) h237 n238) false) h233 n234) h226 n227) false) h222 n223) h215 n216)) (zD P L 3 k))))) false) false) h152 n153) h147 n148) h137 n138) h133 n134) h129 n130) h124 n125) h120 n121) h116 n117) h110 n111) h106 n107) h98 n99) false) h87 n88) h80 n81) false) h76 n77) h66 n67)) false) false) h52 n53) h48 n49) h44 n45) h37 n38) false) h33 n34) h26 n27) false) h20 n21) h16 n17) h8 n9
theorem F3_eq (L : Lo) (lp : LP) (p0 p1 : Value) (df : Bool) (u : Option zF) (h : zE) (n : Nat) (k : KO) : zY P hint3 L lp 3 [p0, p1] df u h n k = F3 L lp p0 p1 df u h n k := by kernel_rfl
theorem l3 : zL P 3 = true := by kernel_rfl
theorem r3 : resOf P 3 = some [.tmp 4] := by kernel_rfl
noncomputable def eF3 : EntF P 8 := wL zG mixed 3 l3 F3 F3_eq
noncomputable def F3b (L : Lo) (lp : LP) (p0 p1 : Value) (df : Bool) (u : Option zF) (h : zE) (n : Nat) (k : KO) : Bool :=
 rtI .i64 p0 fun ap0 =>
 xR L 9 [] h n (fun c4 h5 n6 =>
 zD P L 3 k (.panic c4) (fr3 (.int .i64 ap0) p1 undef undef (.bool false) undef undef undef undef undef undef undef undef undef undef undef undef undef undef undef undef undef undef undef undef undef undef undef undef undef undef undef undef undef undef undef undef undef undef undef undef undef undef undef undef undef undef undef undef undef undef undef undef undef undef undef undef undef undef undef undef undef undef undef undef undef undef undef undef undef undef undef undef undef undef undef undef undef undef undef undef undef undef undef undef undef undef undef undef undef undef undef undef undef undef undef undef undef undef undef undef undef undef undef undef undef undef undef undef undef undef undef undef undef undef undef undef undef undef undef undef undef undef) (W.mk [] u h5 n6)) fun a1 h2 n3 =>
 yH L 10 [] h2 n3 (fun c10 h11 n12 =>
 zD P L 3 k (.panic c10) (fr3 (.int .i64 ap0) p1 undef undef (.bool false) (.bool a1) undef undef undef undef undef undef undef undef undef undef undef undef (.bool a1) undef undef undef undef undef undef undef undef undef undef undef undef undef undef undef undef undef undef undef undef undef undef undef undef undef undef undef undef undef undef undef undef undef undef undef undef undef undef undef undef undef undef undef undef undef undef undef undef undef undef undef undef undef undef undef undef undef undef undef undef undef undef undef undef undef undef undef undef undef undef undef undef undef undef undef undef undef undef undef undef undef undef undef undef undef undef undef undef undef undef undef undef undef undef undef undef undef undef undef undef undef undef undef undef) (W.mk [] u h11 n12)) fun a7 h8 n9 =>
 opt (aUn .not (.bool a1)) fun v13 =>
 rtB v13 fun a14 =>
 grd (nt a14) (fun k15 =>
 k15 h8 n9 p1) (fun h16 n17 v18 =>
 grd (nt a14) (fun k19 =>
 opt (zU P .len [9] [v18] h16) fun v23 =>
 rtI .i64 v23 fun a24 =>
 k19 h16 n17 (.int .i64 a24)) (fun h20 n21 v22 =>
 grd (nt a14) (fun k25 =>
 zK igtB P .gtr 3 true v22 (.int .i64 1000) fun a29 =>
 k25 h20 n21 (.bool a29)) (fun h26 n27 v28 =>
 zW (.bool a14) (fun b30 =>
 rtB (sel b30 (.bool true) v28) fun a31 =>
 grd (nt a31) (fun k32 =>
 k32 h26 n27 (.int .i64 ap0)) (fun h33 n34 v35 =>
 grd (nt a31) (fun k36 =>
 zK wE P .lss 3 true v35 (.int .i64 0) fun a40 =>
 k36 h33 n34 (.bool a40)) (fun h37 n38 v39 =>
 zW (.bool a31) (fun b41 =>
 rtB (sel b41 (.bool true) v39) fun a42 =>
 grd (nt a42) (fun k43 =>
 k43 h37 n38 (.int .i64 ap0)) (fun h44 n45 v46 =>
 grd (nt a42) (fun k47 =>
 k47 h44 n45 a7) (fun h48 n49 v50 =>
 grd (nt a42) (fun k51 =>
 opt (zU P .len [23] [v50] h48) fun v55 =>
 rtI .i64 v55 fun a56 =>
 k51 h48 n49 (.int .i64 a56)) (fun h52 n53 v54 =>
 grd (nt a42) (fun k57 =>
 zK igeB P .geq 3 false v46 v54 fun a61 =>
 k57 h52 n53 (.bool a61)) (fun h58 n59 v60 =>
 zW (.bool a42) (fun b62 =>
 rtB (sel b62 (.bool true) v60) fun a63 =>
 zW (.bool a63) (fun z64 =>
 br z64 (
 zD P L 3 k .ret (fr3 (.int .i64 ap0) p1 undef undef (.bool a1) (.bool a1) a7 undef undef undef undef undef undef undef undef undef undef undef (.bool a1) a7 (.bool a1) (.bool a14) (.bool a14) v18 v22 v28 (.bool a31) (.bool a31) v35 v39 (.bool a42) (.bool a42) v46 v50 v54 v60 (.bool a63) (.bool a1) undef undef undef undef undef undef undef undef undef undef undef undef undef undef undef undef undef undef undef undef undef undef undef undef undef undef undef undef undef undef undef undef undef undef undef undef undef undef undef undef undef undef undef undef undef undef undef undef undef undef undef undef undef undef undef undef undef undef undef undef undef undef undef undef undef undef undef undef undef undef undef undef undef undef undef undef undef undef undef undef undef undef undef undef undef) (W.mk [] u h58 n59)) (
 yH L 11 [p1] h58 n59 (fun c68 h69 n70 =>
 zD P L 3 k (.panic c68) (fr3 (.int .i64 ap0) p1 undef undef (.bool false) (.bool a1) a7 undef undef undef undef undef undef undef undef undef undef undef (.bool a1) a7 (.bool a1) (.bool a14) (.bool a14) v18 v22 v28 (.bool a31) (.bool a31) v35 v39 (.bool a42) (.bool a42) v46 v50 v54 v60 (.bool a63) undef undef p1 undef undef undef undef undef undef undef undef undef undef undef undef undef undef undef undef undef undef undef undef undef undef undef undef undef undef undef undef undef undef undef undef undef undef undef undef undef undef undef undef undef undef undef undef undef undef undef undef undef undef undef undef undef undef undef undef undef undef undef undef undef undef undef undef undef undef undef undef undef undef undef undef undef undef undef undef undef undef undef undef undef undef undef) (W.mk [] u h69 n70)) fun a65 h66 n67 =>
 opt (zZ 0 a65) fun v71 =>
 opt (zZ 1 a65) fun v72 =>
 rtI .i64 v72 fun a73 =>
 zK yO P .eql 9 true p1 (.string (ByteArray.mk #[120, 56, 54])) fun a74 =>
 grd (nt a74) (fun k75 =>
 k75 h66 n67 p1) (fun h76 n77 v78 =>
 grd (nt a74) (fun k79 =>
 zK yO P .eql 9 true v78 (.string (ByteArray.mk #[97, 114, 109])) fun a83 =>
 k79 h76 n77 (.bool a83)) (fun h80 n81 v82 =>
 zW (.bool a74) (fun b84 =>
 rtB (sel b84 (.bool true) v82) fun a85 =>
 grd (nt a85) (fun k86 =>
 k86 h80 n81 p1) (fun h87 n88 v89 =>
 grd (nt a85) (fun k90 =>
 zK yO P .eql 9 true v89 (.string (ByteArray.mk #[114, 105, 115, 99, 118])) fun a94 =>
 k90 h87 n88 (.bool a94)) (fun h91 n92 v93 =>
 zW (.bool a85) (fun b95 =>
 rtB (sel b95 (.bool true) v93) fun a96 =>
 callI L .i64 12 [(.int .i64 a73)] h91 n92 (fun c100 h101 n102 =>
 zD P L 3 k (.panic c100) (fr3 (.int .i64 ap0) p1 undef undef (.bool false) (.bool a1) a7 v71 (.int .i64 a73) (.bool a96) undef undef undef undef undef undef undef undef (.bool a1) a7 (.bool a1) (.bool a14) (.bool a14) v18 v22 v28 (.bool a31) (.bool a31) v35 v39 (.bool a42) (.bool a42) v46 v50 v54 v60 (.bool a63) undef a65 p1 a65 v71 (.int .i64 a73) p1 (.bool a74) (.bool a74) v78 v82 (.bool a85) (.bool a85) v89 v93 (.bool a96) (.int .i64 a73) undef undef undef undef undef undef undef undef undef undef undef undef undef undef undef undef undef undef undef undef undef undef undef undef undef undef undef undef undef undef undef undef undef undef undef undef undef undef undef undef undef undef undef undef undef undef undef undef undef undef undef undef undef undef undef undef undef undef undef undef undef undef undef undef undef undef undef undef undef) (W.mk [] u h101 n102)) fun a97 h98 n99 =>
 fb (yO a97 0) fun a103 =>
 zK ineB P .neq 4 false (.bool a103) (.bool a96) fun a104 =>
 grd (nt a104) (fun k105 =>
 k105 h98 n99 (.bool a96)) (fun h106 n107 v108 =>
 grd (nt a104) (fun k109 =>
 opt (aUn .not v108) fun v113 =>
 rtB v113 fun a114 =>
 k109 h106 n107 (.bool a114)) (fun h110 n111 v112 =>
 grd (nt a104) (fun k115 =>
 k115 h110 n111 v112) (fun h116 n117 v118 =>
 grd (gv v118) (fun k119 =>
 k119 h116 n117 v71) (fun h120 n121 v122 =>
 grd (gv v118) (fun k123 =>
 zK ineB P .neq 9 true v122 (.string (ByteArray.mk #[])) fun a127 =>
 k123 h120 n121 (.bool a127)) (fun h124 n125 v126 =>
 grd (gv v118) (fun k128 =>
 k128 h124 n125 v126) (fun h129 n130 v131 =>
 grd (gnv v131) (fun k132 =>
 k132 h129 n130 (.int .i64 a73)) (fun h133 n134 v135 =>
 grd (gnv v131) (fun k136 =>
 callI L .i64 12 [v135] h133 n134 (fun c143 h144 n145 =>
 zD P L 3 k (.panic c143) (fr3 (.int .i64 ap0) p1 undef undef (.bool false) (.bool a1) a7 v71 (.int .i64 a73) (.bool a96) undef undef undef undef undef undef undef undef (.bool a1) a7 (.bool a1) (.bool a14) (.bool a14) v18 v22 v28 (.bool a31) (.bool a31) v35 v39 (.bool a42) (.bool a42) v46 v50 v54 v60 (.bool a63) undef a65 p1 a65 v71 (.int .i64 a73) p1 (.bool a74) (.bool a74) v78 v82 (.bool a85) (.bool a85) v89 v93 (.bool a96) (.int .i64 a73) (.int .i64 a97) (.bool a103) (.bool a96) (.bool a104) (.bool a104) v108 v112 v118 v122 v126 v131 v135 undef undef undef undef undef undef undef undef undef undef undef undef undef undef undef undef undef undef undef undef undef undef undef undef undef undef undef undef undef undef undef undef undef undef undef undef undef undef undef undef undef undef undef undef undef undef undef undef undef undef undef undef undef undef undef undef undef) (W.mk [] u h144 n145)) fun a140 h141 n142 =>
 k136 h141 n142 (.int .i64 a140)) (fun h137 n138 v139 =>
 grd (gnv v131) (fun k146 =>
 zK ineB P .neq 3 true v139 (.int .i64 5) fun a150 =>
 k146 h137 n138 (.bool a150)) (fun h147 n148 v149 =>
 grd (gv v118) (fun k151 =>
 zW v131 (fun b155 =>
 rtB (sel b155 (.bool true) v149) fun a156 =>
 k151 h147 n148 (.bool a156)) false) (fun h152 n153 v154 =>
 grd (nt a104) (fun k157 =>
 zW v118 (fun b161 =>
 rtB (sel b161 v154 (.bool false)) fun a162 =>
 k157 h152 n153 (.bool a162)) false) (fun h158 n159 v160 =>
 zW (.bool a104) (fun b163 =>
 rtB (sel b163 (.bool true) v160) fun a164 =>
 zW (.bool a164) (fun z165 =>
 br z165 (
 zD P L 3 k .ret (fr3 (.int .i64 ap0) p1 undef undef (.bool false) (.bool a1) a7 v71 (.int .i64 a73) (.bool a96) undef undef undef undef undef undef undef undef (.bool a1) a7 (.bool a1) (.bool a14) (.bool a14) v18 v22 v28 (.bool a31) (.bool a31) v35 v39 (.bool a42) (.bool a42) v46 v50 v54 v60 (.bool a63) undef a65 p1 a65 v71 (.int .i64 a73) p1 (.bool a74) (.bool a74) v78 v82 (.bool a85) (.bool a85) v89 v93 (.bool a96) (.int .i64 a73) (.int .i64 a97) (.bool a103) (.bool a96) (.bool a104) (.bool a104) v108 v112 v118 v122 v126 v131 v135 v139 v149 v154 v160 (.bool a164) undef undef undef undef undef undef undef undef undef undef undef undef undef undef undef undef undef undef undef undef undef undef undef undef undef undef undef undef undef undef undef undef undef undef undef undef undef undef undef undef undef undef undef undef undef undef undef undef undef undef undef undef) (W.mk [] u h158 n159)) (
 T3 L lp a7 ap0 h158 n159 p1 a1 v71 a73 a96 a14 v18 v22 v28 a31 v35 v39 a42 v46 v50 v54 v60 a63 a65 a74 v78 v82 a85 v89 v93 a97 a103 a104 v108 v112 v118 v122 v126 v131 v135 v139 v149 v154 v160 a164 df u k)) false) false) h152 n153) h147 n148) h137 n138) h133 n134) h129 n130) h124 n125) h120 n121) h116 n117) h110 n111) h106 n107) h98 n99) false) h87 n88) h80 n81) false) h76 n77) h66 n67)) false) false) h52 n53) h48 n49) h44 n45) h37 n38) false) h33 n34) h26 n27) false) h20 n21) h16 n17) h8 n9
theorem F3_b : F3 = F3b := rfl
open Go.Ex Go.RowKit
theorem p_ok : ∀ c ∈ [p0, p1, p2], c.run twoA.lo = true := by
  intro c hc;rcases List.mem_cons.1 hc with rfl | hc
  · exact run_p0
  rcases List.mem_cons.1 hc with rfl | hc
  · exact run_p1
  rcases List.mem_cons.1 hc with rfl | hc
  · exact run_p2
  cases hc
theorem o_ok : ∀ c ∈ [o0, o1, o2], c.run twoQ.lo = true := by
  intro c hc;rcases List.mem_cons.1 hc with rfl | hc
  · exact run_o0
  rcases List.mem_cons.1 hc with rfl | hc
  · exact run_o1
  rcases List.mem_cons.1 hc with rfl | hc
  · exact run_o2
  cases hc
noncomputable def hkB : HookH := fun f args h n => orH (hkA f args h n) (orH (hookC [p0, p1, p2] f args h n) (hookC [o0, o1, o2] f args h n))
theorem hkB_ok : HookHOK P 8 hkB := by
  intro f args h n r e u;unfold hkB orH at e
  cases h1 : hkA f args h n with
  | some r' => rw [h1] at e; injection e with e; subst e; exact hkA_ok f args h n r' h1 u
  | none =>
    rw [h1] at e
    cases h2 : hookC [p0, p1, p2] f args h n with
    | some r' => rw [h2] at e; injection e with e; subst e; exact hookC_ok twoA_ok p_ok f args h n r' h2 u
    | none => rw [h2] at e; exact hookC_ok twoQ_ok o_ok f args h n r e u
noncomputable def tF3 : Tr (Option (EntF P 8)) := tF.set none (some eF3) 3
theorem nextH_lp {hk : HookH} {tf : Tr (Option (EntF P 8))} {tl : Tr (List (EntL P 8))} {lo : Lo} {lp : LP} (hS : Sound P 8 lo) (hL : LpOK P 8 lp) : LpOK P 8 (Two.nextH P hk tf tl lo lp).lp := fun _ _ _ _ _ h => loopF_ok hS hL h
noncomputable def B2 : Two := runYH P hkB tF3 tL 999998
theorem B2_ok : Sound P 8 B2.lo ∧ LpOK P 8 B2.lp := runYH_ok zG mixed hkB_ok _ _ 999998
noncomputable def B1 : Two := Two.nextH P hkB tF3 tL B2.lo B2.lp
theorem B1_ok : Sound P 8 B1.lo ∧ LpOK P 8 B1.lp := ⟨nextH_ok zG mixed hkB_ok _ _ B2_ok.1 B2_ok.2, nextH_lp B2_ok.1 B2_ok.2⟩
noncomputable def B0 : Two := Two.nextH P hkB tF3 tL B1.lo B1.lp
theorem B0_ok : Sound P 8 B0.lo := nextH_ok zG mixed hkB_ok _ _ B1_ok.1 B1_ok.2
noncomputable def yes3 (w : Int) (s : List UInt8) : Bool := B0.lo.call 3 [.int .i64 w, str s] false none (vH tabs) 8 (finV (.bool true))
theorem call3 (w : Int) (s : List UInt8) : yes3 w s = F3 B1.lo B1.lp (.int .i64 w) (str s) false none (vH tabs) 8 (finV (.bool true)) := by kernel_rfl
theorem alive_eq (Kp : KC) (K : Bool → zE → Nat → Bool) : xR B1.lo 9 [] (vH tabs) 8 Kp K = K true (vH tabs) 8 := by kernel_rfl
noncomputable def h1 : zE := (vH tabs).set .dead (mkCells [str nm0, str nm1, str nm2] 0) 8
theorem names_eq (Kp : KC) (K : Value → zE → Nat → Bool) : yH B1.lo 10 [] (vH tabs) 8 Kp K = K (.slice (some ⟨8, 0, none⟩) 3 3) h1 (8 + 1) := by kernel_rfl
theorem us : und P 9 = some .string := by kernel_rfl
theorem ul : und P 23 = some (.slice 9) := by kernel_rfl
theorem cmp_lss (a b : Int) (q : Bool) (ty : TypeId) (K : Bool → Bool) : zK wE P .lss ty q (.int .i64 a) (.int .i64 b) K = K (decide (a < b)) := by rw [cmpI, iltB_eq]
theorem cmp_gtr (a b : Int) (q : Bool) (ty : TypeId) (K : Bool → Bool) : zK igtB P .gtr ty q (.int .i64 a) (.int .i64 b) K = K (decide (b < a)) := by rw [cmpI, igtB_ap]
theorem cmp_geq (a b : Int) (q : Bool) (ty : TypeId) (K : Bool → Bool) : zK igeB P .geq ty q (.int .i64 a) (.int .i64 b) K = K (decide (b ≤ a)) := by rw [cmpI, igeB_ap]
theorem len3 (a : Option Addr) (r : List Value) (h : zE) : zU P .len [23] (.slice a 3 3 :: r) h = some (.int .i64 3) := len_sl ul a 3 3 r h
theorem law_long (w : Int) (s : List UInt8) (hl : (1000 : Int) < (s.length : Nat)) : yes3 w s = true := by
  rw [call3, F3_b];unfold F3b;simp only [↓rtI_ap, ↓alive_eq, ↓names_eq, ↓not_ap, ↓opt_ap, ↓rtB_ap, ↓Bool.not_true, ↓nt_f, ↓nt_t, ↓grd_t, ↓grd_f, ↓len_strL us, ↓cmp_gtr, ↓decide_eq_true hl, ↓vR, ↓sel_t, ↓sel_f, ↓br_t, ↓br_f];kernel_rfl
theorem law_neg (w : Int) (s : List UInt8) (hl : ¬ (1000 : Int) < (s.length : Nat)) (hw : w < 0) : yes3 w s = true := by
  rw [call3, F3_b];unfold F3b;simp only [↓rtI_ap, ↓alive_eq, ↓names_eq, ↓not_ap, ↓opt_ap, ↓rtB_ap, ↓Bool.not_true, ↓nt_f, ↓nt_t, ↓grd_t, ↓grd_f, ↓len_strL us, ↓cmp_gtr, ↓decide_eq_false hl, ↓cmp_lss, ↓decide_eq_true hw, ↓vR, ↓sel_t, ↓sel_f, ↓br_t, ↓br_f];kernel_rfl
theorem law_big (w : Int) (s : List UInt8) (hl : ¬ (1000 : Int) < (s.length : Nat)) (hw : ¬ w < 0) (hb : (3 : Int) ≤ w) : yes3 w s = true := by
  rw [call3, F3_b];unfold F3b;simp only [↓rtI_ap, ↓alive_eq, ↓names_eq, ↓not_ap, ↓opt_ap, ↓rtB_ap, ↓Bool.not_true, ↓nt_f, ↓nt_t, ↓grd_t, ↓grd_f, ↓len_strL us, ↓cmp_gtr, ↓decide_eq_false hl, ↓cmp_lss, ↓decide_eq_false hw, ↓len3, ↓cmp_geq, ↓decide_eq_true hb, ↓vR, ↓sel_t, ↓sel_f, ↓br_t, ↓br_f];kernel_rfl
theorem text_hook (s : List UInt8) (h : zE) (n : Nat) (ht : tabsB tabs h = true) (e0 : zR s nm0 = false) (e1 : zR s nm1 = false) (e2 : zR s nm2 = false) : hkB 11 [str s] h n = some ⟨V11, h, n⟩ := by
  have a : textH [str s] h n = some ⟨V11, h, n⟩ := by
    show cond (tabsB tabs h) (cond (zR s nm0) _ (cond (zR s nm1) _ (cond (zR s nm2) _ _))) none = _;rw [ht, e0, e1, e2]; rfl
  have b : hkA 11 [str s] h n = some ⟨V11, h, n⟩ := by
    show orH none (textH [str s] h n) = _;rw [a]; rfl
  unfold hkB;rw [b]; rfl
theorem call_hook {hk : HookH} {lo : Lo} {f : FuncId} {args : List Value} {u : Option zF} {h : zE} {n : Nat} {k : KO} {r : Rsl} (e : hk f args h n = some r) : (Lo.hookH hk lo).call f args false u h n k = k (.ret r.v) u r.h r.n := by
  show (Option.rec (lo.call f args false u h n k) (fun r => k (.ret r.v) u r.h r.n) (hk f args h n) : Bool) = _;rw [e]
theorem tabs_h1 : tabsB tabs h1 = true := by kernel_rfl
theorem text_eq (s : List UInt8) (e0 : zR s nm0 = false) (e1 : zR s nm1 = false) (e2 : zR s nm2 = false) (Kp : KC) (K : Value → zE → Nat → Bool) : yH B1.lo 11 [str s] h1 (8 + 1) Kp K = K V11 h1 (8 + 1) :=
  call_hook (lo := ⟨xcode P B2.lo, callF tF3 B2.lo B2.lp, xround B2.lo, xleave P B2.lo⟩) (k := fun o _ h n => Out.rec (fun v => K v h n) (fun c => Kp c h n) o) (text_hook s h1 (8 + 1) tabs_h1 e0 e1 e2)
theorem ex0 : zZ 0 V11 = some (str []) := rfl
theorem cmpN (s : List UInt8) (t : List UInt8) (e : zR s t = false) (K : Bool → Bool) : zK yO P .eql 9 true (str s) (str t) K = K false := by
  rw [cmpSL_eq];rw [xI] at e;rw [e]
theorem grd_ntt (d : KH → Bool) (kv : KH) (h : zE) (n : Nat) : grd (nt true) d kv h n = kv h n undef := rfl
theorem grd_ntf (d : KH → Bool) (kv : KH) (h : zE) (n : Nat) : grd (nt false) d kv h n = d kv := rfl
theorem grd_gvt (d : KH → Bool) (kv : KH) (h : zE) (n : Nat) : grd (gv (.bool true)) d kv h n = d kv := rfl
theorem grd_gvf (d : KH → Bool) (kv : KH) (h : zE) (n : Nat) : grd (gv (.bool false)) d kv h n = kv h n undef := rfl
theorem grd_gnvt (d : KH → Bool) (kv : KH) (h : zE) (n : Nat) : grd (gnv (.bool true)) d kv h n = kv h n undef := rfl
theorem grd_gnvf (d : KH → Bool) (kv : KH) (h : zE) (n : Nat) : grd (gnv (.bool false)) d kv h n = d kv := rfl
theorem rtB_selt (b : Bool) (y : Value) (K : Bool → Bool) : rtB (sel true (.bool b) y) K = K b := rfl
theorem rtB_self (b : Bool) (x : Value) (K : Bool → Bool) : rtB (sel false x (.bool b)) K = K b := rfl
theorem not_t (K : Value → Bool) : opt (aUn .not (.bool true)) K = K (.bool false) := rfl
theorem not_f (K : Value → Bool) : opt (aUn .not (.bool false)) K = K (.bool true) := rfl
theorem ex0K (K : Value → Bool) : opt (zZ 0 V11) K = K (str []) := rfl
theorem ex1K (K : Value → Bool) : opt (zZ 1 V11) K = K (.int .i64 5) := rfl
theorem num_eq (h : zE) (n : Nat) (Kp : KC) (K : Int → zE → Nat → Bool) : callI B1.lo .i64 12 [(.int .i64 5)] h n Kp K = K 5 h n := by kernel_rfl
theorem i50 (K : Bool → Bool) : fb (yO 5 0) K = K false := rfl
theorem neFF (K : Bool → Bool) : zK ineB P .neq 4 false (.bool false) (.bool false) K = K false := by kernel_rfl
theorem ne5 (K : Bool → Bool) : zK ineB P .neq 3 true (.int .i64 5) (.int .i64 5) K = K false := by kernel_rfl
theorem nes (K : Bool → Bool) : zK ineB P .neq 9 true (str []) (.string (ByteArray.mk #[])) K = K false := by kernel_rfl
end Go.Proofs.YtapnnpoljobanaaGreatDoor
