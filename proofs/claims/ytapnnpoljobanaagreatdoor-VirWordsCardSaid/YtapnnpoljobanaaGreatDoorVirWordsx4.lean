/- What the law leans on: an executor of the model that is sound, deduction over it, and the walks through the code (part 4 of 6). Conditions: those that each theorem states. -/
import Derived.Test.YtapnnpoljobanaaGreatDoorVirWordsx3
import Derived.Lib.AtoiAllCases

set_option linter.unusedVariables false
set_option linter.unusedSimpArgs false
namespace Go.Proofs.YtapnnpoljobanaaGreatDoor
open Go.Ex
set_option maxRecDepth 1000000
noncomputable abbrev fr162 (s0 s1 s2 s3 s4 s5 s6 s7 s8 s9 s10 s11 s12 s13 s14 s15 s16 s17 s18 s19 s20 s21 s22 s23 s24 s25 s26 s27 s28 s29 s30 s31 s32 s33 s34 s35 s36 s37 s38 s39 : Value) : Fr := (.node (.node (.node (.node (.node (.node .leaf s31 .leaf) s15 .leaf) s7 (.node (.node .leaf s39 .leaf) s23 .leaf)) s3 (.node (.node (.node .leaf s35 .leaf) s19 .leaf) s11 (.node .leaf s27 .leaf))) s1 (.node (.node (.node (.node .leaf s33 .leaf) s17 .leaf) s9 (.node .leaf s25 .leaf)) s5 (.node (.node (.node .leaf s37 .leaf) s21 .leaf) s13 (.node .leaf s29 .leaf)))) s0 (.node (.node (.node (.node (.node .leaf s32 .leaf) s16 .leaf) s8 (.node .leaf s24 .leaf)) s4 (.node (.node (.node .leaf s36 .leaf) s20 .leaf) s12 (.node .leaf s28 .leaf))) s2 (.node (.node (.node (.node .leaf s34 .leaf) s18 .leaf) s10 (.node .leaf s26 .leaf)) s6 (.node (.node (.node .leaf s38 .leaf) s22 .leaf) s14 (.node .leaf s30 .leaf)))))
noncomputable abbrev fo162 (s4 : Value) : Fr := fr162 ud ud ud ud s4 ud ud ud ud ud ud ud ud ud ud ud ud ud ud ud ud ud ud ud ud ud ud ud ud ud ud ud ud ud ud ud ud ud ud ud
noncomputable abbrev fj162_0 (t : Fr) (s4 s7 s9 s29 s30 s31 s32 s33 s34 s35 s36 s37 s38 s39 : Value) : Fr := fr162 (zA t 0) (zA t 1) (zA t 2) (zA t 3) s4 (zA t 5) (zA t 6) s7 (zA t 8) s9 (zA t 10) (zA t 11) (zA t 12) (zA t 13) (zA t 14) (zA t 15) (zA t 16) (zA t 17) (zA t 18) (zA t 19) (zA t 20) (zA t 21) (zA t 22) (zA t 23) (zA t 24) (zA t 25) (zA t 26) (zA t 27) (zA t 28) s29 s30 s31 s32 s33 s34 s35 s36 s37 s38 s39
noncomputable def hint162 : tJ := fun kind _ i => match kind with
 | 0 => bif Nat.beq i 1000005 then [.any, .any, .any, .any, .any, .any, .any, .val, .any, .any, .any, .any, .any, .any, .any, .any, .any, .any, .any, .any, .any, .any, .any, .any, .any, .any, .any, .any, .any, .val, (.int .i64), (.int .i64)] else []
 | 1 => bif Nat.beq i 0 then [.any, .any, .any, .any, .any, .any, .any, .val] else bif Nat.beq i 1 then [.any, .any, .any, .any, .any, .any, .any, .val, .any, .any, .any, .any, .any, .any, .any, .any, .any, .any, .any, .any, .any, .any, .any, .any, .any, .any, .any, .any, .any, .val, (.int .i64), (.int .i64)] else []
 | 2 => bif Nat.beq i 0 then [.any, .any, .any, .any, .any, .any, .any, .val, .any, .any, .any, .any, .any, .any, .any, .any, .any, .any, .any, .any, .any, .any, .any, .any, .any, .any, .any, .any, .any, .val, (.int .i64), (.int .i64)] else []
 | 4 => bif Nat.beq i 0 then [.any, .any] else []
 | _ => []
noncomputable def F162 (L : Lo) (lp : LP) (p0 p1 : Value) (df : Bool) (u : Option zL) (h : zD) (n : Nat) (k : KO) : Bool :=
 yX L 181 [p0, p1] h n (fun c4 h5 n6 =>
 zE P L 162 k (.panic c4) (fo162 (.pointer none)) (W.mk [] u h5 n6)) fun a1 h2 n3 =>
 opt (xD 0 a1) fun v7 =>
 opt (xD 1 a1) fun v8 =>
 rtB v8 fun a9 =>
 grd a9 (fun AX =>
 AX h2 n3 v7) (fun AJ AK AL =>
 grd a9 (fun AY =>
 yB ineB P .neq 9 true AL (.string (ByteArray.mk #[])) fun AZ =>
 AY AJ AK (.bool AZ)) (fun Aa Ab AM =>
 rtB (sel a9 AM (.bool false)) fun AN =>
 yX L 120 [(.bool AN), (.int .i64 3)] Aa Ab (fun Ac Ad Ae =>
 zE P L 162 k (.panic Ac) (fo162 (.pointer none)) (W.mk [] u Ad Ae)) fun Af Ag Ah =>
 yX L 182 [v7, (.string (ByteArray.mk #[32]))] Ag Ah (fun Ai Aj Ak =>
 zE P L 162 k (.panic Ai) (fo162 (.pointer none)) (W.mk [] u Aj Ak)) fun AO Al Am =>
 opt (xP P 189 [(0, AO)]) fun AP =>
 eBox AP Al Am fun AF An AE =>
 opt (qC AE) fun AQ =>
 opt (zB P 189 0 AQ) fun AR =>
 opt (zF P 23 AF AR) fun AS =>
 opt (yL P .len [23] [AS] AF) fun Ao =>
 rtI .i64 Ao fun Ap =>
 lp 1000005 ⟨162, none, df⟩ (fr162 p0 p1 ud ud (.pointer none) v7 (vb a9) AE ud ud a1 p0 p1 a1 v7 (vb a9) (vb a9) (vb a9) AL AM (vb AN) Af v7 AO AP AE AE AQ AR AS (vi Ap) (vi 0) ud ud ud ud ud ud ud ud) (W.mk [] u AF An) (endA noK (blkA 0 (fun AA Aq =>
 zO (zA AA 7) fun AG =>
 onW Aq fun Ar As At Au =>
 zE P L 162 k .ret (fj162_0 AA AG AG (zA AA 9) (zA AA 29) (zA AA 30) (zA AA 31) (zA AA 32) (zA AA 33) (zA AA 34) (zA AA 35) (zA AA 36) (zA AA 37) (zA AA 38) AG) (W.mk Ar As At Au)) (zE P L 162 k)))) AJ AK) h2 n3
theorem F162_eq (L : Lo) (lp : LP) (p0 p1 : Value) (df : Bool) (u : Option zL) (h : zD) (n : Nat) (k : KO) : wQ P hint162 L lp 162 [p0, p1] df u h n k = F162 L lp p0 p1 df u h n k := by kernel_rfl
noncomputable def B162_1000005 (L : Lo) (lp : LP) (rd : Option Nat) (df : Bool) (t : Fr) (w : W) (ka : KX) : Bool :=
 zO (zA t 7) fun AG =>
 zO (zA t 29) fun AD =>
 rtI .i64 (zA t 30) fun AE =>
 rtI .i64 (zA t 31) fun AC =>
 onW w fun AH AI AJ AM =>
 fb (vD AC AE) fun AF =>
 br AF (
 blkJ (fun AO =>
 opt (zT P 23 AD (.int .i64 AC)) fun AK =>
 opt (zF P 9 AJ AK) fun AB =>
 yB ineB P .neq 9 true AB (.string (ByteArray.mk #[])) fun AL =>
 yX L 120 [(.bool AL), (.int .i64 3)] AJ AM (fun AP AQ AR =>
 ka (.panic AP) (fj162_0 t (zA t 4) AG AB AD (vi AE) (vi AC) (vb AF) AK AB AB (vb AL) (zA t 37) (zA t 38) (zA t 39)) (W.mk AH AI AQ AR)) fun AS AT AU =>
 AO (fj162_0 t (zA t 4) AG AB AD (vi AE) (vi AC) (vb AF) AK AB AB (vb AL) AS (zA t 38) (zA t 39)) (W.mk AH AI AT AU)) (fun AA AV =>
 zO (zA AA 7) fun AW =>
 zO (zA AA 29) fun AX =>
 rtI .i64 (zA AA 30) fun AY =>
 rtI .i64 (zA AA 31) fun AZ =>
 onW AV fun Aa Ab Ac Ad =>
 fi (vK .i64 (tH AZ 1)) fun AN =>
 lp 1000005 ⟨162, rd, df⟩ (fj162_0 AA (zA AA 4) AW (zA AA 9) AX (vi AY) (vi AN) (zA AA 32) (zA AA 33) (zA AA 34) (zA AA 35) (zA AA 36) (zA AA 37) (vi AN) (zA AA 39)) (W.mk Aa Ab Ac Ad) ka)) (
 ka (.exit 0) (fj162_0 t (zA t 4) AG (zA t 9) AD (vi AE) (vi AC) (vb AF) (zA t 33) (zA t 34) (zA t 35) (zA t 36) (zA t 37) (zA t 38) (zA t 39)) (W.mk AH AI AJ AM))
theorem B162_1000005_eq (L : Lo) (lp : LP) (rd : Option Nat) (df : Bool) (t : Fr) (w : W) (ka : KX) : pC P hint162 L lp (unL (yD P 162 1000005)) ⟨162, rd, df⟩ t w ka = B162_1000005 L lp rd df t w ka := by kernel_rfl
theorem l162 : xB P 162 = true := by kernel_rfl
theorem r162 : wA P 162 = some [.tmp 4] := by kernel_rfl
theorem lp162_1000005 : uX (yD P 162 1000005) = true := by kernel_rfl
noncomputable abbrev fr119 (s0 s1 s2 s3 s4 s5 s6 s7 s8 s9 s10 s11 s12 s13 s14 : Value) : Fr := (.node (.node (.node (.node .leaf s7 .leaf) s3 (.node .leaf s11 .leaf)) s1 (.node (.node .leaf s9 .leaf) s5 (.node .leaf s13 .leaf))) s0 (.node (.node (.node .leaf s8 .leaf) s4 (.node .leaf s12 .leaf)) s2 (.node (.node .leaf s10 .leaf) s6 (.node .leaf s14 .leaf))))
noncomputable def hint119 : tJ := fun kind _ i => match kind with
 | 0 => bif Nat.beq i 1000002 then [.val, .val, .any, .any, .any, .val] else []
 | 1 => bif Nat.beq i 0 then [.any, .any, .any, .any, .any, .val] else bif Nat.beq i 1 then [.val, .val, .any, .any, .any, .val] else []
 | 2 => bif Nat.beq i 0 then [.val, .val, .any, .any, .any, .val] else []
 | 4 => bif Nat.beq i 0 then [.any, .any] else []
 | _ => []
noncomputable def F119 (L : Lo) (lp : LP) (p0 p1 : Value) (df : Bool) (u : Option zL) (h : zD) (n : Nat) (k : KO) : Bool :=
 lp 1000002 ⟨119, none, df⟩ (fr119 p0 p1 ud ud (.slice none 0 0) (.slice none 0 0) ud ud ud ud ud ud ud ud ud) (W.mk [] u h n) (endA noK (blkA 0 (fun t1 w2 =>
 zO (zA t1 5) fun s3 =>
 onW w2 fun d4 u5 h6 n7 =>
 zE P L 119 k .ret (fr119 (zA t1 0) (zA t1 1) (zA t1 2) (zA t1 3) s3 s3 (zA t1 6) (zA t1 7) (zA t1 8) (zA t1 9) (zA t1 10) (zA t1 11) (zA t1 12) (zA t1 13) s3) (W.mk d4 u5 h6 n7)) (zE P L 119 k)))
theorem F119_eq (L : Lo) (lp : LP) (p0 p1 : Value) (df : Bool) (u : Option zL) (h : zD) (n : Nat) (k : KO) : wQ P hint119 L lp 119 [p0, p1] df u h n k = F119 L lp p0 p1 df u h n k := by kernel_rfl
noncomputable def B119_1000002 (L : Lo) (lp : LP) (rd : Option Nat) (df : Bool) (t : Fr) (w : W) (ka : KX) : Bool :=
 zO (zA t 0) fun s8 =>
 zO (zA t 1) fun s9 =>
 zO (zA t 5) fun AD =>
 onW w fun AE AF AN AO =>
 qN L .i64 154 [s8] AN AO (fun AP AQ AR =>
 ka (.panic AP) (fr119 s8 s9 (zA t 2) (zA t 3) (zA t 4) AD s8 (zA t 7) (zA t 8) (zA t 9) (zA t 10) (zA t 11) (zA t 12) (zA t 13) (zA t 14)) (W.mk AE AF AQ AR)) fun AG AI AJ =>
 fb (vD 0 AG) fun AH =>
 br AH (
 blkJ (fun AS =>
 wZ L s9 [] AI AJ (fun AT AU AV =>
 ka (.panic AT) (fr119 s8 s9 (zA t 2) (zA t 3) (zA t 4) AD s8 (vi AG) (vb AH) AD s9 (zA t 11) (zA t 12) (zA t 13) (zA t 14)) (W.mk AE AF AU AV)) fun AK AW AX =>
 zN P 23 1 [(0, AK)] AW AX fun AY AZ AL =>
 wE P [23, 23] [AD, AL] AY AZ fun Aa Ab AM =>
 AS (fr119 s8 s9 (zA t 2) (zA t 3) (zA t 4) AM s8 (vi AG) (vb AH) AD s9 AK AL AM (zA t 14)) (W.mk AE AF Aa Ab)) (fun AA Ac =>
 zO (zA AA 0) fun Ad =>
 zO (zA AA 1) fun Ae =>
 zO (zA AA 5) fun Af =>
 onW Ac fun Ag Ah Ai Aj =>
 lp 1000002 ⟨119, rd, df⟩ (fr119 Ad Ae (zA AA 2) (zA AA 3) (zA AA 4) Af (zA AA 6) (zA AA 7) (zA AA 8) (zA AA 9) (zA AA 10) (zA AA 11) (zA AA 12) (zA AA 13) (zA AA 14)) (W.mk Ag Ah Ai Aj) ka)) (
 ka (.exit 0) (fr119 s8 s9 (zA t 2) (zA t 3) (zA t 4) AD s8 (vi AG) (vb AH) (zA t 9) (zA t 10) (zA t 11) (zA t 12) (zA t 13) (zA t 14)) (W.mk AE AF AI AJ))
theorem B119_1000002_eq (L : Lo) (lp : LP) (rd : Option Nat) (df : Bool) (t : Fr) (w : W) (ka : KX) : pC P hint119 L lp (unL (yD P 119 1000002)) ⟨119, rd, df⟩ t w ka = B119_1000002 L lp rd df t w ka := by kernel_rfl
theorem l119 : xB P 119 = true := by kernel_rfl
theorem r119 : wA P 119 = some [.tmp 4] := by kernel_rfl
theorem lp119_1000002 : uX (yD P 119 1000002) = true := by kernel_rfl
noncomputable abbrev fr121 (s0 s1 s2 s3 s4 s5 s6 s7 s8 s9 s10 s11 s12 s13 s14 : Value) : Fr := (.node (.node (.node (.node .leaf s7 .leaf) s3 (.node .leaf s11 .leaf)) s1 (.node (.node .leaf s9 .leaf) s5 (.node .leaf s13 .leaf))) s0 (.node (.node (.node .leaf s8 .leaf) s4 (.node .leaf s12 .leaf)) s2 (.node (.node .leaf s10 .leaf) s6 (.node .leaf s14 .leaf))))
noncomputable def hint121 : tJ := fun kind _ i => match kind with
 | 0 => bif Nat.beq i 1000002 then [.val, .val, .any, .any, .any, .val] else []
 | 1 => bif Nat.beq i 0 then [.any, .any, .any, .any, .any, .val] else bif Nat.beq i 1 then [.val, .val, .any, .any, .any, .val] else []
 | 2 => bif Nat.beq i 0 then [.val, .val, .any, .any, .any, .val] else []
 | 4 => bif Nat.beq i 0 then [.any, .any] else []
 | _ => []
noncomputable def F121 (L : Lo) (lp : LP) (p0 p1 : Value) (df : Bool) (u : Option zL) (h : zD) (n : Nat) (k : KO) : Bool :=
 lp 1000002 ⟨121, none, df⟩ (fr121 p0 p1 ud ud (.slice none 0 0) (.slice none 0 0) ud ud ud ud ud ud ud ud ud) (W.mk [] u h n) (endA noK (blkA 0 (fun t1 w2 =>
 zO (zA t1 5) fun s3 =>
 onW w2 fun d4 u5 h6 n7 =>
 zE P L 121 k .ret (fr121 (zA t1 0) (zA t1 1) (zA t1 2) (zA t1 3) s3 s3 (zA t1 6) (zA t1 7) (zA t1 8) (zA t1 9) (zA t1 10) (zA t1 11) (zA t1 12) (zA t1 13) s3) (W.mk d4 u5 h6 n7)) (zE P L 121 k)))
theorem F121_eq (L : Lo) (lp : LP) (p0 p1 : Value) (df : Bool) (u : Option zL) (h : zD) (n : Nat) (k : KO) : wQ P hint121 L lp 121 [p0, p1] df u h n k = F121 L lp p0 p1 df u h n k := by kernel_rfl
noncomputable def B121_1000002 (L : Lo) (lp : LP) (rd : Option Nat) (df : Bool) (t : Fr) (w : W) (ka : KX) : Bool :=
 zO (zA t 0) fun s8 =>
 zO (zA t 1) fun s9 =>
 zO (zA t 5) fun AD =>
 onW w fun AE AF AN AO =>
 qN L .i64 154 [s8] AN AO (fun AP AQ AR =>
 ka (.panic AP) (fr121 s8 s9 (zA t 2) (zA t 3) (zA t 4) AD s8 (zA t 7) (zA t 8) (zA t 9) (zA t 10) (zA t 11) (zA t 12) (zA t 13) (zA t 14)) (W.mk AE AF AQ AR)) fun AG AI AJ =>
 fb (vD 0 AG) fun AH =>
 br AH (
 blkJ (fun AS =>
 invokeI L .i64 s9 [] AI AJ (fun AT AU AV =>
 ka (.panic AT) (fr121 s8 s9 (zA t 2) (zA t 3) (zA t 4) AD s8 (vi AG) (vb AH) AD s9 (zA t 11) (zA t 12) (zA t 13) (zA t 14)) (W.mk AE AF AU AV)) fun AK AW AX =>
 zN P 40 1 [(0, (.int .i64 AK))] AW AX fun AY AZ AL =>
 wE P [40, 40] [AD, AL] AY AZ fun Aa Ab AM =>
 AS (fr121 s8 s9 (zA t 2) (zA t 3) (zA t 4) AM s8 (vi AG) (vb AH) AD s9 (vi AK) AL AM (zA t 14)) (W.mk AE AF Aa Ab)) (fun AA Ac =>
 zO (zA AA 0) fun Ad =>
 zO (zA AA 1) fun Ae =>
 zO (zA AA 5) fun Af =>
 onW Ac fun Ag Ah Ai Aj =>
 lp 1000002 ⟨121, rd, df⟩ (fr121 Ad Ae (zA AA 2) (zA AA 3) (zA AA 4) Af (zA AA 6) (zA AA 7) (zA AA 8) (zA AA 9) (zA AA 10) (zA AA 11) (zA AA 12) (zA AA 13) (zA AA 14)) (W.mk Ag Ah Ai Aj) ka)) (
 ka (.exit 0) (fr121 s8 s9 (zA t 2) (zA t 3) (zA t 4) AD s8 (vi AG) (vb AH) (zA t 9) (zA t 10) (zA t 11) (zA t 12) (zA t 13) (zA t 14)) (W.mk AE AF AI AJ))
theorem B121_1000002_eq (L : Lo) (lp : LP) (rd : Option Nat) (df : Bool) (t : Fr) (w : W) (ka : KX) : pC P hint121 L lp (unL (yD P 121 1000002)) ⟨121, rd, df⟩ t w ka = B121_1000002 L lp rd df t w ka := by kernel_rfl
theorem l121 : xB P 121 = true := by kernel_rfl
theorem r121 : wA P 121 = some [.tmp 4] := by kernel_rfl
theorem lp121_1000002 : uX (yD P 121 1000002) = true := by kernel_rfl
noncomputable abbrev fr158 (s0 s1 s2 s3 s4 s5 s6 s7 s8 s9 s10 s11 s12 s13 s14 s15 s16 s17 s18 s19 s20 s21 s22 s23 s24 s25 : Value) : Fr := (.node (.node (.node (.node (.node .leaf s15 .leaf) s7 (.node .leaf s23 .leaf)) s3 (.node (.node .leaf s19 .leaf) s11 .leaf)) s1 (.node (.node (.node .leaf s17 .leaf) s9 (.node .leaf s25 .leaf)) s5 (.node (.node .leaf s21 .leaf) s13 .leaf))) s0 (.node (.node (.node (.node .leaf s16 .leaf) s8 (.node .leaf s24 .leaf)) s4 (.node (.node .leaf s20 .leaf) s12 .leaf)) s2 (.node (.node (.node .leaf s18 .leaf) s10 .leaf) s6 (.node (.node .leaf s22 .leaf) s14 .leaf))))
noncomputable abbrev fo158 : Fr := fr158 ud ud ud ud ud ud ud ud ud ud ud ud ud ud ud ud ud ud ud ud ud ud ud ud ud ud
noncomputable def hint158 : tJ := fun kind _ i => match kind with
 | 4 => bif Nat.beq i 0 then [.any, .any] else []
 | _ => []
noncomputable def F158 (L : Lo) (lp : LP) (p0 p1 : Value) (df : Bool) (u : Option zL) (h : zD) (n : Nat) (k : KO) : Bool :=
 yX L 117 [p1] h n (fun c4 h5 n6 =>
 zE P L 158 k (.panic c4) fo158 (W.mk [] u h5 n6)) fun a1 h2 n3 =>
 opt (qC p0) fun v7 =>
 opt (zB P 50 0 v7) fun v8 =>
 zV P 3 v8 (.int .i64 6) h2 n3 fun h9 AK Ak =>
 opt (qC p0) fun AL =>
 opt (zB P 50 5 AL) fun AM =>
 zV P 9 AM a1 h9 AK fun AN AO Al =>
 letV (.func (.func 122) (Array.mk [p1]) (Array.mk [])) fun AP =>
 yX L 121 [p1, AP] AN AO (fun AQ AR AS =>
 zE P L 158 k (.panic AQ) fo158 (W.mk [] u AR AS)) fun AT AU AV =>
 opt (qC p0) fun AW =>
 opt (zB P 50 6 AW) fun AX =>
 zV P 40 AX AT AU AV fun AA AY Am =>
 opt (qC p0) fun AZ =>
 opt (zB P 50 6 AZ) fun Aa =>
 opt (zF P 40 AA Aa) fun Ab =>
 opt (yL P .len [40] [Ab] AA) fun Ac =>
 rtI .i64 Ac fun Ad =>
 fb (rM Ad 16) fun Ae =>
 yX L 120 [(.bool Ae), (.int .i64 2)] AA AY (fun Af Ag Ah =>
 zE P L 158 k (.panic Af) fo158 (W.mk [] u Ag Ah)) fun An Ai Aj =>
 zE P L 158 k .ret fo158 (W.mk [] u Ai Aj)
theorem F158_eq (L : Lo) (lp : LP) (p0 p1 : Value) (df : Bool) (u : Option zL) (h : zD) (n : Nat) (k : KO) : wQ P hint158 L lp 158 [p0, p1] df u h n k = F158 L lp p0 p1 df u h n k := by kernel_rfl
theorem l158 : xB P 158 = true := by kernel_rfl
theorem r158 : wA P 158 = some [] := by kernel_rfl
noncomputable abbrev fr157 (s0 s1 s2 s3 s4 s5 s6 s7 s8 s9 s10 s11 s12 s13 s14 s15 s16 s17 s18 s19 s20 s21 s22 s23 s24 s25 s26 s27 s28 s29 s30 s31 s32 s33 s34 s35 s36 s37 s38 s39 s40 s41 s42 s43 s44 s45 s46 s47 s48 s49 s50 s51 s52 s53 : Value) : Fr := (.node (.node (.node (.node (.node (.node .leaf s31 .leaf) s15 (.node .leaf s47 .leaf)) s7 (.node (.node .leaf s39 .leaf) s23 .leaf)) s3 (.node (.node (.node .leaf s35 .leaf) s19 (.node .leaf s51 .leaf)) s11 (.node (.node .leaf s43 .leaf) s27 .leaf))) s1 (.node (.node (.node (.node .leaf s33 .leaf) s17 (.node .leaf s49 .leaf)) s9 (.node (.node .leaf s41 .leaf) s25 .leaf)) s5 (.node (.node (.node .leaf s37 .leaf) s21 (.node .leaf s53 .leaf)) s13 (.node (.node .leaf s45 .leaf) s29 .leaf)))) s0 (.node (.node (.node (.node (.node .leaf s32 .leaf) s16 (.node .leaf s48 .leaf)) s8 (.node (.node .leaf s40 .leaf) s24 .leaf)) s4 (.node (.node (.node .leaf s36 .leaf) s20 (.node .leaf s52 .leaf)) s12 (.node (.node .leaf s44 .leaf) s28 .leaf))) s2 (.node (.node (.node (.node .leaf s34 .leaf) s18 (.node .leaf s50 .leaf)) s10 (.node (.node .leaf s42 .leaf) s26 .leaf)) s6 (.node (.node (.node .leaf s38 .leaf) s22 .leaf) s14 (.node (.node .leaf s46 .leaf) s30 .leaf)))))
noncomputable abbrev fo157 (s2 : Value) : Fr := fr157 ud ud s2 ud ud ud ud ud ud ud ud ud ud ud ud ud ud ud ud ud ud ud ud ud ud ud ud ud ud ud ud ud ud ud ud ud ud ud ud ud ud ud ud ud ud ud ud ud ud ud ud ud ud ud
noncomputable abbrev fj157_0 (t : Fr) (s2 s3 : Value) : Fr := fr157 (zA t 0) (zA t 1) s2 s3 (zA t 4) (zA t 5) (zA t 6) (zA t 7) (zA t 8) (zA t 9) (zA t 10) (zA t 11) (zA t 12) (zA t 13) (zA t 14) (zA t 15) (zA t 16) (zA t 17) (zA t 18) (zA t 19) (zA t 20) (zA t 21) (zA t 22) (zA t 23) (zA t 24) (zA t 25) (zA t 26) (zA t 27) (zA t 28) (zA t 29) (zA t 30) (zA t 31) (zA t 32) (zA t 33) (zA t 34) (zA t 35) (zA t 36) (zA t 37) (zA t 38) (zA t 39) (zA t 40) (zA t 41) (zA t 42) (zA t 43) (zA t 44) (zA t 45) (zA t 46) (zA t 47) (zA t 48) (zA t 49) (zA t 50) (zA t 51) (zA t 52) (zA t 53)
noncomputable def hint157 : tJ := fun kind _ i => match kind with
 | 1 => bif Nat.beq i 0 then [.any, .any, .val, .val] else []
 | 2 => bif Nat.beq i 10 then [.any, .any, .val, .val] else bif Nat.beq i 12 then [.any, .any, .val, .val] else bif Nat.beq i 14 then [.any, .any, .val, .val] else bif Nat.beq i 16 then [.any, .any, .val, .val] else []
 | 4 => bif Nat.beq i 0 then [.any] else []
 | _ => []
noncomputable def F157 (L : Lo) (lp : LP) (p0 : Value) (df : Bool) (u : Option zL) (h : zD) (n : Nat) (k : KO) : Bool :=
 tD P 50 h n fun h1 n2 v3 =>
 qN L .i64 122 [p0] h1 n2 (fun c7 h8 n9 =>
 zE P L 157 k (.panic c7) (fo157 v3) (W.mk [] u h8 n9)) fun a4 h5 n6 =>
 opt (xP P 50 [(1, (.int .i64 a4))]) fun AI =>
 tD P 50 h5 n6 fun A0 A1 AC =>
 zV P 50 AC AI A0 A1 fun A2 A3 Cn =>
 yX L 116 [p0, (.string (ByteArray.mk #[61]))] A2 A3 (fun A4 A5 A6 =>
 zE P L 157 k (.panic A4) (fo157 v3) (W.mk [] u A5 A6)) fun AJ A7 A8 =>
 yX L 117 [p0] A7 A8 (fun A9 BA BB =>
 zE P L 157 k (.panic A9) (fo157 v3) (W.mk [] u BA BB)) fun AB AK AL =>
 blkJ (fun BC =>
 yB wJ P .eql 9 true AB (.string (ByteArray.mk #[99, 111, 110, 115, 116])) fun AE =>
 brJ AE (fun BD =>
 qN L .i64 155 [p0] AK AL (fun BE BF BG =>
 zE P L 157 k (.panic BE) (fo157 v3) (W.mk [] u BF BG)) fun AT BH BI =>
 opt (zB P 50 0 AC) fun AU =>
 zV P 3 AU (.int .i64 1) BH BI fun BJ BK Co =>
 opt (zB P 50 4 AC) fun AV =>
 zV P 3 AV (.int .i64 AT) BJ BK fun BL BM Cp =>
 BD (fr157 p0 ud v3 AC AB p0 (vi a4) AI p0 AJ p0 AB AB ud ud ud ud ud ud ud ud ud ud ud ud ud ud ud ud ud ud (vb AE) (vb AE) p0 (vi AT) AU AV ud ud ud ud ud ud ud ud ud ud ud ud ud ud ud ud ud) (W.mk [] u BL BM)) (fun BN =>
 yB wJ P .eql 9 true AB (.string (ByteArray.mk #[99, 111, 112, 121])) fun AF =>
 brJ AF (fun BO =>
 qN L .i64 122 [p0] AK AL (fun BP BQ BR =>
 zE P L 157 k (.panic BP) (fo157 v3) (W.mk [] u BQ BR)) fun AW BS BT =>
 opt (zB P 50 0 AC) fun AX =>
 zV P 3 AX (.int .i64 2) BS BT fun BU BV Cq =>
 opt (zB P 50 2 AC) fun AY =>
 zV P 3 AY (.int .i64 AW) BU BV fun BW BX Cr =>
 BO (fr157 p0 ud v3 AC AB p0 (vi a4) AI p0 AJ p0 AB AB ud ud ud ud ud ud ud ud ud ud ud ud ud ud ud ud ud ud (vb AE) (vb AE) ud ud ud ud (vb AF) (vb AF) p0 (vi AW) AX AY ud ud ud ud ud ud ud ud ud ud ud) (W.mk [] u BW BX)) (fun BY =>
 yB wJ P .eql 9 true AB (.string (ByteArray.mk #[108, 111, 97, 100])) fun AG =>
 brJ AG (fun BZ =>
 qN L .i64 122 [p0] AK AL (fun Ba Bb Bc =>
 zE P L 157 k (.panic Ba) (fo157 v3) (W.mk [] u Bb Bc)) fun AZ Bd Be =>
 opt (zB P 50 0 AC) fun Aa =>
 zV P 3 Aa (.int .i64 4) Bd Be fun Bf Bg Cs =>
 opt (zB P 50 2 AC) fun Ab =>
 zV P 3 Ab (.int .i64 AZ) Bf Bg fun Bh Bi Ct =>
 BZ (fr157 p0 ud v3 AC AB p0 (vi a4) AI p0 AJ p0 AB AB ud ud ud ud ud ud ud ud ud ud ud ud ud ud ud ud ud ud (vb AE) (vb AE) ud ud ud ud (vb AF) (vb AF) ud ud ud ud (vb AG) (vb AG) p0 (vi AZ) Aa Ab ud ud ud ud ud) (W.mk [] u Bh Bi)) (fun Bj =>
 yB wJ P .eql 9 true AB (.string (ByteArray.mk #[99, 97, 108, 108])) fun AM =>
 brJ AM (fun Bk =>
 yX L 158 [AC, p0] AK AL (fun Bl Bm Bn =>
 zE P L 157 k (.panic Bl) (fo157 v3) (W.mk [] u Bm Bn)) fun Bo Bp Bq =>
 Bk (fr157 p0 ud v3 AC AB p0 (vi a4) AI p0 AJ p0 AB AB ud ud ud ud ud ud ud ud ud ud ud ud ud ud ud ud ud ud (vb AE) (vb AE) ud ud ud ud (vb AF) (vb AF) ud ud ud ud (vb AG) (vb AG) ud ud ud ud (vb AM) (vb AM) p0 Bo ud) (W.mk [] u Bp Bq)) (fun Br =>
 opt (zB P 50 0 AC) fun Ac =>
 zV P 3 Ac (.int .i64 3) AK AL fun Bs Bt Cu =>
 opt (zB P 50 5 AC) fun Ad =>
 zV P 9 Ad AB Bs Bt fun Bu Bv Cv =>
 letV (.func (.func 122) (Array.mk [p0]) (Array.mk [])) fun Ae =>
 yX L 121 [p0, Ae] Bu Bv (fun Bw Bx By =>
 zE P L 157 k (.panic Bw) (fo157 v3) (W.mk [] u Bx By)) fun Af Bz B0 =>
 opt (zB P 50 6 AC) fun Ag =>
 zV P 40 Ag Af Bz B0 fun AN B1 Cw =>
 opt (zB P 50 6 AC) fun Ah =>
 opt (zF P 40 AN Ah) fun Ai =>
 opt (yL P .len [40] [Ai] AN) fun B2 =>
 rtI .i64 B2 fun Aj =>
 fb (rM 1 Aj) fun Ak =>
 yX L 120 [(.bool Ak), (.int .i64 3)] AN B1 (fun B3 B4 B5 =>
 zE P L 157 k (.panic B3) (fo157 v3) (W.mk [] u B4 B5)) fun B6 AO B7 =>
 opt (zB P 50 6 AC) fun Al =>
 opt (zF P 40 AO Al) fun Am =>
 opt (yL P .len [40] [Am] AO) fun B8 =>
 rtI .i64 B8 fun An =>
 fb (rM An 2) fun Ao =>
 yX L 120 [(.bool Ao), (.int .i64 3)] AO B7 (fun B9 CA CB =>
 zE P L 157 k (.panic B9) (fo157 v3) (W.mk [] u CA CB)) fun CC CD CE =>
 Br (fr157 p0 ud v3 AC AB p0 (vi a4) AI p0 AJ p0 AB AB AB Ac Ad p0 p0 Ae Af Ag Ah Ai (vi Aj) (vb Ak) B6 Al Am (vi An) (vb Ao) CC (vb AE) (vb AE) ud ud ud ud (vb AF) (vb AF) ud ud ud ud (vb AG) (vb AG) ud ud ud ud (vb AM) (vb AM) ud ud ud) (W.mk [] u CD CE)) (fun AP CF =>
 zO (zA AP 2) fun CG =>
 zO (zA AP 3) fun CH =>
 onW CF fun CI CJ CK CL =>
 Bj (fj157_0 AP CG CH) (W.mk CI CJ CK CL))) (fun AQ CM =>
 zO (zA AQ 2) fun CN =>
 zO (zA AQ 3) fun CO =>
 onW CM fun CP CQ CR CS =>
 BY (fj157_0 AQ CN CO) (W.mk CP CQ CR CS))) (fun AR CT =>
 zO (zA AR 2) fun CU =>
 zO (zA AR 3) fun CV =>
 onW CT fun CW CX CY CZ =>
 BN (fj157_0 AR CU CV) (W.mk CW CX CY CZ))) (fun AS Ca =>
 zO (zA AS 2) fun Cb =>
 zO (zA AS 3) fun Cc =>
 onW Ca fun Cd Ce Cf Cg =>
 BC (fj157_0 AS Cb Cc) (W.mk Cd Ce Cf Cg))) (fun AA Ch =>
 zO (zA AA 2) fun Ap =>
 zO (zA AA 3) fun Aq =>
 onW Ch fun Ci Cj Ar Ck =>
 opt (zF P 50 Ar Aq) fun As =>
 zV P 50 Ap As Ar Ck fun Cl Cm Cx =>
 zE P L 157 k .ret (fr157 (zA AA 0) (zA AA 1) Ap Aq (zA AA 4) (zA AA 5) (zA AA 6) (zA AA 7) (zA AA 8) (zA AA 9) (zA AA 10) (zA AA 11) (zA AA 12) (zA AA 13) (zA AA 14) (zA AA 15) (zA AA 16) (zA AA 17) (zA AA 18) (zA AA 19) (zA AA 20) (zA AA 21) (zA AA 22) (zA AA 23) (zA AA 24) (zA AA 25) (zA AA 26) (zA AA 27) (zA AA 28) (zA AA 29) (zA AA 30) (zA AA 31) (zA AA 32) (zA AA 33) (zA AA 34) (zA AA 35) (zA AA 36) (zA AA 37) (zA AA 38) (zA AA 39) (zA AA 40) (zA AA 41) (zA AA 42) (zA AA 43) (zA AA 44) (zA AA 45) (zA AA 46) (zA AA 47) (zA AA 48) (zA AA 49) (zA AA 50) (zA AA 51) (zA AA 52) As) (W.mk Ci Cj Cl Cm))
theorem F157_eq (L : Lo) (lp : LP) (p0 : Value) (df : Bool) (u : Option zL) (h : zD) (n : Nat) (k : KO) : wQ P hint157 L lp 157 [p0] df u h n k = F157 L lp p0 df u h n k := by kernel_rfl
theorem l157 : xB P 157 = true := by kernel_rfl
theorem r157 : wA P 157 = some [.cell 2 50] := by kernel_rfl
noncomputable abbrev fr123 (s0 s1 s2 s3 s4 s5 s6 s7 s8 s9 s10 s11 s12 s13 s14 s15 s16 s17 s18 s19 s20 s21 s22 s23 s24 s25 s26 s27 s28 s29 s30 s31 s32 s33 s34 s35 s36 s37 s38 s39 s40 s41 s42 s43 s44 s45 s46 s47 s48 s49 s50 s51 : Value) : Fr := (.node (.node (.node (.node (.node (.node .leaf s31 .leaf) s15 (.node .leaf s47 .leaf)) s7 (.node (.node .leaf s39 .leaf) s23 .leaf)) s3 (.node (.node (.node .leaf s35 .leaf) s19 (.node .leaf s51 .leaf)) s11 (.node (.node .leaf s43 .leaf) s27 .leaf))) s1 (.node (.node (.node (.node .leaf s33 .leaf) s17 (.node .leaf s49 .leaf)) s9 (.node (.node .leaf s41 .leaf) s25 .leaf)) s5 (.node (.node (.node .leaf s37 .leaf) s21 .leaf) s13 (.node (.node .leaf s45 .leaf) s29 .leaf)))) s0 (.node (.node (.node (.node (.node .leaf s32 .leaf) s16 (.node .leaf s48 .leaf)) s8 (.node (.node .leaf s40 .leaf) s24 .leaf)) s4 (.node (.node (.node .leaf s36 .leaf) s20 .leaf) s12 (.node (.node .leaf s44 .leaf) s28 .leaf))) s2 (.node (.node (.node (.node .leaf s34 .leaf) s18 (.node .leaf s50 .leaf)) s10 (.node (.node .leaf s42 .leaf) s26 .leaf)) s6 (.node (.node (.node .leaf s38 .leaf) s22 .leaf) s14 (.node (.node .leaf s46 .leaf) s30 .leaf)))))
noncomputable abbrev fo123 (s2 : Value) : Fr := fr123 ud ud s2 ud ud ud ud ud ud ud ud ud ud ud ud ud ud ud ud ud ud ud ud ud ud ud ud ud ud ud ud ud ud ud ud ud ud ud ud ud ud ud ud ud ud ud ud ud ud ud ud ud
noncomputable abbrev fj123_0 (t : Fr) (s2 s3 : Value) : Fr := fr123 (zA t 0) (zA t 1) s2 s3 (zA t 4) (zA t 5) (zA t 6) (zA t 7) (zA t 8) (zA t 9) (zA t 10) (zA t 11) (zA t 12) (zA t 13) (zA t 14) (zA t 15) (zA t 16) (zA t 17) (zA t 18) (zA t 19) (zA t 20) (zA t 21) (zA t 22) (zA t 23) (zA t 24) (zA t 25) (zA t 26) (zA t 27) (zA t 28) (zA t 29) (zA t 30) (zA t 31) (zA t 32) (zA t 33) (zA t 34) (zA t 35) (zA t 36) (zA t 37) (zA t 38) (zA t 39) (zA t 40) (zA t 41) (zA t 42) (zA t 43) (zA t 44) (zA t 45) (zA t 46) (zA t 47) (zA t 48) (zA t 49) (zA t 50) (zA t 51)
noncomputable def hint123 : tJ := fun kind _ i => match kind with
 | 1 => bif Nat.beq i 0 then [.any, .any, .val, .val] else []
 | 2 => bif Nat.beq i 2 then [.val, .any, .val] else bif Nat.beq i 7 then [.any, .any, .val, .val] else bif Nat.beq i 10 then [.any, .any, .val, .val] else bif Nat.beq i 13 then [.any, .any, .val, .val] else bif Nat.beq i 17 then [.any, .any, .val, .val] else bif Nat.beq i 19 then [.any, .any, .val, .val] else []
 | 4 => bif Nat.beq i 0 then [.any] else []
 | _ => []
noncomputable def F123 (L : Lo) (lp : LP) (p0 : Value) (df : Bool) (u : Option zL) (h : zD) (n : Nat) (k : KO) : Bool :=
 tD P 50 h n fun h1 n2 v3 =>
 yX L 156 [p0, (.int .i64 1)] h1 n2 (fun c7 h8 n9 =>
 zE P L 123 k (.panic c7) (fo123 v3) (W.mk [] u h8 n9)) fun a4 h5 n6 =>
 yB wJ P .eql 9 true a4 (.string (ByteArray.mk #[61])) fun AI =>
 br AI (
 yX L 157 [p0] h5 n6 (fun Ax Ay Az =>
 zE P L 123 k (.panic Ax) (fo123 v3) (W.mk [] u Ay Az)) fun A0 A1 A2 =>
 zV P 50 v3 A0 A1 A2 fun A3 A4 DB =>
 zE P L 123 k .ret (fo123 v3) (W.mk [] u A3 A4)) (
 opt (xP P 50 []) fun AJ =>
 tD P 50 h5 n6 fun A5 A6 AC =>
 zV P 50 AC AJ A5 A6 fun A7 A8 DC =>
 yX L 153 [p0] A7 A8 (fun A9 BA BB =>
 zE P L 123 k (.panic A9) (fo123 v3) (W.mk [] u BA BB)) fun AE AL AM =>
 blkJ (fun BC =>
 yB wJ P .eql 9 true AE (.string (ByteArray.mk #[115, 116, 111, 114, 101])) fun AD =>
 brJ AD (fun BD =>
 qN L .i64 122 [p0] AL AM (fun BE BF BG =>
 zE P L 123 k (.panic BE) (fo123 v3) (W.mk [] u BF BG)) fun AV BH BI =>
 opt (zB P 50 0 AC) fun AW =>
 zV P 3 AW (.int .i64 5) BH BI fun BJ BK DD =>
 opt (zB P 50 2 AC) fun AX =>
 zV P 3 AX (.int .i64 AV) BJ BK fun BL BM DE =>
 qN L .i64 122 [p0] BL BM (fun BN BO BP =>
 zE P L 123 k (.panic BN) (fo123 v3) (W.mk [] u BO BP)) fun AY BQ BR =>
 opt (zB P 50 3 AC) fun AZ =>
 zV P 3 AZ (.int .i64 AY) BQ BR fun BS BT DF =>
 BD (fr123 p0 ud v3 AC p0 a4 (vb AI) ud ud AJ p0 AE ud (vb AD) (vb AD) p0 (vi AV) AW AX p0 (vi AY) AZ ud ud ud ud ud ud ud ud ud ud ud ud ud ud ud ud ud ud ud ud ud ud ud ud ud ud ud ud ud ud) (W.mk [] u BS BT)) (fun BU =>
 yB wJ P .eql 9 true AE (.string (ByteArray.mk #[99, 97, 108, 108])) fun AF =>
 brJ AF (fun BV =>
 opt (zB P 50 1 AC) fun Aa =>
 zV P 3 Aa (.int .i64 (-1)) AL AM fun BW BX DG =>
 yX L 158 [AC, p0] BW BX (fun BY BZ Ba =>
 zE P L 123 k (.panic BY) (fo123 v3) (W.mk [] u BZ Ba)) fun Bb Bc Bd =>
 BV (fr123 p0 ud v3 AC p0 a4 (vb AI) ud ud AJ p0 AE ud (vb AD) (vb AD) ud ud ud ud ud ud ud (vb AF) (vb AF) Aa p0 Bb ud ud ud ud ud ud ud ud ud ud ud ud ud ud ud ud ud ud ud ud ud ud ud ud ud) (W.mk [] u Bc Bd)) (fun Be =>
 yB wJ P .eql 9 true AE (.string (ByteArray.mk #[98, 114])) fun AG =>
 brJ AG (fun Bf =>
 qN L .i64 122 [p0] AL AM (fun Bg Bh Bi =>
 zE P L 123 k (.panic Bg) (fo123 v3) (W.mk [] u Bh Bi)) fun Ab Bj Bk =>
 opt (zB P 50 0 AC) fun Ac =>
 zV P 3 Ac (.int .i64 7) Bj Bk fun Bl Bm DH =>
 opt (zB P 50 2 AC) fun Ad =>
 zV P 3 Ad (.int .i64 Ab) Bl Bm fun Bn Bo DI =>
 qN L .i64 122 [p0] Bn Bo (fun Bp Bq Br =>
 zE P L 123 k (.panic Bp) (fo123 v3) (W.mk [] u Bq Br)) fun Ae Bs Bt =>
 opt (zB P 50 7 AC) fun Af =>
 zV P 3 Af (.int .i64 Ae) Bs Bt fun Bu Bv DJ =>
 qN L .i64 122 [p0] Bu Bv (fun Bw Bx By =>
 zE P L 123 k (.panic Bw) (fo123 v3) (W.mk [] u Bx By)) fun Ag Bz B0 =>
 opt (zB P 50 8 AC) fun Ah =>
 zV P 3 Ah (.int .i64 Ag) Bz B0 fun B1 B2 DK =>
 Bf (fr123 p0 ud v3 AC p0 a4 (vb AI) ud ud AJ p0 AE ud (vb AD) (vb AD) ud ud ud ud ud ud ud (vb AF) (vb AF) ud ud ud (vb AG) (vb AG) p0 (vi Ab) Ac Ad p0 (vi Ae) Af p0 (vi Ag) Ah ud ud ud ud ud ud ud ud ud ud ud ud ud) (W.mk [] u B1 B2)) (fun B3 =>
 yB wJ P .eql 9 true AE (.string (ByteArray.mk #[106, 117, 109, 112])) fun AK =>
 brJ AK (fun B4 =>
 qN L .i64 122 [p0] AL AM (fun B5 B6 B7 =>
 zE P L 123 k (.panic B5) (fo123 v3) (W.mk [] u B6 B7)) fun Ai B8 B9 =>
 opt (zB P 50 0 AC) fun Aj =>
 zV P 3 Aj (.int .i64 8) B8 B9 fun CA CB DL =>
 opt (zB P 50 7 AC) fun Ak =>
 zV P 3 Ak (.int .i64 Ai) CA CB fun CC CD DM =>
 B4 (fr123 p0 ud v3 AC p0 a4 (vb AI) ud ud AJ p0 AE ud (vb AD) (vb AD) ud ud ud ud ud ud ud (vb AF) (vb AF) ud ud ud (vb AG) (vb AG) ud ud ud ud ud ud ud ud ud ud (vb AK) (vb AK) p0 (vi Ai) Aj Ak ud ud ud ud ud ud ud) (W.mk [] u CC CD)) (fun CE =>
 yB wJ P .eql 9 true AE (.string (ByteArray.mk #[114, 101, 116])) fun AN =>
 brJ AN (fun CF =>
 qN L .i64 122 [p0] AL AM (fun CG CH CI =>
 zE P L 123 k (.panic CG) (fo123 v3) (W.mk [] u CH CI)) fun Al CJ CK =>
 opt (zB P 50 0 AC) fun Am =>
 zV P 3 Am (.int .i64 9) CJ CK fun CL CM DN =>
 opt (zB P 50 2 AC) fun An =>
 zV P 3 An (.int .i64 Al) CL CM fun CN CO DO =>
 CF (fr123 p0 ud v3 AC p0 a4 (vb AI) ud ud AJ p0 AE ud (vb AD) (vb AD) ud ud ud ud ud ud ud (vb AF) (vb AF) ud ud ud (vb AG) (vb AG) ud ud ud ud ud ud ud ud ud ud (vb AK) (vb AK) ud ud ud ud (vb AN) (vb AN) p0 (vi Al) Am An ud) (W.mk [] u CN CO)) (fun CP =>
 yX L 120 [(.bool false), (.int .i64 3)] AL AM (fun CQ CR CS =>
 zE P L 123 k (.panic CQ) (fo123 v3) (W.mk [] u CR CS)) fun CT CU CV =>
 CP (fr123 p0 ud v3 AC p0 a4 (vb AI) ud ud AJ p0 AE CT (vb AD) (vb AD) ud ud ud ud ud ud ud (vb AF) (vb AF) ud ud ud (vb AG) (vb AG) ud ud ud ud ud ud ud ud ud ud (vb AK) (vb AK) ud ud ud ud (vb AN) (vb AN) ud ud ud ud ud) (W.mk [] u CU CV)) (fun AO CW =>
 zO (zA AO 2) fun CX =>
 zO (zA AO 3) fun CY =>
 onW CW fun CZ Ca Cb Cc =>
 CE (fj123_0 AO CX CY) (W.mk CZ Ca Cb Cc))) (fun AP Cd =>
 zO (zA AP 2) fun Ce =>
 zO (zA AP 3) fun Cf =>
 onW Cd fun Cg Ch Ci Cj =>
 B3 (fj123_0 AP Ce Cf) (W.mk Cg Ch Ci Cj))) (fun AQ Ck =>
 zO (zA AQ 2) fun Cl =>
 zO (zA AQ 3) fun Cm =>
 onW Ck fun Cn Co Cp Cq =>
 Be (fj123_0 AQ Cl Cm) (W.mk Cn Co Cp Cq))) (fun AR Cr =>
 zO (zA AR 2) fun Cs =>
 zO (zA AR 3) fun Ct =>
 onW Cr fun Cu Cv Cw Cx =>
 BU (fj123_0 AR Cs Ct) (W.mk Cu Cv Cw Cx))) (fun AS Cy =>
 zO (zA AS 2) fun Cz =>
 zO (zA AS 3) fun C0 =>
 onW Cy fun C1 C2 C3 C4 =>
 BC (fj123_0 AS Cz C0) (W.mk C1 C2 C3 C4))) (fun AA C5 =>
 zO (zA AA 2) fun Ao =>
 zO (zA AA 3) fun Ap =>
 onW C5 fun C6 C7 Aq C8 =>
 opt (zF P 50 Aq Ap) fun Ar =>
 zV P 50 Ao Ar Aq C8 fun C9 DA DP =>
 zE P L 123 k .ret (fr123 (zA AA 0) (zA AA 1) Ao Ap (zA AA 4) (zA AA 5) (zA AA 6) (zA AA 7) (zA AA 8) (zA AA 9) (zA AA 10) (zA AA 11) (zA AA 12) (zA AA 13) (zA AA 14) (zA AA 15) (zA AA 16) (zA AA 17) (zA AA 18) (zA AA 19) (zA AA 20) (zA AA 21) (zA AA 22) (zA AA 23) (zA AA 24) (zA AA 25) (zA AA 26) (zA AA 27) (zA AA 28) (zA AA 29) (zA AA 30) (zA AA 31) (zA AA 32) (zA AA 33) (zA AA 34) (zA AA 35) (zA AA 36) (zA AA 37) (zA AA 38) (zA AA 39) (zA AA 40) (zA AA 41) (zA AA 42) (zA AA 43) (zA AA 44) (zA AA 45) (zA AA 46) (zA AA 47) (zA AA 48) (zA AA 49) (zA AA 50) Ar) (W.mk C6 C7 C9 DA)))
theorem F123_eq (L : Lo) (lp : LP) (p0 : Value) (df : Bool) (u : Option zL) (h : zD) (n : Nat) (k : KO) : wQ P hint123 L lp 123 [p0] df u h n k = F123 L lp p0 df u h n k := by kernel_rfl
theorem l123 : xB P 123 = true := by kernel_rfl
theorem r123 : wA P 123 = some [.cell 2 50] := by kernel_rfl
noncomputable abbrev fr127 (s0 s1 s2 s3 s4 s5 s6 s7 s8 s9 s10 s11 s12 s13 s14 s15 s16 s17 s18 s19 s20 s21 s22 s23 s24 s25 s26 s27 s28 s29 s30 s31 s32 s33 s34 s35 s36 s37 s38 s39 s40 s41 s42 s43 s44 s45 s46 s47 s48 s49 s50 s51 s52 s53 s54 s55 s56 s57 s58 s59 s60 s61 s62 s63 s64 s65 s66 s67 s68 s69 s70 s71 s72 s73 : Value) : Fr := (.node (.node (.node (.node (.node (.node (.node .leaf s63 .leaf) s31 .leaf) s15 (.node .leaf s47 .leaf)) s7 (.node (.node (.node .leaf s71 .leaf) s39 .leaf) s23 (.node .leaf s55 .leaf))) s3 (.node (.node (.node (.node .leaf s67 .leaf) s35 .leaf) s19 (.node .leaf s51 .leaf)) s11 (.node (.node .leaf s43 .leaf) s27 (.node .leaf s59 .leaf)))) s1 (.node (.node (.node (.node (.node .leaf s65 .leaf) s33 .leaf) s17 (.node .leaf s49 .leaf)) s9 (.node (.node (.node .leaf s73 .leaf) s41 .leaf) s25 (.node .leaf s57 .leaf))) s5 (.node (.node (.node (.node .leaf s69 .leaf) s37 .leaf) s21 (.node .leaf s53 .leaf)) s13 (.node (.node .leaf s45 .leaf) s29 (.node .leaf s61 .leaf))))) s0 (.node (.node (.node (.node (.node (.node .leaf s64 .leaf) s32 .leaf) s16 (.node .leaf s48 .leaf)) s8 (.node (.node (.node .leaf s72 .leaf) s40 .leaf) s24 (.node .leaf s56 .leaf))) s4 (.node (.node (.node (.node .leaf s68 .leaf) s36 .leaf) s20 (.node .leaf s52 .leaf)) s12 (.node (.node .leaf s44 .leaf) s28 (.node .leaf s60 .leaf)))) s2 (.node (.node (.node (.node (.node .leaf s66 .leaf) s34 .leaf) s18 (.node .leaf s50 .leaf)) s10 (.node (.node .leaf s42 .leaf) s26 (.node .leaf s58 .leaf))) s6 (.node (.node (.node (.node .leaf s70 .leaf) s38 .leaf) s22 (.node .leaf s54 .leaf)) s14 (.node (.node .leaf s46 .leaf) s30 (.node .leaf s62 .leaf))))))
noncomputable abbrev fo127 : Fr := fr127 ud ud ud ud ud ud ud ud ud ud ud ud ud ud ud ud ud ud ud ud ud ud ud ud ud ud ud ud ud ud ud ud ud ud ud ud ud ud ud ud ud ud ud ud ud ud ud ud ud ud ud ud ud ud ud ud ud ud ud ud ud ud ud ud ud ud ud ud ud ud ud ud ud ud
noncomputable abbrev fj127_0 (t : Fr) : Fr := fr127 (zA t 0) (zA t 1) (zA t 2) (zA t 3) (zA t 4) (zA t 5) (zA t 6) (zA t 7) (zA t 8) (zA t 9) (zA t 10) (zA t 11) (zA t 12) (zA t 13) (zA t 14) (zA t 15) (zA t 16) (zA t 17) (zA t 18) (zA t 19) (zA t 20) (zA t 21) (zA t 22) (zA t 23) (zA t 24) (zA t 25) (zA t 26) (zA t 27) (zA t 28) (zA t 29) (zA t 30) (zA t 31) (zA t 32) (zA t 33) (zA t 34) (zA t 35) (zA t 36) (zA t 37) (zA t 38) (zA t 39) (zA t 40) (zA t 41) (zA t 42) (zA t 43) (zA t 44) (zA t 45) (zA t 46) (zA t 47) (zA t 48) (zA t 49) (zA t 50) (zA t 51) (zA t 52) (zA t 53) (zA t 54) (zA t 55) (zA t 56) (zA t 57) (zA t 58) (zA t 59) (zA t 60) (zA t 61) (zA t 62) (zA t 63) (zA t 64) (zA t 65) (zA t 66) (zA t 67) (zA t 68) (zA t 69) (zA t 70) (zA t 71) (zA t 72) (zA t 73)
noncomputable def hint127 : tJ := fun kind _ i => match kind with
 | 4 => bif Nat.beq i 0 then [.any, .any] else []
 | _ => []
noncomputable def F127 (L : Lo) (lp : LP) (p0 p1 : Value) (df : Bool) (u : Option zL) (h : zD) (n : Nat) (k : KO) : Bool :=
 opt (qC p0) fun v1 =>
 opt (zB P 116 5 v1) fun v2 =>
 opt (zF P 4 h v2) fun v3 =>
 rtB v3 fun a4 =>
 opt (aUn .not (.bool a4)) fun v5 =>
 rtB v5 fun a6 =>
 grd a6 (fun k7 =>
 k7 h n p1) (fun h8 n9 AN =>
 grd a6 (fun BG =>
 yB ineB P .neq 9 true AN (.string (ByteArray.mk #[])) fun BH =>
 BG h8 n9 (.bool BH)) (fun BI BJ AO =>
 rtB (sel a6 AO (.bool false)) fun AP =>
 yX L 120 [(.bool AP), (.int .i64 3)] BI BJ (fun BK BL BM =>
 zE P L 127 k (.panic BK) fo127 (W.mk [] u BL BM)) fun Aa AA AD =>
 blkJ (fun BN =>
 opt (qC p0) fun AQ =>
 opt (zB P 116 3 AQ) fun AR =>
 opt (zF P 3 AA AR) fun BO =>
 rtI .i64 BO fun AS =>
 opt (qC p0) fun AT =>
 opt (zB P 116 0 AT) fun AU =>
 opt (zF P 114 AA AU) fun AV =>
 opt (yL P .len [114] [AV] AA) fun BP =>
 rtI .i64 BP fun AW =>
 fb (vD AS AW) fun AC =>
 gt (lks [(W.mk [] u AA AD)] []) (
 brJ AC (fun BQ =>
 yX L 162 [p1, (.string (ByteArray.mk #[]))] AA AD (fun CL CM CN =>
 false) fun Ar AF AX =>
 gt (Nat.ble AD AX) (
 opt (qC p0) fun As =>
 opt (zB P 116 0 As) fun AG =>
 opt (zF P 114 AF AG) fun Ab =>
 opt (qC p0) fun At =>
 opt (zB P 116 3 At) fun AH =>
 opt (zF P 3 AF AH) fun BR =>
 rtI .i64 BR fun Ac =>
 opt (zT P 114 Ab (.int .i64 Ac)) fun AI =>
 opt (zF P 113 AF AI) fun Ad =>
 wZ L Ad [Ar] AF AX (fun BS BT BU =>
 gt (lks [(W.mk [] u AF AX), (W.mk [] u AA AD)] [⟨true, (lkQ (fun Ah => zF P 113 Ah AI) AI Ad), 0, 1⟩, ⟨true, (lkQ (fun Ai => zF P 3 Ai AH) AH (.int .i64 Ac)), 0, 1⟩, ⟨true, (lkQ (fun Aj => zF P 114 Aj AG) AG Ab), 0, 1⟩]) (
 zE P L 127 k (.panic BS) fo127 (W.mk [] u BT BU))) fun BV Ak Al =>
 gt (Nat.ble AX Al) (
 gt (lks [(W.mk [] u Ak Al), (W.mk [] u AF AX), (W.mk [] u AA AD)] [⟨true, (lkQ (fun Ah => zF P 113 Ah AI) AI Ad), 0, 1⟩, ⟨true, (lkQ (fun Ai => zF P 3 Ai AH) AH (.int .i64 Ac)), 0, 1⟩, ⟨true, (lkQ (fun Aj => zF P 114 Aj AG) AG Ab), 0, 1⟩]) (
 opt (qC p0) fun Au =>
 opt (zB P 116 3 Au) fun Av =>
 opt (zF P 3 Ak Av) fun BW =>
 rtI .i64 BW fun Aw =>
 fi (vK .i64 (tH Aw 1)) fun Ax =>
 opt (qC p0) fun Ay =>
 opt (zB P 116 3 Ay) fun Az =>
 zV P 3 Az (.int .i64 Ax) Ak Al fun BX BY CO =>
 BQ (fr127 p0 p1 ud ud p0 v1 v2 (vb a4) (vb a6) (vb a6) AN AO (vb AP) Aa ud ud ud ud ud ud ud ud ud ud ud ud (vb AC) p0 AQ AR (vi AS) p0 AT AU AV (vi AW) (vb AC) p0 As AG Ab p0 At AH (vi Ac) AI Ad p1 Ar BV p0 Au Av (vi Aw) (vi Ax) Ay Az ud ud ud ud ud ud ud ud ud ud ud ud ud ud ud ud ud) (W.mk [] u BX BY))))) (fun BZ =>
 yB wJ P .eql 9 true p1 (.string (ByteArray.mk #[101, 110, 100])) fun AE =>
 brJ AE (fun Ba =>
 opt (qC p0) fun A0 =>
 opt (zB P 116 5 A0) fun A1 =>
 zV P 4 A1 (.bool true) AA AD fun Bb Bc CP =>
 Ba (fr127 p0 p1 ud ud p0 v1 v2 (vb a4) (vb a6) (vb a6) AN AO (vb AP) Aa ud ud ud ud ud ud ud ud ud ud ud ud (vb AC) p0 AQ AR (vi AS) p0 AT AU AV (vi AW) (vb AC) ud ud ud ud ud ud ud ud ud ud ud ud ud ud ud ud ud ud ud ud (vb AE) p1 (vb AE) p0 A0 A1 ud ud ud ud ud ud ud ud ud ud ud) (W.mk [] u Bb Bc)) (fun Bd =>
 yB wJ P .eql 9 true p1 (.string (ByteArray.mk #[98, 108, 111, 99, 107])) fun AY =>
 brJ AY (fun Be =>
 opt (qC p0) fun A2 =>
 opt (zB P 116 1 A2) fun A3 =>
 opt (zF P 1 AA A3) fun A4 =>
 wZ L A4 [] AA AD (fun Bf Bg Bh =>
 zE P L 127 k (.panic Bf) fo127 (W.mk [] u Bg Bh)) fun Bi Bj Bk =>
 opt (qC p0) fun A5 =>
 opt (zB P 116 4 A5) fun A6 =>
 zV P 4 A6 (.bool true) Bj Bk fun Bl Bm CQ =>
 Be (fr127 p0 p1 ud ud p0 v1 v2 (vb a4) (vb a6) (vb a6) AN AO (vb AP) Aa ud ud ud ud ud ud ud ud ud ud ud ud (vb AC) p0 AQ AR (vi AS) p0 AT AU AV (vi AW) (vb AC) ud ud ud ud ud ud ud ud ud ud ud ud ud ud ud ud ud ud ud ud (vb AE) p1 (vb AE) ud ud ud (vb AY) p1 (vb AY) p0 A2 A3 A4 Bi p0 A5 A6) (W.mk [] u Bl Bm)) (fun Bn =>
 opt (qC p0) fun A7 =>
 opt (zB P 116 4 A7) fun A8 =>
 opt (zF P 4 AA A8) fun Bo =>
 rtB Bo fun A9 =>
 yX L 120 [(.bool A9), (.int .i64 3)] AA AD (fun Bp Bq Br =>
 zE P L 127 k (.panic Bp) fo127 (W.mk [] u Bq Br)) fun Bs Am Ae =>
 yX L 162 [p1, (.string (ByteArray.mk #[32, 32]))] Am Ae (fun CR CS CT =>
 false) fun BA Af AZ =>
 gt (Nat.ble Ae AZ) (
 opt (qC p0) fun BB =>
 opt (zB P 116 2 BB) fun AJ =>
 opt (zF P 113 Af AJ) fun Ag =>
 wZ L Ag [BA] Af AZ (fun Bt Bu Bv =>
 gt (lks [(W.mk [] u Af AZ), (W.mk [] u Am Ae)] [⟨true, (lkQ (fun An => zF P 113 An AJ) AJ Ag), 0, 1⟩]) (
 zE P L 127 k (.panic Bt) fo127 (W.mk [] u Bu Bv))) fun Bw BC Ao =>
 gt (Nat.ble AZ Ao) (
 gt (lks [(W.mk [] u BC Ao), (W.mk [] u Af AZ), (W.mk [] u Am Ae)] [⟨true, (lkQ (fun An => zF P 113 An AJ) AJ Ag), 0, 1⟩]) (
 Bn (fr127 p0 p1 ud ud p0 v1 v2 (vb a4) (vb a6) (vb a6) AN AO (vb AP) Aa p0 A7 A8 (vb A9) Bs p0 BB AJ Ag p1 BA Bw (vb AC) p0 AQ AR (vi AS) p0 AT AU AV (vi AW) (vb AC) ud ud ud ud ud ud ud ud ud ud ud ud ud ud ud ud ud ud ud ud (vb AE) p1 (vb AE) ud ud ud (vb AY) p1 (vb AY) ud ud ud ud ud ud ud ud) (W.mk [] u BC Ao))))) (fun Bx By =>
 onW By fun Bz B0 B1 B2 =>
 Bd (fj127_0 Bx) (W.mk Bz B0 B1 B2))) (fun B3 B4 =>
 onW B4 fun B5 B6 B7 B8 =>
 BZ (fj127_0 B3) (W.mk B5 B6 B7 B8))) (fun B9 CA =>
 onW CA fun CB CC CD CE =>
 BN (fj127_0 B9) (W.mk CB CC CD CE)))) (fun CF CG =>
 onW CG fun CH CI CJ CK =>
 zE P L 127 k .ret (fj127_0 CF) (W.mk CH CI CJ CK))) h8 n9) h n
theorem F127_eq (L : Lo) (lp : LP) (p0 p1 : Value) (df : Bool) (u : Option zL) (h : zD) (n : Nat) (k : KO) : wQ P hint127 L lp 127 [p0, p1] df u h n k = F127 L lp p0 p1 df u h n k := by kernel_rfl
theorem l127 : xB P 127 = true := by kernel_rfl
theorem r127 : wA P 127 = some [] := by kernel_rfl
noncomputable abbrev fr69 (s0 s1 s2 s3 s4 s5 s6 s7 s8 s9 s10 s11 s12 s13 s14 s15 s16 s17 s18 s19 s20 s21 s22 s23 s24 s25 s26 s27 : Value) : Fr := (.node (.node (.node (.node (.node .leaf s15 .leaf) s7 (.node .leaf s23 .leaf)) s3 (.node (.node .leaf s19 .leaf) s11 (.node .leaf s27 .leaf))) s1 (.node (.node (.node .leaf s17 .leaf) s9 (.node .leaf s25 .leaf)) s5 (.node (.node .leaf s21 .leaf) s13 .leaf))) s0 (.node (.node (.node (.node .leaf s16 .leaf) s8 (.node .leaf s24 .leaf)) s4 (.node (.node .leaf s20 .leaf) s12 .leaf)) s2 (.node (.node (.node .leaf s18 .leaf) s10 (.node .leaf s26 .leaf)) s6 (.node (.node .leaf s22 .leaf) s14 .leaf))))
noncomputable abbrev fo69 (s4 s5 : Value) : Fr := fr69 ud ud ud ud s4 s5 ud ud ud ud ud ud ud ud ud ud ud ud ud ud ud ud ud ud ud ud ud ud
noncomputable abbrev fj69_0 (t : Fr) (s2 s4 s5 s6 s21 s22 s23 s24 s25 s26 s27 : Value) : Fr := fr69 (zA t 0) (zA t 1) s2 (zA t 3) s4 s5 s6 (zA t 7) (zA t 8) (zA t 9) (zA t 10) (zA t 11) (zA t 12) (zA t 13) (zA t 14) (zA t 15) (zA t 16) (zA t 17) (zA t 18) (zA t 19) (zA t 20) s21 s22 s23 s24 s25 s26 s27
noncomputable def hint69 : tJ := fun kind _ i => match kind with
 | 1 => bif Nat.beq i 0 then [.any, .any, .val, .any, .val, .val, .val] else []
 | 2 => bif Nat.beq i 10 then [.any, .any, .any, .any, .val, .val] else []
 | 3 => bif Nat.beq i 5 then [.any, .any, .val, .any, .val, .val, .val] else []
 | 4 => bif Nat.beq i 0 then [.any, .any] else []
 | _ => []
noncomputable def F69 (L : Lo) (lp : LP) (p0 p1 : Value) (df : Bool) (u : Option zL) (h : zD) (n : Nat) (k : KO) : Bool :=
 eBox p0 h n fun h1 n2 v3 =>
 tD P 3 h1 n2 fun h4 n5 v6 =>
 tD P 25 h4 n5 fun h7 n8 v9 =>
 tD P 3 h7 n8 fun Ad Ae AO =>
 zV P 3 AO (.int .i64 0) Ad Ae fun Af Ag A7 =>
 yX L 124 [p1] Af Ag (fun Ah Ai Aj =>
 zE P L 69 k (.panic Ah) (fo69 v6 v9) (W.mk [] u Ai Aj)) fun AP Ak Al =>
 blkJ (fun AQ =>
 yRange L AP (rfP P 69 5) (rfA P 69 5) (rfB P 69 5) ⟨69, none, df⟩ (fr69 p0 p1 v3 ud v6 v9 AO ud ud ud p1 AP ud ud ud ud ud ud ud ud ud ud ud ud ud ud ud ud) [] u Ak Al (endA (fun AA Am =>
 zO (zA AA 2) fun An =>
 zO (zA AA 4) fun Ao =>
 zO (zA AA 5) fun Ap =>
 zO (zA AA 6) fun Aq =>
 onW Am fun Ar As At Au =>
 AQ (fj69_0 AA An Ao Ap Aq (zA AA 21) (zA AA 22) (zA AA 23) (zA AA 24) (zA AA 25) (zA AA 26) (zA AA 27)) (W.mk Ar As At Au)) (blkA 0 AQ (zE P L 69 k)))) (fun AB Av =>
 zO (zA AB 2) fun AF =>
 zO (zA AB 4) fun AD =>
 zO (zA AB 5) fun AE =>
 zO (zA AB 6) fun AG =>
 onW Av fun AR AS AC AT =>
 opt (zF P 112 AC AF) fun AH =>
 opt (qC AH) fun AI =>
 opt (zB P 116 5 AI) fun AJ =>
 opt (zF P 4 AC AJ) fun Aw =>
 rtB Aw fun AK =>
 opt (aUn .not (.bool AK)) fun Ax =>
 rtB Ax fun AL =>
 br AL (
 opt (zF P 3 AC AG) fun Ay =>
 rtI .i64 Ay fun AU =>
 fi (vK .i64 (tH AU 1)) fun AV =>
 zV P 3 AD (.int .i64 AV) AC AT fun Az A0 A8 =>
 zV P 25 AE (.int .i64 3) Az A0 fun A1 A2 A9 =>
 zE P L 69 k .ret (fj69_0 AB AF AD AE AG AH AI AJ (vb AK) (vb AL) (vi AU) (vi AV)) (W.mk AR AS A1 A2)) (
 zV P 3 AD (.int .i64 0) AC AT fun A3 A4 BA =>
 zV P 25 AE (.int .i64 0) A3 A4 fun A5 A6 BB =>
 zE P L 69 k .ret (fj69_0 AB AF AD AE AG AH AI AJ (vb AK) (vb AL) (zA AB 26) (zA AB 27)) (W.mk AR AS A5 A6)))
theorem F69_eq (L : Lo) (lp : LP) (p0 p1 : Value) (df : Bool) (u : Option zL) (h : zD) (n : Nat) (k : KO) : wQ P hint69 L lp 69 [p0, p1] df u h n k = F69 L lp p0 p1 df u h n k := by kernel_rfl
theorem l69 : xB P 69 = true := by kernel_rfl
theorem r69 : wA P 69 = some [.cell 4 3, .cell 5 25] := by kernel_rfl
noncomputable abbrev fr126 (s0 s1 s2 s3 s4 : Value) : Fr := (.node (.node (.node .leaf s3 .leaf) s1 .leaf) s0 (.node (.node .leaf s4 .leaf) s2 .leaf))
noncomputable abbrev fo126 : Fr := fr126 ud ud ud ud ud
noncomputable def hint126 : tJ := fun kind _ i => match kind with
 | _ => []
noncomputable def F126 (L : Lo) (lp : LP) (p0 p1 : Value) (df : Bool) (u : Option zL) (h : zD) (n : Nat) (k : KO) : Bool :=
 opt (zF P 112 h p0) fun v1 =>
 opt (zF P 9 h p1) fun v2 =>
 yX L 127 [v1, v2] h n (fun c6 h7 n8 =>
 zE P L 126 k (.panic c6) fo126 (W.mk [] u h7 n8)) fun a3 h4 n5 =>
 zE P L 126 k .ret fo126 (W.mk [] u h4 n5)
theorem F126_eq (L : Lo) (lp : LP) (p0 p1 : Value) (df : Bool) (u : Option zL) (h : zD) (n : Nat) (k : KO) : wQ P hint126 L lp 126 [p0, p1] df u h n k = F126 L lp p0 p1 df u h n k := by kernel_rfl
theorem l126 : xB P 126 = true := by kernel_rfl
theorem r126 : wA P 126 = some [] := by kernel_rfl
noncomputable abbrev fr63 (s0 s1 s2 s3 s4 s5 s6 s7 s8 s9 s10 s11 s12 s13 : Value) : Fr := (.node (.node (.node (.node .leaf s7 .leaf) s3 (.node .leaf s11 .leaf)) s1 (.node (.node .leaf s9 .leaf) s5 (.node .leaf s13 .leaf))) s0 (.node (.node (.node .leaf s8 .leaf) s4 (.node .leaf s12 .leaf)) s2 (.node (.node .leaf s10 .leaf) s6 .leaf)))
noncomputable abbrev fo63 : Fr := fr63 ud ud ud ud ud ud ud ud ud ud ud ud ud ud
noncomputable def hint63 : tJ := fun kind _ i => match kind with
 | 4 => bif Nat.beq i 0 then [.any, .any] else []
 | _ => []
noncomputable def F63 (L : Lo) (lp : LP) (p0 p1 : Value) (df : Bool) (u : Option zL) (h : zD) (n : Nat) (k : KO) : Bool :=
 yX L 116 [p1, (.string (ByteArray.mk #[102, 117, 110, 99]))] h n (fun c4 h5 n6 =>
 zE P L 63 k (.panic c4) fo63 (W.mk [] u h5 n6)) fun a1 h2 n3 =>
 yX L 117 [p1] h2 n3 (fun AF AG AH =>
 zE P L 63 k (.panic AF) fo63 (W.mk [] u AG AH)) fun a7 h8 n9 =>
 opt (qC p0) fun AL =>
 opt (zB P 111 0 AL) fun AM =>
 opt (zB P 43 0 AM) fun AN =>
 zV P 9 AN a7 h8 n9 fun AO AP AW =>
 yX L 118 [p1] AO AP (fun AQ AR AS =>
 zE P L 63 k (.panic AQ) fo63 (W.mk [] u AR AS)) fun AX AT AU =>
 zE P L 63 k .ret fo63 (W.mk [] u AT AU)
theorem F63_eq (L : Lo) (lp : LP) (p0 p1 : Value) (df : Bool) (u : Option zL) (h : zD) (n : Nat) (k : KO) : wQ P hint63 L lp 63 [p0, p1] df u h n k = F63 L lp p0 p1 df u h n k := by kernel_rfl
theorem l63 : xB P 63 = true := by kernel_rfl
theorem r63 : wA P 63 = some [] := by kernel_rfl
noncomputable abbrev fr64 (s0 s1 s2 s3 s4 s5 s6 s7 s8 s9 s10 s11 s12 s13 s14 s15 s16 s17 s18 s19 s20 s21 : Value) : Fr := (.node (.node (.node (.node (.node .leaf s15 .leaf) s7 .leaf) s3 (.node (.node .leaf s19 .leaf) s11 .leaf)) s1 (.node (.node (.node .leaf s17 .leaf) s9 .leaf) s5 (.node (.node .leaf s21 .leaf) s13 .leaf))) s0 (.node (.node (.node (.node .leaf s16 .leaf) s8 .leaf) s4 (.node (.node .leaf s20 .leaf) s12 .leaf)) s2 (.node (.node (.node .leaf s18 .leaf) s10 .leaf) s6 (.node .leaf s14 .leaf))))
noncomputable abbrev fo64 : Fr := fr64 ud ud ud ud ud ud ud ud ud ud ud ud ud ud ud ud ud ud ud ud ud ud
noncomputable def hint64 : tJ := fun kind _ i => match kind with
 | 4 => bif Nat.beq i 0 then [.any, .any] else []
 | _ => []
noncomputable def F64 (L : Lo) (lp : LP) (p0 p1 : Value) (df : Bool) (u : Option zL) (h : zD) (n : Nat) (k : KO) : Bool :=
 yX L 116 [p1, (.string (ByteArray.mk #[114, 101, 103, 115]))] h n (fun c4 h5 n6 =>
 zE P L 64 k (.panic c4) fo64 (W.mk [] u h5 n6)) fun a1 h2 n3 =>
 letV (.func (.func 117) (Array.mk [p1]) (Array.mk [])) fun v7 =>
 yX L 119 [p1, v7] h2 n3 (fun AH AI AJ =>
 zE P L 64 k (.panic AH) fo64 (W.mk [] u AI AJ)) fun a8 h9 AM =>
 opt (qC p0) fun AN =>
 opt (zB P 111 0 AN) fun AO =>
 opt (zB P 43 1 AO) fun AP =>
 zV P 23 AP a8 h9 AM fun AA AQ Ae =>
 opt (qC p0) fun AR =>
 opt (zB P 111 0 AR) fun AS =>
 opt (zB P 43 1 AS) fun AT =>
 opt (zF P 23 AA AT) fun AU =>
 opt (yL P .len [23] [AU] AA) fun AV =>
 rtI .i64 AV fun AW =>
 fb (rM AW 500) fun AX =>
 yX L 120 [(.bool AX), (.int .i64 2)] AA AQ (fun AY AZ Aa =>
 zE P L 64 k (.panic AY) fo64 (W.mk [] u AZ Aa)) fun Af Ab Ac =>
 zE P L 64 k .ret fo64 (W.mk [] u Ab Ac)
theorem F64_eq (L : Lo) (lp : LP) (p0 p1 : Value) (df : Bool) (u : Option zL) (h : zD) (n : Nat) (k : KO) : wQ P hint64 L lp 64 [p0, p1] df u h n k = F64 L lp p0 p1 df u h n k := by kernel_rfl
theorem l64 : xB P 64 = true := by kernel_rfl
theorem r64 : wA P 64 = some [] := by kernel_rfl
noncomputable abbrev fr65 (s0 s1 s2 s3 s4 s5 s6 s7 s8 s9 s10 s11 s12 s13 s14 s15 s16 s17 s18 s19 s20 s21 : Value) : Fr := (.node (.node (.node (.node (.node .leaf s15 .leaf) s7 .leaf) s3 (.node (.node .leaf s19 .leaf) s11 .leaf)) s1 (.node (.node (.node .leaf s17 .leaf) s9 .leaf) s5 (.node (.node .leaf s21 .leaf) s13 .leaf))) s0 (.node (.node (.node (.node .leaf s16 .leaf) s8 .leaf) s4 (.node (.node .leaf s20 .leaf) s12 .leaf)) s2 (.node (.node (.node .leaf s18 .leaf) s10 .leaf) s6 (.node .leaf s14 .leaf))))
noncomputable abbrev fo65 : Fr := fr65 ud ud ud ud ud ud ud ud ud ud ud ud ud ud ud ud ud ud ud ud ud ud
noncomputable def hint65 : tJ := fun kind _ i => match kind with
 | 4 => bif Nat.beq i 0 then [.any, .any] else []
 | _ => []
noncomputable def F65 (L : Lo) (lp : LP) (p0 p1 : Value) (df : Bool) (u : Option zL) (h : zD) (n : Nat) (k : KO) : Bool :=
 yX L 116 [p1, (.string (ByteArray.mk #[112, 97, 114, 97, 109, 115]))] h n (fun c4 h5 n6 =>
 zE P L 65 k (.panic c4) fo65 (W.mk [] u h5 n6)) fun a1 h2 n3 =>
 letV (.func (.func 122) (Array.mk [p1]) (Array.mk [])) fun v7 =>
 yX L 121 [p1, v7] h2 n3 (fun AH AI AJ =>
 zE P L 65 k (.panic AH) fo65 (W.mk [] u AI AJ)) fun a8 h9 AM =>
 opt (qC p0) fun AN =>
 opt (zB P 111 0 AN) fun AO =>
 opt (zB P 43 2 AO) fun AP =>
 zV P 40 AP a8 h9 AM fun AA AQ Ae =>
 opt (qC p0) fun AR =>
 opt (zB P 111 0 AR) fun AS =>
 opt (zB P 43 2 AS) fun AT =>
 opt (zF P 40 AA AT) fun AU =>
 opt (yL P .len [40] [AU] AA) fun AV =>
 rtI .i64 AV fun AW =>
 fb (rM AW 16) fun AX =>
 yX L 120 [(.bool AX), (.int .i64 2)] AA AQ (fun AY AZ Aa =>
 zE P L 65 k (.panic AY) fo65 (W.mk [] u AZ Aa)) fun Af Ab Ac =>
 zE P L 65 k .ret fo65 (W.mk [] u Ab Ac)
theorem F65_eq (L : Lo) (lp : LP) (p0 p1 : Value) (df : Bool) (u : Option zL) (h : zD) (n : Nat) (k : KO) : wQ P hint65 L lp 65 [p0, p1] df u h n k = F65 L lp p0 p1 df u h n k := by kernel_rfl
theorem l65 : xB P 65 = true := by kernel_rfl
theorem r65 : wA P 65 = some [] := by kernel_rfl
noncomputable abbrev fr66 (s0 s1 s2 s3 s4 s5 s6 s7 s8 s9 s10 s11 s12 s13 : Value) : Fr := (.node (.node (.node (.node .leaf s7 .leaf) s3 (.node .leaf s11 .leaf)) s1 (.node (.node .leaf s9 .leaf) s5 (.node .leaf s13 .leaf))) s0 (.node (.node (.node .leaf s8 .leaf) s4 (.node .leaf s12 .leaf)) s2 (.node (.node .leaf s10 .leaf) s6 .leaf)))
noncomputable abbrev fo66 : Fr := fr66 ud ud ud ud ud ud ud ud ud ud ud ud ud ud
noncomputable def hint66 : tJ := fun kind _ i => match kind with
 | 4 => bif Nat.beq i 0 then [.any, .any] else []
 | _ => []
noncomputable def F66 (L : Lo) (lp : LP) (p0 p1 : Value) (df : Bool) (u : Option zL) (h : zD) (n : Nat) (k : KO) : Bool :=
 yX L 116 [p1, (.string (ByteArray.mk #[114, 101, 115, 117, 108, 116]))] h n (fun c4 h5 n6 =>
 zE P L 66 k (.panic c4) fo66 (W.mk [] u h5 n6)) fun a1 h2 n3 =>
 yX L 117 [p1] h2 n3 (fun AF AG AH =>
 zE P L 66 k (.panic AF) fo66 (W.mk [] u AG AH)) fun a7 h8 n9 =>
 opt (qC p0) fun AL =>
 opt (zB P 111 0 AL) fun AM =>
 opt (zB P 43 3 AM) fun AN =>
 zV P 9 AN a7 h8 n9 fun AO AP AW =>
 yX L 118 [p1] AO AP (fun AQ AR AS =>
 zE P L 66 k (.panic AQ) fo66 (W.mk [] u AR AS)) fun AX AT AU =>
 zE P L 66 k .ret fo66 (W.mk [] u AT AU)
theorem F66_eq (L : Lo) (lp : LP) (p0 p1 : Value) (df : Bool) (u : Option zL) (h : zD) (n : Nat) (k : KO) : wQ P hint66 L lp 66 [p0, p1] df u h n k = F66 L lp p0 p1 df u h n k := by kernel_rfl
theorem l66 : xB P 66 = true := by kernel_rfl
theorem r66 : wA P 66 = some [] := by kernel_rfl
noncomputable abbrev fr67 (s0 s1 s2 s3 s4 s5 s6 s7 s8 s9 s10 s11 s12 s13 s14 s15 s16 s17 s18 s19 s20 : Value) : Fr := (.node (.node (.node (.node (.node .leaf s15 .leaf) s7 .leaf) s3 (.node (.node .leaf s19 .leaf) s11 .leaf)) s1 (.node (.node (.node .leaf s17 .leaf) s9 .leaf) s5 (.node .leaf s13 .leaf))) s0 (.node (.node (.node (.node .leaf s16 .leaf) s8 .leaf) s4 (.node (.node .leaf s20 .leaf) s12 .leaf)) s2 (.node (.node (.node .leaf s18 .leaf) s10 .leaf) s6 (.node .leaf s14 .leaf))))
noncomputable abbrev fo67 : Fr := fr67 ud ud ud ud ud ud ud ud ud ud ud ud ud ud ud ud ud ud ud ud ud
noncomputable def hint67 : tJ := fun kind _ i => match kind with
 | 4 => bif Nat.beq i 0 then [.any] else []
 | _ => []
noncomputable def F67 (L : Lo) (lp : LP) (p0 : Value) (df : Bool) (u : Option zL) (h : zD) (n : Nat) (k : KO) : Bool :=
 opt (qC p0) fun v1 =>
 opt (zB P 111 0 v1) fun v2 =>
 opt (zB P 43 4 v2) fun v3 =>
 opt (zF P 41 h v3) fun v4 =>
 opt (yL P .len [41] [v4] h) fun v5 =>
 rtI .i64 v5 fun a6 =>
 fb (vD a6 200) fun a7 =>
 yX L 120 [(.bool a7), (.int .i64 2)] h n (fun AI AJ AK =>
 zE P L 67 k (.panic AI) fo67 (W.mk [] u AJ AK)) fun a8 h9 AL =>
 opt (qC p0) fun AM =>
 opt (zB P 111 0 AM) fun AN =>
 opt (zB P 43 4 AN) fun AO =>
 opt (zF P 41 h9 AO) fun AP =>
 zN P 41 1 [(0, (.slice none 0 0))] h9 AL fun AQ AR AS =>
 wE P [41, 41] [AP, AS] AQ AR fun AT AU AV =>
 opt (qC p0) fun AW =>
 opt (zB P 111 0 AW) fun AX =>
 opt (zB P 43 4 AX) fun AY =>
 zV P 41 AY AV AT AU fun AZ Aa Ac =>
 zE P L 67 k .ret fo67 (W.mk [] u AZ Aa)
theorem F67_eq (L : Lo) (lp : LP) (p0 : Value) (df : Bool) (u : Option zL) (h : zD) (n : Nat) (k : KO) : wQ P hint67 L lp 67 [p0] df u h n k = F67 L lp p0 df u h n k := by kernel_rfl
theorem l67 : xB P 67 = true := by kernel_rfl
theorem r67 : wA P 67 = some [] := by kernel_rfl
noncomputable abbrev fr68 (s0 s1 s2 s3 s4 s5 s6 s7 s8 s9 s10 s11 s12 s13 s14 s15 s16 s17 s18 s19 s20 s21 s22 s23 s24 s25 s26 s27 s28 s29 s30 s31 s32 s33 s34 s35 s36 : Value) : Fr := (.node (.node (.node (.node (.node (.node .leaf s31 .leaf) s15 .leaf) s7 (.node .leaf s23 .leaf)) s3 (.node (.node (.node .leaf s35 .leaf) s19 .leaf) s11 (.node .leaf s27 .leaf))) s1 (.node (.node (.node (.node .leaf s33 .leaf) s17 .leaf) s9 (.node .leaf s25 .leaf)) s5 (.node (.node .leaf s21 .leaf) s13 (.node .leaf s29 .leaf)))) s0 (.node (.node (.node (.node (.node .leaf s32 .leaf) s16 .leaf) s8 (.node .leaf s24 .leaf)) s4 (.node (.node (.node .leaf s36 .leaf) s20 .leaf) s12 (.node .leaf s28 .leaf))) s2 (.node (.node (.node (.node .leaf s34 .leaf) s18 .leaf) s10 (.node .leaf s26 .leaf)) s6 (.node (.node .leaf s22 .leaf) s14 (.node .leaf s30 .leaf)))))
noncomputable abbrev fo68 : Fr := fr68 ud ud ud ud ud ud ud ud ud ud ud ud ud ud ud ud ud ud ud ud ud ud ud ud ud ud ud ud ud ud ud ud ud ud ud ud ud
noncomputable def hint68 : tJ := fun kind _ i => match kind with
 | 4 => bif Nat.beq i 0 then [.any, .any] else []
 | _ => []
noncomputable def F68 (L : Lo) (lp : LP) (p0 p1 : Value) (df : Bool) (u : Option zL) (h : zD) (n : Nat) (k : KO) : Bool :=
 yX L 123 [p1] h n (fun c4 h5 n6 =>
 zE P L 68 k (.panic c4) fo68 (W.mk [] u h5 n6)) fun a1 h2 n3 =>
 tD P 50 h2 n3 fun h7 n8 v9 =>
 zV P 50 v9 a1 h7 n8 fun AT AU Ay =>
 yX L 118 [p1] AT AU (fun AV AW AX =>
 zE P L 68 k (.panic AV) fo68 (W.mk [] u AW AX)) fun Az AA AG =>
 opt (qC p0) fun AY =>
 opt (zB P 111 0 AY) fun AZ =>
 opt (zB P 43 4 AZ) fun Aa =>
 opt (zF P 41 AA Aa) fun Ab =>
 opt (qC p0) fun Ac =>
 opt (zB P 111 0 Ac) fun Ad =>
 opt (zB P 43 4 Ad) fun Ae =>
 opt (zF P 41 AA Ae) fun Af =>
 opt (yL P .len [41] [Af] AA) fun Ag =>
 rtI .i64 Ag fun Ah =>
 fi (vK .i64 (isub Ah 1)) fun Ai =>
 opt (zT P 41 Ab (.int .i64 Ai)) fun AD =>
 gt (lks [(W.mk [] u AA AG)] []) (
 opt (qC AD) fun Aj =>
 opt (zF P 51 AA Aj) fun Ak =>
 opt (yL P .len [51] [Ak] AA) fun Al =>
 rtI .i64 Al fun Am =>
 fb (vD Am 400) fun An =>
 yX L 120 [(.bool An), (.int .i64 2)] AA AG (fun Ao Ap Aq =>
 zE P L 68 k (.panic Ao) fo68 (W.mk [] u Ap Aq)) fun A0 AB AH =>
 opt (qC AD) fun Ar =>
 opt (zF P 51 AB Ar) fun As =>
 opt (zF P 50 AB v9) fun At =>
 zN P 51 1 [(0, At)] AB AH fun Au AI Av =>
 wE P [51, 51] [As, Av] Au AI fun AJ AC Aw =>
 gt (Nat.ble AI AC) (
 opt (qC AD) fun Ax =>
 zV P 51 Ax Aw AJ AC fun AK AE A1 =>
 gt (Nat.ble AC AE) (
 gt (lks [(W.mk [] u AK AE), (W.mk [] u AJ AC), (W.mk [] u AB AH)] []) (
 zE P L 68 k .ret fo68 (W.mk [] u AK AE)))))
theorem F68_eq (L : Lo) (lp : LP) (p0 p1 : Value) (df : Bool) (u : Option zL) (h : zD) (n : Nat) (k : KO) : wQ P hint68 L lp 68 [p0, p1] df u h n k = F68 L lp p0 p1 df u h n k := by kernel_rfl
theorem l68 : xB P 68 = true := by kernel_rfl
theorem r68 : wA P 68 = some [] := by kernel_rfl
noncomputable abbrev fr124 (s0 s1 s2 s3 : Value) : Fr := (.node (.node (.node .leaf s3 .leaf) s1 .leaf) s0 (.node .leaf s2 .leaf))
noncomputable abbrev fo124 (s2 : Value) : Fr := fr124 ud ud s2 ud
noncomputable def hint124 : tJ := fun kind _ i => match kind with
 | 4 => bif Nat.beq i 0 then [.any] else []
 | _ => []
noncomputable def F124 (L : Lo) (lp : LP) (p0 : Value) (df : Bool) (u : Option zL) (h : zD) (n : Nat) (k : KO) : Bool :=
 eBox p0 h n fun h1 n2 v3 =>
 letV (.func (.func 159) (Array.mk []) (Array.mk [v3])) fun v4 =>
 zE P L 124 k .ret (fo124 v4) (W.mk [] u h1 n2)
theorem F124_eq (L : Lo) (lp : LP) (p0 : Value) (df : Bool) (u : Option zL) (h : zD) (n : Nat) (k : KO) : wQ P hint124 L lp 124 [p0] df u h n k = F124 L lp p0 df u h n k := by kernel_rfl
theorem l124 : xB P 124 = true := by kernel_rfl
theorem r124 : wA P 124 = some [.tmp 2] := by kernel_rfl
noncomputable abbrev fr159 (s0 s1 s2 s3 s4 s5 s6 s7 s8 s9 s10 s11 s12 s13 s14 s15 s16 s17 s18 s19 s20 s21 s22 s23 s24 : Value) : Fr := (.node (.node (.node (.node (.node .leaf s15 .leaf) s7 (.node .leaf s23 .leaf)) s3 (.node (.node .leaf s19 .leaf) s11 .leaf)) s1 (.node (.node (.node .leaf s17 .leaf) s9 .leaf) s5 (.node (.node .leaf s21 .leaf) s13 .leaf))) s0 (.node (.node (.node (.node .leaf s16 .leaf) s8 (.node .leaf s24 .leaf)) s4 (.node (.node .leaf s20 .leaf) s12 .leaf)) s2 (.node (.node (.node .leaf s18 .leaf) s10 .leaf) s6 (.node (.node .leaf s22 .leaf) s14 .leaf))))
noncomputable def hint159 : tJ := fun kind _ i => match kind with
 | 0 => bif Nat.beq i 1000001 then [.val, .any, .any, (.int .i64)] else []
 | 1 => bif Nat.beq i 1 then [.val, .any, .any, (.int .i64)] else []
 | 2 => bif Nat.beq i 0 then [.val, .any, .any, (.int .i64)] else bif Nat.beq i 5 then [.val, .any, .any, (.int .i64), .val, .val] else []
 | 4 => bif Nat.beq i 0 then [.any] else []
 | _ => []
noncomputable def F159 (L : Lo) (lp : LP) (p0 p1 : Value) (df : Bool) (u : Option zL) (h : zD) (n : Nat) (k : KO) : Bool :=
 lp 1000001 ⟨159, none, df⟩ (fr159 p0 p1 ud (vi 1) ud ud ud ud ud ud ud ud ud ud ud ud ud ud ud ud ud ud ud ud ud) (W.mk [] u h n) (endA noK (blkA 0 (fun t1 w2 =>
 onW w2 fun d3 u4 h5 n6 =>
 zE P L 159 k .ret (fr159 (zA t1 0) (zA t1 1) (zA t1 2) (zA t1 3) (zA t1 4) (zA t1 5) (zA t1 6) (zA t1 7) (zA t1 8) (zA t1 9) (zA t1 10) (zA t1 11) (zA t1 12) (zA t1 13) (zA t1 14) (zA t1 15) (zA t1 16) (zA t1 17) (zA t1 18) (zA t1 19) (zA t1 20) (zA t1 21) (zA t1 22) (zA t1 23) (zA t1 24)) (W.mk d3 u4 h5 n6)) (zE P L 159 k)))
theorem F159_eq (L : Lo) (lp : LP) (p0 p1 : Value) (df : Bool) (u : Option zL) (h : zD) (n : Nat) (k : KO) : wQ P hint159 L lp 159 [p0, p1] df u h n k = F159 L lp p0 p1 df u h n k := by kernel_rfl
noncomputable def B159_1000001 (L : Lo) (lp : LP) (rd : Option Nat) (df : Bool) (t : Fr) (w : W) (ka : KX) : Bool :=
 zO (zA t 0) fun s7 =>
 rtI .i64 (zA t 3) fun s8 =>
 onW w fun d9 AN AO AX =>
 opt (zF P 9 AO (zA t 1)) fun AH =>
 yB ineB P .neq 9 true AH (.string (ByteArray.mk #[])) fun AI =>
 br AI (
 blkJ (fun Ae =>
 opt (zF P 9 AO (zA t 1)) fun AP =>
 yX L 160 [AP, (.string (ByteArray.mk #[10]))] AO AX (fun Af Ag Ah =>
 ka (.panic Af) (fr159 s7 (zA t 1) (zA t 2) (vi s8) (zA t 4) (zA t 5) (zA t 6) AH (vb AI) (zA t 9) (zA t 10) (zA t 11) AP (zA t 13) (zA t 14) (zA t 15) (zA t 16) (zA t 17) (zA t 18) (zA t 19) (zA t 20) (zA t 21) (zA t 22) (zA t 23) (zA t 24)) (W.mk d9 AN Ag Ah)) fun AC AY AZ =>
 opt (xD 0 AC) fun AR =>
 opt (xD 1 AC) fun AQ =>
 opt (xD 2 AC) fun Ai =>
 rtB Ai fun AD =>
 opt (aUn .not (.bool AD)) fun Aj =>
 rtB Aj fun AS =>
 brJ AS (fun Ak =>
 Ak (fr159 s7 (zA t 1) (zA t 2) (vi s8) (.string (ByteArray.mk #[])) AQ (vb AD) AH (vb AI) (zA t 9) (zA t 10) AC AP AC AR AQ (vb AD) (vb AD) (vb AS) (zA t 19) (zA t 20) (zA t 21) (zA t 22) (zA t 23) (zA t 24)) (W.mk d9 AN AY AZ)) (fun Al =>
 Al (fr159 s7 (zA t 1) (zA t 2) (vi s8) AR AQ (vb AD) AH (vb AI) (zA t 9) (zA t 10) AC AP AC AR AQ (vb AD) (vb AD) (vb AS) (zA t 19) (zA t 20) (zA t 21) (zA t 22) (zA t 23) (zA t 24)) (W.mk d9 AN AY AZ)) (fun AA Am =>
 zO (zA AA 0) fun AE =>
 rtI .i64 (zA AA 3) fun AF =>
 zO (zA AA 4) fun AG =>
 zO (zA AA 5) fun AJ =>
 onW Am fun AT AU An Ao =>
 invokeB L AE [(.int .i64 AF), AG] An Ao (fun Ap Aq Ar =>
 ka (.panic Ap) (fr159 AE (zA AA 1) (zA AA 2) (vi AF) AG AJ (zA AA 6) (zA AA 7) (zA AA 8) (zA AA 9) (zA AA 10) (zA AA 11) (zA AA 12) (zA AA 13) (zA AA 14) (zA AA 15) (zA AA 16) (zA AA 17) (zA AA 18) AE (vi AF) AG (zA AA 22) (zA AA 23) (zA AA 24)) (W.mk AT AU Aq Ar)) fun AV Aa Ab =>
 opt (aUn .not (.bool AV)) fun As =>
 rtB As fun AW =>
 br AW (
 ka .ret (fr159 AE (zA AA 1) (zA AA 2) (vi AF) AG AJ (zA AA 6) (zA AA 7) (zA AA 8) (zA AA 9) (zA AA 10) (zA AA 11) (zA AA 12) (zA AA 13) (zA AA 14) (zA AA 15) (zA AA 16) (zA AA 17) (zA AA 18) AE (vi AF) AG (vb AV) (vb AW) (zA AA 24)) (W.mk AT AU Aa Ab)) (
 zV P 9 (zA AA 1) AJ Aa Ab fun At Au A1 =>
 Ae (fr159 AE (zA AA 1) (zA AA 2) (vi AF) AG AJ (zA AA 6) (zA AA 7) (zA AA 8) (zA AA 9) (zA AA 10) (zA AA 11) (zA AA 12) (zA AA 13) (zA AA 14) (zA AA 15) (zA AA 16) (zA AA 17) (zA AA 18) AE (vi AF) AG (vb AV) (vb AW) AJ) (W.mk AT AU At Au)))) (fun AB Av =>
 zO (zA AB 0) fun Aw =>
 rtI .i64 (zA AB 3) fun Ac =>
 onW Av fun Ax Ay Az A0 =>
 fi (vK .i64 (tH Ac 1)) fun Ad =>
 lp 1000001 ⟨159, rd, df⟩ (fr159 Aw (zA AB 1) (zA AB 2) (vi Ad) (zA AB 4) (zA AB 5) (zA AB 6) (zA AB 7) (zA AB 8) (vi Ac) (vi Ad) (zA AB 11) (zA AB 12) (zA AB 13) (zA AB 14) (zA AB 15) (zA AB 16) (zA AB 17) (zA AB 18) (zA AB 19) (zA AB 20) (zA AB 21) (zA AB 22) (zA AB 23) (zA AB 24)) (W.mk Ax Ay Az A0) ka)) (
 ka (.exit 0) (fr159 s7 (zA t 1) (zA t 2) (vi s8) (zA t 4) (zA t 5) (zA t 6) AH (vb AI) (zA t 9) (zA t 10) (zA t 11) (zA t 12) (zA t 13) (zA t 14) (zA t 15) (zA t 16) (zA t 17) (zA t 18) (zA t 19) (zA t 20) (zA t 21) (zA t 22) (zA t 23) (zA t 24)) (W.mk d9 AN AO AX))
theorem B159_1000001_eq (L : Lo) (lp : LP) (rd : Option Nat) (df : Bool) (t : Fr) (w : W) (ka : KX) : pC P hint159 L lp (unL (yD P 159 1000001)) ⟨159, rd, df⟩ t w ka = B159_1000001 L lp rd df t w ka := by kernel_rfl
theorem l159 : xB P 159 = true := by kernel_rfl
theorem r159 : wA P 159 = some [] := by kernel_rfl
theorem lp159_1000001 : uX (yD P 159 1000001) = true := by kernel_rfl
noncomputable abbrev fr22 (s0 s1 s2 s3 s4 s5 s6 s7 s8 s9 s10 s11 s12 s13 s14 s15 s16 s17 s18 s19 s20 s21 s22 s23 s24 s25 s26 s27 s28 s29 s30 s31 s32 s33 s34 s35 s36 s37 s38 s39 s40 s41 s42 s43 s44 : Value) : Fr := (.node (.node (.node (.node (.node (.node .leaf s31 .leaf) s15 .leaf) s7 (.node (.node .leaf s39 .leaf) s23 .leaf)) s3 (.node (.node (.node .leaf s35 .leaf) s19 .leaf) s11 (.node (.node .leaf s43 .leaf) s27 .leaf))) s1 (.node (.node (.node (.node .leaf s33 .leaf) s17 .leaf) s9 (.node (.node .leaf s41 .leaf) s25 .leaf)) s5 (.node (.node (.node .leaf s37 .leaf) s21 .leaf) s13 (.node .leaf s29 .leaf)))) s0 (.node (.node (.node (.node (.node .leaf s32 .leaf) s16 .leaf) s8 (.node (.node .leaf s40 .leaf) s24 .leaf)) s4 (.node (.node (.node .leaf s36 .leaf) s20 .leaf) s12 (.node (.node .leaf s44 .leaf) s28 .leaf))) s2 (.node (.node (.node (.node .leaf s34 .leaf) s18 .leaf) s10 (.node (.node .leaf s42 .leaf) s26 .leaf)) s6 (.node (.node (.node .leaf s38 .leaf) s22 .leaf) s14 (.node .leaf s30 .leaf)))))
noncomputable abbrev fo22 (s2 s3 s4 : Value) : Fr := fr22 ud ud s2 s3 s4 ud ud ud ud ud ud ud ud ud ud ud ud ud ud ud ud ud ud ud ud ud ud ud ud ud ud ud ud ud ud ud ud ud ud ud ud ud ud ud ud
noncomputable def hint22 : tJ := fun kind _ i => match kind with
 | 2 => bif Nat.beq i 2 then [.val, .any, .val] else bif Nat.beq i 7 then [.any, .any, .val, .any, .any, .val] else []
 | 4 => bif Nat.beq i 0 then [.any] else []
 | _ => []
noncomputable def F22 (L : Lo) (lp : LP) (p0 : Value) (df : Bool) (u : Option zL) (h : zD) (n : Nat) (k : KO) : Bool :=
 tD P 43 h n fun h1 n2 v3 =>
 opt (yL P .len [9] [p0] h1) fun v4 =>
 rtI .i64 v4 fun a5 =>
 fb (vD 65536 a5) fun a6 =>
 br a6 (
 opt (xP P 43 []) fun v7 =>
 zV P 43 v3 v7 h1 n2 fun h8 n9 At =>
 zE P L 22 k .ret (fo22 v3 (.int .i64 0) (.int .i64 2)) (W.mk [] u h8 n9)) (
 opt (xP P 111 []) fun AO =>
 eBox AO h1 n2 fun AP AQ AB =>
 letV (.func (.func 63) (Array.mk [AB]) (Array.mk [])) fun AR =>
 letV (.func (.func 64) (Array.mk [AB]) (Array.mk [])) fun AS =>
 letV (.func (.func 65) (Array.mk [AB]) (Array.mk [])) fun AT =>
 letV (.func (.func 66) (Array.mk [AB]) (Array.mk [])) fun AU =>
 zN P 114 4 [(0, AR), (1, AS), (2, AT), (3, AU)] AP AQ fun AV AW AX =>
 letV (.func (.func 67) (Array.mk [AB]) (Array.mk [])) fun AY =>
 letV (.func (.func 68) (Array.mk [AB]) (Array.mk [])) fun AZ =>
 opt (xP P 116 [(0, AX), (1, AY), (2, AZ)]) fun Aa =>
 eBox Aa AV AW fun Ab Ac Ad =>
 yX L 69 [Ad, p0] Ab Ac (fun Ae Af Ag =>
 zE P L 22 k (.panic Ae) (fo22 v3 (.int .i64 0) (.int .i64 0)) (W.mk [] u Af Ag)) fun AF AD AG =>
 opt (xD 0 AF) fun Ah =>
 rtI .i64 Ah fun Ai =>
 opt (xD 1 AF) fun Aj =>
 rtI .i64 Aj fun AH =>
 fb (ineB AH 0) fun Ak =>
 br Ak (
 opt (xP P 43 []) fun Al =>
 zV P 43 v3 Al AD AG fun Am An Au =>
 zE P L 22 k .ret (fo22 v3 (.int .i64 Ai) (.int .i64 AH)) (W.mk [] u Am An)) (
 opt (qC AB) fun Ao =>
 opt (zB P 111 0 Ao) fun Ap =>
 opt (zF P 43 AD Ap) fun Aq =>
 zV P 43 v3 Aq AD AG fun Ar As Av =>
 zE P L 22 k .ret (fo22 v3 (.int .i64 0) (.int .i64 0)) (W.mk [] u Ar As)))
theorem F22_eq (L : Lo) (lp : LP) (p0 : Value) (df : Bool) (u : Option zL) (h : zD) (n : Nat) (k : KO) : wQ P hint22 L lp 22 [p0] df u h n k = F22 L lp p0 df u h n k := by kernel_rfl
theorem l22 : xB P 22 = true := by kernel_rfl
theorem r22 : wA P 22 = some [.cell 2 43, .tmp 3, .tmp 4] := by kernel_rfl
noncomputable abbrev fr60 (s0 s1 s2 s3 s4 s5 s6 s7 s8 s9 s10 s11 s12 s13 s14 s15 s16 s17 s18 s19 s20 s21 s22 s23 s24 s25 s26 s27 s28 s29 s30 s31 s32 s33 s34 s35 s36 s37 s38 s39 s40 s41 s42 s43 s44 s45 s46 s47 s48 s49 s50 s51 s52 s53 s54 s55 s56 s57 s58 s59 s60 s61 s62 s63 s64 s65 s66 s67 s68 s69 s70 s71 s72 s73 s74 s75 s76 s77 s78 s79 s80 s81 s82 s83 s84 s85 s86 s87 s88 s89 s90 : Value) : Fr := (.node (.node (.node (.node (.node (.node (.node .leaf s63 .leaf) s31 .leaf) s15 (.node (.node .leaf s79 .leaf) s47 .leaf)) s7 (.node (.node (.node .leaf s71 .leaf) s39 .leaf) s23 (.node (.node .leaf s87 .leaf) s55 .leaf))) s3 (.node (.node (.node (.node .leaf s67 .leaf) s35 .leaf) s19 (.node (.node .leaf s83 .leaf) s51 .leaf)) s11 (.node (.node (.node .leaf s75 .leaf) s43 .leaf) s27 (.node .leaf s59 .leaf)))) s1 (.node (.node (.node (.node (.node .leaf s65 .leaf) s33 .leaf) s17 (.node (.node .leaf s81 .leaf) s49 .leaf)) s9 (.node (.node (.node .leaf s73 .leaf) s41 .leaf) s25 (.node (.node .leaf s89 .leaf) s57 .leaf))) s5 (.node (.node (.node (.node .leaf s69 .leaf) s37 .leaf) s21 (.node (.node .leaf s85 .leaf) s53 .leaf)) s13 (.node (.node (.node .leaf s77 .leaf) s45 .leaf) s29 (.node .leaf s61 .leaf))))) s0 (.node (.node (.node (.node (.node (.node .leaf s64 .leaf) s32 .leaf) s16 (.node (.node .leaf s80 .leaf) s48 .leaf)) s8 (.node (.node (.node .leaf s72 .leaf) s40 .leaf) s24 (.node (.node .leaf s88 .leaf) s56 .leaf))) s4 (.node (.node (.node (.node .leaf s68 .leaf) s36 .leaf) s20 (.node (.node .leaf s84 .leaf) s52 .leaf)) s12 (.node (.node (.node .leaf s76 .leaf) s44 .leaf) s28 (.node .leaf s60 .leaf)))) s2 (.node (.node (.node (.node (.node .leaf s66 .leaf) s34 .leaf) s18 (.node (.node .leaf s82 .leaf) s50 .leaf)) s10 (.node (.node (.node .leaf s74 .leaf) s42 .leaf) s26 (.node (.node .leaf s90 .leaf) s58 .leaf))) s6 (.node (.node (.node (.node .leaf s70 .leaf) s38 .leaf) s22 (.node (.node .leaf s86 .leaf) s54 .leaf)) s14 (.node (.node (.node .leaf s78 .leaf) s46 .leaf) s30 (.node .leaf s62 .leaf))))))
noncomputable abbrev fo60 (s2 : Value) : Fr := fr60 ud ud s2 ud ud ud ud ud ud ud ud ud ud ud ud ud ud ud ud ud ud ud ud ud ud ud ud ud ud ud ud ud ud ud ud ud ud ud ud ud ud ud ud ud ud ud ud ud ud ud ud ud ud ud ud ud ud ud ud ud ud ud ud ud ud ud ud ud ud ud ud ud ud ud ud ud ud ud ud ud ud ud ud ud ud ud ud ud ud ud ud
noncomputable abbrev fj60_0 (t : Fr) (s2 s3 s88 s89 s90 : Value) : Fr := fr60 (zA t 0) (zA t 1) s2 s3 (zA t 4) (zA t 5) (zA t 6) (zA t 7) (zA t 8) (zA t 9) (zA t 10) (zA t 11) (zA t 12) (zA t 13) (zA t 14) (zA t 15) (zA t 16) (zA t 17) (zA t 18) (zA t 19) (zA t 20) (zA t 21) (zA t 22) (zA t 23) (zA t 24) (zA t 25) (zA t 26) (zA t 27) (zA t 28) (zA t 29) (zA t 30) (zA t 31) (zA t 32) (zA t 33) (zA t 34) (zA t 35) (zA t 36) (zA t 37) (zA t 38) (zA t 39) (zA t 40) (zA t 41) (zA t 42) (zA t 43) (zA t 44) (zA t 45) (zA t 46) (zA t 47) (zA t 48) (zA t 49) (zA t 50) (zA t 51) (zA t 52) (zA t 53) (zA t 54) (zA t 55) (zA t 56) (zA t 57) (zA t 58) (zA t 59) (zA t 60) (zA t 61) (zA t 62) (zA t 63) (zA t 64) (zA t 65) (zA t 66) (zA t 67) (zA t 68) (zA t 69) (zA t 70) (zA t 71) (zA t 72) (zA t 73) (zA t 74) (zA t 75) (zA t 76) (zA t 77) (zA t 78) (zA t 79) (zA t 80) (zA t 81) (zA t 82) (zA t 83) (zA t 84) (zA t 85) (zA t 86) (zA t 87) s88 s89 s90
noncomputable def hint60 : tJ := fun kind _ i => match kind with
 | 1 => bif Nat.beq i 0 then [.any, .any, .any, (.int .i64)] else []
 | 2 => bif Nat.beq i 2 then [.any, .val] else bif Nat.beq i 6 then [.any, .any, .any, (.int .i64)] else bif Nat.beq i 7 then [.any, .any, .any, (.int .i64)] else bif Nat.beq i 9 then [.any, .any, .any, (.int .i64)] else bif Nat.beq i 10 then [.any, .val, .any, (.int .i64)] else []
 | 4 => bif Nat.beq i 0 then [.any] else []
 | _ => []
noncomputable def F60 (L : Lo) (lp : LP) (p0 : Value) (df : Bool) (u : Option zL) (h : zD) (n : Nat) (k : KO) : Bool :=
 eBox p0 h n fun h1 n2 v3 =>
 opt (zB P 50 0 v3) fun v4 =>
 opt (zF P 3 h1 v4) fun v5 =>
 rtI .i64 v5 fun a6 =>
 fb (vD a6 1) fun a7 =>
 grd (nt a7) (fun k8 =>
 opt (zB P 50 0 v3) fun Cd =>
 k8 h1 n2 Cd) (fun h9 BH AX =>
 grd (nt a7) (fun Ce =>
 opt (zF P 3 h9 AX) fun Cf =>
 rtI .i64 Cf fun Cg =>
 Ce h9 BH (.int .i64 Cg)) (fun BI BJ AY =>
 grd (nt a7) (fun Ch =>
 yB igtB P .gtr 3 true AY (.int .i64 9) fun Ci =>
 Ch BI BJ (.bool Ci)) (fun AZ BK Aa =>
 rtB (sel a7 (.bool true) Aa) fun AC =>
 grd (nt AC) (fun Cj =>
 opt (zF P 50 AZ v3) fun Ck =>
 Cj AZ BK Ck) (fun BL BM Ab =>
 grd (nt AC) (fun Cl =>
 yX L 113 [Ab] BL BM (fun Cm Cn Co =>
 zE P L 60 k (.panic Cm) (fo60 (.bool false)) (W.mk [] u Cn Co)) fun Cp Cq Cr =>
 Cl Cq Cr Cp) (fun BN BO Ac =>
 grd (nt AC) (fun Cs =>
 sJ L 112 [Ac] BN BO (fun Ct Cu Cv =>
 zE P L 60 k (.panic Ct) (fo60 (.bool false)) (W.mk [] u Cu Cv)) fun Cw Cx Cy =>
 Cs Cx Cy (.bool Cw)) (fun BP BQ Ad =>
 grd (nt AC) (fun Cz =>
 opt (aUn .not Ad) fun C0 =>
 rtB C0 fun C1 =>
 Cz BP BQ (.bool C1)) (fun BR BS Ae =>
 rtB (sel AC (.bool true) Ae) fun AB =>
 grd (nt AB) (fun C2 =>
 opt (zB P 50 2 v3) fun C3 =>
 C2 BR BS C3) (fun Af BT Ag =>
 grd (nt AB) (fun C4 =>
 opt (zF P 3 Af Ag) fun C5 =>
 rtI .i64 C5 fun C6 =>
 C4 Af BT (.int .i64 C6)) (fun BU BV Ah =>
 grd (nt AB) (fun C7 =>
 opt (zB P 50 3 v3) fun C8 =>
 C7 BU BV C8) (fun Ai BW Aj =>
 grd (nt AB) (fun C9 =>
 opt (zF P 3 Ai Aj) fun DA =>
 rtI .i64 DA fun DB =>
 C9 Ai BW (.int .i64 DB)) (fun BX BY Ak =>
 grd (nt AB) (fun DC =>
 opt (zB P 50 7 v3) fun DD =>
 DC BX BY DD) (fun Al BZ Am =>
 grd (nt AB) (fun DE =>
 opt (zF P 3 Al Am) fun DF =>
 rtI .i64 DF fun DG =>
 DE Al BZ (.int .i64 DG)) (fun Ba Bb An =>
 grd (nt AB) (fun DH =>
 opt (zB P 50 8 v3) fun DI =>
 DH Ba Bb DI) (fun Ao Bc Ap =>
 grd (nt AB) (fun DJ =>
 opt (zF P 3 Ao Ap) fun DK =>
 rtI .i64 DK fun DL =>
 DJ Ao Bc (.int .i64 DL)) (fun Bd Be Aq =>
 grd (nt AB) (fun DM =>
 zN P 40 4 [(0, Ah), (1, Ak), (2, An), (3, Aq)] Bd Be fun DN DO DP =>
 DM DN DO DP) (fun Bf Bg Ar =>
 grd (nt AB) (fun DQ =>
 sJ L 59 [Ar] Bf Bg (fun DR DS DT =>
 zE P L 60 k (.panic DR) (fo60 (.bool false)) (W.mk [] u DS DT)) fun DU DV DW =>
 DQ DV DW (.bool DU)) (fun Bh Bi As =>
 grd (nt AB) (fun DX =>
 opt (aUn .not As) fun DY =>
 rtB DY fun DZ =>
 DX Bh Bi (.bool DZ)) (fun Bj Bk At =>
 rtB (sel AB (.bool true) At) fun AD =>
 grd (nt AD) (fun Da =>
 opt (zB P 50 6 v3) fun Db =>
 Da Bj Bk Db) (fun Au Bl Av =>
 grd (nt AD) (fun Dc =>
 opt (zF P 40 Au Av) fun Dd =>
 Dc Au Bl Dd) (fun Bm Bn Aw =>
 grd (nt AD) (fun De =>
 sJ L 59 [Aw] Bm Bn (fun Df Dg Dh =>
 zE P L 60 k (.panic Df) (fo60 (.bool false)) (W.mk [] u Dg Dh)) fun Di Dj Dk =>
 De Dj Dk (.bool Di)) (fun Bo Bp Ax =>
 grd (nt AD) (fun Dl =>
 opt (aUn .not Ax) fun Dm =>
 rtB Dm fun Dn =>
 Dl Bo Bp (.bool Dn)) (fun Bq Br Ay =>
 rtB (sel AD (.bool true) Ay) fun AE =>
 grd (nt AE) (fun Do =>
 opt (zB P 50 6 v3) fun Dp =>
 Do Bq Br Dp) (fun Az Bs A0 =>
 grd (nt AE) (fun Dq =>
 opt (zF P 40 Az A0) fun Dr =>
 Dq Az Bs Dr) (fun A1 Bt A2 =>
 grd (nt AE) (fun Ds =>
 opt (yL P .len [40] [A2] A1) fun Dt =>
 rtI .i64 Dt fun Du =>
 Ds A1 Bt (.int .i64 Du)) (fun Bu Bv A3 =>
 grd (nt AE) (fun Dv =>
 yB igtB P .gtr 3 true A3 (.int .i64 16) fun Dw =>
 Dv Bu Bv (.bool Dw)) (fun AG AQ A4 =>
 rtB (sel AE (.bool true) A4) fun A5 =>
 br A5 (
 zE P L 60 k .ret (fo60 (.bool false)) (W.mk [] u AG AQ)) (
 opt (zB P 50 1 v3) fun A6 =>
 opt (zF P 3 AG A6) fun Dx =>
 rtI .i64 Dx fun AL =>
 opt (zB P 50 0 v3) fun A7 =>
 opt (zF P 3 AG A7) fun Dy =>
 rtI .i64 Dy fun AR =>
 blkJ (fun Dz =>
 fb (wJ AR 3) fun AM =>
 brJ AM (fun D0 =>
 opt (zB P 50 5 v3) fun Bw =>
 opt (zF P 9 AG Bw) fun Bx =>
 sJ L 58 [Bx] AG AQ (fun D1 D2 D3 =>
 zE P L 60 k (.panic D1) (fo60 (.bool false)) (W.mk [] u D2 D3)) fun By Bz B0 =>
 opt (aUn .not (.bool By)) fun D4 =>
 rtB D4 fun AJ =>
 grd (nt AJ) (fun D5 =>
 opt (zB P 50 5 v3) fun D6 =>
 D5 Bz B0 D6) (fun A8 B1 B2 =>
 grd (nt AJ) (fun D7 =>
 opt (zF P 9 A8 B2) fun D8 =>
 D7 A8 B1 D8) (fun B3 B4 B5 =>
 grd (nt AJ) (fun D9 =>
 sJ L 114 [B5] B3 B4 (fun EA EB EC =>
 zE P L 60 k (.panic EA) (fo60 (.bool false)) (W.mk [] u EB EC)) fun ED EE EF =>
 D9 EE EF (.bool ED)) (fun B6 B7 B8 =>
 rtB (sel AJ (.bool true) B8) fun AH =>
 grd (nt AH) (fun EG =>
 opt (zB P 50 6 v3) fun EH =>
 EG B6 B7 EH) (fun A9 B9 CA =>
 grd (nt AH) (fun EI =>
 opt (zF P 40 A9 CA) fun EJ =>
 EI A9 B9 EJ) (fun BA CB CC =>
 grd (nt AH) (fun EK =>
 opt (yL P .len [40] [CC] BA) fun EL =>
 rtI .i64 EL fun EM =>
 EK BA CB (.int .i64 EM)) (fun CD CE CF =>
 grd (nt AH) (fun EN =>
 yB vD P .lss 3 true CF (.int .i64 1) fun EO =>
 EN CD CE (.bool EO)) (fun CG CH CI =>
 rtB (sel AH (.bool true) CI) fun AI =>
 grd (nt AI) (fun EP =>
 opt (zB P 50 6 v3) fun EQ =>
 EP CG CH EQ) (fun BB CJ CK =>
 grd (nt AI) (fun ER =>
 opt (zF P 40 BB CK) fun ES =>
 ER BB CJ ES) (fun BC CL CM =>
 grd (nt AI) (fun ET =>
 opt (yL P .len [40] [CM] BC) fun EU =>
 rtI .i64 EU fun EV =>
 ET BC CL (.int .i64 EV)) (fun CN CO CP =>
 grd (nt AI) (fun EW =>
 yB igtB P .gtr 3 true CP (.int .i64 2) fun EX =>
 EW CN CO (.bool EX)) (fun CQ CR CS =>
 rtB (sel AI (.bool true) CS) fun CT =>
 br CT (
 zE P L 60 k .ret (fo60 (.bool false)) (W.mk [] u CQ CR)) (
 D0 (fr60 p0 v3 (vb false) (vi AL) v4 (vi a6) (vb a7) (vb a7) AX AY Aa (vb AC) (vb AC) Ab Ac Ad Ae (vb AB) (vb AB) Ag Ah Aj Ak Am An Ap Aq Ar As At (vb AD) (vb AD) Av Aw Ax Ay (vb AE) (vb AE) A0 A2 A3 A4 (vb A5) A6 (vi AL) A7 (vi AR) (vb AM) (vb AM) Bw Bx (vb By) (vb AJ) (vb AJ) B2 B5 B8 (vb AH) (vb AH) CA CC CF CI (vb AI) (vb AI) CK CM CP CS (vb CT) ud ud ud ud ud ud ud ud ud ud ud ud ud ud ud ud ud ud ud ud ud) (W.mk [] u CQ CR))) CN CO) BC CL) BB CJ) CG CH) CD CE) BA CB) A9 B9) B6 B7) B3 B4) A8 B1) Bz B0) (fun EY =>
 fb (wJ AR 6) fun BD =>
 br BD (
 opt (zB P 50 5 v3) fun EZ =>
 opt (zF P 9 AG EZ) fun Ea =>
 sJ L 58 [Ea] AG AQ (fun Eb Ec Ed =>
 zE P L 60 k (.panic Eb) (fo60 (.bool false)) (W.mk [] u Ec Ed)) fun Ee AN BE =>
 opt (aUn .not (.bool Ee)) fun Ef =>
 rtB Ef fun Eg =>
 br Eg (
 zE P L 60 k .ret (fo60 (.bool false)) (W.mk [] u AN BE)) (
 fi (vK .i64 (tH AL 1)) fun Eh =>
 opt (yL P .max [3, 3] [(.int .i64 0), (.int .i64 Eh)] AN) fun Ei =>
 rtI .i64 Ei fun Ej =>
 fi (vK .i64 (isub Ej 1)) fun Ek =>
 opt (zB P 50 1 v3) fun El =>
 opt (zF P 3 AN El) fun Em =>
 rtI .i64 Em fun En =>
 fb (wJ En (-1)) fun AS =>
 grd (nt AS) (fun Eo =>
 Eo AN BE (.int .i64 Ek)) (fun CU CV Ep =>
 grd (nt AS) (fun Eq =>
 zN P 40 1 [(0, Ep)] CU CV fun Er Es Et =>
 Eq Er Es Et) (fun CW CX Eu =>
 grd (nt AS) (fun Ev =>
 sJ L 59 [Eu] CW CX (fun Ew Ey Ez =>
 zE P L 60 k (.panic Ew) (fo60 (.bool false)) (W.mk [] u Ey Ez)) fun E0 E1 E2 =>
 Ev E1 E2 (.bool E0)) (fun E3 E4 E5 =>
 rtB (sel AS (.bool true) E5) fun E6 =>
 zE P L 60 k .ret (fo60 (.bool E6)) (W.mk [] u E3 E4)) CW CX) CU CV) AN BE)) (
 EY (fr60 p0 v3 (vb false) (vi AL) v4 (vi a6) (vb a7) (vb a7) AX AY Aa (vb AC) (vb AC) Ab Ac Ad Ae (vb AB) (vb AB) Ag Ah Aj Ak Am An Ap Aq Ar As At (vb AD) (vb AD) Av Aw Ax Ay (vb AE) (vb AE) A0 A2 A3 A4 (vb A5) A6 (vi AL) A7 (vi AR) (vb AM) (vb AM) ud ud ud ud ud ud ud ud ud ud ud ud ud ud ud ud ud ud ud ud ud (vb BD) (vb BD) ud ud ud ud ud ud ud ud ud ud ud ud ud ud ud ud ud ud ud) (W.mk [] u AG AQ))) (fun AK E7 =>
 rtI .i64 (zA AK 3) fun E8 =>
 onW E7 fun E9 FA FB FC =>
 Dz (fj60_0 AK (zA AK 2) (vi E8) (zA AK 88) (zA AK 89) (zA AK 90)) (W.mk E9 FA FB FC))) (fun AO FD =>
 rtI .i64 (zA AO 3) fun AP =>
 onW FD fun CY CZ FE FF =>
 zN P 40 1 [(0, (.int .i64 AP))] FE FF fun FG FH BF =>
 sJ L 59 [BF] FG FH (fun FI FJ FK =>
 zE P L 60 k (.panic FI) (fj60_0 AO (zA AO 2) (vi AP) (vi AP) BF (zA AO 90)) (W.mk CY CZ FJ FK)) fun Ca FL FM =>
 zE P L 60 k .ret (fj60_0 AO (vb Ca) (vi AP) (vi AP) BF (vb Ca)) (W.mk CY CZ FL FM)))) Bu Bv) A1 Bt) Az Bs) Bq Br) Bo Bp) Bm Bn) Au Bl) Bj Bk) Bh Bi) Bf Bg) Bd Be) Ao Bc) Ba Bb) Al BZ) BX BY) Ai BW) BU BV) Af BT) BR BS) BP BQ) BN BO) BL BM) AZ BK) BI BJ) h9 BH) h1 n2
theorem F60_eq (L : Lo) (lp : LP) (p0 : Value) (df : Bool) (u : Option zL) (h : zD) (n : Nat) (k : KO) : wQ P hint60 L lp 60 [p0] df u h n k = F60 L lp p0 df u h n k := by kernel_rfl
theorem l60 : xB P 60 = true := by kernel_rfl
theorem r60 : wA P 60 = some [.tmp 2] := by kernel_rfl
noncomputable abbrev fr20 (s0 s1 s2 s3 s4 s5 s6 s7 s8 s9 s10 s11 s12 s13 s14 s15 s16 s17 s18 s19 s20 s21 s22 s23 s24 s25 s26 s27 s28 s29 s30 s31 s32 s33 s34 s35 s36 s37 s38 s39 s40 s41 s42 s43 s44 s45 s46 s47 s48 s49 s50 s51 s52 s53 s54 s55 s56 s57 s58 s59 s60 s61 s62 s63 s64 s65 s66 s67 s68 s69 s70 s71 s72 s73 s74 s75 s76 s77 s78 s79 s80 s81 s82 : Value) : Fr := (.node (.node (.node (.node (.node (.node (.node .leaf s63 .leaf) s31 .leaf) s15 (.node (.node .leaf s79 .leaf) s47 .leaf)) s7 (.node (.node (.node .leaf s71 .leaf) s39 .leaf) s23 (.node .leaf s55 .leaf))) s3 (.node (.node (.node (.node .leaf s67 .leaf) s35 .leaf) s19 (.node .leaf s51 .leaf)) s11 (.node (.node (.node .leaf s75 .leaf) s43 .leaf) s27 (.node .leaf s59 .leaf)))) s1 (.node (.node (.node (.node (.node .leaf s65 .leaf) s33 .leaf) s17 (.node (.node .leaf s81 .leaf) s49 .leaf)) s9 (.node (.node (.node .leaf s73 .leaf) s41 .leaf) s25 (.node .leaf s57 .leaf))) s5 (.node (.node (.node (.node .leaf s69 .leaf) s37 .leaf) s21 (.node .leaf s53 .leaf)) s13 (.node (.node (.node .leaf s77 .leaf) s45 .leaf) s29 (.node .leaf s61 .leaf))))) s0 (.node (.node (.node (.node (.node (.node .leaf s64 .leaf) s32 .leaf) s16 (.node (.node .leaf s80 .leaf) s48 .leaf)) s8 (.node (.node (.node .leaf s72 .leaf) s40 .leaf) s24 (.node .leaf s56 .leaf))) s4 (.node (.node (.node (.node .leaf s68 .leaf) s36 .leaf) s20 (.node .leaf s52 .leaf)) s12 (.node (.node (.node .leaf s76 .leaf) s44 .leaf) s28 (.node .leaf s60 .leaf)))) s2 (.node (.node (.node (.node (.node .leaf s66 .leaf) s34 .leaf) s18 (.node (.node .leaf s82 .leaf) s50 .leaf)) s10 (.node (.node (.node .leaf s74 .leaf) s42 .leaf) s26 (.node .leaf s58 .leaf))) s6 (.node (.node (.node (.node .leaf s70 .leaf) s38 .leaf) s22 (.node .leaf s54 .leaf)) s14 (.node (.node (.node .leaf s78 .leaf) s46 .leaf) s30 (.node .leaf s62 .leaf))))))
noncomputable abbrev fo20 (s2 : Value) : Fr := fr20 ud ud s2 ud ud ud ud ud ud ud ud ud ud ud ud ud ud ud ud ud ud ud ud ud ud ud ud ud ud ud ud ud ud ud ud ud ud ud ud ud ud ud ud ud ud ud ud ud ud ud ud ud ud ud ud ud ud ud ud ud ud ud ud ud ud ud ud ud ud ud ud ud ud ud ud ud ud ud ud ud ud ud ud
noncomputable def hint20 : tJ := fun kind _ i => match kind with
 | 0 => bif Nat.beq i 1000003 then [.any, .val, .any, .bool, .any, .any, .any, .any, .any, .any, .any, .any, .any, .any, .any, .any, .any, .any, .any, .any, .any, .any, .any, .any, .any, .any, .any, .any, .any, .any, .any, .any, .any, .any, .any, .any, .any, .any, .any, .any, .any, .any, .val, (.int .i64), (.int .i64)] else bif Nat.beq i 1000008 then [.any, .any, .any, .bool, .any, .any, .any, .any, .any, .any, .any, .any, .any, .any, .any, .any, .any, .any, .any, .any, .any, .any, .any, .any, .any, .any, .any, .any, .any, .any, .any, .any, .any, .any, .any, .any, .any, .any, .any, .any, .any, .any, .any, .any, .any, .any, .any, .any, .any, .any, .any, .any, .any, .any, .any, .val, (.int .i64), (.int .i64)] else bif Nat.beq i 1000012 then [.any, .any, .any, .bool, .any, .any, .any, .any, .any, .any, .any, .any, .any, .any, .any, .any, .any, .any, .any, .any, .any, .any, .any, .any, .any, .any, .any, .any, .any, .any, .any, .any, .any, .any, .any, .any, .any, .any, .any, .any, .any, .any, .any, .any, .any, .any, .any, .any, .any, .any, .any, .any, .any, .any, .any, .val, (.int .i64), (.int .i64), .any, .any, .any, .any, .any, .any, .any, .any, .any, .val, (.int .i64), (.int .i64)] else []
 | 1 => bif Nat.beq i 0 then [.any, .val, .any, .bool] else bif Nat.beq i 1 then [.any, .val, .any, .bool, .any, .any, .any, .any, .any, .any, .any, .any, .any, .any, .any, .any, .any, .any, .any, .any, .any, .any, .any, .any, .any, .any, .any, .any, .any, .any, .any, .any, .any, .any, .any, .any, .any, .any, .any, .any, .any, .any, .val, (.int .i64), (.int .i64)] else bif Nat.beq i 2 then [.any, .any, .any, .bool] else bif Nat.beq i 3 then [.any, .any, .any, .bool, .any, .any, .any, .any, .any, .any, .any, .any, .any, .any, .any, .any, .any, .any, .any, .any, .any, .any, .any, .any, .any, .any, .any, .any, .any, .any, .any, .any, .any, .any, .any, .any, .any, .any, .any, .any, .any, .any, .any, .any, .any, .any, .any, .any, .any, .any, .any, .any, .any, .any, .any, .val, (.int .i64), (.int .i64)] else bif Nat.beq i 4 then [.any, .any, .any, .bool, .any, .any, .any, .any, .any, .any, .any, .any, .any, .any, .any, .any, .any, .any, .any, .any, .any, .any, .any, .any, .any, .any, .any, .any, .any, .any, .any, .any, .any, .any, .any, .any, .any, .any, .any, .any, .any, .any, .any, .any, .any, .any, .any, .any, .any, .any, .any, .any, .any, .any, .any, .val, (.int .i64), (.int .i64)] else bif Nat.beq i 5 then [.any, .any, .any, .bool, .any, .any, .any, .any, .any, .any, .any, .any, .any, .any, .any, .any, .any, .any, .any, .any, .any, .any, .any, .any, .any, .any, .any, .any, .any, .any, .any, .any, .any, .any, .any, .any, .any, .any, .any, .any, .any, .any, .any, .any, .any, .any, .any, .any, .any, .any, .any, .any, .any, .any, .any, .val, (.int .i64), (.int .i64), .any, .any, .any, .any, .any, .any, .any, .any, .any, .val, (.int .i64), (.int .i64)] else []
 | 2 => bif Nat.beq i 0 then [.any, .val, .any, .bool, .any, .any, .any, .any, .any, .any, .any, .any, .any, .any, .any, .any, .any, .any, .any, .any, .any, .any, .any, .any, .any, .any, .any, .any, .any, .any, .any, .any, .any, .any, .any, .any, .any, .any, .any, .any, .any, .any, .val, (.int .i64), (.int .i64)] else bif Nat.beq i 16 then [.any, .any, .any, .bool, .any, .any, .any, .any, .any, .any, .any, .any, .any, .any, .any, .any, .any, .any, .any, .any, .any, .any, .any, .any, .any, .any, .any, .any, .any, .any, .any, .any, .any, .any, .any, .any, .any, .any, .any, .any, .any, .any, .any, .any, .any, .any, .any, .any, .any, .any, .any, .any, .any, .any, .any, .val, (.int .i64), (.int .i64), .any, .any, .any, .any, .any, .any, .any, .any, .any, .val, (.int .i64), (.int .i64)] else []
 | 4 => bif Nat.beq i 0 then [.any] else []
 | _ => []
noncomputable def F20 (L : Lo) (lp : LP) (p0 : Value) (df : Bool) (u : Option zL) (h : zD) (n : Nat) (k : KO) : Bool :=
 eBox p0 h n fun h1 n2 v3 =>
 opt (zB P 43 0 v3) fun v4 =>
 opt (zF P 9 h1 v4) fun v5 =>
 sJ L 58 [v5] h1 n2 (fun c9 BO BP =>
 zE P L 20 k (.panic c9) (fo20 (.bool false)) (W.mk [] u BO BP)) fun a6 h7 n8 =>
 grd a6 (fun BQ =>
 opt (zB P 43 3 v3) fun BR =>
 BQ h7 n8 BR) (fun AI AY AZ =>
 grd a6 (fun BS =>
 opt (zF P 9 AI AZ) fun BT =>
 BS AI AY BT) (fun Aa Ab Ac =>
 grd a6 (fun BU =>
 sJ L 58 [Ac] Aa Ab (fun BV BW BX =>
 zE P L 20 k (.panic BV) (fo20 (.bool false)) (W.mk [] u BW BX)) fun BY BZ Ba =>
 BU BZ Ba (.bool BY)) (fun Ad Ae Af =>
 rtB (sel a6 Af (.bool false)) fun AD =>
 grd AD (fun Bb =>
 opt (zB P 43 1 v3) fun Bc =>
 Bb Ad Ae Bc) (fun AJ Ag Ah =>
 grd AD (fun Bd =>
 opt (zF P 23 AJ Ah) fun Be =>
 Bd AJ Ag Be) (fun AK Ai Aj =>
 grd AD (fun Bf =>
 opt (yL P .len [23] [Aj] AK) fun Bg =>
 rtI .i64 Bg fun Bh =>
 Bf AK Ai (.int .i64 Bh)) (fun Ak Al Am =>
 grd AD (fun Bi =>
 yB rM P .leq 3 true Am (.int .i64 500) fun Bj =>
 Bi Ak Al (.bool Bj)) (fun An Ao Ap =>
 rtB (sel AD Ap (.bool false)) fun AE =>
 grd AE (fun Bk =>
 opt (zB P 43 2 v3) fun Bl =>
 Bk An Ao Bl) (fun AL Aq Ar =>
 grd AE (fun Bm =>
 opt (zF P 40 AL Ar) fun Bn =>
 Bm AL Aq Bn) (fun AM As At =>
 grd AE (fun Bo =>
 opt (yL P .len [40] [At] AM) fun Bp =>
 rtI .i64 Bp fun Bq =>
 Bo AM As (.int .i64 Bq)) (fun Au Av Aw =>
 grd AE (fun Br =>
 yB rM P .leq 3 true Aw (.int .i64 16) fun Bs =>
 Br Au Av (.bool Bs)) (fun Ax Ay Az =>
 rtB (sel AE Az (.bool false)) fun AF =>
 grd AF (fun Bt =>
 opt (zB P 43 4 v3) fun Bu =>
 Bt Ax Ay Bu) (fun AN A0 A1 =>
 grd AF (fun Bv =>
 opt (zF P 41 AN A1) fun Bw =>
 Bv AN A0 Bw) (fun AO A2 A3 =>
 grd AF (fun Bx =>
 opt (yL P .len [41] [A3] AO) fun By =>
 rtI .i64 By fun Bz =>
 Bx AO A2 (.int .i64 Bz)) (fun A4 A5 A6 =>
 grd AF (fun B0 =>
 yB rM P .leq 3 true A6 (.int .i64 200) fun B1 =>
 B0 A4 A5 (.bool B1)) (fun A7 A8 A9 =>
 rtB (sel AF A9 (.bool false)) fun AH =>
 grd AH (fun B2 =>
 opt (zB P 43 2 v3) fun B3 =>
 B2 A7 A8 B3) (fun AP BA BB =>
 grd AH (fun B4 =>
 opt (zF P 40 AP BB) fun B5 =>
 B4 AP BA B5) (fun BC BD BE =>
 grd AH (fun B6 =>
 sJ L 59 [BE] BC BD (fun B7 B8 B9 =>
 zE P L 20 k (.panic B7) (fo20 (.bool false)) (W.mk [] u B8 B9)) fun CA CB CC =>
 B6 CB CC (.bool CA)) (fun AQ CD BF =>
 rtB (sel AH BF (.bool false)) fun BG =>
 opt (zB P 43 1 v3) fun BH =>
 opt (zF P 23 AQ BH) fun BI =>
 opt (yL P .len [23] [BI] AQ) fun CE =>
 rtI .i64 CE fun CF =>
 lp 1000003 ⟨20, none, df⟩ (fr20 p0 v3 (vb false) (vb BG) ud ud ud ud ud ud v4 v5 (vb a6) (vb a6) AZ Ac Af (vb AD) (vb AD) Ah Aj Am Ap (vb AE) (vb AE) Ar At Aw Az (vb AF) (vb AF) A1 A3 A6 A9 (vb AH) (vb AH) BB BE BF (vb BG) BH BI (vi CF) (vi 0) ud ud ud ud ud ud ud ud ud ud ud ud ud ud ud ud ud ud ud ud ud ud ud ud ud ud ud ud ud ud ud ud ud ud ud ud ud ud) (W.mk [] u AQ CD) (endA noK (blkA 0 (fun AB CG =>
 zO (zA AB 1) fun BJ =>
 rtB (zA AB 3) fun CH =>
 onW CG fun CI CJ AR CK =>
 opt (zB P 43 4 BJ) fun BK =>
 opt (zF P 41 AR BK) fun BL =>
 opt (yL P .len [41] [BL] AR) fun CL =>
 rtI .i64 CL fun CM =>
 lp 1000008 ⟨20, none, df⟩ (fr20 (zA AB 0) BJ (zA AB 2) (vb CH) (zA AB 4) (zA AB 5) (zA AB 6) (zA AB 7) (zA AB 8) (zA AB 9) (zA AB 10) (zA AB 11) (zA AB 12) (zA AB 13) (zA AB 14) (zA AB 15) (zA AB 16) (zA AB 17) (zA AB 18) (zA AB 19) (zA AB 20) (zA AB 21) (zA AB 22) (zA AB 23) (zA AB 24) (zA AB 25) (zA AB 26) (zA AB 27) (zA AB 28) (zA AB 29) (zA AB 30) (zA AB 31) (zA AB 32) (zA AB 33) (zA AB 34) (zA AB 35) (zA AB 36) (zA AB 37) (zA AB 38) (zA AB 39) (zA AB 40) (zA AB 41) (zA AB 42) (zA AB 43) (zA AB 44) (zA AB 45) (zA AB 46) (zA AB 47) (zA AB 48) (zA AB 49) (zA AB 50) (zA AB 51) (zA AB 52) (zA AB 53) BK BL (vi CM) (vi 0) (zA AB 58) (zA AB 59) (zA AB 60) (zA AB 61) (zA AB 62) (zA AB 63) (zA AB 64) (zA AB 65) (zA AB 66) (zA AB 67) (zA AB 68) (zA AB 69) (zA AB 70) (zA AB 71) (zA AB 72) (zA AB 73) (zA AB 74) (zA AB 75) (zA AB 76) (zA AB 77) (zA AB 78) (zA AB 79) (zA AB 80) (zA AB 81) (zA AB 82)) (W.mk CI CJ AR CK) (endA noK (blkA 2 (fun AA CN =>
 rtB (zA AA 3) fun AS =>
 onW CN fun CO CP CQ CR =>
 zE P L 20 k .ret (fr20 (zA AA 0) (zA AA 1) (vb AS) (vb AS) (zA AA 4) (zA AA 5) (zA AA 6) (zA AA 7) (zA AA 8) (zA AA 9) (zA AA 10) (zA AA 11) (zA AA 12) (zA AA 13) (zA AA 14) (zA AA 15) (zA AA 16) (zA AA 17) (zA AA 18) (zA AA 19) (zA AA 20) (zA AA 21) (zA AA 22) (zA AA 23) (zA AA 24) (zA AA 25) (zA AA 26) (zA AA 27) (zA AA 28) (zA AA 29) (zA AA 30) (zA AA 31) (zA AA 32) (zA AA 33) (zA AA 34) (zA AA 35) (zA AA 36) (zA AA 37) (zA AA 38) (zA AA 39) (zA AA 40) (zA AA 41) (zA AA 42) (zA AA 43) (zA AA 44) (zA AA 45) (zA AA 46) (zA AA 47) (zA AA 48) (zA AA 49) (zA AA 50) (zA AA 51) (zA AA 52) (zA AA 53) (zA AA 54) (zA AA 55) (zA AA 56) (zA AA 57) (zA AA 58) (zA AA 59) (zA AA 60) (zA AA 61) (zA AA 62) (zA AA 63) (zA AA 64) (zA AA 65) (zA AA 66) (zA AA 67) (zA AA 68) (zA AA 69) (zA AA 70) (zA AA 71) (zA AA 72) (zA AA 73) (zA AA 74) (zA AA 75) (zA AA 76) (zA AA 77) (zA AA 78) (zA AA 79) (zA AA 80) (zA AA 81) (vb AS)) (W.mk CO CP CQ CR)) (zE P L 20 k)))) (zE P L 20 k)))) BC BD) AP BA) A7 A8) A4 A5) AO A2) AN A0) Ax Ay) Au Av) AM As) AL Aq) An Ao) Ak Al) AK Ai) AJ Ag) Ad Ae) Aa Ab) AI AY) h7 n8
theorem F20_eq (L : Lo) (lp : LP) (p0 : Value) (df : Bool) (u : Option zL) (h : zD) (n : Nat) (k : KO) : wQ P hint20 L lp 20 [p0] df u h n k = F20 L lp p0 df u h n k := by kernel_rfl
noncomputable def B20_1000003 (L : Lo) (lp : LP) (rd : Option Nat) (df : Bool) (t : Fr) (w : W) (ka : KX) : Bool :=
 zO (zA t 1) fun AI =>
 rtB (zA t 3) fun AB =>
 zO (zA t 42) fun AE =>
 rtI .i64 (zA t 43) fun AF =>
 rtI .i64 (zA t 44) fun AC =>
 onW w fun AJ AK AG AL =>
 fb (vD AC AF) fun AH =>
 br AH (
 blkJ (fun AT =>
 opt (zT P 23 AE (.int .i64 AC)) fun AM =>
 opt (zF P 9 AG AM) fun AD =>
 grd AB (fun AU =>
 AU AG AL AD) (fun AO AP AN =>
 grd AB (fun AV =>
 sJ L 58 [AN] AO AP (fun AW AX AY =>
 ka (.panic AW) (fr20 (zA t 0) AI (zA t 2) (vb AB) (zA t 4) AD (zA t 6) (zA t 7) (zA t 8) (zA t 9) (zA t 10) (zA t 11) (zA t 12) (zA t 13) (zA t 14) (zA t 15) (zA t 16) (zA t 17) (zA t 18) (zA t 19) (zA t 20) (zA t 21) (zA t 22) (zA t 23) (zA t 24) (zA t 25) (zA t 26) (zA t 27) (zA t 28) (zA t 29) (zA t 30) (zA t 31) (zA t 32) (zA t 33) (zA t 34) (zA t 35) (zA t 36) (zA t 37) (zA t 38) (zA t 39) (zA t 40) (zA t 41) AE (vi AF) (vi AC) (vb AH) AM AD (vb AB) (vb AB) AN (zA t 51) (zA t 52) (zA t 53) (zA t 54) (zA t 55) (zA t 56) (zA t 57) (zA t 58) (zA t 59) (zA t 60) (zA t 61) (zA t 62) (zA t 63) (zA t 64) (zA t 65) (zA t 66) (zA t 67) (zA t 68) (zA t 69) (zA t 70) (zA t 71) (zA t 72) (zA t 73) (zA t 74) (zA t 75) (zA t 76) (zA t 77) (zA t 78) (zA t 79) (zA t 80) (zA t 81) (zA t 82)) (W.mk AJ AK AX AY)) fun AZ Aa Ab =>
 AV Aa Ab (.bool AZ)) (fun Ac Ad AQ =>
 rtB (sel AB AQ (.bool false)) fun AR =>
 AT (fr20 (zA t 0) AI (zA t 2) (vb AR) (zA t 4) AD (zA t 6) (zA t 7) (zA t 8) (zA t 9) (zA t 10) (zA t 11) (zA t 12) (zA t 13) (zA t 14) (zA t 15) (zA t 16) (zA t 17) (zA t 18) (zA t 19) (zA t 20) (zA t 21) (zA t 22) (zA t 23) (zA t 24) (zA t 25) (zA t 26) (zA t 27) (zA t 28) (zA t 29) (zA t 30) (zA t 31) (zA t 32) (zA t 33) (zA t 34) (zA t 35) (zA t 36) (zA t 37) (zA t 38) (zA t 39) (zA t 40) (zA t 41) AE (vi AF) (vi AC) (vb AH) AM AD (vb AB) (vb AB) AN AQ (vb AR) (zA t 53) (zA t 54) (zA t 55) (zA t 56) (zA t 57) (zA t 58) (zA t 59) (zA t 60) (zA t 61) (zA t 62) (zA t 63) (zA t 64) (zA t 65) (zA t 66) (zA t 67) (zA t 68) (zA t 69) (zA t 70) (zA t 71) (zA t 72) (zA t 73) (zA t 74) (zA t 75) (zA t 76) (zA t 77) (zA t 78) (zA t 79) (zA t 80) (zA t 81) (zA t 82)) (W.mk AJ AK Ac Ad)) AO AP) AG AL) (fun AA Ae =>
 zO (zA AA 1) fun Af =>
 rtB (zA AA 3) fun Ag =>
 zO (zA AA 42) fun Ah =>
 rtI .i64 (zA AA 43) fun Ai =>
 rtI .i64 (zA AA 44) fun Aj =>
 onW Ae fun Ak Al Am An =>
 fi (vK .i64 (tH Aj 1)) fun AS =>
 lp 1000003 ⟨20, rd, df⟩ (fr20 (zA AA 0) Af (zA AA 2) (vb Ag) (zA AA 4) (zA AA 5) (zA AA 6) (zA AA 7) (zA AA 8) (zA AA 9) (zA AA 10) (zA AA 11) (zA AA 12) (zA AA 13) (zA AA 14) (zA AA 15) (zA AA 16) (zA AA 17) (zA AA 18) (zA AA 19) (zA AA 20) (zA AA 21) (zA AA 22) (zA AA 23) (zA AA 24) (zA AA 25) (zA AA 26) (zA AA 27) (zA AA 28) (zA AA 29) (zA AA 30) (zA AA 31) (zA AA 32) (zA AA 33) (zA AA 34) (zA AA 35) (zA AA 36) (zA AA 37) (zA AA 38) (zA AA 39) (zA AA 40) (zA AA 41) Ah (vi Ai) (vi AS) (zA AA 45) (zA AA 46) (zA AA 47) (zA AA 48) (zA AA 49) (zA AA 50) (zA AA 51) (zA AA 52) (vi AS) (zA AA 54) (zA AA 55) (zA AA 56) (zA AA 57) (zA AA 58) (zA AA 59) (zA AA 60) (zA AA 61) (zA AA 62) (zA AA 63) (zA AA 64) (zA AA 65) (zA AA 66) (zA AA 67) (zA AA 68) (zA AA 69) (zA AA 70) (zA AA 71) (zA AA 72) (zA AA 73) (zA AA 74) (zA AA 75) (zA AA 76) (zA AA 77) (zA AA 78) (zA AA 79) (zA AA 80) (zA AA 81) (zA AA 82)) (W.mk Ak Al Am An) ka)) (
 ka (.exit 0) (fr20 (zA t 0) AI (zA t 2) (vb AB) (zA t 4) (zA t 5) (zA t 6) (zA t 7) (zA t 8) (zA t 9) (zA t 10) (zA t 11) (zA t 12) (zA t 13) (zA t 14) (zA t 15) (zA t 16) (zA t 17) (zA t 18) (zA t 19) (zA t 20) (zA t 21) (zA t 22) (zA t 23) (zA t 24) (zA t 25) (zA t 26) (zA t 27) (zA t 28) (zA t 29) (zA t 30) (zA t 31) (zA t 32) (zA t 33) (zA t 34) (zA t 35) (zA t 36) (zA t 37) (zA t 38) (zA t 39) (zA t 40) (zA t 41) AE (vi AF) (vi AC) (vb AH) (zA t 46) (zA t 47) (zA t 48) (zA t 49) (zA t 50) (zA t 51) (zA t 52) (zA t 53) (zA t 54) (zA t 55) (zA t 56) (zA t 57) (zA t 58) (zA t 59) (zA t 60) (zA t 61) (zA t 62) (zA t 63) (zA t 64) (zA t 65) (zA t 66) (zA t 67) (zA t 68) (zA t 69) (zA t 70) (zA t 71) (zA t 72) (zA t 73) (zA t 74) (zA t 75) (zA t 76) (zA t 77) (zA t 78) (zA t 79) (zA t 80) (zA t 81) (zA t 82)) (W.mk AJ AK AG AL))
theorem B20_1000003_eq (L : Lo) (lp : LP) (rd : Option Nat) (df : Bool) (t : Fr) (w : W) (ka : KX) : pC P hint20 L lp (unL (yD P 20 1000003)) ⟨20, rd, df⟩ t w ka = B20_1000003 L lp rd df t w ka := by kernel_rfl
noncomputable def B20_1000008 (L : Lo) (lp : LP) (rd : Option Nat) (df : Bool) (t : Fr) (w : W) (ka : KX) : Bool :=
 rtB (zA t 3) fun AC =>
 zO (zA t 55) fun AG =>
 rtI .i64 (zA t 56) fun AH =>
 rtI .i64 (zA t 57) fun AE =>
 onW w fun AL AM AF AI =>
 fb (vD AE AH) fun AJ =>
 br AJ (
 blkJ (fun AN =>
 opt (zT P 41 AG (.int .i64 AE)) fun AO =>
 opt (zF P 51 AF AO) fun AD =>
 grd AC (fun AY =>
 AY AF AI AD) (fun AK AP AQ =>
 grd AC (fun AZ =>
 opt (yL P .len [51] [AQ] AK) fun Aa =>
 rtI .i64 Aa fun Ab =>
 AZ AK AP (.int .i64 Ab)) (fun AR AS AT =>
 grd AC (fun Ac =>
 yB rM P .leq 3 true AT (.int .i64 400) fun Ad =>
 Ac AR AS (.bool Ad)) (fun AU Ae AV =>
 rtB (sel AC AV (.bool false)) fun AW =>
 opt (yL P .len [51] [AD] AU) fun Af =>
 rtI .i64 Af fun Ag =>
 lp 1000012 ⟨20, rd, df⟩ (fr20 (zA t 0) (zA t 1) (zA t 2) (vb AW) (zA t 4) (zA t 5) (zA t 6) AD (zA t 8) (zA t 9) (zA t 10) (zA t 11) (zA t 12) (zA t 13) (zA t 14) (zA t 15) (zA t 16) (zA t 17) (zA t 18) (zA t 19) (zA t 20) (zA t 21) (zA t 22) (zA t 23) (zA t 24) (zA t 25) (zA t 26) (zA t 27) (zA t 28) (zA t 29) (zA t 30) (zA t 31) (zA t 32) (zA t 33) (zA t 34) (zA t 35) (zA t 36) (zA t 37) (zA t 38) (zA t 39) (zA t 40) (zA t 41) (zA t 42) (zA t 43) (zA t 44) (zA t 45) (zA t 46) (zA t 47) (zA t 48) (zA t 49) (zA t 50) (zA t 51) (zA t 52) (zA t 53) (zA t 54) AG (vi AH) (vi AE) (vb AJ) AO AD (vb AC) (vb AC) AQ AT AV (vb AW) AD (vi Ag) (vi 0) (zA t 70) (zA t 71) (zA t 72) (zA t 73) (zA t 74) (zA t 75) (zA t 76) (zA t 77) (zA t 78) (zA t 79) (zA t 80) (zA t 81) (zA t 82)) (W.mk AL AM AU Ae) (endA noK (blkA 4 (fun AA Ah =>
 rtB (zA AA 3) fun Ai =>
 zO (zA AA 55) fun Aj =>
 rtI .i64 (zA AA 56) fun Ak =>
 rtI .i64 (zA AA 57) fun Al =>
 onW Ah fun Am An Ao Ap =>
 AN (fr20 (zA AA 0) (zA AA 1) (zA AA 2) (vb Ai) (zA AA 4) (zA AA 5) (zA AA 6) (zA AA 7) (zA AA 8) (zA AA 9) (zA AA 10) (zA AA 11) (zA AA 12) (zA AA 13) (zA AA 14) (zA AA 15) (zA AA 16) (zA AA 17) (zA AA 18) (zA AA 19) (zA AA 20) (zA AA 21) (zA AA 22) (zA AA 23) (zA AA 24) (zA AA 25) (zA AA 26) (zA AA 27) (zA AA 28) (zA AA 29) (zA AA 30) (zA AA 31) (zA AA 32) (zA AA 33) (zA AA 34) (zA AA 35) (zA AA 36) (zA AA 37) (zA AA 38) (zA AA 39) (zA AA 40) (zA AA 41) (zA AA 42) (zA AA 43) (zA AA 44) (zA AA 45) (zA AA 46) (zA AA 47) (zA AA 48) (zA AA 49) (zA AA 50) (zA AA 51) (zA AA 52) (zA AA 53) (zA AA 54) Aj (vi Ak) (vi Al) (zA AA 58) (zA AA 59) (zA AA 60) (zA AA 61) (zA AA 62) (zA AA 63) (zA AA 64) (zA AA 65) (zA AA 66) (zA AA 67) (zA AA 68) (zA AA 69) (zA AA 70) (zA AA 71) (zA AA 72) (zA AA 73) (zA AA 74) (zA AA 75) (zA AA 76) (zA AA 77) (zA AA 78) (zA AA 79) (zA AA 80) (zA AA 81) (zA AA 82)) (W.mk Am An Ao Ap)) (blkA 3 AN ka)))) AR AS) AK AP) AF AI) (fun AB Aq =>
 rtB (zA AB 3) fun Ar =>
 zO (zA AB 55) fun As =>
 rtI .i64 (zA AB 56) fun At =>
 rtI .i64 (zA AB 57) fun Au =>
 onW Aq fun Av Aw Ax Ay =>
 fi (vK .i64 (tH Au 1)) fun AX =>
 lp 1000008 ⟨20, rd, df⟩ (fr20 (zA AB 0) (zA AB 1) (zA AB 2) (vb Ar) (zA AB 4) (zA AB 5) (zA AB 6) (zA AB 7) (zA AB 8) (zA AB 9) (zA AB 10) (zA AB 11) (zA AB 12) (zA AB 13) (zA AB 14) (zA AB 15) (zA AB 16) (zA AB 17) (zA AB 18) (zA AB 19) (zA AB 20) (zA AB 21) (zA AB 22) (zA AB 23) (zA AB 24) (zA AB 25) (zA AB 26) (zA AB 27) (zA AB 28) (zA AB 29) (zA AB 30) (zA AB 31) (zA AB 32) (zA AB 33) (zA AB 34) (zA AB 35) (zA AB 36) (zA AB 37) (zA AB 38) (zA AB 39) (zA AB 40) (zA AB 41) (zA AB 42) (zA AB 43) (zA AB 44) (zA AB 45) (zA AB 46) (zA AB 47) (zA AB 48) (zA AB 49) (zA AB 50) (zA AB 51) (zA AB 52) (zA AB 53) (zA AB 54) As (vi At) (vi AX) (zA AB 58) (zA AB 59) (zA AB 60) (zA AB 61) (zA AB 62) (zA AB 63) (zA AB 64) (zA AB 65) (zA AB 66) (zA AB 67) (zA AB 68) (zA AB 69) (zA AB 70) (zA AB 71) (zA AB 72) (zA AB 73) (zA AB 74) (zA AB 75) (zA AB 76) (zA AB 77) (zA AB 78) (zA AB 79) (zA AB 80) (vi AX) (zA AB 82)) (W.mk Av Aw Ax Ay) ka)) (
 ka (.exit 2) (fr20 (zA t 0) (zA t 1) (zA t 2) (vb AC) (zA t 4) (zA t 5) (zA t 6) (zA t 7) (zA t 8) (zA t 9) (zA t 10) (zA t 11) (zA t 12) (zA t 13) (zA t 14) (zA t 15) (zA t 16) (zA t 17) (zA t 18) (zA t 19) (zA t 20) (zA t 21) (zA t 22) (zA t 23) (zA t 24) (zA t 25) (zA t 26) (zA t 27) (zA t 28) (zA t 29) (zA t 30) (zA t 31) (zA t 32) (zA t 33) (zA t 34) (zA t 35) (zA t 36) (zA t 37) (zA t 38) (zA t 39) (zA t 40) (zA t 41) (zA t 42) (zA t 43) (zA t 44) (zA t 45) (zA t 46) (zA t 47) (zA t 48) (zA t 49) (zA t 50) (zA t 51) (zA t 52) (zA t 53) (zA t 54) AG (vi AH) (vi AE) (vb AJ) (zA t 59) (zA t 60) (zA t 61) (zA t 62) (zA t 63) (zA t 64) (zA t 65) (zA t 66) (zA t 67) (zA t 68) (zA t 69) (zA t 70) (zA t 71) (zA t 72) (zA t 73) (zA t 74) (zA t 75) (zA t 76) (zA t 77) (zA t 78) (zA t 79) (zA t 80) (zA t 81) (zA t 82)) (W.mk AL AM AF AI))
theorem B20_1000008_eq (L : Lo) (lp : LP) (rd : Option Nat) (df : Bool) (t : Fr) (w : W) (ka : KX) : pC P hint20 L lp (unL (yD P 20 1000008)) ⟨20, rd, df⟩ t w ka = B20_1000008 L lp rd df t w ka := by kernel_rfl
noncomputable def B20_1000012 (L : Lo) (lp : LP) (rd : Option Nat) (df : Bool) (t : Fr) (w : W) (ka : KX) : Bool :=
 rtB (zA t 3) fun AB =>
 zO (zA t 55) fun AI =>
 rtI .i64 (zA t 56) fun AJ =>
 rtI .i64 (zA t 57) fun AK =>
 zO (zA t 67) fun AE =>
 rtI .i64 (zA t 68) fun AF =>
 rtI .i64 (zA t 69) fun AD =>
 onW w fun AL AM AQ AU =>
 fb (vD AD AF) fun AG =>
 br AG (
 blkJ (fun Ab =>
 opt (zT P 51 AE (.int .i64 AD)) fun AN =>
 opt (zF P 50 AQ AN) fun AO =>
 tD P 50 AQ AU fun Ac Ad AH =>
 zV P 50 AH AO Ac Ad fun AR AV A0 =>
 grd AB (fun Ae =>
 opt (zF P 50 AR AH) fun Af =>
 Ae AR AV Af) (fun AW AX AP =>
 grd AB (fun Ag =>
 sJ L 60 [AP] AW AX (fun Ah Ai Aj =>
 ka (.panic Ah) (fr20 (zA t 0) (zA t 1) (zA t 2) (vb AB) (zA t 4) (zA t 5) (zA t 6) (zA t 7) (zA t 8) AH (zA t 10) (zA t 11) (zA t 12) (zA t 13) (zA t 14) (zA t 15) (zA t 16) (zA t 17) (zA t 18) (zA t 19) (zA t 20) (zA t 21) (zA t 22) (zA t 23) (zA t 24) (zA t 25) (zA t 26) (zA t 27) (zA t 28) (zA t 29) (zA t 30) (zA t 31) (zA t 32) (zA t 33) (zA t 34) (zA t 35) (zA t 36) (zA t 37) (zA t 38) (zA t 39) (zA t 40) (zA t 41) (zA t 42) (zA t 43) (zA t 44) (zA t 45) (zA t 46) (zA t 47) (zA t 48) (zA t 49) (zA t 50) (zA t 51) (zA t 52) (zA t 53) (zA t 54) AI (vi AJ) (vi AK) (zA t 58) (zA t 59) (zA t 60) (zA t 61) (zA t 62) (zA t 63) (zA t 64) (zA t 65) (zA t 66) AE (vi AF) (vi AD) (vb AG) AN AO (vb AB) (vb AB) AP (zA t 76) (zA t 77) (zA t 78) (zA t 79) (zA t 80) (zA t 81) (zA t 82)) (W.mk AL AM Ai Aj)) fun Ak Al Am =>
 Ag Al Am (.bool Ak)) (fun AY AZ AS =>
 rtB (sel AB AS (.bool false)) fun AC =>
 opt (aUn .not (.bool AC)) fun An =>
 rtB An fun AT =>
 br AT (
 ka .ret (fr20 (zA t 0) (zA t 1) (vb false) (vb AC) (zA t 4) (zA t 5) (zA t 6) (zA t 7) (zA t 8) AH (zA t 10) (zA t 11) (zA t 12) (zA t 13) (zA t 14) (zA t 15) (zA t 16) (zA t 17) (zA t 18) (zA t 19) (zA t 20) (zA t 21) (zA t 22) (zA t 23) (zA t 24) (zA t 25) (zA t 26) (zA t 27) (zA t 28) (zA t 29) (zA t 30) (zA t 31) (zA t 32) (zA t 33) (zA t 34) (zA t 35) (zA t 36) (zA t 37) (zA t 38) (zA t 39) (zA t 40) (zA t 41) (zA t 42) (zA t 43) (zA t 44) (zA t 45) (zA t 46) (zA t 47) (zA t 48) (zA t 49) (zA t 50) (zA t 51) (zA t 52) (zA t 53) (zA t 54) AI (vi AJ) (vi AK) (zA t 58) (zA t 59) (zA t 60) (zA t 61) (zA t 62) (zA t 63) (zA t 64) (zA t 65) (zA t 66) AE (vi AF) (vi AD) (vb AG) AN AO (vb AB) (vb AB) AP AS (vb AC) (vb AC) (vb AT) (zA t 80) (zA t 81) (zA t 82)) (W.mk AL AM AY AZ)) (
 Ab (fr20 (zA t 0) (zA t 1) (zA t 2) (vb AC) (zA t 4) (zA t 5) (zA t 6) (zA t 7) (zA t 8) AH (zA t 10) (zA t 11) (zA t 12) (zA t 13) (zA t 14) (zA t 15) (zA t 16) (zA t 17) (zA t 18) (zA t 19) (zA t 20) (zA t 21) (zA t 22) (zA t 23) (zA t 24) (zA t 25) (zA t 26) (zA t 27) (zA t 28) (zA t 29) (zA t 30) (zA t 31) (zA t 32) (zA t 33) (zA t 34) (zA t 35) (zA t 36) (zA t 37) (zA t 38) (zA t 39) (zA t 40) (zA t 41) (zA t 42) (zA t 43) (zA t 44) (zA t 45) (zA t 46) (zA t 47) (zA t 48) (zA t 49) (zA t 50) (zA t 51) (zA t 52) (zA t 53) (zA t 54) AI (vi AJ) (vi AK) (zA t 58) (zA t 59) (zA t 60) (zA t 61) (zA t 62) (zA t 63) (zA t 64) (zA t 65) (zA t 66) AE (vi AF) (vi AD) (vb AG) AN AO (vb AB) (vb AB) AP AS (vb AC) (vb AC) (vb AT) (zA t 80) (zA t 81) (zA t 82)) (W.mk AL AM AY AZ))) AW AX) AR AV) (fun AA Ao =>
 rtB (zA AA 3) fun Ap =>
 zO (zA AA 55) fun Aq =>
 rtI .i64 (zA AA 56) fun Ar =>
 rtI .i64 (zA AA 57) fun As =>
 zO (zA AA 67) fun At =>
 rtI .i64 (zA AA 68) fun Au =>
 rtI .i64 (zA AA 69) fun Av =>
 onW Ao fun Aw Ax Ay Az =>
 fi (vK .i64 (tH Av 1)) fun Aa =>
 lp 1000012 ⟨20, rd, df⟩ (fr20 (zA AA 0) (zA AA 1) (zA AA 2) (vb Ap) (zA AA 4) (zA AA 5) (zA AA 6) (zA AA 7) (zA AA 8) (zA AA 9) (zA AA 10) (zA AA 11) (zA AA 12) (zA AA 13) (zA AA 14) (zA AA 15) (zA AA 16) (zA AA 17) (zA AA 18) (zA AA 19) (zA AA 20) (zA AA 21) (zA AA 22) (zA AA 23) (zA AA 24) (zA AA 25) (zA AA 26) (zA AA 27) (zA AA 28) (zA AA 29) (zA AA 30) (zA AA 31) (zA AA 32) (zA AA 33) (zA AA 34) (zA AA 35) (zA AA 36) (zA AA 37) (zA AA 38) (zA AA 39) (zA AA 40) (zA AA 41) (zA AA 42) (zA AA 43) (zA AA 44) (zA AA 45) (zA AA 46) (zA AA 47) (zA AA 48) (zA AA 49) (zA AA 50) (zA AA 51) (zA AA 52) (zA AA 53) (zA AA 54) Aq (vi Ar) (vi As) (zA AA 58) (zA AA 59) (zA AA 60) (zA AA 61) (zA AA 62) (zA AA 63) (zA AA 64) (zA AA 65) (zA AA 66) At (vi Au) (vi Aa) (zA AA 70) (zA AA 71) (zA AA 72) (zA AA 73) (zA AA 74) (zA AA 75) (zA AA 76) (zA AA 77) (zA AA 78) (zA AA 79) (vi Aa) (zA AA 81) (zA AA 82)) (W.mk Aw Ax Ay Az) ka)) (
 ka (.exit 4) (fr20 (zA t 0) (zA t 1) (zA t 2) (vb AB) (zA t 4) (zA t 5) (zA t 6) (zA t 7) (zA t 8) (zA t 9) (zA t 10) (zA t 11) (zA t 12) (zA t 13) (zA t 14) (zA t 15) (zA t 16) (zA t 17) (zA t 18) (zA t 19) (zA t 20) (zA t 21) (zA t 22) (zA t 23) (zA t 24) (zA t 25) (zA t 26) (zA t 27) (zA t 28) (zA t 29) (zA t 30) (zA t 31) (zA t 32) (zA t 33) (zA t 34) (zA t 35) (zA t 36) (zA t 37) (zA t 38) (zA t 39) (zA t 40) (zA t 41) (zA t 42) (zA t 43) (zA t 44) (zA t 45) (zA t 46) (zA t 47) (zA t 48) (zA t 49) (zA t 50) (zA t 51) (zA t 52) (zA t 53) (zA t 54) AI (vi AJ) (vi AK) (zA t 58) (zA t 59) (zA t 60) (zA t 61) (zA t 62) (zA t 63) (zA t 64) (zA t 65) (zA t 66) AE (vi AF) (vi AD) (vb AG) (zA t 71) (zA t 72) (zA t 73) (zA t 74) (zA t 75) (zA t 76) (zA t 77) (zA t 78) (zA t 79) (zA t 80) (zA t 81) (zA t 82)) (W.mk AL AM AQ AU))
theorem B20_1000012_eq (L : Lo) (lp : LP) (rd : Option Nat) (df : Bool) (t : Fr) (w : W) (ka : KX) : pC P hint20 L lp (unL (yD P 20 1000012)) ⟨20, rd, df⟩ t w ka = B20_1000012 L lp rd df t w ka := by kernel_rfl
theorem l20 : xB P 20 = true := by kernel_rfl
theorem r20 : wA P 20 = some [.tmp 2] := by kernel_rfl
theorem lp20_1000003 : uX (yD P 20 1000003) = true := by kernel_rfl
theorem lp20_1000008 : uX (yD P 20 1000008) = true := by kernel_rfl
theorem lp20_1000012 : uX (yD P 20 1000012) = true := by kernel_rfl
noncomputable abbrev fr56 (s0 s1 s2 s3 s4 s5 s6 s7 s8 s9 s10 s11 s12 s13 s14 s15 s16 s17 s18 s19 s20 s21 s22 s23 s24 s25 s26 s27 s28 s29 s30 s31 s32 s33 s34 s35 s36 s37 s38 s39 s40 s41 s42 s43 s44 s45 s46 s47 s48 s49 s50 s51 s52 s53 s54 s55 s56 s57 s58 s59 s60 s61 s62 s63 s64 s65 s66 s67 s68 s69 s70 s71 s72 s73 s74 s75 s76 s77 s78 s79 s80 s81 s82 s83 s84 s85 s86 s87 s88 s89 s90 s91 s92 s93 s94 s95 s96 s97 s98 s99 s100 s101 : Value) : Fr := (.node (.node (.node (.node (.node (.node (.node .leaf s63 .leaf) s31 (.node .leaf s95 .leaf)) s15 (.node (.node .leaf s79 .leaf) s47 .leaf)) s7 (.node (.node (.node .leaf s71 .leaf) s39 .leaf) s23 (.node (.node .leaf s87 .leaf) s55 .leaf))) s3 (.node (.node (.node (.node .leaf s67 .leaf) s35 (.node .leaf s99 .leaf)) s19 (.node (.node .leaf s83 .leaf) s51 .leaf)) s11 (.node (.node (.node .leaf s75 .leaf) s43 .leaf) s27 (.node (.node .leaf s91 .leaf) s59 .leaf)))) s1 (.node (.node (.node (.node (.node .leaf s65 .leaf) s33 (.node .leaf s97 .leaf)) s17 (.node (.node .leaf s81 .leaf) s49 .leaf)) s9 (.node (.node (.node .leaf s73 .leaf) s41 .leaf) s25 (.node (.node .leaf s89 .leaf) s57 .leaf))) s5 (.node (.node (.node (.node .leaf s69 .leaf) s37 (.node .leaf s101 .leaf)) s21 (.node (.node .leaf s85 .leaf) s53 .leaf)) s13 (.node (.node (.node .leaf s77 .leaf) s45 .leaf) s29 (.node (.node .leaf s93 .leaf) s61 .leaf))))) s0 (.node (.node (.node (.node (.node (.node .leaf s64 .leaf) s32 (.node .leaf s96 .leaf)) s16 (.node (.node .leaf s80 .leaf) s48 .leaf)) s8 (.node (.node (.node .leaf s72 .leaf) s40 .leaf) s24 (.node (.node .leaf s88 .leaf) s56 .leaf))) s4 (.node (.node (.node (.node .leaf s68 .leaf) s36 (.node .leaf s100 .leaf)) s20 (.node (.node .leaf s84 .leaf) s52 .leaf)) s12 (.node (.node (.node .leaf s76 .leaf) s44 .leaf) s28 (.node (.node .leaf s92 .leaf) s60 .leaf)))) s2 (.node (.node (.node (.node (.node .leaf s66 .leaf) s34 (.node .leaf s98 .leaf)) s18 (.node (.node .leaf s82 .leaf) s50 .leaf)) s10 (.node (.node (.node .leaf s74 .leaf) s42 .leaf) s26 (.node (.node .leaf s90 .leaf) s58 .leaf))) s6 (.node (.node (.node (.node .leaf s70 .leaf) s38 .leaf) s22 (.node (.node .leaf s86 .leaf) s54 .leaf)) s14 (.node (.node (.node .leaf s78 .leaf) s46 .leaf) s30 (.node (.node .leaf s94 .leaf) s62 .leaf))))))
noncomputable abbrev fo56 (s2 : Value) : Fr := fr56 ud ud s2 ud ud ud ud ud ud ud ud ud ud ud ud ud ud ud ud ud ud ud ud ud ud ud ud ud ud ud ud ud ud ud ud ud ud ud ud ud ud ud ud ud ud ud ud ud ud ud ud ud ud ud ud ud ud ud ud ud ud ud ud ud ud ud ud ud ud ud ud ud ud ud ud ud ud ud ud ud ud ud ud ud ud ud ud ud ud ud ud ud ud ud ud ud ud ud ud ud ud ud
noncomputable abbrev fj56_0 (t : Fr) (s1 s2 s3 s4 s66 s67 s68 s69 s70 s71 s72 s73 s74 s97 s98 s99 s100 s101 : Value) : Fr := fr56 (zA t 0) s1 s2 s3 s4 (zA t 5) (zA t 6) (zA t 7) (zA t 8) (zA t 9) (zA t 10) (zA t 11) (zA t 12) (zA t 13) (zA t 14) (zA t 15) (zA t 16) (zA t 17) (zA t 18) (zA t 19) (zA t 20) (zA t 21) (zA t 22) (zA t 23) (zA t 24) (zA t 25) (zA t 26) (zA t 27) (zA t 28) (zA t 29) (zA t 30) (zA t 31) (zA t 32) (zA t 33) (zA t 34) (zA t 35) (zA t 36) (zA t 37) (zA t 38) (zA t 39) (zA t 40) (zA t 41) (zA t 42) (zA t 43) (zA t 44) (zA t 45) (zA t 46) (zA t 47) (zA t 48) (zA t 49) (zA t 50) (zA t 51) (zA t 52) (zA t 53) (zA t 54) (zA t 55) (zA t 56) (zA t 57) (zA t 58) (zA t 59) (zA t 60) (zA t 61) (zA t 62) (zA t 63) (zA t 64) (zA t 65) s66 s67 s68 s69 s70 s71 s72 s73 s74 (zA t 75) (zA t 76) (zA t 77) (zA t 78) (zA t 79) (zA t 80) (zA t 81) (zA t 82) (zA t 83) (zA t 84) (zA t 85) (zA t 86) (zA t 87) (zA t 88) (zA t 89) (zA t 90) (zA t 91) (zA t 92) (zA t 93) (zA t 94) (zA t 95) (zA t 96) s97 s98 s99 s100 s101
noncomputable abbrev fj56_1 (t : Fr) (s1 s3 : Value) : Fr := fr56 (zA t 0) s1 (zA t 2) s3 (zA t 4) (zA t 5) (zA t 6) (zA t 7) (zA t 8) (zA t 9) (zA t 10) (zA t 11) (zA t 12) (zA t 13) (zA t 14) (zA t 15) (zA t 16) (zA t 17) (zA t 18) (zA t 19) (zA t 20) (zA t 21) (zA t 22) (zA t 23) (zA t 24) (zA t 25) (zA t 26) (zA t 27) (zA t 28) (zA t 29) (zA t 30) (zA t 31) (zA t 32) (zA t 33) (zA t 34) (zA t 35) (zA t 36) (zA t 37) (zA t 38) (zA t 39) (zA t 40) (zA t 41) (zA t 42) (zA t 43) (zA t 44) (zA t 45) (zA t 46) (zA t 47) (zA t 48) (zA t 49) (zA t 50) (zA t 51) (zA t 52) (zA t 53) (zA t 54) (zA t 55) (zA t 56) (zA t 57) (zA t 58) (zA t 59) (zA t 60) (zA t 61) (zA t 62) (zA t 63) (zA t 64) (zA t 65) (zA t 66) (zA t 67) (zA t 68) (zA t 69) (zA t 70) (zA t 71) (zA t 72) (zA t 73) (zA t 74) (zA t 75) (zA t 76) (zA t 77) (zA t 78) (zA t 79) (zA t 80) (zA t 81) (zA t 82) (zA t 83) (zA t 84) (zA t 85) (zA t 86) (zA t 87) (zA t 88) (zA t 89) (zA t 90) (zA t 91) (zA t 92) (zA t 93) (zA t 94) (zA t 95) (zA t 96) (zA t 97) (zA t 98) (zA t 99) (zA t 100) (zA t 101)
noncomputable def hint56 : tJ := fun kind _ i => match kind with
 | 1 => bif Nat.beq i 0 then [.any, .val, .any, .val] else []
 | 2 => bif Nat.beq i 5 then [.any, .val, .any, .val] else bif Nat.beq i 7 then [.any, .val, .any, .val] else bif Nat.beq i 9 then [.any, .val, .any, .val] else bif Nat.beq i 11 then [.any, .val, .any, .val] else bif Nat.beq i 13 then [.any, .val, .any, .val] else bif Nat.beq i 15 then [.any, .val, .any, .val] else bif Nat.beq i 16 then [.any, .val, .any, .any, .val] else bif Nat.beq i 19 then [.any, .val, .any, .val] else bif Nat.beq i 21 then [.any, .val, .any, .val] else []
 | 4 => bif Nat.beq i 0 then [.any] else []
 | _ => []
noncomputable def F56 (L : Lo) (lp : LP) (p0 : Value) (df : Bool) (u : Option zL) (h : zD) (n : Nat) (k : KO) : Bool :=
 eBox p0 h n fun h1 n2 v3 =>
 opt (zB P 50 1 v3) fun v4 =>
 opt (zF P 3 h1 v4) fun v5 =>
 rtI .i64 v5 fun a6 =>
 wZ L (.func (.func 81) #[] #[]) [(.int .i64 a6)] h1 n2 (fun Bd Be Bf =>
 zE P L 56 k (.panic Bd) (fo56 (.slice none 0 0)) (W.mk [] u Be Bf)) fun a7 h8 n9 =>
 zN P 23 2 [(0, a7), (1, (.string (ByteArray.mk #[61])))] h8 n9 fun AB AD AG =>
 opt (zB P 50 0 v3) fun Af =>
 opt (zF P 3 AB Af) fun Bi =>
 rtI .i64 Bi fun AF =>
 blkJ (fun Bj =>
 fb (wJ AF 1) fun AJ =>
 brJ AJ (fun EJ =>
 opt (zB P 50 4 v3) fun Bk =>
 opt (zF P 3 AB Bk) fun Bl =>
 rtI .i64 Bl fun Bm =>
 wZ L (.func (.func 81) #[] #[]) [(.int .i64 Bm)] AB AD (fun Bn Bo Bp =>
 zE P L 56 k (.panic Bn) (fo56 (.slice none 0 0)) (W.mk [] u Bo Bp)) fun Bq Br Bs =>
 zN P 23 2 [(0, (.string (ByteArray.mk #[99, 111, 110, 115, 116]))), (1, Bq)] Br Bs fun Bt Bu Bv =>
 wE P [23, 23] [AG, Bv] Bt Bu fun Bw Bx By =>
 zE P L 56 k .ret (fo56 By) (W.mk [] u Bw Bx)) (fun Bz =>
 fb (wJ AF 2) fun AK =>
 brJ AK (fun EK =>
 opt (zB P 50 2 v3) fun B0 =>
 opt (zF P 3 AB B0) fun B1 =>
 rtI .i64 B1 fun B2 =>
 wZ L (.func (.func 81) #[] #[]) [(.int .i64 B2)] AB AD (fun B3 B4 B5 =>
 zE P L 56 k (.panic B3) (fo56 (.slice none 0 0)) (W.mk [] u B4 B5)) fun B6 B7 B8 =>
 zN P 23 2 [(0, (.string (ByteArray.mk #[99, 111, 112, 121]))), (1, B6)] B7 B8 fun B9 CA CB =>
 wE P [23, 23] [AG, CB] B9 CA fun CC CD CE =>
 zE P L 56 k .ret (fo56 CE) (W.mk [] u CC CD)) (fun CF =>
 fb (wJ AF 3) fun AL =>
 brJ AL (fun EL =>
 opt (zB P 50 5 v3) fun CG =>
 opt (zF P 9 AB CG) fun CH =>
 zN P 23 1 [(0, CH)] AB AD fun CI BM CJ =>
 wE P [23, 23] [AG, CJ] CI BM fun Ag AQ CK =>
 gt (Nat.ble BM AQ) (
 opt (zB P 50 6 v3) fun AR =>
 opt (zF P 40 Ag AR) fun Ap =>
 yX L 55 [Ap] Ag AQ (fun CL CM CN =>
 gt (lks [(W.mk [] u Ag AQ), (W.mk [] u AB AD)] [⟨true, (lkQ (fun Aq => zF P 40 Aq AR) AR Ap), 0, 1⟩]) (
 zE P L 56 k (.panic CL) (fo56 (.slice none 0 0)) (W.mk [] u CM CN))) fun CO BN Ah =>
 gt (Nat.ble AQ Ah) (
 wE P [23, 23] [CK, CO] BN Ah fun BO Ar CP =>
 gt (Nat.ble Ah Ar) (
 gt (lks [(W.mk [] u BO Ar), (W.mk [] u BN Ah), (W.mk [] u Ag AQ), (W.mk [] u AB AD)] [⟨true, (lkQ (fun Aq => zF P 40 Aq AR) AR Ap), 0, 1⟩]) (
 zE P L 56 k .ret (fo56 CP) (W.mk [] u BO Ar)))))) (fun CQ =>
 fb (wJ AF 4) fun AM =>
 brJ AM (fun EM =>
 opt (zB P 50 2 v3) fun CR =>
 opt (zF P 3 AB CR) fun CS =>
 rtI .i64 CS fun CT =>
 wZ L (.func (.func 81) #[] #[]) [(.int .i64 CT)] AB AD (fun CU CV CW =>
 zE P L 56 k (.panic CU) (fo56 (.slice none 0 0)) (W.mk [] u CV CW)) fun CX CY CZ =>
 zN P 23 2 [(0, (.string (ByteArray.mk #[108, 111, 97, 100]))), (1, CX)] CY CZ fun Ca Cb Cc =>
 wE P [23, 23] [AG, Cc] Ca Cb fun Cd Ce Cf =>
 zE P L 56 k .ret (fo56 Cf) (W.mk [] u Cd Ce)) (fun Cg =>
 fb (wJ AF 5) fun AN =>
 brJ AN (fun EN =>
 opt (zB P 50 2 v3) fun Ch =>
 opt (zF P 3 AB Ch) fun Ci =>
 rtI .i64 Ci fun Cj =>
 wZ L (.func (.func 81) #[] #[]) [(.int .i64 Cj)] AB AD (fun EO EP EQ =>
 false) fun Ck Ai AS =>
 gt (Nat.ble AD AS) (
 opt (zB P 50 3 v3) fun AT =>
 opt (zF P 3 Ai AT) fun Cl =>
 rtI .i64 Cl fun As =>
 wZ L (.func (.func 81) #[] #[]) [(.int .i64 As)] Ai AS (fun Cm Cn Co =>
 gt (lks [(W.mk [] u Ai AS), (W.mk [] u AB AD)] [⟨true, (lkQ (fun At => zF P 3 At AT) AT (.int .i64 As)), 0, 1⟩]) (
 zE P L 56 k (.panic Cm) (fo56 (.slice none 0 0)) (W.mk [] u Cn Co))) fun Cp BP Au =>
 gt (Nat.ble AS Au) (
 zN P 23 3 [(0, (.string (ByteArray.mk #[115, 116, 111, 114, 101]))), (1, Ck), (2, Cp)] BP Au fun Cq Cr Cs =>
 gt (lks [(W.mk [] u BP Au), (W.mk [] u Ai AS), (W.mk [] u AB AD)] [⟨true, (lkQ (fun At => zF P 3 At AT) AT (.int .i64 As)), 0, 1⟩]) (
 zE P L 56 k .ret (fo56 Cs) (W.mk [] u Cq Cr))))) (fun Ct =>
 fb (wJ AF 6) fun AO =>
 brJ AO (fun ER =>
 opt (zB P 50 1 v3) fun Av =>
 opt (zF P 3 AB Av) fun Cu =>
 rtI .i64 Cu fun Aw =>
 fb (wJ Aw (-1)) fun Ax =>
 brJ Ax (fun Cv =>
 Cv (fr56 p0 v3 (.slice none 0 0) (.func (.func 81) #[] #[]) (.slice none 0 0) (.func (.func 81) #[] #[]) v4 (vi a6) a7 AG Af (vi AF) (vb AJ) (vb AJ) ud ud ud ud ud ud ud (vb AK) (vb AK) ud ud ud ud ud ud ud (vb AL) (vb AL) ud ud ud ud ud ud ud ud ud (vb AM) (vb AM) ud ud ud ud ud ud ud (vb AN) (vb AN) ud ud ud ud ud ud ud ud ud (vb AO) (vb AO) Av (vi Aw) (vb Ax) ud ud ud ud ud ud ud ud ud ud ud ud ud ud ud ud ud ud ud ud ud ud ud ud ud ud ud ud ud ud ud ud ud ud ud ud) (W.mk [] u AB AD)) (fun Cw =>
 Cw (fr56 p0 v3 (.slice none 0 0) (.func (.func 81) #[] #[]) AG (.func (.func 81) #[] #[]) v4 (vi a6) a7 AG Af (vi AF) (vb AJ) (vb AJ) ud ud ud ud ud ud ud (vb AK) (vb AK) ud ud ud ud ud ud ud (vb AL) (vb AL) ud ud ud ud ud ud ud ud ud (vb AM) (vb AM) ud ud ud ud ud ud ud (vb AN) (vb AN) ud ud ud ud ud ud ud ud ud (vb AO) (vb AO) Av (vi Aw) (vb Ax) ud ud ud ud ud ud ud ud ud ud ud ud ud ud ud ud ud ud ud ud ud ud ud ud ud ud ud ud ud ud ud ud ud ud ud ud) (W.mk [] u AB AD)) (fun AC Cx =>
 zO (zA AC 1) fun Aj =>
 zO (zA AC 4) fun AU =>
 onW Cx fun AH AI Ak Ay =>
 opt (zB P 50 5 Aj) fun Az =>
 opt (zF P 9 Ak Az) fun A0 =>
 zN P 23 2 [(0, (.string (ByteArray.mk #[99, 97, 108, 108]))), (1, A0)] Ak Ay fun Cy BQ A1 =>
 wE P [23, 23] [AU, A1] Cy BQ fun Al AV A2 =>
 gt (Nat.ble BQ AV) (
 opt (zB P 50 6 Aj) fun AP =>
 opt (zF P 40 Al AP) fun AW =>
 yX L 55 [AW] Al AV (fun Cz C0 C1 =>
 gt (lks [(W.mk AH AI Al AV), (W.mk AH AI Ak Ay)] [⟨true, (lkQ (fun A3 => zF P 40 A3 AP) AP AW), 0, 1⟩]) (
 zE P L 56 k (.panic Cz) (fj56_0 AC Aj (zA AC 2) (zA AC 3) AU AU Az A0 A1 A2 AP AW (zA AC 73) (zA AC 74) (zA AC 97) (zA AC 98) (zA AC 99) (zA AC 100) (zA AC 101)) (W.mk AH AI C0 C1))) fun BR BS Am =>
 gt (Nat.ble AV Am) (
 wE P [23, 23] [A2, BR] BS Am fun BT A4 BU =>
 gt (Nat.ble Am A4) (
 gt (lks [(W.mk AH AI BT A4), (W.mk AH AI BS Am), (W.mk AH AI Al AV), (W.mk AH AI Ak Ay)] [⟨true, (lkQ (fun A3 => zF P 40 A3 AP) AP AW), 0, 1⟩]) (
 zE P L 56 k .ret (fj56_0 AC Aj BU (zA AC 3) AU AU Az A0 A1 A2 AP AW BR BU (zA AC 97) (zA AC 98) (zA AC 99) (zA AC 100) (zA AC 101)) (W.mk AH AI BT A4))))))) (fun C2 =>
 fb (wJ AF 7) fun A5 =>
 br A5 (
 opt (zB P 50 2 v3) fun C3 =>
 opt (zF P 3 AB C3) fun C4 =>
 rtI .i64 C4 fun C5 =>
 wZ L (.func (.func 81) #[] #[]) [(.int .i64 C5)] AB AD (fun ES ET EU =>
 false) fun C6 An AX =>
 gt (Nat.ble AD AX) (
 opt (zB P 50 7 v3) fun AY =>
 opt (zF P 3 An AY) fun C7 =>
 rtI .i64 C7 fun A6 =>
 wZ L (.func (.func 81) #[] #[]) [(.int .i64 A6)] An AX (fun EV EW EX =>
 false) fun C8 Ao AZ =>
 gt (Nat.ble AX AZ) (
 opt (zB P 50 8 v3) fun Aa =>
 opt (zF P 3 Ao Aa) fun C9 =>
 rtI .i64 C9 fun A7 =>
 wZ L (.func (.func 81) #[] #[]) [(.int .i64 A7)] Ao AZ (fun DA DB DC =>
 gt (lks [(W.mk [] u Ao AZ), (W.mk [] u An AX), (W.mk [] u AB AD)] [⟨true, (lkQ (fun A8 => zF P 3 A8 Aa) Aa (.int .i64 A7)), 0, 2⟩, ⟨true, (lkQ (fun A9 => zF P 3 A9 AY) AY (.int .i64 A6)), 0, 1⟩]) (
 zE P L 56 k (.panic DA) (fo56 (.slice none 0 0)) (W.mk [] u DB DC))) fun DD BV BA =>
 gt (Nat.ble AZ BA) (
 zN P 23 4 [(0, (.string (ByteArray.mk #[98, 114]))), (1, C6), (2, C8), (3, DD)] BV BA fun DE DF DG =>
 gt (lks [(W.mk [] u BV BA), (W.mk [] u Ao AZ), (W.mk [] u An AX), (W.mk [] u AB AD)] [⟨true, (lkQ (fun A8 => zF P 3 A8 Aa) Aa (.int .i64 A7)), 0, 2⟩, ⟨true, (lkQ (fun A9 => zF P 3 A9 AY) AY (.int .i64 A6)), 0, 1⟩]) (
 zE P L 56 k .ret (fo56 DG) (W.mk [] u DE DF)))))) (
 fb (wJ AF 8) fun BB =>
 br BB (
 opt (zB P 50 7 v3) fun DH =>
 opt (zF P 3 AB DH) fun DI =>
 rtI .i64 DI fun DJ =>
 wZ L (.func (.func 81) #[] #[]) [(.int .i64 DJ)] AB AD (fun DK DL DM =>
 zE P L 56 k (.panic DK) (fo56 (.slice none 0 0)) (W.mk [] u DL DM)) fun DN DO DP =>
 zN P 23 2 [(0, (.string (ByteArray.mk #[106, 117, 109, 112]))), (1, DN)] DO DP fun DQ DR DS =>
 zE P L 56 k .ret (fo56 DS) (W.mk [] u DQ DR)) (
 C2 (fr56 p0 v3 (.slice none 0 0) (.func (.func 81) #[] #[]) AG (.func (.func 81) #[] #[]) v4 (vi a6) a7 AG Af (vi AF) (vb AJ) (vb AJ) ud ud ud ud ud ud ud (vb AK) (vb AK) ud ud ud ud ud ud ud (vb AL) (vb AL) ud ud ud ud ud ud ud ud ud (vb AM) (vb AM) ud ud ud ud ud ud ud (vb AN) (vb AN) ud ud ud ud ud ud ud ud ud (vb AO) (vb AO) ud ud ud ud ud ud ud ud ud ud ud ud (vb A5) (vb A5) ud ud ud ud ud ud ud ud ud ud ud ud ud (vb BB) (vb BB) ud ud ud ud ud ud ud ud ud ud) (W.mk [] u AB AD)))) (fun BC DT =>
 zO (zA BC 1) fun DU =>
 zO (zA BC 3) fun DV =>
 onW DT fun DW DX DY DZ =>
 Ct (fj56_1 BC DU DV) (W.mk DW DX DY DZ))) (fun BD Da =>
 zO (zA BD 1) fun Db =>
 zO (zA BD 3) fun Dc =>
 onW Da fun Dd De Df Dg =>
 Cg (fj56_1 BD Db Dc) (W.mk Dd De Df Dg))) (fun BE Dh =>
 zO (zA BE 1) fun Di =>
 zO (zA BE 3) fun Dj =>
 onW Dh fun Dk Dl Dm Dn =>
 CQ (fj56_1 BE Di Dj) (W.mk Dk Dl Dm Dn))) (fun BF Do =>
 zO (zA BF 1) fun Dp =>
 zO (zA BF 3) fun Dq =>
 onW Do fun Dr Ds Dt Du =>
 CF (fj56_1 BF Dp Dq) (W.mk Dr Ds Dt Du))) (fun BG Dv =>
 zO (zA BG 1) fun Dw =>
 zO (zA BG 3) fun Dx =>
 onW Dv fun Dy Dz D0 D1 =>
 Bz (fj56_1 BG Dw Dx) (W.mk Dy Dz D0 D1))) (fun BH D2 =>
 zO (zA BH 1) fun D3 =>
 zO (zA BH 3) fun D4 =>
 onW D2 fun D5 D6 D7 D8 =>
 Bj (fj56_1 BH D3 D4) (W.mk D5 D6 D7 D8))) (fun AA D9 =>
 zO (zA AA 1) fun BI =>
 zO (zA AA 3) fun Ab =>
 onW D9 fun BW BX BY EA =>
 opt (zB P 50 2 BI) fun BJ =>
 opt (zF P 3 BY BJ) fun EB =>
 rtI .i64 EB fun BK =>
 wZ L Ab [(.int .i64 BK)] BY EA (fun EC ED EE =>
 zE P L 56 k (.panic EC) (fj56_0 AA BI (zA AA 2) Ab (zA AA 4) (zA AA 66) (zA AA 67) (zA AA 68) (zA AA 69) (zA AA 70) (zA AA 71) (zA AA 72) (zA AA 73) (zA AA 74) Ab BJ (vi BK) (zA AA 100) (zA AA 101)) (W.mk BW BX ED EE)) fun BZ EF EG =>
 zN P 23 2 [(0, (.string (ByteArray.mk #[114, 101, 116]))), (1, BZ)] EF EG fun EH EI Ba =>
 zE P L 56 k .ret (fj56_0 AA BI Ba Ab (zA AA 4) (zA AA 66) (zA AA 67) (zA AA 68) (zA AA 69) (zA AA 70) (zA AA 71) (zA AA 72) (zA AA 73) (zA AA 74) Ab BJ (vi BK) BZ Ba) (W.mk BW BX EH EI))
theorem F56_eq (L : Lo) (lp : LP) (p0 : Value) (df : Bool) (u : Option zL) (h : zD) (n : Nat) (k : KO) : wQ P hint56 L lp 56 [p0] df u h n k = F56 L lp p0 df u h n k := by kernel_rfl
theorem l56 : xB P 56 = true := by kernel_rfl
theorem r56 : wA P 56 = some [.tmp 2] := by kernel_rfl
noncomputable abbrev fr19 (s0 s1 s2 s3 s4 s5 s6 s7 s8 s9 s10 s11 s12 s13 s14 s15 s16 s17 s18 s19 s20 s21 s22 s23 s24 s25 s26 s27 s28 s29 s30 s31 s32 s33 s34 s35 s36 s37 s38 s39 s40 s41 s42 s43 s44 s45 s46 s47 s48 s49 s50 s51 s52 s53 s54 s55 s56 s57 s58 s59 s60 s61 : Value) : Fr := (.node (.node (.node (.node (.node (.node .leaf s31 .leaf) s15 (.node .leaf s47 .leaf)) s7 (.node (.node .leaf s39 .leaf) s23 (.node .leaf s55 .leaf))) s3 (.node (.node (.node .leaf s35 .leaf) s19 (.node .leaf s51 .leaf)) s11 (.node (.node .leaf s43 .leaf) s27 (.node .leaf s59 .leaf)))) s1 (.node (.node (.node (.node .leaf s33 .leaf) s17 (.node .leaf s49 .leaf)) s9 (.node (.node .leaf s41 .leaf) s25 (.node .leaf s57 .leaf))) s5 (.node (.node (.node .leaf s37 .leaf) s21 (.node .leaf s53 .leaf)) s13 (.node (.node .leaf s45 .leaf) s29 (.node .leaf s61 .leaf))))) s0 (.node (.node (.node (.node (.node .leaf s32 .leaf) s16 (.node .leaf s48 .leaf)) s8 (.node (.node .leaf s40 .leaf) s24 (.node .leaf s56 .leaf))) s4 (.node (.node (.node .leaf s36 .leaf) s20 (.node .leaf s52 .leaf)) s12 (.node (.node .leaf s44 .leaf) s28 (.node .leaf s60 .leaf)))) s2 (.node (.node (.node (.node .leaf s34 .leaf) s18 (.node .leaf s50 .leaf)) s10 (.node (.node .leaf s42 .leaf) s26 (.node .leaf s58 .leaf))) s6 (.node (.node (.node .leaf s38 .leaf) s22 (.node .leaf s54 .leaf)) s14 (.node (.node .leaf s46 .leaf) s30 .leaf)))))
noncomputable abbrev fo19 (s2 : Value) : Fr := fr19 ud ud s2 ud ud ud ud ud ud ud ud ud ud ud ud ud ud ud ud ud ud ud ud ud ud ud ud ud ud ud ud ud ud ud ud ud ud ud ud ud ud ud ud ud ud ud ud ud ud ud ud ud ud ud ud ud ud ud ud ud ud ud
noncomputable abbrev pN (t : Fr) (s2 s3 s4 s6 s8 s37 s38 s39 s40 s41 s42 s43 s44 s45 s46 s47 s48 s49 s50 s51 s52 s53 s54 s55 s56 s57 s58 s59 s60 s61 : Value) : Fr := fr19 (zA t 0) (zA t 1) s2 s3 s4 (zA t 5) s6 (zA t 7) s8 (zA t 9) (zA t 10) (zA t 11) (zA t 12) (zA t 13) (zA t 14) (zA t 15) (zA t 16) (zA t 17) (zA t 18) (zA t 19) (zA t 20) (zA t 21) (zA t 22) (zA t 23) (zA t 24) (zA t 25) (zA t 26) (zA t 27) (zA t 28) (zA t 29) (zA t 30) (zA t 31) (zA t 32) (zA t 33) (zA t 34) (zA t 35) (zA t 36) s37 s38 s39 s40 s41 s42 s43 s44 s45 s46 s47 s48 s49 s50 s51 s52 s53 s54 s55 s56 s57 s58 s59 s60 s61
noncomputable def hint19 : tJ := fun kind _ i => match kind with
 | 0 => bif Nat.beq i 1000010 then [.any, .any, .any, .val, .val, .any, .any, .any, .any, .any, .any, .any, .any, .any, .any, .any, .any, .any, .any, .any, .any, .any, .any, .any, .any, .any, .any, .any, .any, .any, .any, .any, .any, .any, .any, .any, .any, .val, (.int .i64), (.int .i64)] else bif Nat.beq i 1000014 then [.any, .any, .any, .val, .val, .any, .any, .any, .any, .any, .any, .any, .any, .any, .any, .any, .any, .any, .any, .any, .any, .any, .any, .any, .any, .any, .any, .any, .any, .any, .any, .any, .any, .any, .any, .any, .any, .val, (.int .i64), (.int .i64), .any, .any, .any, .any, .any, .any, .val, (.int .i64), (.int .i64)] else []
 | 1 => bif Nat.beq i 0 then [.any, .any, .any, .val, .val] else bif Nat.beq i 1 then [.any, .any, .any, .val, .val, .any, .any, .any, .any, .any, .any, .any, .any, .any, .any, .any, .any, .any, .any, .any, .any, .any, .any, .any, .any, .any, .any, .any, .any, .any, .any, .any, .any, .any, .any, .any, .any, .val, (.int .i64), (.int .i64)] else bif Nat.beq i 2 then [.any, .any, .any, .val, .val, .any, .any, .any, .any, .any, .any, .any, .any, .any, .any, .any, .any, .any, .any, .any, .any, .any, .any, .any, .any, .any, .any, .any, .any, .any, .any, .any, .any, .any, .any, .any, .any, .val, (.int .i64), (.int .i64)] else bif Nat.beq i 3 then [.any, .any, .any, .val, .val, .any, .any, .any, .any, .any, .any, .any, .any, .any, .any, .any, .any, .any, .any, .any, .any, .any, .any, .any, .any, .any, .any, .any, .any, .any, .any, .any, .any, .any, .any, .any, .any, .val, (.int .i64), (.int .i64), .any, .any, .any, .any, .any, .any, .val, (.int .i64), (.int .i64)] else []
 | 2 => bif Nat.beq i 0 then [.any, .any, .any, .val, .val, .any, .any, .any, .any, .any, .any, .any, .any, .any, .any, .any, .any, .any, .any, .any, .any, .any, .any, .any, .any, .any, .any, .any, .any, .any, .any, .any, .any, .any, .any, .any, .any, .val, (.int .i64), (.int .i64)] else bif Nat.beq i 2 then [.any, .val] else []
 | 4 => bif Nat.beq i 0 then [.any] else []
 | _ => []
noncomputable def F19 (L : Lo) (lp : LP) (p0 : Value) (df : Bool) (u : Option zL) (h : zD) (n : Nat) (k : KO) : Bool :=
 eBox p0 h n fun h1 n2 v3 =>
 opt (zF P 43 h1 v3) fun v4 =>
 sJ L 20 [v4] h1 n2 (fun c8 h9 Aq =>
 zE P L 19 k (.panic c8) (fo19 (.string (ByteArray.mk #[]))) (W.mk [] u h9 Aq)) fun a5 h6 n7 =>
 opt (aUn .not (.bool a5)) fun Ar =>
 rtB Ar fun AO =>
 br AO (
 zE P L 19 k .ret (fo19 (.string (ByteArray.mk #[]))) (W.mk [] u h6 n7)) (
 tD P 97 h6 n7 fun AP As AQ =>
 letV (.func (.func 52) (Array.mk []) (Array.mk [AQ])) fun AB =>
 opt (zB P 43 0 v3) fun AR =>
 opt (zF P 9 AP AR) fun AS =>
 zN P 23 2 [(0, (.string (ByteArray.mk #[102, 117, 110, 99]))), (1, AS)] AP As fun At Au AT =>
 wZ L AB [(.string (ByteArray.mk #[])), AT] At Au (fun Av Aw Ax =>
 zE P L 19 k (.panic Av) (fo19 (.string (ByteArray.mk #[]))) (W.mk [] u Aw Ax)) fun Ay Az A0 =>
 zN P 23 1 [(0, (.string (ByteArray.mk #[114, 101, 103, 115])))] Az A0 fun AU A1 AV =>
 opt (zB P 43 1 v3) fun AW =>
 opt (zF P 23 AU AW) fun AX =>
 wE P [23, 23] [AV, AX] AU A1 fun A2 A3 AY =>
 wZ L AB [(.string (ByteArray.mk #[])), AY] A2 A3 (fun A4 A5 A6 =>
 zE P L 19 k (.panic A4) (fo19 (.string (ByteArray.mk #[]))) (W.mk [] u A5 A6)) fun A7 A8 A9 =>
 zN P 23 1 [(0, (.string (ByteArray.mk #[112, 97, 114, 97, 109, 115])))] A8 A9 fun AZ BA Aa =>
 opt (zB P 43 2 v3) fun Ab =>
 opt (zF P 40 AZ Ab) fun Ac =>
 yX L 55 [Ac] AZ BA (fun BB BC BD =>
 zE P L 19 k (.panic BB) (fo19 (.string (ByteArray.mk #[]))) (W.mk [] u BC BD)) fun Ad BE BF =>
 wE P [23, 23] [Aa, Ad] BE BF fun BG BH Ae =>
 wZ L AB [(.string (ByteArray.mk #[])), Ae] BG BH (fun BI BJ BK =>
 zE P L 19 k (.panic BI) (fo19 (.string (ByteArray.mk #[]))) (W.mk [] u BJ BK)) fun BL Af BM =>
 opt (zB P 43 3 v3) fun Ag =>
 opt (zF P 9 Af Ag) fun Ah =>
 zN P 23 2 [(0, (.string (ByteArray.mk #[114, 101, 115, 117, 108, 116]))), (1, Ah)] Af BM fun BN BO Ai =>
 wZ L AB [(.string (ByteArray.mk #[])), Ai] BN BO (fun BP BQ BR =>
 zE P L 19 k (.panic BP) (fo19 (.string (ByteArray.mk #[]))) (W.mk [] u BQ BR)) fun BS AG BT =>
 opt (zB P 43 4 v3) fun Aj =>
 opt (zF P 41 AG Aj) fun Ak =>
 opt (yL P .len [41] [Ak] AG) fun BU =>
 rtI .i64 BU fun BV =>
 lp 1000010 ⟨19, none, df⟩ (fr19 p0 v3 (.string (ByteArray.mk #[])) AQ AB ud ud ud ud v4 (vb a5) (vb AO) AB AB AR AS AT Ay AB AV AW AX AY A7 AB Aa Ab Ac Ad Ae BL AB Ag Ah Ai BS Aj Ak (vi BV) (vi 0) ud ud ud ud ud ud ud ud ud ud ud ud ud ud ud ud ud ud ud ud ud ud) (W.mk [] u AG BT) (endA noK (blkA 0 (fun AA BW =>
 zO (zA AA 3) fun AE =>
 zO (zA AA 4) fun AD =>
 onW BW fun AH AI BX BY =>
 zN P 23 1 [(0, (.string (ByteArray.mk #[101, 110, 100])))] BX BY fun BZ Ba AF =>
 wZ L AD [(.string (ByteArray.mk #[])), AF] BZ Ba (fun Bb Bc Bd =>
 zE P L 19 k (.panic Bb) (pN AA (zA AA 2) AE AD (zA AA 6) (zA AA 8) (zA AA 37) (zA AA 38) (zA AA 39) (zA AA 40) (zA AA 41) (zA AA 42) (zA AA 43) (zA AA 44) (zA AA 45) (zA AA 46) (zA AA 47) (zA AA 48) (zA AA 49) (zA AA 50) (zA AA 51) (zA AA 52) (zA AA 53) (zA AA 54) (zA AA 55) (zA AA 56) (zA AA 57) AD AF (zA AA 60) (zA AA 61)) (W.mk AH AI Bc Bd)) fun Al Be Bf =>
 yX L 57 [AE] Be Bf (fun Bg Bh Bi =>
 zE P L 19 k (.panic Bg) (pN AA (zA AA 2) AE AD (zA AA 6) (zA AA 8) (zA AA 37) (zA AA 38) (zA AA 39) (zA AA 40) (zA AA 41) (zA AA 42) (zA AA 43) (zA AA 44) (zA AA 45) (zA AA 46) (zA AA 47) (zA AA 48) (zA AA 49) (zA AA 50) (zA AA 51) (zA AA 52) (zA AA 53) (zA AA 54) (zA AA 55) (zA AA 56) (zA AA 57) AD AF Al (zA AA 61)) (W.mk AH AI Bh Bi)) fun Am Bj Bk =>
 zE P L 19 k .ret (pN AA Am AE AD (zA AA 6) (zA AA 8) (zA AA 37) (zA AA 38) (zA AA 39) (zA AA 40) (zA AA 41) (zA AA 42) (zA AA 43) (zA AA 44) (zA AA 45) (zA AA 46) (zA AA 47) (zA AA 48) (zA AA 49) (zA AA 50) (zA AA 51) (zA AA 52) (zA AA 53) (zA AA 54) (zA AA 55) (zA AA 56) (zA AA 57) AD AF Al Am) (W.mk AH AI Bj Bk)) (zE P L 19 k))))
theorem F19_eq (L : Lo) (lp : LP) (p0 : Value) (df : Bool) (u : Option zL) (h : zD) (n : Nat) (k : KO) : wQ P hint19 L lp 19 [p0] df u h n k = F19 L lp p0 df u h n k := by kernel_rfl
noncomputable def B19_1000010 (L : Lo) (lp : LP) (rd : Option Nat) (df : Bool) (t : Fr) (w : W) (ka : KX) : Bool :=
 zO (zA t 3) fun AI =>
 zO (zA t 4) fun AC =>
 zO (zA t 37) fun AF =>
 rtI .i64 (zA t 38) fun AG =>
 rtI .i64 (zA t 39) fun AE =>
 onW w fun AJ AK AL AO =>
 fb (vD AE AG) fun AH =>
 br AH (
 blkJ (fun AP =>
 opt (zT P 41 AF (.int .i64 AE)) fun AM =>
 opt (zF P 51 AL AM) fun AD =>
 zN P 23 1 [(0, (.string (ByteArray.mk #[98, 108, 111, 99, 107])))] AL AO fun AS AT AN =>
 wZ L AC [(.string (ByteArray.mk #[])), AN] AS AT (fun AU AV AW =>
 ka (.panic AU) (pN t (zA t 2) AI AC AD (zA t 8) AF (vi AG) (vi AE) (vb AH) AM AD AC AN (zA t 45) (zA t 46) (zA t 47) (zA t 48) (zA t 49) (zA t 50) (zA t 51) (zA t 52) (zA t 53) (zA t 54) (zA t 55) (zA t 56) (zA t 57) (zA t 58) (zA t 59) (zA t 60) (zA t 61)) (W.mk AJ AK AV AW)) fun AX AQ AY =>
 opt (yL P .len [51] [AD] AQ) fun AZ =>
 rtI .i64 AZ fun Aa =>
 lp 1000014 ⟨19, rd, df⟩ (pN t (zA t 2) AI AC AD (zA t 8) AF (vi AG) (vi AE) (vb AH) AM AD AC AN AX AD (vi Aa) (vi 0) (zA t 49) (zA t 50) (zA t 51) (zA t 52) (zA t 53) (zA t 54) (zA t 55) (zA t 56) (zA t 57) (zA t 58) (zA t 59) (zA t 60) (zA t 61)) (W.mk AJ AK AQ AY) (endA noK (blkA 2 (fun AA Ab =>
 zO (zA AA 3) fun Ac =>
 zO (zA AA 4) fun Ad =>
 zO (zA AA 37) fun Ae =>
 rtI .i64 (zA AA 38) fun Af =>
 rtI .i64 (zA AA 39) fun Ag =>
 onW Ab fun Ah Ai Aj Ak =>
 AP (pN AA (zA AA 2) Ac Ad (zA AA 6) (zA AA 8) Ae (vi Af) (vi Ag) (zA AA 40) (zA AA 41) (zA AA 42) (zA AA 43) (zA AA 44) (zA AA 45) (zA AA 46) (zA AA 47) (zA AA 48) (zA AA 49) (zA AA 50) (zA AA 51) (zA AA 52) (zA AA 53) (zA AA 54) (zA AA 55) (zA AA 56) (zA AA 57) (zA AA 58) (zA AA 59) (zA AA 60) (zA AA 61)) (W.mk Ah Ai Aj Ak)) (blkA 1 AP ka)))) (fun AB Al =>
 zO (zA AB 3) fun Am =>
 zO (zA AB 4) fun An =>
 zO (zA AB 37) fun Ao =>
 rtI .i64 (zA AB 38) fun Ap =>
 rtI .i64 (zA AB 39) fun Aq =>
 onW Al fun Ar As At Au =>
 fi (vK .i64 (tH Aq 1)) fun AR =>
 lp 1000010 ⟨19, rd, df⟩ (pN AB (zA AB 2) Am An (zA AB 6) (zA AB 8) Ao (vi Ap) (vi AR) (zA AB 40) (zA AB 41) (zA AB 42) (zA AB 43) (zA AB 44) (zA AB 45) (zA AB 46) (zA AB 47) (zA AB 48) (zA AB 49) (zA AB 50) (zA AB 51) (zA AB 52) (zA AB 53) (zA AB 54) (zA AB 55) (zA AB 56) (vi AR) (zA AB 58) (zA AB 59) (zA AB 60) (zA AB 61)) (W.mk Ar As At Au) ka)) (
 ka (.exit 0) (pN t (zA t 2) AI AC (zA t 6) (zA t 8) AF (vi AG) (vi AE) (vb AH) (zA t 41) (zA t 42) (zA t 43) (zA t 44) (zA t 45) (zA t 46) (zA t 47) (zA t 48) (zA t 49) (zA t 50) (zA t 51) (zA t 52) (zA t 53) (zA t 54) (zA t 55) (zA t 56) (zA t 57) (zA t 58) (zA t 59) (zA t 60) (zA t 61)) (W.mk AJ AK AL AO))
theorem B19_1000010_eq (L : Lo) (lp : LP) (rd : Option Nat) (df : Bool) (t : Fr) (w : W) (ka : KX) : pC P hint19 L lp (unL (yD P 19 1000010)) ⟨19, rd, df⟩ t w ka = B19_1000010 L lp rd df t w ka := by kernel_rfl
noncomputable def B19_1000014 (L : Lo) (lp : LP) (rd : Option Nat) (df : Bool) (t : Fr) (w : W) (ka : KX) : Bool :=
 zO (zA t 3) fun AH =>
 zO (zA t 4) fun AB =>
 zO (zA t 37) fun AI =>
 rtI .i64 (zA t 38) fun AJ =>
 rtI .i64 (zA t 39) fun AK =>
 zO (zA t 46) fun AD =>
 rtI .i64 (zA t 47) fun AE =>
 rtI .i64 (zA t 48) fun AC =>
 onW w fun AL AM AQ AS =>
 fb (vD AC AE) fun AF =>
 br AF (
 blkJ (fun AV =>
 opt (zT P 51 AD (.int .i64 AC)) fun AN =>
 opt (zF P 50 AQ AN) fun AO =>
 tD P 50 AQ AS fun AW AX AG =>
 zV P 50 AG AO AW AX fun AT AY Ax =>
 opt (zF P 50 AT AG) fun AP =>
 yX L 56 [AP] AT AY (fun AZ Aa Ab =>
 ka (.panic AZ) (pN t (zA t 2) AH AB (zA t 6) AG AI (vi AJ) (vi AK) (zA t 40) (zA t 41) (zA t 42) (zA t 43) (zA t 44) (zA t 45) AD (vi AE) (vi AC) (vb AF) AN AO AB AP (zA t 54) (zA t 55) (zA t 56) (zA t 57) (zA t 58) (zA t 59) (zA t 60) (zA t 61)) (W.mk AL AM Aa Ab)) fun AR Ac Ad =>
 wZ L AB [(.string (ByteArray.mk #[32, 32])), AR] Ac Ad (fun Ae Af Ag =>
 ka (.panic Ae) (pN t (zA t 2) AH AB (zA t 6) AG AI (vi AJ) (vi AK) (zA t 40) (zA t 41) (zA t 42) (zA t 43) (zA t 44) (zA t 45) AD (vi AE) (vi AC) (vb AF) AN AO AB AP AR (zA t 55) (zA t 56) (zA t 57) (zA t 58) (zA t 59) (zA t 60) (zA t 61)) (W.mk AL AM Af Ag)) fun Ah Ai Aj =>
 AV (pN t (zA t 2) AH AB (zA t 6) AG AI (vi AJ) (vi AK) (zA t 40) (zA t 41) (zA t 42) (zA t 43) (zA t 44) (zA t 45) AD (vi AE) (vi AC) (vb AF) AN AO AB AP AR Ah (zA t 56) (zA t 57) (zA t 58) (zA t 59) (zA t 60) (zA t 61)) (W.mk AL AM Ai Aj)) (fun AA Ak =>
 zO (zA AA 3) fun Al =>
 zO (zA AA 4) fun Am =>
 zO (zA AA 37) fun An =>
 rtI .i64 (zA AA 38) fun Ao =>
 rtI .i64 (zA AA 39) fun Ap =>
 zO (zA AA 46) fun Aq =>
 rtI .i64 (zA AA 47) fun Ar =>
 rtI .i64 (zA AA 48) fun As =>
 onW Ak fun At Au Av Aw =>
 fi (vK .i64 (tH As 1)) fun AU =>
 lp 1000014 ⟨19, rd, df⟩ (pN AA (zA AA 2) Al Am (zA AA 6) (zA AA 8) An (vi Ao) (vi Ap) (zA AA 40) (zA AA 41) (zA AA 42) (zA AA 43) (zA AA 44) (zA AA 45) Aq (vi Ar) (vi AU) (zA AA 49) (zA AA 50) (zA AA 51) (zA AA 52) (zA AA 53) (zA AA 54) (zA AA 55) (vi AU) (zA AA 57) (zA AA 58) (zA AA 59) (zA AA 60) (zA AA 61)) (W.mk At Au Av Aw) ka)) (
 ka (.exit 2) (pN t (zA t 2) AH AB (zA t 6) (zA t 8) AI (vi AJ) (vi AK) (zA t 40) (zA t 41) (zA t 42) (zA t 43) (zA t 44) (zA t 45) AD (vi AE) (vi AC) (vb AF) (zA t 50) (zA t 51) (zA t 52) (zA t 53) (zA t 54) (zA t 55) (zA t 56) (zA t 57) (zA t 58) (zA t 59) (zA t 60) (zA t 61)) (W.mk AL AM AQ AS))
theorem B19_1000014_eq (L : Lo) (lp : LP) (rd : Option Nat) (df : Bool) (t : Fr) (w : W) (ka : KX) : pC P hint19 L lp (unL (yD P 19 1000014)) ⟨19, rd, df⟩ t w ka = B19_1000014 L lp rd df t w ka := by kernel_rfl
theorem l19 : xB P 19 = true := by kernel_rfl
theorem r19 : wA P 19 = some [.tmp 2] := by kernel_rfl
theorem lp19_1000010 : uX (yD P 19 1000010) = true := by kernel_rfl
theorem lp19_1000014 : uX (yD P 19 1000014) = true := by kernel_rfl
noncomputable abbrev fr70 (s0 s1 s2 s3 s4 s5 s6 s7 s8 s9 s10 s11 s12 s13 s14 s15 s16 s17 s18 s19 s20 s21 s22 s23 s24 s25 : Value) : Fr := (.node (.node (.node (.node (.node .leaf s15 .leaf) s7 (.node .leaf s23 .leaf)) s3 (.node (.node .leaf s19 .leaf) s11 .leaf)) s1 (.node (.node (.node .leaf s17 .leaf) s9 (.node .leaf s25 .leaf)) s5 (.node (.node .leaf s21 .leaf) s13 .leaf))) s0 (.node (.node (.node (.node .leaf s16 .leaf) s8 (.node .leaf s24 .leaf)) s4 (.node (.node .leaf s20 .leaf) s12 .leaf)) s2 (.node (.node (.node .leaf s18 .leaf) s10 .leaf) s6 (.node (.node .leaf s22 .leaf) s14 .leaf))))
noncomputable abbrev fo70 (s4 : Value) : Fr := fr70 ud ud ud ud s4 ud ud ud ud ud ud ud ud ud ud ud ud ud ud ud ud ud ud ud ud ud
noncomputable abbrev fj70_0 (t : Fr) (s0 s1 s4 s5 s11 s12 s13 s14 s15 s16 : Value) : Fr := fr70 s0 s1 (zA t 2) (zA t 3) s4 s5 (zA t 6) (zA t 7) (zA t 8) (zA t 9) (zA t 10) s11 s12 s13 s14 s15 s16 (zA t 17) (zA t 18) (zA t 19) (zA t 20) (zA t 21) (zA t 22) (zA t 23) (zA t 24) (zA t 25)
noncomputable def hint70 : tJ := fun kind _ i => match kind with
 | 0 => bif Nat.beq i 1000004 then [.val, .val, .any, .any, .any, (.int .i64)] else []
 | 1 => bif Nat.beq i 1 then [.val, .val, .any, .any, .any, (.int .i64)] else []
 | 2 => bif Nat.beq i 0 then [.val, .val, .any, .any, .any, (.int .i64)] else bif Nat.beq i 2 then [.val, .val] else bif Nat.beq i 7 then [.val, .val, .any, .any, .any, (.int .i64)] else []
 | 4 => bif Nat.beq i 0 then [.any, .any] else []
 | _ => []
noncomputable def F70 (L : Lo) (lp : LP) (p0 p1 : Value) (df : Bool) (u : Option zL) (h : zD) (n : Nat) (k : KO) : Bool :=
 opt (yL P .len [40] [p0] h) fun v1 =>
 rtI .i64 v1 fun a2 =>
 opt (yL P .len [40] [p1] h) fun v3 =>
 rtI .i64 v3 fun a4 =>
 fb (ineB a2 a4) fun a5 =>
 br a5 (
 zE P L 70 k .ret (fo70 (.bool false)) (W.mk [] u h n)) (
 lp 1000004 ⟨70, none, df⟩ (fr70 p0 p1 ud ud (vb false) (vi 0) p0 (vi a2) p1 (vi a4) (vb a5) ud ud ud ud ud ud ud ud ud ud ud ud ud ud ud) (W.mk [] u h n) (endA noK (blkA 0 (fun t6 w7 =>
 onW w7 fun d8 u9 AJ AK =>
 zE P L 70 k .ret (fj70_0 t6 (zA t6 0) (zA t6 1) (vb true) (zA t6 5) (zA t6 11) (zA t6 12) (zA t6 13) (zA t6 14) (zA t6 15) (zA t6 16)) (W.mk d8 u9 AJ AK)) (zE P L 70 k))))
theorem F70_eq (L : Lo) (lp : LP) (p0 p1 : Value) (df : Bool) (u : Option zL) (h : zD) (n : Nat) (k : KO) : wQ P hint70 L lp 70 [p0, p1] df u h n k = F70 L lp p0 p1 df u h n k := by kernel_rfl
noncomputable def B70_1000004 (L : Lo) (lp : LP) (rd : Option Nat) (df : Bool) (t : Fr) (w : W) (ka : KX) : Bool :=
 zO (zA t 0) fun AB =>
 zO (zA t 1) fun AE =>
 rtI .i64 (zA t 5) fun AA =>
 onW w fun AF AG AD AH =>
 opt (yL P .len [40] [AB] AD) fun AR =>
 rtI .i64 AR fun AI =>
 fb (vD AA AI) fun AJ =>
 br AJ (
 blkJ (fun AS =>
 opt (zT P 40 AB (.int .i64 AA)) fun AK =>
 opt (zF P 3 AD AK) fun AT =>
 rtI .i64 AT fun AL =>
 opt (zT P 40 AE (.int .i64 AA)) fun AM =>
 opt (zF P 3 AD AM) fun AU =>
 rtI .i64 AU fun AN =>
 fb (ineB AL AN) fun AO =>
 gt (lks [(W.mk AF AG AD AH)] []) (
 br AO (
 ka .ret (fr70 AB AE (zA t 2) (zA t 3) (vb false) (vi AA) (zA t 6) (zA t 7) (zA t 8) (zA t 9) (zA t 10) (vi AA) AB (vi AI) (vb AJ) (zA t 15) (zA t 16) AB (vi AA) AK (vi AL) AE (vi AA) AM (vi AN) (vb AO)) (W.mk AF AG AD AH)) (
 AS (fr70 AB AE (zA t 2) (zA t 3) (zA t 4) (vi AA) (zA t 6) (zA t 7) (zA t 8) (zA t 9) (zA t 10) (vi AA) AB (vi AI) (vb AJ) (zA t 15) (zA t 16) AB (vi AA) AK (vi AL) AE (vi AA) AM (vi AN) (vb AO)) (W.mk AF AG AD AH)))) (fun AC AV =>
 zO (zA AC 0) fun AW =>
 zO (zA AC 1) fun AX =>
 rtI .i64 (zA AC 5) fun AP =>
 onW AV fun AY AZ Aa Ab =>
 fi (vK .i64 (tH AP 1)) fun AQ =>
 lp 1000004 ⟨70, rd, df⟩ (fj70_0 AC AW AX (zA AC 4) (vi AQ) (zA AC 11) (zA AC 12) (zA AC 13) (zA AC 14) (vi AP) (vi AQ)) (W.mk AY AZ Aa Ab) ka)) (
 ka (.exit 0) (fj70_0 t AB AE (zA t 4) (vi AA) (vi AA) AB (vi AI) (vb AJ) (zA t 15) (zA t 16)) (W.mk AF AG AD AH))
theorem B70_1000004_eq (L : Lo) (lp : LP) (rd : Option Nat) (df : Bool) (t : Fr) (w : W) (ka : KX) : pC P hint70 L lp (unL (yD P 70 1000004)) ⟨70, rd, df⟩ t w ka = B70_1000004 L lp rd df t w ka := by kernel_rfl
theorem l70 : xB P 70 = true := by kernel_rfl
theorem r70 : wA P 70 = some [.tmp 4] := by kernel_rfl
theorem lp70_1000004 : uX (yD P 70 1000004) = true := by kernel_rfl
noncomputable abbrev fr71 (s0 s1 s2 s3 s4 s5 s6 s7 s8 s9 s10 s11 s12 s13 s14 s15 s16 s17 s18 s19 s20 s21 s22 s23 s24 s25 s26 s27 s28 s29 s30 s31 s32 s33 s34 s35 s36 s37 s38 s39 s40 s41 s42 s43 s44 s45 s46 s47 s48 s49 s50 s51 s52 s53 s54 s55 : Value) : Fr := (.node (.node (.node (.node (.node (.node .leaf s31 .leaf) s15 (.node .leaf s47 .leaf)) s7 (.node (.node .leaf s39 .leaf) s23 (.node .leaf s55 .leaf))) s3 (.node (.node (.node .leaf s35 .leaf) s19 (.node .leaf s51 .leaf)) s11 (.node (.node .leaf s43 .leaf) s27 .leaf))) s1 (.node (.node (.node (.node .leaf s33 .leaf) s17 (.node .leaf s49 .leaf)) s9 (.node (.node .leaf s41 .leaf) s25 .leaf)) s5 (.node (.node (.node .leaf s37 .leaf) s21 (.node .leaf s53 .leaf)) s13 (.node (.node .leaf s45 .leaf) s29 .leaf)))) s0 (.node (.node (.node (.node (.node .leaf s32 .leaf) s16 (.node .leaf s48 .leaf)) s8 (.node (.node .leaf s40 .leaf) s24 .leaf)) s4 (.node (.node (.node .leaf s36 .leaf) s20 (.node .leaf s52 .leaf)) s12 (.node (.node .leaf s44 .leaf) s28 .leaf))) s2 (.node (.node (.node (.node .leaf s34 .leaf) s18 (.node .leaf s50 .leaf)) s10 (.node (.node .leaf s42 .leaf) s26 .leaf)) s6 (.node (.node (.node .leaf s38 .leaf) s22 (.node .leaf s54 .leaf)) s14 (.node (.node .leaf s46 .leaf) s30 .leaf)))))
noncomputable abbrev fo71 (s4 : Value) : Fr := fr71 ud ud ud ud s4 ud ud ud ud ud ud ud ud ud ud ud ud ud ud ud ud ud ud ud ud ud ud ud ud ud ud ud ud ud ud ud ud ud ud ud ud ud ud ud ud ud ud ud ud ud ud ud ud ud ud ud
noncomputable def hint71 : tJ := fun kind _ i => match kind with
 | 0 => bif Nat.beq i 1000004 then [.val, .val, .any, .any, .any, (.int .i64)] else bif Nat.beq i 1000009 then [.val, .val, .any, .any, .any, (.int .i64), (.int .i64)] else []
 | 1 => bif Nat.beq i 1 then [.val, .val, .any, .any, .any, (.int .i64)] else bif Nat.beq i 2 then [.val, .val, .any, .any, .any, (.int .i64)] else bif Nat.beq i 3 then [.val, .val, .any, .any, .any, (.int .i64), (.int .i64)] else []
 | 2 => bif Nat.beq i 0 then [.val, .val, .any, .any, .any, (.int .i64)] else bif Nat.beq i 2 then [.val, .val] else bif Nat.beq i 7 then [.val, .val, .any, .any, .any, (.int .i64)] else bif Nat.beq i 13 then [.val, .val, .any, .any, .any, (.int .i64), (.int .i64)] else []
 | 4 => bif Nat.beq i 0 then [.any, .any] else []
 | _ => []
noncomputable def F71 (L : Lo) (lp : LP) (p0 p1 : Value) (df : Bool) (u : Option zL) (h : zD) (n : Nat) (k : KO) : Bool :=
 opt (yL P .len [41] [p0] h) fun v1 =>
 rtI .i64 v1 fun a2 =>
 opt (yL P .len [41] [p1] h) fun v3 =>
 rtI .i64 v3 fun a4 =>
 fb (ineB a2 a4) fun a5 =>
 br a5 (
 zE P L 71 k .ret (fo71 (.bool false)) (W.mk [] u h n)) (
 lp 1000004 ⟨71, none, df⟩ (fr71 p0 p1 ud ud (vb false) (vi 0) ud ud p0 (vi a2) p1 (vi a4) (vb a5) ud ud ud ud ud ud ud ud ud ud ud ud ud ud ud ud ud ud ud ud ud ud ud ud ud ud ud ud ud ud ud ud ud ud ud ud ud ud ud ud ud ud ud) (W.mk [] u h n) (endA noK (blkA 0 (fun t6 w7 =>
 onW w7 fun d8 u9 AJ AK =>
 zE P L 71 k .ret (fr71 (zA t6 0) (zA t6 1) (zA t6 2) (zA t6 3) (vb true) (zA t6 5) (zA t6 6) (zA t6 7) (zA t6 8) (zA t6 9) (zA t6 10) (zA t6 11) (zA t6 12) (zA t6 13) (zA t6 14) (zA t6 15) (zA t6 16) (zA t6 17) (zA t6 18) (zA t6 19) (zA t6 20) (zA t6 21) (zA t6 22) (zA t6 23) (zA t6 24) (zA t6 25) (zA t6 26) (zA t6 27) (zA t6 28) (zA t6 29) (zA t6 30) (zA t6 31) (zA t6 32) (zA t6 33) (zA t6 34) (zA t6 35) (zA t6 36) (zA t6 37) (zA t6 38) (zA t6 39) (zA t6 40) (zA t6 41) (zA t6 42) (zA t6 43) (zA t6 44) (zA t6 45) (zA t6 46) (zA t6 47) (zA t6 48) (zA t6 49) (zA t6 50) (zA t6 51) (zA t6 52) (zA t6 53) (zA t6 54) (zA t6 55)) (W.mk d8 u9 AJ AK)) (zE P L 71 k))))
theorem F71_eq (L : Lo) (lp : LP) (p0 p1 : Value) (df : Bool) (u : Option zL) (h : zD) (n : Nat) (k : KO) : wQ P hint71 L lp 71 [p0, p1] df u h n k = F71 L lp p0 p1 df u h n k := by kernel_rfl
noncomputable def B71_1000004 (L : Lo) (lp : LP) (rd : Option Nat) (df : Bool) (t : Fr) (w : W) (ka : KX) : Bool :=
 zO (zA t 0) fun AD =>
 zO (zA t 1) fun AF =>
 rtI .i64 (zA t 5) fun AC =>
 onW w fun AG AH AE AI =>
 opt (yL P .len [41] [AD] AE) fun AV =>
 rtI .i64 AV fun AJ =>
 fb (vD AC AJ) fun AK =>
 br AK (
 blkJ (fun AS =>
 opt (zT P 41 AD (.int .i64 AC)) fun AL =>
 opt (zF P 51 AE AL) fun AM =>
 opt (yL P .len [51] [AM] AE) fun AW =>
 rtI .i64 AW fun AN =>
 opt (zT P 41 AF (.int .i64 AC)) fun AO =>
 opt (zF P 51 AE AO) fun AP =>
 opt (yL P .len [51] [AP] AE) fun AX =>
 rtI .i64 AX fun AQ =>
 fb (ineB AN AQ) fun AR =>
 gt (lks [(W.mk AG AH AE AI)] []) (
 br AR (
 ka .ret (fr71 AD AF (zA t 2) (zA t 3) (vb false) (vi AC) (zA t 6) (zA t 7) (zA t 8) (zA t 9) (zA t 10) (zA t 11) (zA t 12) (vi AC) AD (vi AJ) (vb AK) (zA t 17) (zA t 18) AD (vi AC) AL AM (vi AN) AF (vi AC) AO AP (vi AQ) (vb AR) (zA t 30) (zA t 31) (zA t 32) (zA t 33) (zA t 34) (zA t 35) (zA t 36) (zA t 37) (zA t 38) (zA t 39) (zA t 40) (zA t 41) (zA t 42) (zA t 43) (zA t 44) (zA t 45) (zA t 46) (zA t 47) (zA t 48) (zA t 49) (zA t 50) (zA t 51) (zA t 52) (zA t 53) (zA t 54) (zA t 55)) (W.mk AG AH AE AI)) (
 lp 1000009 ⟨71, rd, df⟩ (fr71 AD AF (zA t 2) (zA t 3) (zA t 4) (vi AC) (vi 0) (zA t 7) (zA t 8) (zA t 9) (zA t 10) (zA t 11) (zA t 12) (vi AC) AD (vi AJ) (vb AK) (zA t 17) (zA t 18) AD (vi AC) AL AM (vi AN) AF (vi AC) AO AP (vi AQ) (vb AR) (zA t 30) (zA t 31) (zA t 32) (zA t 33) (zA t 34) (zA t 35) (zA t 36) (zA t 37) (zA t 38) (zA t 39) (zA t 40) (zA t 41) (zA t 42) (zA t 43) (zA t 44) (zA t 45) (zA t 46) (zA t 47) (zA t 48) (zA t 49) (zA t 50) (zA t 51) (zA t 52) (zA t 53) (zA t 54) (zA t 55)) (W.mk AG AH AE AI) (endA noK (blkA 2 (fun AA AY =>
 zO (zA AA 0) fun AZ =>
 zO (zA AA 1) fun Aa =>
 rtI .i64 (zA AA 5) fun Ab =>
 onW AY fun Ac Ad Ae Af =>
 AS (fr71 AZ Aa (zA AA 2) (zA AA 3) (zA AA 4) (vi Ab) (zA AA 6) (zA AA 7) (zA AA 8) (zA AA 9) (zA AA 10) (zA AA 11) (zA AA 12) (zA AA 13) (zA AA 14) (zA AA 15) (zA AA 16) (zA AA 17) (zA AA 18) (zA AA 19) (zA AA 20) (zA AA 21) (zA AA 22) (zA AA 23) (zA AA 24) (zA AA 25) (zA AA 26) (zA AA 27) (zA AA 28) (zA AA 29) (zA AA 30) (zA AA 31) (zA AA 32) (zA AA 33) (zA AA 34) (zA AA 35) (zA AA 36) (zA AA 37) (zA AA 38) (zA AA 39) (zA AA 40) (zA AA 41) (zA AA 42) (zA AA 43) (zA AA 44) (zA AA 45) (zA AA 46) (zA AA 47) (zA AA 48) (zA AA 49) (zA AA 50) (zA AA 51) (zA AA 52) (zA AA 53) (zA AA 54) (zA AA 55)) (W.mk Ac Ad Ae Af)) (blkA 1 AS ka)))))) (fun AB Ag =>
 zO (zA AB 0) fun Ah =>
 zO (zA AB 1) fun Ai =>
 rtI .i64 (zA AB 5) fun AT =>
 onW Ag fun Aj Ak Al Am =>
 fi (vK .i64 (tH AT 1)) fun AU =>
 lp 1000004 ⟨71, rd, df⟩ (fr71 Ah Ai (zA AB 2) (zA AB 3) (zA AB 4) (vi AU) (zA AB 6) (zA AB 7) (zA AB 8) (zA AB 9) (zA AB 10) (zA AB 11) (zA AB 12) (zA AB 13) (zA AB 14) (zA AB 15) (zA AB 16) (vi AT) (vi AU) (zA AB 19) (zA AB 20) (zA AB 21) (zA AB 22) (zA AB 23) (zA AB 24) (zA AB 25) (zA AB 26) (zA AB 27) (zA AB 28) (zA AB 29) (zA AB 30) (zA AB 31) (zA AB 32) (zA AB 33) (zA AB 34) (zA AB 35) (zA AB 36) (zA AB 37) (zA AB 38) (zA AB 39) (zA AB 40) (zA AB 41) (zA AB 42) (zA AB 43) (zA AB 44) (zA AB 45) (zA AB 46) (zA AB 47) (zA AB 48) (zA AB 49) (zA AB 50) (zA AB 51) (zA AB 52) (zA AB 53) (zA AB 54) (zA AB 55)) (W.mk Aj Ak Al Am) ka)) (
 ka (.exit 0) (fr71 AD AF (zA t 2) (zA t 3) (zA t 4) (vi AC) (zA t 6) (zA t 7) (zA t 8) (zA t 9) (zA t 10) (zA t 11) (zA t 12) (vi AC) AD (vi AJ) (vb AK) (zA t 17) (zA t 18) (zA t 19) (zA t 20) (zA t 21) (zA t 22) (zA t 23) (zA t 24) (zA t 25) (zA t 26) (zA t 27) (zA t 28) (zA t 29) (zA t 30) (zA t 31) (zA t 32) (zA t 33) (zA t 34) (zA t 35) (zA t 36) (zA t 37) (zA t 38) (zA t 39) (zA t 40) (zA t 41) (zA t 42) (zA t 43) (zA t 44) (zA t 45) (zA t 46) (zA t 47) (zA t 48) (zA t 49) (zA t 50) (zA t 51) (zA t 52) (zA t 53) (zA t 54) (zA t 55)) (W.mk AG AH AE AI))
theorem B71_1000004_eq (L : Lo) (lp : LP) (rd : Option Nat) (df : Bool) (t : Fr) (w : W) (ka : KX) : pC P hint71 L lp (unL (yD P 71 1000004)) ⟨71, rd, df⟩ t w ka = B71_1000004 L lp rd df t w ka := by kernel_rfl
noncomputable def B71_1000009 (L : Lo) (lp : LP) (rd : Option Nat) (df : Bool) (t : Fr) (w : W) (ka : KX) : Bool :=
 zO (zA t 0) fun AD =>
 zO (zA t 1) fun AF =>
 rtI .i64 (zA t 5) fun AB =>
 rtI .i64 (zA t 6) fun AC =>
 onW w fun AG AH AE AJ =>
 opt (zT P 41 AD (.int .i64 AB)) fun AK =>
 opt (zF P 51 AE AK) fun AL =>
 opt (yL P .len [51] [AL] AE) fun Ab =>
 rtI .i64 Ab fun AM =>
 fb (vD AC AM) fun AN =>
 br AN (
 blkJ (fun Ac =>
 opt (zT P 41 AD (.int .i64 AB)) fun AO =>
 opt (zF P 51 AE AO) fun AP =>
 opt (zT P 51 AP (.int .i64 AC)) fun AQ =>
 opt (zF P 50 AE AQ) fun AR =>
 opt (zT P 41 AF (.int .i64 AB)) fun AS =>
 opt (zF P 51 AE AS) fun AT =>
 opt (zT P 51 AT (.int .i64 AC)) fun AU =>
 opt (zF P 50 AE AU) fun AV =>
 sJ L 105 [AR, AV] AE AJ (fun Ad Ae Af =>
 gt (lks [(W.mk AG AH AE AJ)] []) (
 ka (.panic Ad) (fr71 AD AF (zA t 2) (zA t 3) (zA t 4) (vi AB) (vi AC) (zA t 7) (zA t 8) (zA t 9) (zA t 10) (zA t 11) (zA t 12) (zA t 13) (zA t 14) (zA t 15) (zA t 16) (zA t 17) (zA t 18) (zA t 19) (zA t 20) (zA t 21) (zA t 22) (zA t 23) (zA t 24) (zA t 25) (zA t 26) (zA t 27) (zA t 28) (zA t 29) (vi AC) AD (vi AB) AK AL (vi AM) (vb AN) (zA t 37) (zA t 38) AD (vi AB) AO AP (vi AC) AQ AR AF (vi AB) AS AT (vi AC) AU AV (zA t 53) (zA t 54) (zA t 55)) (W.mk AG AH Ae Af))) fun AI AX AW =>
 gt (Nat.ble AJ AW) (
 gt (lks [(W.mk AG AH AX AW), (W.mk AG AH AE AJ)] []) (
 opt (aUn .not (.bool AI)) fun Ag =>
 rtB Ag fun AY =>
 br AY (
 ka .ret (fr71 AD AF (zA t 2) (zA t 3) (vb false) (vi AB) (vi AC) (vb AI) (zA t 8) (zA t 9) (zA t 10) (zA t 11) (zA t 12) (zA t 13) (zA t 14) (zA t 15) (zA t 16) (zA t 17) (zA t 18) (zA t 19) (zA t 20) (zA t 21) (zA t 22) (zA t 23) (zA t 24) (zA t 25) (zA t 26) (zA t 27) (zA t 28) (zA t 29) (vi AC) AD (vi AB) AK AL (vi AM) (vb AN) (zA t 37) (zA t 38) AD (vi AB) AO AP (vi AC) AQ AR AF (vi AB) AS AT (vi AC) AU AV (vb AI) (vb AI) (vb AY)) (W.mk AG AH AX AW)) (
 Ac (fr71 AD AF (zA t 2) (zA t 3) (zA t 4) (vi AB) (vi AC) (vb AI) (zA t 8) (zA t 9) (zA t 10) (zA t 11) (zA t 12) (zA t 13) (zA t 14) (zA t 15) (zA t 16) (zA t 17) (zA t 18) (zA t 19) (zA t 20) (zA t 21) (zA t 22) (zA t 23) (zA t 24) (zA t 25) (zA t 26) (zA t 27) (zA t 28) (zA t 29) (vi AC) AD (vi AB) AK AL (vi AM) (vb AN) (zA t 37) (zA t 38) AD (vi AB) AO AP (vi AC) AQ AR AF (vi AB) AS AT (vi AC) AU AV (vb AI) (vb AI) (vb AY)) (W.mk AG AH AX AW))))) (fun AA Ah =>
 zO (zA AA 0) fun Ai =>
 zO (zA AA 1) fun Aj =>
 rtI .i64 (zA AA 5) fun Ak =>
 rtI .i64 (zA AA 6) fun AZ =>
 onW Ah fun Al Am An Ao =>
 fi (vK .i64 (tH AZ 1)) fun Aa =>
 lp 1000009 ⟨71, rd, df⟩ (fr71 Ai Aj (zA AA 2) (zA AA 3) (zA AA 4) (vi Ak) (vi Aa) (zA AA 7) (zA AA 8) (zA AA 9) (zA AA 10) (zA AA 11) (zA AA 12) (zA AA 13) (zA AA 14) (zA AA 15) (zA AA 16) (zA AA 17) (zA AA 18) (zA AA 19) (zA AA 20) (zA AA 21) (zA AA 22) (zA AA 23) (zA AA 24) (zA AA 25) (zA AA 26) (zA AA 27) (zA AA 28) (zA AA 29) (zA AA 30) (zA AA 31) (zA AA 32) (zA AA 33) (zA AA 34) (zA AA 35) (zA AA 36) (vi AZ) (vi Aa) (zA AA 39) (zA AA 40) (zA AA 41) (zA AA 42) (zA AA 43) (zA AA 44) (zA AA 45) (zA AA 46) (zA AA 47) (zA AA 48) (zA AA 49) (zA AA 50) (zA AA 51) (zA AA 52) (zA AA 53) (zA AA 54) (zA AA 55)) (W.mk Al Am An Ao) ka)) (
 ka (.exit 2) (fr71 AD AF (zA t 2) (zA t 3) (zA t 4) (vi AB) (vi AC) (zA t 7) (zA t 8) (zA t 9) (zA t 10) (zA t 11) (zA t 12) (zA t 13) (zA t 14) (zA t 15) (zA t 16) (zA t 17) (zA t 18) (zA t 19) (zA t 20) (zA t 21) (zA t 22) (zA t 23) (zA t 24) (zA t 25) (zA t 26) (zA t 27) (zA t 28) (zA t 29) (vi AC) AD (vi AB) AK AL (vi AM) (vb AN) (zA t 37) (zA t 38) (zA t 39) (zA t 40) (zA t 41) (zA t 42) (zA t 43) (zA t 44) (zA t 45) (zA t 46) (zA t 47) (zA t 48) (zA t 49) (zA t 50) (zA t 51) (zA t 52) (zA t 53) (zA t 54) (zA t 55)) (W.mk AG AH AE AJ))
theorem B71_1000009_eq (L : Lo) (lp : LP) (rd : Option Nat) (df : Bool) (t : Fr) (w : W) (ka : KX) : pC P hint71 L lp (unL (yD P 71 1000009)) ⟨71, rd, df⟩ t w ka = B71_1000009 L lp rd df t w ka := by kernel_rfl
theorem l71 : xB P 71 = true := by kernel_rfl
theorem r71 : wA P 71 = some [.tmp 4] := by kernel_rfl
theorem lp71_1000004 : uX (yD P 71 1000004) = true := by kernel_rfl
theorem lp71_1000009 : uX (yD P 71 1000009) = true := by kernel_rfl
noncomputable abbrev fr24 (s0 s1 s2 s3 s4 s5 s6 s7 s8 s9 s10 s11 s12 s13 s14 s15 s16 s17 s18 s19 s20 s21 s22 s23 s24 s25 s26 s27 s28 s29 s30 s31 s32 s33 s34 s35 s36 s37 s38 s39 s40 s41 s42 s43 s44 s45 s46 s47 s48 s49 s50 s51 s52 s53 s54 s55 s56 s57 s58 s59 s60 : Value) : Fr := (.node (.node (.node (.node (.node (.node .leaf s31 .leaf) s15 (.node .leaf s47 .leaf)) s7 (.node (.node .leaf s39 .leaf) s23 (.node .leaf s55 .leaf))) s3 (.node (.node (.node .leaf s35 .leaf) s19 (.node .leaf s51 .leaf)) s11 (.node (.node .leaf s43 .leaf) s27 (.node .leaf s59 .leaf)))) s1 (.node (.node (.node (.node .leaf s33 .leaf) s17 (.node .leaf s49 .leaf)) s9 (.node (.node .leaf s41 .leaf) s25 (.node .leaf s57 .leaf))) s5 (.node (.node (.node .leaf s37 .leaf) s21 (.node .leaf s53 .leaf)) s13 (.node (.node .leaf s45 .leaf) s29 .leaf)))) s0 (.node (.node (.node (.node (.node .leaf s32 .leaf) s16 (.node .leaf s48 .leaf)) s8 (.node (.node .leaf s40 .leaf) s24 (.node .leaf s56 .leaf))) s4 (.node (.node (.node .leaf s36 .leaf) s20 (.node .leaf s52 .leaf)) s12 (.node (.node .leaf s44 .leaf) s28 (.node .leaf s60 .leaf)))) s2 (.node (.node (.node (.node .leaf s34 .leaf) s18 (.node .leaf s50 .leaf)) s10 (.node (.node .leaf s42 .leaf) s26 (.node .leaf s58 .leaf))) s6 (.node (.node (.node .leaf s38 .leaf) s22 (.node .leaf s54 .leaf)) s14 (.node (.node .leaf s46 .leaf) s30 .leaf)))))
noncomputable abbrev fo24 (s4 : Value) : Fr := fr24 ud ud ud ud s4 ud ud ud ud ud ud ud ud ud ud ud ud ud ud ud ud ud ud ud ud ud ud ud ud ud ud ud ud ud ud ud ud ud ud ud ud ud ud ud ud ud ud ud ud ud ud ud ud ud ud ud ud ud ud ud ud
noncomputable def hint24 : tJ := fun kind _ i => match kind with
 | 0 => bif Nat.beq i 1000004 then [.any, .any, .val, .val, .any, (.int .i64)] else []
 | 1 => bif Nat.beq i 0 then [.any, .any, .val, .val] else bif Nat.beq i 1 then [.any, .any, .val, .val, .any, (.int .i64)] else []
 | 2 => bif Nat.beq i 0 then [.any, .any, .val, .val, .any, (.int .i64)] else bif Nat.beq i 2 then [.any, .any, .val, .val] else bif Nat.beq i 7 then [.any, .any, .val, .val, .any, (.int .i64)] else []
 | 4 => bif Nat.beq i 0 then [.any, .any] else []
 | _ => []
noncomputable def F24 (L : Lo) (lp : LP) (p0 p1 : Value) (df : Bool) (u : Option zL) (h : zD) (n : Nat) (k : KO) : Bool :=
 eBox p0 h n fun h1 n2 v3 =>
 eBox p1 h1 n2 fun h4 n5 v6 =>
 opt (zB P 43 0 v3) fun v7 =>
 opt (zF P 9 h4 v7) fun v8 =>
 opt (zB P 43 0 v6) fun v9 =>
 opt (zF P 9 h4 v9) fun Ag =>
 yB ineB P .neq 9 false v8 Ag fun AC =>
 grd (nt AC) (fun BI =>
 opt (zB P 43 3 v3) fun BJ =>
 BI h4 n5 BJ) (fun AN Ah Ai =>
 grd (nt AC) (fun BK =>
 opt (zF P 9 AN Ai) fun BL =>
 BK AN Ah BL) (fun Aj Ak Al =>
 grd (nt AC) (fun BM =>
 opt (zB P 43 3 v6) fun BN =>
 BM Aj Ak BN) (fun AO Am An =>
 grd (nt AC) (fun BO =>
 opt (zF P 9 AO An) fun BP =>
 BO AO Am BP) (fun Ao Ap Aq =>
 grd (nt AC) (fun BQ =>
 yB ineB P .neq 9 false Al Aq fun BR =>
 BQ Ao Ap (.bool BR)) (fun Ar As At =>
 rtB (sel AC (.bool true) At) fun AB =>
 grd (nt AB) (fun BS =>
 opt (zB P 43 1 v3) fun BT =>
 BS Ar As BT) (fun AP Au Av =>
 grd (nt AB) (fun BU =>
 opt (zF P 23 AP Av) fun BV =>
 BU AP Au BV) (fun AQ Aw Ax =>
 grd (nt AB) (fun BW =>
 opt (yL P .len [23] [Ax] AQ) fun BX =>
 rtI .i64 BX fun BY =>
 BW AQ Aw (.int .i64 BY)) (fun Ay Az A0 =>
 grd (nt AB) (fun BZ =>
 opt (zB P 43 1 v6) fun Ba =>
 BZ Ay Az Ba) (fun AR A1 A2 =>
 grd (nt AB) (fun Bb =>
 opt (zF P 23 AR A2) fun Bc =>
 Bb AR A1 Bc) (fun AS A3 A4 =>
 grd (nt AB) (fun Bd =>
 opt (yL P .len [23] [A4] AS) fun Be =>
 rtI .i64 Be fun Bf =>
 Bd AS A3 (.int .i64 Bf)) (fun A5 A6 A7 =>
 grd (nt AB) (fun Bg =>
 yB ineB P .neq 3 false A0 A7 fun Bh =>
 Bg A5 A6 (.bool Bh)) (fun A8 A9 BA =>
 rtB (sel AB (.bool true) BA) fun BB =>
 br BB (
 zE P L 24 k .ret (fo24 (.bool false)) (W.mk [] u A8 A9)) (
 lp 1000004 ⟨24, none, df⟩ (fr24 p0 p1 v3 v6 (vb false) (vi 0) ud ud v7 v8 v9 Ag (vb AC) (vb AC) Ai Al An Aq At (vb AB) (vb AB) Av Ax A0 A2 A4 A7 BA (vb BB) ud ud ud ud ud ud ud ud ud ud ud ud ud ud ud ud ud ud ud ud ud ud ud ud ud ud ud ud ud ud ud ud) (W.mk [] u A8 A9) (endA noK (blkA 0 (fun AA Bi =>
 zO (zA AA 2) fun AE =>
 zO (zA AA 3) fun AF =>
 onW Bi fun AT AU AV Bj =>
 opt (zB P 43 2 AE) fun AJ =>
 opt (zF P 40 AV AJ) fun AK =>
 opt (zB P 43 2 AF) fun AL =>
 opt (zF P 40 AV AL) fun AM =>
 sJ L 70 [AK, AM] AV Bj (fun Bk Bl Bm =>
 zE P L 24 k (.panic Bk) (fr24 (zA AA 0) (zA AA 1) AE AF (zA AA 4) (zA AA 5) (zA AA 6) (zA AA 7) (zA AA 8) (zA AA 9) (zA AA 10) (zA AA 11) (zA AA 12) (zA AA 13) (zA AA 14) (zA AA 15) (zA AA 16) (zA AA 17) (zA AA 18) (zA AA 19) (zA AA 20) (zA AA 21) (zA AA 22) (zA AA 23) (zA AA 24) (zA AA 25) (zA AA 26) (zA AA 27) (zA AA 28) (zA AA 29) (zA AA 30) (zA AA 31) (zA AA 32) (zA AA 33) (zA AA 34) (zA AA 35) (zA AA 36) (zA AA 37) (zA AA 38) (zA AA 39) (zA AA 40) (zA AA 41) (zA AA 42) (zA AA 43) (zA AA 44) (zA AA 45) (zA AA 46) AJ AK AL AM (zA AA 51) (zA AA 52) (zA AA 53) (zA AA 54) (zA AA 55) (zA AA 56) (zA AA 57) (zA AA 58) (zA AA 59) (zA AA 60)) (W.mk AT AU Bl Bm)) fun AD AW Bn =>
 opt (zB P 43 4 AE) fun AX =>
 opt (zF P 41 AW AX) fun AY =>
 opt (zB P 43 4 AF) fun AZ =>
 opt (zF P 41 AW AZ) fun Aa =>
 sJ L 71 [AY, Aa] AW Bn (fun Bo Bp Bq =>
 zE P L 24 k (.panic Bo) (fr24 (zA AA 0) (zA AA 1) AE AF (zA AA 4) (zA AA 5) (vb AD) (zA AA 7) (zA AA 8) (zA AA 9) (zA AA 10) (zA AA 11) (zA AA 12) (zA AA 13) (zA AA 14) (zA AA 15) (zA AA 16) (zA AA 17) (zA AA 18) (zA AA 19) (zA AA 20) (zA AA 21) (zA AA 22) (zA AA 23) (zA AA 24) (zA AA 25) (zA AA 26) (zA AA 27) (zA AA 28) (zA AA 29) (zA AA 30) (zA AA 31) (zA AA 32) (zA AA 33) (zA AA 34) (zA AA 35) (zA AA 36) (zA AA 37) (zA AA 38) (zA AA 39) (zA AA 40) (zA AA 41) (zA AA 42) (zA AA 43) (zA AA 44) (zA AA 45) (zA AA 46) AJ AK AL AM (vb AD) AX AY AZ Aa (zA AA 56) (zA AA 57) (zA AA 58) (zA AA 59) (zA AA 60)) (W.mk AT AU Bp Bq)) fun Ab BC BD =>
 grd AD (fun Br =>
 Br BC BD (.bool Ab)) (fun Bs Bt BE =>
 rtB (sel AD BE (.bool false)) fun BF =>
 zE P L 24 k .ret (fr24 (zA AA 0) (zA AA 1) AE AF (vb BF) (zA AA 5) (vb AD) (vb Ab) (zA AA 8) (zA AA 9) (zA AA 10) (zA AA 11) (zA AA 12) (zA AA 13) (zA AA 14) (zA AA 15) (zA AA 16) (zA AA 17) (zA AA 18) (zA AA 19) (zA AA 20) (zA AA 21) (zA AA 22) (zA AA 23) (zA AA 24) (zA AA 25) (zA AA 26) (zA AA 27) (zA AA 28) (zA AA 29) (zA AA 30) (zA AA 31) (zA AA 32) (zA AA 33) (zA AA 34) (zA AA 35) (zA AA 36) (zA AA 37) (zA AA 38) (zA AA 39) (zA AA 40) (zA AA 41) (zA AA 42) (zA AA 43) (zA AA 44) (zA AA 45) (zA AA 46) AJ AK AL AM (vb AD) AX AY AZ Aa (vb Ab) (vb AD) (vb AD) BE (vb BF)) (W.mk AT AU Bs Bt)) BC BD) (zE P L 24 k))))) A5 A6) AS A3) AR A1) Ay Az) AQ Aw) AP Au) Ar As) Ao Ap) AO Am) Aj Ak) AN Ah) h4 n5
theorem F24_eq (L : Lo) (lp : LP) (p0 p1 : Value) (df : Bool) (u : Option zL) (h : zD) (n : Nat) (k : KO) : wQ P hint24 L lp 24 [p0, p1] df u h n k = F24 L lp p0 p1 df u h n k := by kernel_rfl
noncomputable def B24_1000004 (L : Lo) (lp : LP) (rd : Option Nat) (df : Bool) (t : Fr) (w : W) (ka : KX) : Bool :=
 zO (zA t 2) fun AD =>
 zO (zA t 3) fun AE =>
 rtI .i64 (zA t 5) fun AB =>
 onW w fun AF AG AC AH =>
 opt (zB P 43 1 AD) fun AI =>
 opt (zF P 23 AC AI) fun AJ =>
 opt (yL P .len [23] [AJ] AC) fun AX =>
 rtI .i64 AX fun AK =>
 fb (vD AB AK) fun AL =>
 br AL (
 blkJ (fun AY =>
 opt (zB P 43 1 AD) fun AM =>
 opt (zF P 23 AC AM) fun AN =>
 opt (zT P 23 AN (.int .i64 AB)) fun AO =>
 opt (zF P 9 AC AO) fun AP =>
 opt (zB P 43 1 AE) fun AQ =>
 opt (zF P 23 AC AQ) fun AR =>
 opt (zT P 23 AR (.int .i64 AB)) fun AS =>
 opt (zF P 9 AC AS) fun AT =>
 yB ineB P .neq 9 false AP AT fun AU =>
 gt (lks [(W.mk AF AG AC AH)] []) (
 br AU (
 ka .ret (fr24 (zA t 0) (zA t 1) AD AE (vb false) (vi AB) (zA t 6) (zA t 7) (zA t 8) (zA t 9) (zA t 10) (zA t 11) (zA t 12) (zA t 13) (zA t 14) (zA t 15) (zA t 16) (zA t 17) (zA t 18) (zA t 19) (zA t 20) (zA t 21) (zA t 22) (zA t 23) (zA t 24) (zA t 25) (zA t 26) (zA t 27) (zA t 28) (vi AB) AI AJ (vi AK) (vb AL) (zA t 34) (zA t 35) AM AN (vi AB) AO AP AQ AR (vi AB) AS AT (vb AU) (zA t 47) (zA t 48) (zA t 49) (zA t 50) (zA t 51) (zA t 52) (zA t 53) (zA t 54) (zA t 55) (zA t 56) (zA t 57) (zA t 58) (zA t 59) (zA t 60)) (W.mk AF AG AC AH)) (
 AY (fr24 (zA t 0) (zA t 1) AD AE (zA t 4) (vi AB) (zA t 6) (zA t 7) (zA t 8) (zA t 9) (zA t 10) (zA t 11) (zA t 12) (zA t 13) (zA t 14) (zA t 15) (zA t 16) (zA t 17) (zA t 18) (zA t 19) (zA t 20) (zA t 21) (zA t 22) (zA t 23) (zA t 24) (zA t 25) (zA t 26) (zA t 27) (zA t 28) (vi AB) AI AJ (vi AK) (vb AL) (zA t 34) (zA t 35) AM AN (vi AB) AO AP AQ AR (vi AB) AS AT (vb AU) (zA t 47) (zA t 48) (zA t 49) (zA t 50) (zA t 51) (zA t 52) (zA t 53) (zA t 54) (zA t 55) (zA t 56) (zA t 57) (zA t 58) (zA t 59) (zA t 60)) (W.mk AF AG AC AH)))) (fun AA AZ =>
 zO (zA AA 2) fun Aa =>
 zO (zA AA 3) fun Ab =>
 rtI .i64 (zA AA 5) fun AV =>
 onW AZ fun Ac Ad Ae Af =>
 fi (vK .i64 (tH AV 1)) fun AW =>
 lp 1000004 ⟨24, rd, df⟩ (fr24 (zA AA 0) (zA AA 1) Aa Ab (zA AA 4) (vi AW) (zA AA 6) (zA AA 7) (zA AA 8) (zA AA 9) (zA AA 10) (zA AA 11) (zA AA 12) (zA AA 13) (zA AA 14) (zA AA 15) (zA AA 16) (zA AA 17) (zA AA 18) (zA AA 19) (zA AA 20) (zA AA 21) (zA AA 22) (zA AA 23) (zA AA 24) (zA AA 25) (zA AA 26) (zA AA 27) (zA AA 28) (zA AA 29) (zA AA 30) (zA AA 31) (zA AA 32) (zA AA 33) (vi AV) (vi AW) (zA AA 36) (zA AA 37) (zA AA 38) (zA AA 39) (zA AA 40) (zA AA 41) (zA AA 42) (zA AA 43) (zA AA 44) (zA AA 45) (zA AA 46) (zA AA 47) (zA AA 48) (zA AA 49) (zA AA 50) (zA AA 51) (zA AA 52) (zA AA 53) (zA AA 54) (zA AA 55) (zA AA 56) (zA AA 57) (zA AA 58) (zA AA 59) (zA AA 60)) (W.mk Ac Ad Ae Af) ka)) (
 ka (.exit 0) (fr24 (zA t 0) (zA t 1) AD AE (zA t 4) (vi AB) (zA t 6) (zA t 7) (zA t 8) (zA t 9) (zA t 10) (zA t 11) (zA t 12) (zA t 13) (zA t 14) (zA t 15) (zA t 16) (zA t 17) (zA t 18) (zA t 19) (zA t 20) (zA t 21) (zA t 22) (zA t 23) (zA t 24) (zA t 25) (zA t 26) (zA t 27) (zA t 28) (vi AB) AI AJ (vi AK) (vb AL) (zA t 34) (zA t 35) (zA t 36) (zA t 37) (zA t 38) (zA t 39) (zA t 40) (zA t 41) (zA t 42) (zA t 43) (zA t 44) (zA t 45) (zA t 46) (zA t 47) (zA t 48) (zA t 49) (zA t 50) (zA t 51) (zA t 52) (zA t 53) (zA t 54) (zA t 55) (zA t 56) (zA t 57) (zA t 58) (zA t 59) (zA t 60)) (W.mk AF AG AC AH))
theorem B24_1000004_eq (L : Lo) (lp : LP) (rd : Option Nat) (df : Bool) (t : Fr) (w : W) (ka : KX) : pC P hint24 L lp (unL (yD P 24 1000004)) ⟨24, rd, df⟩ t w ka = B24_1000004 L lp rd df t w ka := by kernel_rfl
theorem l24 : xB P 24 = true := by kernel_rfl
theorem r24 : wA P 24 = some [.tmp 4] := by kernel_rfl
theorem lp24_1000004 : uX (yD P 24 1000004) = true := by kernel_rfl
noncomputable abbrev fr105 (s0 s1 s2 s3 s4 s5 s6 s7 s8 s9 s10 s11 s12 s13 s14 s15 s16 s17 s18 s19 s20 s21 s22 s23 s24 s25 s26 s27 s28 s29 s30 s31 s32 s33 s34 s35 s36 s37 s38 s39 s40 s41 s42 s43 s44 s45 s46 s47 s48 s49 s50 s51 s52 s53 s54 s55 s56 s57 s58 s59 s60 s61 s62 s63 s64 s65 : Value) : Fr := (.node (.node (.node (.node (.node (.node (.node .leaf s63 .leaf) s31 .leaf) s15 (.node .leaf s47 .leaf)) s7 (.node (.node .leaf s39 .leaf) s23 (.node .leaf s55 .leaf))) s3 (.node (.node (.node .leaf s35 .leaf) s19 (.node .leaf s51 .leaf)) s11 (.node (.node .leaf s43 .leaf) s27 (.node .leaf s59 .leaf)))) s1 (.node (.node (.node (.node (.node .leaf s65 .leaf) s33 .leaf) s17 (.node .leaf s49 .leaf)) s9 (.node (.node .leaf s41 .leaf) s25 (.node .leaf s57 .leaf))) s5 (.node (.node (.node .leaf s37 .leaf) s21 (.node .leaf s53 .leaf)) s13 (.node (.node .leaf s45 .leaf) s29 (.node .leaf s61 .leaf))))) s0 (.node (.node (.node (.node (.node (.node .leaf s64 .leaf) s32 .leaf) s16 (.node .leaf s48 .leaf)) s8 (.node (.node .leaf s40 .leaf) s24 (.node .leaf s56 .leaf))) s4 (.node (.node (.node .leaf s36 .leaf) s20 (.node .leaf s52 .leaf)) s12 (.node (.node .leaf s44 .leaf) s28 (.node .leaf s60 .leaf)))) s2 (.node (.node (.node (.node .leaf s34 .leaf) s18 (.node .leaf s50 .leaf)) s10 (.node (.node .leaf s42 .leaf) s26 (.node .leaf s58 .leaf))) s6 (.node (.node (.node .leaf s38 .leaf) s22 (.node .leaf s54 .leaf)) s14 (.node (.node .leaf s46 .leaf) s30 (.node .leaf s62 .leaf))))))
noncomputable abbrev fo105 (s4 : Value) : Fr := fr105 ud ud ud ud s4 ud ud ud ud ud ud ud ud ud ud ud ud ud ud ud ud ud ud ud ud ud ud ud ud ud ud ud ud ud ud ud ud ud ud ud ud ud ud ud ud ud ud ud ud ud ud ud ud ud ud ud ud ud ud ud ud ud ud ud ud ud
noncomputable def hint105 : tJ := fun kind _ i => match kind with
 | 4 => bif Nat.beq i 0 then [.any, .any] else []
 | _ => []
noncomputable def F105 (L : Lo) (lp : LP) (p0 p1 : Value) (df : Bool) (u : Option zL) (h : zD) (n : Nat) (k : KO) : Bool :=
 eBox p0 h n fun h1 n2 v3 =>
 eBox p1 h1 n2 fun h4 n5 v6 =>
 opt (zB P 50 0 v3) fun v7 =>
 opt (zF P 3 h4 v7) fun v8 =>
 rtI .i64 v8 fun a9 =>
 opt (zB P 50 0 v6) fun Bh =>
 opt (zF P 3 h4 Bh) fun Bi =>
 rtI .i64 Bi fun Bj =>
 fb (wJ a9 Bj) fun AC =>
 grd AC (fun Bk =>
 opt (zB P 50 1 v3) fun Bl =>
 Bk h4 n5 Bl) (fun AL Ac Bm =>
 grd AC (fun Bn =>
 opt (zF P 3 AL Bm) fun Bo =>
 rtI .i64 Bo fun Bp =>
 Bn AL Ac (.int .i64 Bp)) (fun Ad Ae Bq =>
 grd AC (fun Br =>
 opt (zB P 50 1 v6) fun Bs =>
 Br Ad Ae Bs) (fun AM Af Bt =>
 grd AC (fun Bu =>
 opt (zF P 3 AM Bt) fun Bv =>
 rtI .i64 Bv fun Bw =>
 Bu AM Af (.int .i64 Bw)) (fun Ag Ah Bx =>
 grd AC (fun By =>
 yB wJ P .eql 3 false Bq Bx fun Bz =>
 By Ag Ah (.bool Bz)) (fun Ai Aj B0 =>
 wG (.bool AC) (fun B1 =>
 rtB (sel B1 B0 (.bool false)) fun AD =>
 grd AD (fun B2 =>
 opt (zB P 50 2 v3) fun B3 =>
 B2 Ai Aj B3) (fun AN Ak B4 =>
 grd AD (fun B5 =>
 opt (zF P 3 AN B4) fun B6 =>
 rtI .i64 B6 fun B7 =>
 B5 AN Ak (.int .i64 B7)) (fun Al Am B8 =>
 grd AD (fun B9 =>
 opt (zB P 50 2 v6) fun CA =>
 B9 Al Am CA) (fun AO An CB =>
 grd AD (fun CC =>
 opt (zF P 3 AO CB) fun CD =>
 rtI .i64 CD fun CE =>
 CC AO An (.int .i64 CE)) (fun Ao Ap CF =>
 grd AD (fun CG =>
 yB wJ P .eql 3 false B8 CF fun CH =>
 CG Ao Ap (.bool CH)) (fun Aq Ar CI =>
 wG (.bool AD) (fun CJ =>
 rtB (sel CJ CI (.bool false)) fun AE =>
 grd AE (fun CK =>
 opt (zB P 50 3 v3) fun CL =>
 CK Aq Ar CL) (fun AP As CM =>
 grd AE (fun CN =>
 opt (zF P 3 AP CM) fun CO =>
 rtI .i64 CO fun CP =>
 CN AP As (.int .i64 CP)) (fun At Au CQ =>
 grd AE (fun CR =>
 opt (zB P 50 3 v6) fun CS =>
 CR At Au CS) (fun AQ Av CT =>
 grd AE (fun CU =>
 opt (zF P 3 AQ CT) fun CV =>
 rtI .i64 CV fun CW =>
 CU AQ Av (.int .i64 CW)) (fun Aw Ax CX =>
 grd AE (fun CY =>
 yB wJ P .eql 3 false CQ CX fun CZ =>
 CY Aw Ax (.bool CZ)) (fun Ay Az Ca =>
 wG (.bool AE) (fun Cb =>
 rtB (sel Cb Ca (.bool false)) fun AF =>
 grd AF (fun Cc =>
 opt (zB P 50 4 v3) fun Cd =>
 Cc Ay Az Cd) (fun AR A0 Ce =>
 grd AF (fun Cf =>
 opt (zF P 3 AR Ce) fun Cg =>
 rtI .i64 Cg fun Ch =>
 Cf AR A0 (.int .i64 Ch)) (fun A1 A2 Ci =>
 grd AF (fun Cj =>
 opt (zB P 50 4 v6) fun Ck =>
 Cj A1 A2 Ck) (fun AS A3 Cl =>
 grd AF (fun Cm =>
 opt (zF P 3 AS Cl) fun Cn =>
 rtI .i64 Cn fun Co =>
 Cm AS A3 (.int .i64 Co)) (fun A4 A5 Cp =>
 grd AF (fun Cq =>
 yB wJ P .eql 3 false Ci Cp fun Cr =>
 Cq A4 A5 (.bool Cr)) (fun A6 A7 Cs =>
 wG (.bool AF) (fun Ct =>
 rtB (sel Ct Cs (.bool false)) fun AG =>
 grd AG (fun Cu =>
 opt (zB P 50 5 v3) fun Cv =>
 Cu A6 A7 Cv) (fun AT A8 Cw =>
 grd AG (fun Cx =>
 opt (zF P 9 AT Cw) fun Cy =>
 Cx AT A8 Cy) (fun A9 BA Cz =>
 grd AG (fun C0 =>
 opt (zB P 50 5 v6) fun C1 =>
 C0 A9 BA C1) (fun AU BB C2 =>
 grd AG (fun C3 =>
 opt (zF P 9 AU C2) fun C4 =>
 C3 AU BB C4) (fun BC BD C5 =>
 grd AG (fun C6 =>
 yB wJ P .eql 9 false Cz C5 fun C7 =>
 C6 BC BD (.bool C7)) (fun BE BF C8 =>
 wG (.bool AG) (fun C9 =>
 rtB (sel C9 C8 (.bool false)) fun AH =>
 grd AH (fun DA =>
 opt (zB P 50 7 v3) fun DB =>
 DA BE BF DB) (fun AV BG DC =>
 grd AH (fun DD =>
 opt (zF P 3 AV DC) fun DE =>
 rtI .i64 DE fun DF =>
 DD AV BG (.int .i64 DF)) (fun BH BI DG =>
 grd AH (fun DH =>
 opt (zB P 50 7 v6) fun DI =>
 DH BH BI DI) (fun AW BJ DJ =>
 grd AH (fun DK =>
 opt (zF P 3 AW DJ) fun DL =>
 rtI .i64 DL fun DM =>
 DK AW BJ (.int .i64 DM)) (fun BK BL DN =>
 grd AH (fun DO =>
 yB wJ P .eql 3 false DG DN fun DP =>
 DO BK BL (.bool DP)) (fun BM BN DQ =>
 wG (.bool AH) (fun DR =>
 rtB (sel DR DQ (.bool false)) fun AI =>
 grd AI (fun DS =>
 opt (zB P 50 8 v3) fun DT =>
 DS BM BN DT) (fun AX BO DU =>
 grd AI (fun DV =>
 opt (zF P 3 AX DU) fun DW =>
 rtI .i64 DW fun DX =>
 DV AX BO (.int .i64 DX)) (fun BP BQ DY =>
 grd AI (fun DZ =>
 opt (zB P 50 8 v6) fun Da =>
 DZ BP BQ Da) (fun AY BR Db =>
 grd AI (fun Dc =>
 opt (zF P 3 AY Db) fun Dd =>
 rtI .i64 Dd fun De =>
 Dc AY BR (.int .i64 De)) (fun BS BT Df =>
 grd AI (fun Dg =>
 yB wJ P .eql 3 false DY Df fun Dh =>
 Dg BS BT (.bool Dh)) (fun BU BV Di =>
 wG (.bool AI) (fun Dj =>
 rtB (sel Dj Di (.bool false)) fun AJ =>
 grd AJ (fun Dk =>
 opt (zB P 50 6 v3) fun Dl =>
 Dk BU BV Dl) (fun AZ BW Dm =>
 grd AJ (fun Dn =>
 opt (zF P 40 AZ Dm) fun Do =>
 Dn AZ BW Do) (fun BX BY Dp =>
 grd AJ (fun Dq =>
 opt (zB P 50 6 v6) fun Dr =>
 Dq BX BY Dr) (fun Aa BZ Ds =>
 grd AJ (fun Dt =>
 opt (zF P 40 Aa Ds) fun Du =>
 Dt Aa BZ Du) (fun Ba Bb Dv =>
 grd AJ (fun Dw =>
 sJ L 70 [Dp, Dv] Ba Bb (fun Dx Dy Dz =>
 zE P L 105 k (.panic Dx) (fo105 (.bool false)) (W.mk [] u Dy Dz)) fun D0 D1 D2 =>
 Dw D1 D2 (.bool D0)) (fun D3 D4 D5 =>
 wG (.bool AJ) (fun D6 =>
 rtB (sel D6 D5 (.bool false)) fun D7 =>
 zE P L 105 k .ret (fo105 (.bool D7)) (W.mk [] u D3 D4)) false) Ba Bb) Aa BZ) BX BY) AZ BW) BU BV) false) BS BT) AY BR) BP BQ) AX BO) BM BN) false) BK BL) AW BJ) BH BI) AV BG) BE BF) false) BC BD) AU BB) A9 BA) AT A8) A6 A7) false) A4 A5) AS A3) A1 A2) AR A0) Ay Az) false) Aw Ax) AQ Av) At Au) AP As) Aq Ar) false) Ao Ap) AO An) Al Am) AN Ak) Ai Aj) false) Ag Ah) AM Af) Ad Ae) AL Ac) h4 n5
theorem F105_eq (L : Lo) (lp : LP) (p0 p1 : Value) (df : Bool) (u : Option zL) (h : zD) (n : Nat) (k : KO) : wQ P hint105 L lp 105 [p0, p1] df u h n k = F105 L lp p0 p1 df u h n k := by kernel_rfl
theorem l105 : xB P 105 = true := by kernel_rfl
theorem r105 : wA P 105 = some [.tmp 4] := by kernel_rfl
noncomputable abbrev fr23 (s0 s1 s2 s3 : Value) : Fr := (.node (.node (.node .leaf s3 .leaf) s1 .leaf) s0 (.node .leaf s2 .leaf))
noncomputable abbrev fo23 (s2 : Value) : Fr := fr23 ud ud s2 ud
noncomputable def hint23 : tJ := fun kind _ i => match kind with
 | 4 => bif Nat.beq i 0 then [(.int .i64)] else []
 | _ => []
noncomputable def F23 (L : Lo) (lp : LP) (p0 : Value) (df : Bool) (u : Option zL) (h : zD) (n : Nat) (k : KO) : Bool :=
 rtI .i64 p0 fun ap0 =>
 zE P L 23 k .ret (fo23 (.int .i64 ap0)) (W.mk [] u h n)
theorem F23_eq (L : Lo) (lp : LP) (p0 : Value) (df : Bool) (u : Option zL) (h : zD) (n : Nat) (k : KO) : wQ P hint23 L lp 23 [p0] df u h n k = F23 L lp p0 df u h n k := by kernel_rfl
theorem l23 : xB P 23 = true := by kernel_rfl
theorem r23 : wA P 23 = some [.tmp 2] := by kernel_rfl
noncomputable abbrev fr16 (s0 s1 s2 s3 s4 s5 s6 s7 s8 s9 s10 s11 s12 s13 s14 s15 s16 s17 s18 s19 s20 s21 s22 s23 s24 s25 s26 s27 s28 s29 s30 s31 s32 s33 s34 s35 : Value) : Fr := (.node (.node (.node (.node (.node (.node .leaf s31 .leaf) s15 .leaf) s7 (.node .leaf s23 .leaf)) s3 (.node (.node (.node .leaf s35 .leaf) s19 .leaf) s11 (.node .leaf s27 .leaf))) s1 (.node (.node (.node (.node .leaf s33 .leaf) s17 .leaf) s9 (.node .leaf s25 .leaf)) s5 (.node (.node .leaf s21 .leaf) s13 (.node .leaf s29 .leaf)))) s0 (.node (.node (.node (.node (.node .leaf s32 .leaf) s16 .leaf) s8 (.node .leaf s24 .leaf)) s4 (.node (.node .leaf s20 .leaf) s12 (.node .leaf s28 .leaf))) s2 (.node (.node (.node (.node .leaf s34 .leaf) s18 .leaf) s10 (.node .leaf s26 .leaf)) s6 (.node (.node .leaf s22 .leaf) s14 (.node .leaf s30 .leaf)))))
noncomputable abbrev fo16 (s0 : Value) : Fr := fr16 s0 ud ud ud ud ud ud ud ud ud ud ud ud ud ud ud ud ud ud ud ud ud ud ud ud ud ud ud ud ud ud ud ud ud ud ud
noncomputable def hint16 : tJ := fun kind _ i => match kind with
 | _ => []
noncomputable def F16 (L : Lo) (lp : LP) (df : Bool) (u : Option zL) (h : zD) (n : Nat) (k : KO) : Bool :=
 zN P 23 1 [(0, (.string (ByteArray.mk #[103])))] h n fun h1 n2 v3 =>
 zN P 40 1 [(0, (.int .i64 0))] h1 n2 fun h4 n5 v6 =>
 opt (xP P 50 [(0, (.int .i64 9))]) fun v7 =>
 zN P 51 1 [(0, v7)] h4 n5 fun h8 n9 Ag =>
 zN P 41 1 [(0, Ag)] h8 n9 fun Ah Ai Aj =>
 opt (xP P 43 [(0, (.string (ByteArray.mk #[102]))), (1, v3), (2, v6), (3, (.string (ByteArray.mk #[103]))), (4, Aj)]) fun Ak =>
 tD P 43 Ah Ai fun Al Am AC =>
 zV P 43 AC Ak Al Am fun An Ao Bj =>
 yX L 22 [(.string (ByteArray.mk #[102, 117, 110, 99, 32, 102, 10, 114, 101, 103, 115, 32, 103, 10, 112, 97, 114, 97, 109, 115, 32, 48, 10, 114, 101, 115, 117, 108, 116, 32, 103, 10, 98, 108, 111, 99, 107, 10, 32, 32, 114, 101, 116, 32, 48, 10, 101, 110, 100, 10]))] An Ao (fun Ap Aq Ar =>
 zE P L 16 k (.panic Ap) (fo16 (.bool false)) (W.mk [] u Aq Ar)) fun AD As At =>
 opt (xD 0 AD) fun Au =>
 opt (xD 1 AD) fun Av =>
 rtI .i64 Av fun Aw =>
 opt (xD 2 AD) fun Ax =>
 rtI .i64 Ax fun Ay =>
 tD P 43 As At fun Az A0 AH =>
 zV P 43 AH Au Az A0 fun AI A1 Bk =>
 opt (zF P 43 AI AC) fun A2 =>
 yX L 19 [A2] AI A1 (fun A3 A4 A5 =>
 zE P L 16 k (.panic A3) (fo16 (.bool false)) (W.mk [] u A4 A5)) fun A6 AJ AK =>
 yB wJ P .eql 9 false A6 (.string (ByteArray.mk #[102, 117, 110, 99, 32, 102, 10, 114, 101, 103, 115, 32, 103, 10, 112, 97, 114, 97, 109, 115, 32, 48, 10, 114, 101, 115, 117, 108, 116, 32, 103, 10, 98, 108, 111, 99, 107, 10, 32, 32, 114, 101, 116, 32, 48, 10, 101, 110, 100, 10])) fun AA =>
 grd AA (fun A7 =>
 A7 AJ AK (.int .i64 Ay)) (fun AL AM A8 =>
 grd AA (fun A9 =>
 qN L .i64 23 [A8] AL AM (fun BA BB BC =>
 zE P L 16 k (.panic BA) (fo16 (.bool false)) (W.mk [] u BB BC)) fun BD BE BF =>
 A9 BE BF (.int .i64 BD)) (fun AN AO BG =>
 grd AA (fun BH =>
 yB wJ P .eql 3 true BG (.int .i64 0) fun BI =>
 BH AN AO (.bool BI)) (fun AP AQ BJ =>
 wG (.bool AA) (fun BK =>
 rtB (sel BK BJ (.bool false)) fun AE =>
 grd AE (fun BL =>
 BL AP AQ (.int .i64 Aw)) (fun AR AS BM =>
 grd AE (fun BN =>
 yB wJ P .eql 3 true BM (.int .i64 0) fun BO =>
 BN AR AS (.bool BO)) (fun AF AT BP =>
 wG (.bool AE) (fun BQ =>
 rtB (sel BQ BP (.bool false)) fun AB =>
 grd AB (fun BR =>
 opt (zF P 43 AF AC) fun BS =>
 BR AF AT BS) (fun AG AU BT =>
 grd AB (fun BU =>
 opt (zF P 43 AG AH) fun BV =>
 BU AG AU BV) (fun AV AW BW =>
 grd AB (fun BX =>
 sJ L 24 [BT, BW] AV AW (fun BY BZ Ba =>
 zE P L 16 k (.panic BY) (fo16 (.bool false)) (W.mk [] u BZ Ba)) fun Bb Bc Bd =>
 BX Bc Bd (.bool Bb)) (fun Be Bf Bg =>
 wG (.bool AB) (fun Bh =>
 rtB (sel Bh Bg (.bool false)) fun Bi =>
 zE P L 16 k .ret (fo16 (.bool Bi)) (W.mk [] u Be Bf)) false) AV AW) AG AU) AF AT) false) AR AS) AP AQ) false) AN AO) AL AM) AJ AK
theorem F16_eq (L : Lo) (lp : LP) (df : Bool) (u : Option zL) (h : zD) (n : Nat) (k : KO) : wQ P hint16 L lp 16 [] df u h n k = F16 L lp  df u h n k := by kernel_rfl
theorem l16 : xB P 16 = true := by kernel_rfl
theorem r16 : wA P 16 = some [.tmp 0] := by kernel_rfl
theorem l5 : xB P 5 = true := by kernel_rfl
theorem r5 : wA P 5 = some [.tmp 4] := by kernel_rfl
noncomputable abbrev fr8 (s0 s1 s2 s3 s4 s5 s6 s7 s8 s9 s10 s11 s12 s13 s14 s15 s16 s17 s18 s19 s20 s21 s22 s23 s24 s25 s26 s27 s28 s29 s30 s31 s32 s33 s34 s35 s36 s37 s38 s39 s40 s41 s42 s43 s44 s45 s46 s47 s48 s49 s50 s51 s52 s53 s54 s55 s56 s57 s58 s59 s60 s61 s62 s63 s64 s65 s66 s67 s68 s69 s70 s71 s72 s73 s74 s75 s76 s77 s78 s79 s80 s81 s82 s83 s84 s85 s86 s87 s88 s89 s90 s91 s92 s93 s94 s95 s96 s97 s98 s99 s100 s101 s102 s103 s104 s105 s106 s107 s108 s109 s110 s111 s112 s113 s114 s115 s116 s117 s118 s119 s120 s121 s122 s123 s124 s125 s126 s127 s128 s129 s130 s131 s132 s133 s134 s135 s136 s137 s138 s139 s140 s141 s142 s143 s144 s145 s146 s147 s148 s149 s150 s151 s152 s153 s154 s155 s156 s157 s158 s159 s160 s161 s162 s163 s164 s165 s166 s167 s168 s169 s170 s171 s172 s173 s174 s175 s176 s177 s178 s179 s180 s181 s182 s183 s184 s185 s186 s187 s188 s189 s190 s191 s192 : Value) : Fr := (.node (.node (.node (.node (.node (.node (.node (.node .leaf s127 .leaf) s63 (.node .leaf s191 .leaf)) s31 (.node (.node .leaf s159 .leaf) s95 .leaf)) s15 (.node (.node (.node .leaf s143 .leaf) s79 .leaf) s47 (.node (.node .leaf s175 .leaf) s111 .leaf))) s7 (.node (.node (.node (.node .leaf s135 .leaf) s71 .leaf) s39 (.node (.node .leaf s167 .leaf) s103 .leaf)) s23 (.node (.node (.node .leaf s151 .leaf) s87 .leaf) s55 (.node (.node .leaf s183 .leaf) s119 .leaf)))) s3 (.node (.node (.node (.node (.node .leaf s131 .leaf) s67 .leaf) s35 (.node (.node .leaf s163 .leaf) s99 .leaf)) s19 (.node (.node (.node .leaf s147 .leaf) s83 .leaf) s51 (.node (.node .leaf s179 .leaf) s115 .leaf))) s11 (.node (.node (.node (.node .leaf s139 .leaf) s75 .leaf) s43 (.node (.node .leaf s171 .leaf) s107 .leaf)) s27 (.node (.node (.node .leaf s155 .leaf) s91 .leaf) s59 (.node (.node .leaf s187 .leaf) s123 .leaf))))) s1 (.node (.node (.node (.node (.node (.node .leaf s129 .leaf) s65 .leaf) s33 (.node (.node .leaf s161 .leaf) s97 .leaf)) s17 (.node (.node (.node .leaf s145 .leaf) s81 .leaf) s49 (.node (.node .leaf s177 .leaf) s113 .leaf))) s9 (.node (.node (.node (.node .leaf s137 .leaf) s73 .leaf) s41 (.node (.node .leaf s169 .leaf) s105 .leaf)) s25 (.node (.node (.node .leaf s153 .leaf) s89 .leaf) s57 (.node (.node .leaf s185 .leaf) s121 .leaf)))) s5 (.node (.node (.node (.node (.node .leaf s133 .leaf) s69 .leaf) s37 (.node (.node .leaf s165 .leaf) s101 .leaf)) s21 (.node (.node (.node .leaf s149 .leaf) s85 .leaf) s53 (.node (.node .leaf s181 .leaf) s117 .leaf))) s13 (.node (.node (.node (.node .leaf s141 .leaf) s77 .leaf) s45 (.node (.node .leaf s173 .leaf) s109 .leaf)) s29 (.node (.node (.node .leaf s157 .leaf) s93 .leaf) s61 (.node (.node .leaf s189 .leaf) s125 .leaf)))))) s0 (.node (.node (.node (.node (.node (.node (.node .leaf s128 .leaf) s64 (.node .leaf s192 .leaf)) s32 (.node (.node .leaf s160 .leaf) s96 .leaf)) s16 (.node (.node (.node .leaf s144 .leaf) s80 .leaf) s48 (.node (.node .leaf s176 .leaf) s112 .leaf))) s8 (.node (.node (.node (.node .leaf s136 .leaf) s72 .leaf) s40 (.node (.node .leaf s168 .leaf) s104 .leaf)) s24 (.node (.node (.node .leaf s152 .leaf) s88 .leaf) s56 (.node (.node .leaf s184 .leaf) s120 .leaf)))) s4 (.node (.node (.node (.node (.node .leaf s132 .leaf) s68 .leaf) s36 (.node (.node .leaf s164 .leaf) s100 .leaf)) s20 (.node (.node (.node .leaf s148 .leaf) s84 .leaf) s52 (.node (.node .leaf s180 .leaf) s116 .leaf))) s12 (.node (.node (.node (.node .leaf s140 .leaf) s76 .leaf) s44 (.node (.node .leaf s172 .leaf) s108 .leaf)) s28 (.node (.node (.node .leaf s156 .leaf) s92 .leaf) s60 (.node (.node .leaf s188 .leaf) s124 .leaf))))) s2 (.node (.node (.node (.node (.node (.node .leaf s130 .leaf) s66 .leaf) s34 (.node (.node .leaf s162 .leaf) s98 .leaf)) s18 (.node (.node (.node .leaf s146 .leaf) s82 .leaf) s50 (.node (.node .leaf s178 .leaf) s114 .leaf))) s10 (.node (.node (.node (.node .leaf s138 .leaf) s74 .leaf) s42 (.node (.node .leaf s170 .leaf) s106 .leaf)) s26 (.node (.node (.node .leaf s154 .leaf) s90 .leaf) s58 (.node (.node .leaf s186 .leaf) s122 .leaf)))) s6 (.node (.node (.node (.node (.node .leaf s134 .leaf) s70 .leaf) s38 (.node (.node .leaf s166 .leaf) s102 .leaf)) s22 (.node (.node (.node .leaf s150 .leaf) s86 .leaf) s54 (.node (.node .leaf s182 .leaf) s118 .leaf))) s14 (.node (.node (.node (.node .leaf s142 .leaf) s78 .leaf) s46 (.node (.node .leaf s174 .leaf) s110 .leaf)) s30 (.node (.node (.node .leaf s158 .leaf) s94 .leaf) s62 (.node (.node .leaf s190 .leaf) s126 .leaf)))))))
noncomputable abbrev fo8 (s8 : Value) : Fr := fr8 ud ud ud ud ud ud ud ud s8 ud ud ud ud ud ud ud ud ud ud ud ud ud ud ud ud ud ud ud ud ud ud ud ud ud ud ud ud ud ud ud ud ud ud ud ud ud ud ud ud ud ud ud ud ud ud ud ud ud ud ud ud ud ud ud ud ud ud ud ud ud ud ud ud ud ud ud ud ud ud ud ud ud ud ud ud ud ud ud ud ud ud ud ud ud ud ud ud ud ud ud ud ud ud ud ud ud ud ud ud ud ud ud ud ud ud ud ud ud ud ud ud ud ud ud ud ud ud ud ud ud ud ud ud ud ud ud ud ud ud ud ud ud ud ud ud ud ud ud ud ud ud ud ud ud ud ud ud ud ud ud ud ud ud ud ud ud ud ud ud ud ud ud ud ud ud ud ud ud ud ud ud ud ud ud ud ud ud ud ud ud ud ud ud
noncomputable def hint8 : tJ := fun kind _ i => match kind with
 | 2 => bif Nat.beq i 3 then [(.int .i64), (.int .i64), (.int .i64), (.int .i64)] else bif Nat.beq i 10 then [(.int .i64), .any, .any, .any, .any, .any, .any, .any, .any, .any, .val, .val, .val, .val, .val] else bif Nat.beq i 13 then [(.int .i64), .any, .any, .any, .any, .any, .any, .any, .any, .any, .any, .any, .any, .val, .any, .val] else []
 | 4 => bif Nat.beq i 0 then [(.int .i64), (.int .i64), (.int .i64), (.int .i64)] else []
 | _ => []
noncomputable def F8 (L : Lo) (lp : LP) (p0 p1 p2 p3 : Value) (df : Bool) (u : Option zL) (h : zD) (n : Nat) (k : KO) : Bool :=
 rtI .i64 p0 fun ap0 =>
 rtI .i64 p1 fun ap1 =>
 rtI .i64 p2 fun ap2 =>
 rtI .i64 p3 fun ap3 =>
 sJ L 16 [] h n (fun c4 h5 n6 =>
 zE P L 8 k (.panic c4) (fo8 (.bool false)) (W.mk [] u h5 n6)) fun a1 h2 n3 =>
 opt (aUn .not (.bool a1)) fun v7 =>
 rtB v7 fun a8 =>
 grd (nt a8) (fun k9 =>
 k9 h2 n3 (.int .i64 ap1)) (fun B4 B5 BO =>
 grd (nt a8) (fun Cz =>
 yB vD P .lss 3 true BO (.int .i64 0) fun C0 =>
 Cz B4 B5 (.bool C0)) (fun B6 B7 BP =>
 wG (.bool a8) (fun C1 =>
 rtB (sel C1 (.bool true) BP) fun AS =>
 grd (nt AS) (fun C2 =>
 C2 B6 B7 (.int .i64 ap1)) (fun B8 B9 BQ =>
 grd (nt AS) (fun C3 =>
 yB igtB P .gtr 3 true BQ (.int .i64 99999) fun C4 =>
 C3 B8 B9 (.bool C4)) (fun CA CB BR =>
 wG (.bool AS) (fun C5 =>
 rtB (sel C5 (.bool true) BR) fun AT =>
 grd (nt AT) (fun C6 =>
 C6 CA CB (.int .i64 ap2)) (fun CC CD BS =>
 grd (nt AT) (fun C7 =>
 yB vD P .lss 3 true BS (.int .i64 0) fun C8 =>
 C7 CC CD (.bool C8)) (fun CE CF BT =>
 wG (.bool AT) (fun C9 =>
 rtB (sel C9 (.bool true) BT) fun AU =>
 grd (nt AU) (fun DA =>
 DA CE CF (.int .i64 ap2)) (fun CG CH BU =>
 grd (nt AU) (fun DB =>
 yB igtB P .gtr 3 true BU (.int .i64 99999) fun DC =>
 DB CG CH (.bool DC)) (fun CI CJ BV =>
 wG (.bool AU) (fun DD =>
 rtB (sel DD (.bool true) BV) fun AV =>
 grd (nt AV) (fun DE =>
 DE CI CJ (.int .i64 ap3)) (fun CK CL BW =>
 grd (nt AV) (fun DF =>
 yB vD P .lss 3 true BW (.int .i64 0) fun DG =>
 DF CK CL (.bool DG)) (fun CM CN BX =>
 wG (.bool AV) (fun DH =>
 rtB (sel DH (.bool true) BX) fun AW =>
 grd (nt AW) (fun DI =>
 DI CM CN (.int .i64 ap3)) (fun CO CP BY =>
 grd (nt AW) (fun DJ =>
 yB igtB P .gtr 3 true BY (.int .i64 99999) fun DK =>
 DJ CO CP (.bool DK)) (fun CQ CR BZ =>
 wG (.bool AW) (fun DL =>
 rtB (sel DL (.bool true) BZ) fun Ba =>
 br Ba (
 zE P L 8 k .ret (fo8 (.bool a1)) (W.mk [] u CQ CR)) (
 yX L 27 [(.int .i64 ap1)] CQ CR (fun DM DN DO =>
 zE P L 8 k (.panic DM) (fo8 (.bool false)) (W.mk [] u DN DO)) fun BJ DP DQ =>
 yX L 27 [(.int .i64 ap2)] DP DQ (fun DR DS DT =>
 zE P L 8 k (.panic DR) (fo8 (.bool false)) (W.mk [] u DS DT)) fun AX DU DV =>
 yX L 27 [(.int .i64 ap3)] DU DV (fun DW DX DY =>
 zE P L 8 k (.panic DW) (fo8 (.bool false)) (W.mk [] u DX DY)) fun BK DZ Da =>
 opt (aUn .neg (.int .i64 ap2)) fun Db =>
 rtI .i64 Db fun Bb =>
 opt (xP P 50 [(0, (.int .i64 1)), (1, (.int .i64 ap1)), (4, (.int .i64 Bb))]) fun Bc =>
 opt (xP P 50 [(0, (.int .i64 2)), (1, (.int .i64 ap1)), (2, (.int .i64 ap2))]) fun Bd =>
 zN P 40 2 [(0, (.int .i64 ap2)), (1, (.int .i64 ap3))] DZ Da fun Dc Dd Be =>
 opt (xP P 50 [(0, (.int .i64 3)), (1, (.int .i64 ap1)), (5, (.string (ByteArray.mk #[115, 104, 108]))), (6, Be)]) fun Bf =>
 zN P 40 1 [(0, (.int .i64 ap2))] Dc Dd fun De Df Bg =>
 opt (xP P 50 [(0, (.int .i64 3)), (1, (.int .i64 ap1)), (5, (.string (ByteArray.mk #[110, 111, 116]))), (6, Bg)]) fun Bh =>
 opt (xP P 50 [(0, (.int .i64 4)), (1, (.int .i64 ap1)), (2, (.int .i64 ap2))]) fun Bi =>
 opt (xP P 50 [(0, (.int .i64 5)), (2, (.int .i64 ap2)), (3, (.int .i64 ap3))]) fun Bj =>
 opt (xP P 50 [(0, (.int .i64 6)), (1, (.int .i64 (-1))), (5, (.string (ByteArray.mk #[103, 111])))]) fun Bk =>
 zN P 40 3 [(0, (.int .i64 ap2)), (1, (.int .i64 ap3)), (2, (.int .i64 ap2))] De Df fun Dg Dh Bl =>
 opt (xP P 50 [(0, (.int .i64 6)), (1, (.int .i64 ap1)), (5, (.string (ByteArray.mk #[103, 111]))), (6, Bl)]) fun Bm =>
 opt (xP P 50 [(0, (.int .i64 7)), (2, (.int .i64 ap1)), (7, (.int .i64 ap2)), (8, (.int .i64 ap3))]) fun Bn =>
 opt (xP P 50 [(0, (.int .i64 8)), (7, (.int .i64 ap2))]) fun Bo =>
 opt (xP P 50 [(0, (.int .i64 9)), (2, (.int .i64 ap2))]) fun Bp =>
 zN P 51 11 [(0, Bc), (1, Bd), (2, Bf), (3, Bh), (4, Bi), (5, Bj), (6, Bk), (7, Bm), (8, Bn), (9, Bo), (10, Bp)] Dg Dh fun CS CT BL =>
 wD tH P .add 9 true (.string (ByteArray.mk #[45])) AX fun Bq =>
 fb (wJ ap2 0) fun Br =>
 brJ Br (fun Di =>
 Di (fr8 (vi ap0) (vi ap1) (vi ap2) (vi ap3) ud ud ud ud (vb false) (vb a1) BJ AX BK BL (.string (ByteArray.mk #[48])) ud ud ud ud ud ud (vb a1) (vb a1) (vb a8) (vb a8) BO BP (vb AS) (vb AS) BQ BR (vb AT) (vb AT) BS BT (vb AU) (vb AU) BU BV (vb AV) (vb AV) BW BX (vb AW) (vb AW) BY BZ (vb Ba) ud (vi ap1) BJ (vi ap2) AX (vi ap3) BK (vi ap1) (vi ap2) (vi Bb) Bc (vi ap1) (vi ap2) Bd (vi ap1) (vi ap2) (vi ap3) Be Bf (vi ap1) (vi ap2) Bg Bh (vi ap1) (vi ap2) Bi (vi ap2) (vi ap3) Bj Bk (vi ap1) (vi ap2) (vi ap3) (vi ap2) Bl Bm (vi ap1) (vi ap2) (vi ap3) Bn (vi ap2) Bo (vi ap2) Bp BL AX Bq (vi ap2) (vb Br) ud ud ud ud ud ud ud ud ud ud ud ud ud ud ud ud ud ud ud ud ud ud ud ud ud ud ud ud ud ud ud ud ud ud ud ud ud ud ud ud ud ud ud ud ud ud ud ud ud ud ud ud ud ud ud ud ud ud ud ud ud ud ud ud ud ud ud ud ud ud ud ud ud ud ud ud ud ud ud ud ud ud ud ud ud ud ud ud ud ud ud ud ud ud ud ud) (W.mk [] u CS CT)) (fun Dj =>
 Dj (fr8 (vi ap0) (vi ap1) (vi ap2) (vi ap3) ud ud ud ud (vb false) (vb a1) BJ AX BK BL Bq ud ud ud ud ud ud (vb a1) (vb a1) (vb a8) (vb a8) BO BP (vb AS) (vb AS) BQ BR (vb AT) (vb AT) BS BT (vb AU) (vb AU) BU BV (vb AV) (vb AV) BW BX (vb AW) (vb AW) BY BZ (vb Ba) ud (vi ap1) BJ (vi ap2) AX (vi ap3) BK (vi ap1) (vi ap2) (vi Bb) Bc (vi ap1) (vi ap2) Bd (vi ap1) (vi ap2) (vi ap3) Be Bf (vi ap1) (vi ap2) Bg Bh (vi ap1) (vi ap2) Bi (vi ap2) (vi ap3) Bj Bk (vi ap1) (vi ap2) (vi ap3) (vi ap2) Bl Bm (vi ap1) (vi ap2) (vi ap3) Bn (vi ap2) Bo (vi ap2) Bp BL AX Bq (vi ap2) (vb Br) ud ud ud ud ud ud ud ud ud ud ud ud ud ud ud ud ud ud ud ud ud ud ud ud ud ud ud ud ud ud ud ud ud ud ud ud ud ud ud ud ud ud ud ud ud ud ud ud ud ud ud ud ud ud ud ud ud ud ud ud ud ud ud ud ud ud ud ud ud ud ud ud ud ud ud ud ud ud ud ud ud ud ud ud ud ud ud ud ud ud ud ud ud ud ud ud) (W.mk [] u CS CT)) (fun AA Dk =>
 rtI .i64 (zA AA 0) fun AE =>
 zO (zA AA 10) fun AC =>
 zO (zA AA 11) fun AB =>
 zO (zA AA 12) fun AD =>
 zO (zA AA 13) fun AI =>
 zO (zA AA 14) fun AJ =>
 onW Dk fun A6 A7 Dl Dm =>
 wD tH P .add 9 true AC (.string (ByteArray.mk #[32, 61, 32, 99, 111, 110, 115, 116, 32])) fun AY =>
 wD tH P .add 9 false AY AJ fun AZ =>
 wD tH P .add 9 true AC (.string (ByteArray.mk #[32, 61, 32, 99, 111, 112, 121, 32])) fun Aa =>
 wD tH P .add 9 false Aa AB fun Ab =>
 wD tH P .add 9 true AC (.string (ByteArray.mk #[32, 61, 32, 115, 104, 108, 32])) fun Ac =>
 wD tH P .add 9 false Ac AB fun Ad =>
 wD tH P .add 9 true Ad (.string (ByteArray.mk #[32])) fun Ae =>
 wD tH P .add 9 false Ae AD fun Af =>
 wD tH P .add 9 true AC (.string (ByteArray.mk #[32, 61, 32, 110, 111, 116, 32])) fun Ag =>
 wD tH P .add 9 false Ag AB fun Ah =>
 wD tH P .add 9 true AC (.string (ByteArray.mk #[32, 61, 32, 108, 111, 97, 100, 32])) fun Ai =>
 wD tH P .add 9 false Ai AB fun Aj =>
 wD tH P .add 9 true (.string (ByteArray.mk #[115, 116, 111, 114, 101, 32])) AB fun Ak =>
 wD tH P .add 9 true Ak (.string (ByteArray.mk #[32])) fun Al =>
 wD tH P .add 9 false Al AD fun Am =>
 wD tH P .add 9 true AC (.string (ByteArray.mk #[32, 61, 32, 99, 97, 108, 108, 32, 103, 111, 32])) fun An =>
 wD tH P .add 9 false An AB fun Ao =>
 wD tH P .add 9 true Ao (.string (ByteArray.mk #[32])) fun Ap =>
 wD tH P .add 9 false Ap AD fun Aq =>
 wD tH P .add 9 true Aq (.string (ByteArray.mk #[32])) fun Ar =>
 wD tH P .add 9 false Ar AB fun As =>
 wD tH P .add 9 true (.string (ByteArray.mk #[98, 114, 32])) AC fun At =>
 wD tH P .add 9 true At (.string (ByteArray.mk #[32])) fun Au =>
 wD tH P .add 9 false Au AB fun Av =>
 wD tH P .add 9 true Av (.string (ByteArray.mk #[32])) fun Aw =>
 wD tH P .add 9 false Aw AD fun Ax =>
 wD tH P .add 9 true (.string (ByteArray.mk #[106, 117, 109, 112, 32])) AB fun Ay =>
 wD tH P .add 9 true (.string (ByteArray.mk #[114, 101, 116, 32])) AB fun Az =>
 zN P 23 11 [(0, AZ), (1, Ab), (2, Af), (3, Ah), (4, Aj), (5, Am), (6, (.string (ByteArray.mk #[99, 97, 108, 108, 32, 103, 111]))), (7, As), (8, Ax), (9, Ay), (10, Az)] Dl Dm fun CU CV AG =>
 fb (vD AE 0) fun AH =>
 grd (nt AH) (fun Dn =>
 Dn CU CV (.int .i64 AE)) (fun CW CX A0 =>
 grd (nt AH) (fun Do =>
 Do CW CX AI) (fun Bs CY A1 =>
 grd (nt AH) (fun Dp =>
 opt (yL P .len [51] [A1] Bs) fun Dq =>
 rtI .i64 Dq fun Dr =>
 Dp Bs CY (.int .i64 Dr)) (fun CZ Ca A2 =>
 grd (nt AH) (fun Ds =>
 yB igeB P .geq 3 false A0 A2 fun Dt =>
 Ds CZ Ca (.bool Dt)) (fun Bt Cb A3 =>
 wG (.bool AH) (fun Du =>
 rtB (sel Du (.bool true) A3) fun A4 =>
 br A4 (
 zE P L 8 k .ret (fr8 (vi AE) (zA AA 1) (zA AA 2) (zA AA 3) (zA AA 4) (zA AA 5) (zA AA 6) (zA AA 7) (vb true) (zA AA 9) AC AB AD AI AJ AG (zA AA 16) (zA AA 17) (zA AA 18) (zA AA 19) (zA AA 20) (zA AA 21) (zA AA 22) (zA AA 23) (zA AA 24) (zA AA 25) (zA AA 26) (zA AA 27) (zA AA 28) (zA AA 29) (zA AA 30) (zA AA 31) (zA AA 32) (zA AA 33) (zA AA 34) (zA AA 35) (zA AA 36) (zA AA 37) (zA AA 38) (zA AA 39) (zA AA 40) (zA AA 41) (zA AA 42) (zA AA 43) (zA AA 44) (zA AA 45) (zA AA 46) (zA AA 47) (zA AA 48) (zA AA 49) (zA AA 50) (zA AA 51) (zA AA 52) (zA AA 53) (zA AA 54) (zA AA 55) (zA AA 56) (zA AA 57) (zA AA 58) (zA AA 59) (zA AA 60) (zA AA 61) (zA AA 62) (zA AA 63) (zA AA 64) (zA AA 65) (zA AA 66) (zA AA 67) (zA AA 68) (zA AA 69) (zA AA 70) (zA AA 71) (zA AA 72) (zA AA 73) (zA AA 74) (zA AA 75) (zA AA 76) (zA AA 77) (zA AA 78) (zA AA 79) (zA AA 80) (zA AA 81) (zA AA 82) (zA AA 83) (zA AA 84) (zA AA 85) (zA AA 86) (zA AA 87) (zA AA 88) (zA AA 89) (zA AA 90) (zA AA 91) (zA AA 92) (zA AA 93) (zA AA 94) (zA AA 95) (zA AA 96) AC AY AJ AZ AC Aa AB Ab AC Ac AB Ad Ae AD Af AC Ag AB Ah AC Ai AB Aj AB Ak Al AD Am AC An AB Ao Ap AD Aq Ar AB As AC At Au AB Av Aw AD Ax AB Ay AB Az AG (vi AE) (vb AH) (vb AH) A0 A1 A2 A3 (vb A4) (zA AA 156) (zA AA 157) (zA AA 158) (zA AA 159) (zA AA 160) (zA AA 161) (zA AA 162) (zA AA 163) (zA AA 164) (zA AA 165) (zA AA 166) (zA AA 167) (zA AA 168) (zA AA 169) (zA AA 170) (zA AA 171) (zA AA 172) (zA AA 173) (zA AA 174) (zA AA 175) (zA AA 176) (zA AA 177) (zA AA 178) (zA AA 179) (zA AA 180) (zA AA 181) (zA AA 182) (zA AA 183) (zA AA 184) (zA AA 185) (zA AA 186) (zA AA 187) (zA AA 188) (zA AA 189) (zA AA 190) (zA AA 191) (zA AA 192)) (W.mk A6 A7 Bt Cb)) (
 opt (zT P 51 AI (.int .i64 AE)) fun A8 =>
 opt (zF P 50 Bt A8) fun A9 =>
 zN P 51 1 [(0, A9)] Bt Cb fun Dv Dw BA =>
 zN P 41 1 [(0, BA)] Dv Dw fun Dx Dy BB =>
 opt (xP P 43 [(0, (.string (ByteArray.mk #[102]))), (3, (.string (ByteArray.mk #[103]))), (4, BB)]) fun BC =>
 tD P 43 Dx Dy fun Dz D0 AP =>
 zV P 43 AP BC Dz D0 fun Cc D1 Ei =>
 opt (zT P 23 AG (.int .i64 AE)) fun BD =>
 opt (zF P 9 Cc BD) fun BE =>
 wD tH P .add 9 true (.string (ByteArray.mk #[102, 117, 110, 99, 32, 102, 10, 114, 101, 103, 115, 10, 112, 97, 114, 97, 109, 115, 10, 114, 101, 115, 117, 108, 116, 32, 103, 10, 98, 108, 111, 99, 107, 10, 32, 32])) BE fun BF =>
 wD tH P .add 9 true BF (.string (ByteArray.mk #[10, 101, 110, 100, 10])) fun AF =>
 yX L 22 [AF] Cc D1 (fun D2 D3 D4 =>
 zE P L 8 k (.panic D2) (fr8 (vi AE) (zA AA 1) (zA AA 2) (zA AA 3) (zA AA 4) (zA AA 5) (zA AA 6) (zA AA 7) (zA AA 8) (zA AA 9) AC AB AD AI AJ AG AP AF (zA AA 18) (zA AA 19) (zA AA 20) (zA AA 21) (zA AA 22) (zA AA 23) (zA AA 24) (zA AA 25) (zA AA 26) (zA AA 27) (zA AA 28) (zA AA 29) (zA AA 30) (zA AA 31) (zA AA 32) (zA AA 33) (zA AA 34) (zA AA 35) (zA AA 36) (zA AA 37) (zA AA 38) (zA AA 39) (zA AA 40) (zA AA 41) (zA AA 42) (zA AA 43) (zA AA 44) (zA AA 45) (zA AA 46) (zA AA 47) (zA AA 48) (zA AA 49) (zA AA 50) (zA AA 51) (zA AA 52) (zA AA 53) (zA AA 54) (zA AA 55) (zA AA 56) (zA AA 57) (zA AA 58) (zA AA 59) (zA AA 60) (zA AA 61) (zA AA 62) (zA AA 63) (zA AA 64) (zA AA 65) (zA AA 66) (zA AA 67) (zA AA 68) (zA AA 69) (zA AA 70) (zA AA 71) (zA AA 72) (zA AA 73) (zA AA 74) (zA AA 75) (zA AA 76) (zA AA 77) (zA AA 78) (zA AA 79) (zA AA 80) (zA AA 81) (zA AA 82) (zA AA 83) (zA AA 84) (zA AA 85) (zA AA 86) (zA AA 87) (zA AA 88) (zA AA 89) (zA AA 90) (zA AA 91) (zA AA 92) (zA AA 93) (zA AA 94) (zA AA 95) (zA AA 96) AC AY AJ AZ AC Aa AB Ab AC Ac AB Ad Ae AD Af AC Ag AB Ah AC Ai AB Aj AB Ak Al AD Am AC An AB Ao Ap AD Aq Ar AB As AC At Au AB Av Aw AD Ax AB Ay AB Az AG (vi AE) (vb AH) (vb AH) A0 A1 A2 A3 (vb A4) AI (vi AE) A8 A9 BA BB BC AG (vi AE) BD BE BF AF (zA AA 169) AF (zA AA 171) (zA AA 172) (zA AA 173) (zA AA 174) (zA AA 175) (zA AA 176) (zA AA 177) (zA AA 178) (zA AA 179) (zA AA 180) (zA AA 181) (zA AA 182) (zA AA 183) (zA AA 184) (zA AA 185) (zA AA 186) (zA AA 187) (zA AA 188) (zA AA 189) (zA AA 190) (zA AA 191) (zA AA 192)) (W.mk A6 A7 D3 D4)) fun AK D5 D6 =>
 opt (xD 0 AK) fun BH =>
 opt (xD 1 AK) fun D7 =>
 rtI .i64 D7 fun AM =>
 opt (xD 2 AK) fun D8 =>
 rtI .i64 D8 fun AN =>
 tD P 43 D5 D6 fun D9 EA BG =>
 zV P 43 BG BH D9 EA fun Cd EB Ej =>
 opt (zF P 43 Cd AP) fun BI =>
 yX L 19 [BI] Cd EB (fun EC ED EE =>
 zE P L 8 k (.panic EC) (fr8 (vi AE) (zA AA 1) (zA AA 2) (zA AA 3) (zA AA 4) (zA AA 5) (zA AA 6) (zA AA 7) (zA AA 8) (zA AA 9) AC AB AD AI AJ AG AP AF BG (vi AM) (vi AN) (zA AA 21) (zA AA 22) (zA AA 23) (zA AA 24) (zA AA 25) (zA AA 26) (zA AA 27) (zA AA 28) (zA AA 29) (zA AA 30) (zA AA 31) (zA AA 32) (zA AA 33) (zA AA 34) (zA AA 35) (zA AA 36) (zA AA 37) (zA AA 38) (zA AA 39) (zA AA 40) (zA AA 41) (zA AA 42) (zA AA 43) (zA AA 44) (zA AA 45) (zA AA 46) (zA AA 47) (zA AA 48) (zA AA 49) (zA AA 50) (zA AA 51) (zA AA 52) (zA AA 53) (zA AA 54) (zA AA 55) (zA AA 56) (zA AA 57) (zA AA 58) (zA AA 59) (zA AA 60) (zA AA 61) (zA AA 62) (zA AA 63) (zA AA 64) (zA AA 65) (zA AA 66) (zA AA 67) (zA AA 68) (zA AA 69) (zA AA 70) (zA AA 71) (zA AA 72) (zA AA 73) (zA AA 74) (zA AA 75) (zA AA 76) (zA AA 77) (zA AA 78) (zA AA 79) (zA AA 80) (zA AA 81) (zA AA 82) (zA AA 83) (zA AA 84) (zA AA 85) (zA AA 86) (zA AA 87) (zA AA 88) (zA AA 89) (zA AA 90) (zA AA 91) (zA AA 92) (zA AA 93) (zA AA 94) (zA AA 95) (zA AA 96) AC AY AJ AZ AC Aa AB Ab AC Ac AB Ad Ae AD Af AC Ag AB Ah AC Ai AB Aj AB Ak Al AD Am AC An AB Ao Ap AD Aq Ar AB As AC At Au AB Av Aw AD Ax AB Ay AB Az AG (vi AE) (vb AH) (vb AH) A0 A1 A2 A3 (vb A4) AI (vi AE) A8 A9 BA BB BC AG (vi AE) BD BE BF AF AK AF AK BH (vi AM) (vi AN) BI (zA AA 176) (zA AA 177) (zA AA 178) (zA AA 179) (zA AA 180) (zA AA 181) (zA AA 182) (zA AA 183) (zA AA 184) (zA AA 185) (zA AA 186) (zA AA 187) (zA AA 188) (zA AA 189) (zA AA 190) (zA AA 191) (zA AA 192)) (W.mk A6 A7 ED EE)) fun BM Ce Cf =>
 yB wJ P .eql 9 false BM AF fun AL =>
 grd AL (fun EF =>
 EF Ce Cf (.int .i64 AN)) (fun Cg Ch BN =>
 grd AL (fun EG =>
 qN L .i64 23 [BN] Cg Ch (fun EH EI EJ =>
 zE P L 8 k (.panic EH) (fr8 (vi AE) (zA AA 1) (zA AA 2) (zA AA 3) (zA AA 4) (zA AA 5) (zA AA 6) (zA AA 7) (zA AA 8) (zA AA 9) AC AB AD AI AJ AG AP AF BG (vi AM) (vi AN) (zA AA 21) (zA AA 22) (zA AA 23) (zA AA 24) (zA AA 25) (zA AA 26) (zA AA 27) (zA AA 28) (zA AA 29) (zA AA 30) (zA AA 31) (zA AA 32) (zA AA 33) (zA AA 34) (zA AA 35) (zA AA 36) (zA AA 37) (zA AA 38) (zA AA 39) (zA AA 40) (zA AA 41) (zA AA 42) (zA AA 43) (zA AA 44) (zA AA 45) (zA AA 46) (zA AA 47) (zA AA 48) (zA AA 49) (zA AA 50) (zA AA 51) (zA AA 52) (zA AA 53) (zA AA 54) (zA AA 55) (zA AA 56) (zA AA 57) (zA AA 58) (zA AA 59) (zA AA 60) (zA AA 61) (zA AA 62) (zA AA 63) (zA AA 64) (zA AA 65) (zA AA 66) (zA AA 67) (zA AA 68) (zA AA 69) (zA AA 70) (zA AA 71) (zA AA 72) (zA AA 73) (zA AA 74) (zA AA 75) (zA AA 76) (zA AA 77) (zA AA 78) (zA AA 79) (zA AA 80) (zA AA 81) (zA AA 82) (zA AA 83) (zA AA 84) (zA AA 85) (zA AA 86) (zA AA 87) (zA AA 88) (zA AA 89) (zA AA 90) (zA AA 91) (zA AA 92) (zA AA 93) (zA AA 94) (zA AA 95) (zA AA 96) AC AY AJ AZ AC Aa AB Ab AC Ac AB Ad Ae AD Af AC Ag AB Ah AC Ai AB Aj AB Ak Al AD Am AC An AB Ao Ap AD Aq Ar AB As AC At Au AB Av Aw AD Ax AB Ay AB Az AG (vi AE) (vb AH) (vb AH) A0 A1 A2 A3 (vb A4) AI (vi AE) A8 A9 BA BB BC AG (vi AE) BD BE BF AF AK AF AK BH (vi AM) (vi AN) BI BM AF (vb AL) (vb AL) BN (zA AA 181) (zA AA 182) (zA AA 183) (zA AA 184) (zA AA 185) (zA AA 186) (zA AA 187) (zA AA 188) (zA AA 189) (zA AA 190) (zA AA 191) (zA AA 192)) (W.mk A6 A7 EI EJ)) fun EK EL EM =>
 EG EL EM (.int .i64 EK)) (fun Ci Cj Bu =>
 grd AL (fun EN =>
 yB wJ P .eql 3 true Bu (.int .i64 0) fun EO =>
 EN Ci Cj (.bool EO)) (fun Ck Cl Bv =>
 wG (.bool AL) (fun EP =>
 rtB (sel EP Bv (.bool false)) fun A5 =>
 grd A5 (fun EQ =>
 EQ Ck Cl (.int .i64 AM)) (fun Cm Cn Bw =>
 grd A5 (fun ER =>
 yB wJ P .eql 3 true Bw (.int .i64 0) fun ES =>
 ER Cm Cn (.bool ES)) (fun Bx Co By =>
 wG (.bool A5) (fun ET =>
 rtB (sel ET By (.bool false)) fun AQ =>
 grd AQ (fun EU =>
 opt (zF P 43 Bx AP) fun EV =>
 EU Bx Co EV) (fun Bz Cp B0 =>
 grd AQ (fun EW =>
 opt (zF P 43 Bz BG) fun EX =>
 EW Bz Cp EX) (fun Cq Cr B1 =>
 grd AQ (fun EY =>
 sJ L 24 [B0, B1] Cq Cr (fun EZ Ea Eb =>
 zE P L 8 k (.panic EZ) (fr8 (vi AE) (zA AA 1) (zA AA 2) (zA AA 3) (zA AA 4) (zA AA 5) (zA AA 6) (zA AA 7) (zA AA 8) (zA AA 9) AC AB AD AI AJ AG AP AF BG (vi AM) (vi AN) (zA AA 21) (zA AA 22) (zA AA 23) (zA AA 24) (zA AA 25) (zA AA 26) (zA AA 27) (zA AA 28) (zA AA 29) (zA AA 30) (zA AA 31) (zA AA 32) (zA AA 33) (zA AA 34) (zA AA 35) (zA AA 36) (zA AA 37) (zA AA 38) (zA AA 39) (zA AA 40) (zA AA 41) (zA AA 42) (zA AA 43) (zA AA 44) (zA AA 45) (zA AA 46) (zA AA 47) (zA AA 48) (zA AA 49) (zA AA 50) (zA AA 51) (zA AA 52) (zA AA 53) (zA AA 54) (zA AA 55) (zA AA 56) (zA AA 57) (zA AA 58) (zA AA 59) (zA AA 60) (zA AA 61) (zA AA 62) (zA AA 63) (zA AA 64) (zA AA 65) (zA AA 66) (zA AA 67) (zA AA 68) (zA AA 69) (zA AA 70) (zA AA 71) (zA AA 72) (zA AA 73) (zA AA 74) (zA AA 75) (zA AA 76) (zA AA 77) (zA AA 78) (zA AA 79) (zA AA 80) (zA AA 81) (zA AA 82) (zA AA 83) (zA AA 84) (zA AA 85) (zA AA 86) (zA AA 87) (zA AA 88) (zA AA 89) (zA AA 90) (zA AA 91) (zA AA 92) (zA AA 93) (zA AA 94) (zA AA 95) (zA AA 96) AC AY AJ AZ AC Aa AB Ab AC Ac AB Ad Ae AD Af AC Ag AB Ah AC Ai AB Aj AB Ak Al AD Am AC An AB Ao Ap AD Aq Ar AB As AC At Au AB Av Aw AD Ax AB Ay AB Az AG (vi AE) (vb AH) (vb AH) A0 A1 A2 A3 (vb A4) AI (vi AE) A8 A9 BA BB BC AG (vi AE) BD BE BF AF AK AF AK BH (vi AM) (vi AN) BI BM AF (vb AL) (vb AL) BN Bu Bv (vb A5) (vb A5) Bw By (vb AQ) (vb AQ) B0 B1 (zA AA 191) (zA AA 192)) (W.mk A6 A7 Ea Eb)) fun Ec Ed Ee =>
 EY Ed Ee (.bool Ec)) (fun Ef Eg Cs =>
 wG (.bool AQ) (fun Eh =>
 rtB (sel Eh Cs (.bool false)) fun Ct =>
 zE P L 8 k .ret (fr8 (vi AE) (zA AA 1) (zA AA 2) (zA AA 3) (zA AA 4) (zA AA 5) (zA AA 6) (zA AA 7) (vb Ct) (zA AA 9) AC AB AD AI AJ AG AP AF BG (vi AM) (vi AN) (zA AA 21) (zA AA 22) (zA AA 23) (zA AA 24) (zA AA 25) (zA AA 26) (zA AA 27) (zA AA 28) (zA AA 29) (zA AA 30) (zA AA 31) (zA AA 32) (zA AA 33) (zA AA 34) (zA AA 35) (zA AA 36) (zA AA 37) (zA AA 38) (zA AA 39) (zA AA 40) (zA AA 41) (zA AA 42) (zA AA 43) (zA AA 44) (zA AA 45) (zA AA 46) (zA AA 47) (zA AA 48) (zA AA 49) (zA AA 50) (zA AA 51) (zA AA 52) (zA AA 53) (zA AA 54) (zA AA 55) (zA AA 56) (zA AA 57) (zA AA 58) (zA AA 59) (zA AA 60) (zA AA 61) (zA AA 62) (zA AA 63) (zA AA 64) (zA AA 65) (zA AA 66) (zA AA 67) (zA AA 68) (zA AA 69) (zA AA 70) (zA AA 71) (zA AA 72) (zA AA 73) (zA AA 74) (zA AA 75) (zA AA 76) (zA AA 77) (zA AA 78) (zA AA 79) (zA AA 80) (zA AA 81) (zA AA 82) (zA AA 83) (zA AA 84) (zA AA 85) (zA AA 86) (zA AA 87) (zA AA 88) (zA AA 89) (zA AA 90) (zA AA 91) (zA AA 92) (zA AA 93) (zA AA 94) (zA AA 95) (zA AA 96) AC AY AJ AZ AC Aa AB Ab AC Ac AB Ad Ae AD Af AC Ag AB Ah AC Ai AB Aj AB Ak Al AD Am AC An AB Ao Ap AD Aq Ar AB As AC At Au AB Av Aw AD Ax AB Ay AB Az AG (vi AE) (vb AH) (vb AH) A0 A1 A2 A3 (vb A4) AI (vi AE) A8 A9 BA BB BC AG (vi AE) BD BE BF AF AK AF AK BH (vi AM) (vi AN) BI BM AF (vb AL) (vb AL) BN Bu Bv (vb A5) (vb A5) Bw By (vb AQ) (vb AQ) B0 B1 Cs (vb Ct)) (W.mk A6 A7 Ef Eg)) false) Cq Cr) Bz Cp) Bx Co) false) Cm Cn) Ck Cl) false) Ci Cj) Cg Ch) Ce Cf)) false) CZ Ca) Bs CY) CW CX) CU CV))) false) CO CP) CM CN) false) CK CL) CI CJ) false) CG CH) CE CF) false) CC CD) CA CB) false) B8 B9) B6 B7) false) B4 B5) h2 n3
theorem F8_eq (L : Lo) (lp : LP) (p0 p1 p2 p3 : Value) (df : Bool) (u : Option zL) (h : zD) (n : Nat) (k : KO) : wQ P hint8 L lp 8 [p0, p1, p2, p3] df u h n k = F8 L lp p0 p1 p2 p3 df u h n k := by kernel_rfl
theorem l8 : xB P 8 = true := by kernel_rfl
theorem r8 : wA P 8 = some [.tmp 8] := by kernel_rfl
noncomputable abbrev fr27 (s0 s1 s2 s3 s4 s5 s6 s7 s8 s9 s10 s11 s12 s13 s14 s15 s16 s17 : Value) : Fr := (.node (.node (.node (.node (.node .leaf s15 .leaf) s7 .leaf) s3 (.node .leaf s11 .leaf)) s1 (.node (.node (.node .leaf s17 .leaf) s9 .leaf) s5 (.node .leaf s13 .leaf))) s0 (.node (.node (.node (.node .leaf s16 .leaf) s8 .leaf) s4 (.node .leaf s12 .leaf)) s2 (.node (.node .leaf s10 .leaf) s6 (.node .leaf s14 .leaf))))
noncomputable abbrev fo27 (s2 : Value) : Fr := fr27 ud ud s2 ud ud ud ud ud ud ud ud ud ud ud ud ud ud ud
noncomputable def hint27 : tJ := fun kind _ i => match kind with
 | 2 => bif Nat.beq i 3 then [.any, .any, .any, .val] else []
 | 4 => bif Nat.beq i 0 then [(.int .i64)] else []
 | _ => []
noncomputable def F27 (L : Lo) (lp : LP) (p0 : Value) (df : Bool) (u : Option zL) (h : zD) (n : Nat) (k : KO) : Bool :=
 rtI .i64 p0 fun ap0 =>
 opt (qBin P .rem 3 true (.int .i64 ap0) (.int .i64 10)) fun v2 =>
 rtI .i64 v2 fun a3 =>
 opt (qBin P .rem 3 true (.int .i64 ap0) (.int .i64 10)) fun v5 =>
 rtI .i64 v5 fun a6 =>
 fi (vK .i64 (tH a6 1)) fun a7 =>
 opt (uW P h 9 (.string (ByteArray.mk #[48, 49, 50, 51, 52, 53, 54, 55, 56, 57])) (some (.int .i64 a3)) (some (.int .i64 a7)) none) fun v8 =>
 fb (vD 9 ap0) fun a9 =>
 br a9 (
 opt (qBin P .quo 3 true (.int .i64 ap0) (.int .i64 10)) fun AH =>
 rtI .i64 AH fun AI =>
 yX L 27 [(.int .i64 AI)] h n (fun AJ AK AL =>
 zE P L 27 k (.panic AJ) (fo27 (.string (ByteArray.mk #[]))) (W.mk [] u AK AL)) fun AM AN AO =>
 wD tH P .add 9 false AM v8 fun AP =>
 zE P L 27 k .ret (fo27 AP) (W.mk [] u AN AO)) (
 zE P L 27 k .ret (fo27 v8) (W.mk [] u h n))
theorem F27_eq (L : Lo) (lp : LP) (p0 : Value) (df : Bool) (u : Option zL) (h : zD) (n : Nat) (k : KO) : wQ P hint27 L lp 27 [p0] df u h n k = F27 L lp p0 df u h n k := by kernel_rfl
theorem l27 : xB P 27 = true := by kernel_rfl
theorem r27 : wA P 27 = some [.tmp 2] := by kernel_rfl
open Go.Ex Go.Ex.Vir
set_option maxRecDepth 100000
theorem yS (p : Addr) : qC (.pointer (some p)) = some (.pointer (some p)) := rfl
abbrev ptr (b off : Nat) : Value := .pointer (some ⟨b, off, none⟩)
abbrev uZ (e : Int) : zL := [⟨.iface 191 (.agg ⟨[.int .i64 e]⟩), false, false⟩]
abbrev I64 (x : Int) : Value := .int .i64 x
def WordsAt (lo hi n : Nat) (h : zD) (b : Nat) (ws : List Tx) : Prop := lo ≤ b ∧ (b < hi ∧ hi ≤ n) ∧ ws.length < 100000 ∧ (∀ s ∈ ws, s.length < 1000000) ∧ ∃ sv, Cel h b 0 [sv] ∧ Row n h sv 9 1 ws.length (ws.map str) ∧ ∀ x, wB sv = some x → lo ≤ x ∧ x < hi ∧ x ≠ b
theorem WordsAt.touch {lo hi n n' b : Nat} {h h' : zD} {ws : List Tx} {S : List Nat} (w : WordsAt lo hi n h b ws) (t : TouchE S h n h' n') (hS : ∀ x ∈ S, x < lo ∨ hi ≤ x) : WordsAt lo hi n' h' b ws := by
 obtain ⟨h1, h2, h2b, h2c, sv, h3, h4, h5⟩ := w
 refine ⟨h1, ⟨h2.1, Nat.le_trans h2.2 t.1⟩, h2b, h2c, sv, h3.touch t (Nat.lt_of_lt_of_le h2.1 h2.2) (fun hb => ?_), h4.touch t (fun x hx hxS => ?_), h5⟩
 · rcases hS b hb with h9 | h9 <;> omega
 · have h7 := h5 x hx
   rcases hS x hxS with h9 | h9 <;> omega
def RQ {α : Type} (lo hi w : Nat) (h : zD) (n : Nat) (r : Res α) (V : α → Value → Prop) : Out → zD → Nat → Prop := fun o h' n' => TouchE [w] h n h' n' ∧
 match r with
 | .ok (a, ws) => ∃ v, o = .ret v ∧ V a v ∧ WordsAt lo hi n' h' w ws
 | .error e => o = .panic (uZ e)
theorem need_comes (b : Bool) (e : Int) (h : zD) (n : Nat) : ComesE P 8 120 [.bool b, I64 e] h n fun o h' n' => h' = h ∧ n' = n ∧ o = (bif b then .ret (.tuple ⟨[]⟩) else .panic (uZ e)) := by
 refine yR zP mixed (hint := hint120) l120 fun u k hk => ?_
 rw [F120_eq]
 unfold F120
 have e1 : xP P 191 [(0, .int .i64 e)] = some (.agg ⟨[.int .i64 e]⟩) := by kernel_rfl
 have e2 : qMakeIface P 191 (.agg ⟨[.int .i64 e]⟩) = some (.iface 191 (.agg ⟨[.int .i64 e]⟩)) := by kernel_rfl
 cases b
 · repeat' (first
    | exact yT r120 (hk _ _ _ ⟨rfl, rfl, rfl⟩)
    | with_reducible first | refine tV (fun _ => ?_) (fun _ => ?_) | refine tW (fun _ => ?_) (fun _ => ?_) | refine vR (fun _ => ?_) (fun _ => ?_) | refine vS (fun _ => ?_) (fun _ => ?_) | refine vL (fun _ => ?_) (fun _ => ?_) | refine vM (fun _ => ?_) (fun _ => ?_) | refine vN (fun _ => ?_) (fun _ => ?_) | refine vO (fun _ => ?_) (fun _ => ?_) | refine vP (fun _ => ?_) (fun _ => ?_) | refine vQ (fun _ => ?_) (fun _ => ?_)
    | simp only [↓zH, ↓zJ, ↓zC, ↓zG, ↓xE, ↓xC, ↓zM, ↓yZ, ↓xK, ↓uD, ↓uL, ↓tK, ↓xA, ↓xG, ↓qF, ↓rI, ↓wF, ↓xH, ↓xI, ↓yU, ↓xN, ↓xR, ↓xO, ↓zQ, ↓yH, ↓zR, ↓yI, Bool.not_true, Bool.not_false, yV, zZ,  ↓e1, ↓e2, ePanic, brJ])
 · repeat' (first
    | exact qE r120 (hk _ _ _ ⟨rfl, rfl, rfl⟩)
    | with_reducible first | refine tV (fun _ => ?_) (fun _ => ?_) | refine tW (fun _ => ?_) (fun _ => ?_) | refine vR (fun _ => ?_) (fun _ => ?_) | refine vS (fun _ => ?_) (fun _ => ?_) | refine vL (fun _ => ?_) (fun _ => ?_) | refine vM (fun _ => ?_) (fun _ => ?_) | refine vN (fun _ => ?_) (fun _ => ?_) | refine vO (fun _ => ?_) (fun _ => ?_) | refine vP (fun _ => ?_) (fun _ => ?_) | refine vQ (fun _ => ?_) (fun _ => ?_)
    | simp only [↓zH, ↓zJ, ↓zC, ↓zG, ↓xE, ↓xC, ↓zM, ↓yZ, ↓xK, ↓uD, ↓uL, ↓tK, ↓xA, ↓xG, ↓qF, ↓rI, ↓wF, ↓xH, ↓xI, ↓yU, ↓xN, ↓xR, ↓xO, ↓zQ, ↓yH, ↓zR, ↓yI, Bool.not_true, Bool.not_false, yV, zZ,  brJ])
theorem yA {b : Bool} {e : Int} {h : zD} {n : Nat} {Kp : KC} {K : Value → zD → Nat → Bool} (ht : b = true → K (.tuple ⟨[]⟩) h n = true) (hf : b = false → Kp (uZ e) h n = true) : yX (loS P 8) 120 [.bool b, I64 e] h n Kp K = true := by
 refine yY (need_comes b e h n) (fun v h' n' q => ?_) (fun c h' n' q => ?_)
 · obtain ⟨rfl, rfl, q⟩ := q
   cases b with
   | true => injection q with q; subst q; exact ht rfl
   | false => cases q
 · obtain ⟨rfl, rfl, q⟩ := q
   cases b with
   | true => cases q
   | false => injection q with q; subst q; exact hf rfl
theorem len_pure {lo hi n b : Nat} {h : zD} {ws : List Tx} (w : WordsAt lo hi n h b ws) : Pure P 8 154 [ptr b 0] h n (I64 (ws.length : Nat)) := by
 obtain ⟨h1, h2, h2b, h2c, sv, h3, h4, h5⟩ := w
 refine yM zP mixed (hint := hint154) l154 fun u k hk => ?_
 rw [F154_eq]
 unfold F154
 have e1 : zF P 23 h (ptr b 0) = some sv := zI h3 sh23 rfl
 have e2 := xL (P := P) us23 h4 [] h
 repeat' (first
  | exact yF r154 rfl (hk _ _ _ ⟨rfl, rfl, rfl⟩)
  | with_reducible first | refine tV (fun _ => ?_) (fun _ => ?_) | refine tW (fun _ => ?_) (fun _ => ?_) | refine vR (fun _ => ?_) (fun _ => ?_) | refine vS (fun _ => ?_) (fun _ => ?_) | refine vL (fun _ => ?_) (fun _ => ?_) | refine vM (fun _ => ?_) (fun _ => ?_) | refine vN (fun _ => ?_) (fun _ => ?_) | refine vO (fun _ => ?_) (fun _ => ?_) | refine vP (fun _ => ?_) (fun _ => ?_) | refine vQ (fun _ => ?_) (fun _ => ?_)
  | simp only [↓zH, ↓zJ, ↓zC, ↓zG, ↓xE, ↓xC, ↓zM, ↓yZ, ↓xK, ↓uD, ↓uL, ↓tK, ↓xA, ↓xG, ↓qF, ↓rI, ↓wF, ↓xH, ↓xI, ↓yU, ↓xN, ↓xR, ↓xO, ↓zQ, ↓yH, ↓zR, ↓yI, Bool.not_true, Bool.not_false, yV, zZ,  ↓yS, ↓fa189_0, ↓e1, ↓e2])
theorem peek_pure {lo hi n b : Nat} {h : zD} {ws : List Tx} (w : WordsAt lo hi n h b ws) : Pure P 8 156 [ptr b 0, I64 1] h n (str (wordAt1 ws)) := by
 obtain ⟨h1, h2, h2b, h2c, sv, h3, h4, h5⟩ := w
 refine yM zP mixed (hint := hint156) l156 fun u k hk => ?_
 rw [F156_eq]
 unfold F156
 have e1 : zF P 23 h (ptr b 0) = some sv := zI h3 sh23 rfl
 have e2 := xL (P := P) us23 h4 [] h
 by_cases hl : 1 < ws.length
 · have e3 : rM (ws.length : Nat) 1 = false := by rw [vA]; exact decide_eq_false (by omega)
   obtain ⟨p, q1, q2⟩ := xX (P := P) (k := .i64) h4 ix23 (tl := 9) sh9 (i := 1) (x := str ws[1]) (by rw [List.getElem?_map, List.getElem?_eq_getElem hl]; rfl)
   rw [show wordAt1 ws = ws[1] from by unfold wordAt1; rw [List.getElem?_eq_getElem hl]; rfl] at hk
   have q1' : zT P 23 sv (.int .i64 1) = some p := q1
   repeat' (first
    | exact yF r156 rfl (hk _ _ _ ⟨rfl, rfl, rfl⟩)
    | with_reducible first | refine tV (fun _ => ?_) (fun _ => ?_) | refine tW (fun _ => ?_) (fun _ => ?_) | refine vR (fun _ => ?_) (fun _ => ?_) | refine vS (fun _ => ?_) (fun _ => ?_) | refine vL (fun _ => ?_) (fun _ => ?_) | refine vM (fun _ => ?_) (fun _ => ?_) | refine vN (fun _ => ?_) (fun _ => ?_) | refine vO (fun _ => ?_) (fun _ => ?_) | refine vP (fun _ => ?_) (fun _ => ?_) | refine vQ (fun _ => ?_) (fun _ => ?_)
    | simp only [↓zH, ↓zJ, ↓zC, ↓zG, ↓xE, ↓xC, ↓zM, ↓yZ, ↓xK, ↓uD, ↓uL, ↓tK, ↓xA, ↓xG, ↓qF, ↓rI, ↓wF, ↓xH, ↓xI, ↓yU, ↓xN, ↓xR, ↓xO, ↓zQ, ↓yH, ↓zR, ↓yI, Bool.not_true, Bool.not_false, yV, zZ,  ↓yS, ↓fa189_0, ↓e1, ↓e2, ↓e3, ↓yP, ↓q1', ↓q2])
 · have e3 : rM (ws.length : Nat) 1 = true := by rw [vA]; exact decide_eq_true (by omega)
   rw [show wordAt1 ws = [] from by unfold wordAt1; rw [List.getElem?_eq_none (by omega)]; rfl] at hk
   repeat' (first
    | exact yF r156 rfl (hk _ _ _ ⟨rfl, rfl, rfl⟩)
    | with_reducible first | refine tV (fun _ => ?_) (fun _ => ?_) | refine tW (fun _ => ?_) (fun _ => ?_) | refine vR (fun _ => ?_) (fun _ => ?_) | refine vS (fun _ => ?_) (fun _ => ?_) | refine vL (fun _ => ?_) (fun _ => ?_) | refine vM (fun _ => ?_) (fun _ => ?_) | refine vN (fun _ => ?_) (fun _ => ?_) | refine vO (fun _ => ?_) (fun _ => ?_) | refine vP (fun _ => ?_) (fun _ => ?_) | refine vQ (fun _ => ?_) (fun _ => ?_)
    | simp only [↓zH, ↓zJ, ↓zC, ↓zG, ↓xE, ↓xC, ↓zM, ↓yZ, ↓xK, ↓uD, ↓uL, ↓tK, ↓xA, ↓xG, ↓qF, ↓rI, ↓wF, ↓xH, ↓xI, ↓yU, ↓xN, ↓xR, ↓xO, ↓zQ, ↓yH, ↓zR, ↓yI, Bool.not_true, Bool.not_false, yV, zZ,  ↓yS, ↓fa189_0, ↓e1, ↓e2, ↓e3, ↓yP])
theorem next_comes {lo hi n b : Nat} {h : zD} {ws : List Tx} (w : WordsAt lo hi n h b ws) : ComesE P 8 153 [ptr b 0] h n (RQ lo hi b h n (nextW ws) fun s v => v = str s) := by
 obtain ⟨h1, h2, h2b, h2c, sv, h3, h4, h5⟩ := w
 refine yR zP mixed (hint := hint153) l153 fun u k hk => ?_
 rw [F153_eq]
 unfold F153
 have e1 : zF P 23 h (ptr b 0) = some sv := zI h3 sh23 rfl
 have e2 := xL (P := P) us23 h4 [] h
 cases ws with
 | nil =>
  have e3 : vD 0 (([] : List Tx).length : Nat) = false := rfl
  repeat' (first
   | refine yA (fun e => by cases e) (fun _ => yT r153 (hk _ _ _ ⟨TouchE.refl _ _ _, rfl⟩))
   | with_reducible first | refine tV (fun _ => ?_) (fun _ => ?_) | refine tW (fun _ => ?_) (fun _ => ?_) | refine vR (fun _ => ?_) (fun _ => ?_) | refine vS (fun _ => ?_) (fun _ => ?_) | refine vL (fun _ => ?_) (fun _ => ?_) | refine vM (fun _ => ?_) (fun _ => ?_) | refine vN (fun _ => ?_) (fun _ => ?_) | refine vO (fun _ => ?_) (fun _ => ?_) | refine vP (fun _ => ?_) (fun _ => ?_) | refine vQ (fun _ => ?_) (fun _ => ?_)
   | simp only [↓zH, ↓zJ, ↓zC, ↓zG, ↓xE, ↓xC, ↓zM, ↓yZ, ↓xK, ↓uD, ↓uL, ↓tK, ↓xA, ↓xG, ↓qF, ↓rI, ↓wF, ↓xH, ↓xI, ↓yU, ↓xN, ↓xR, ↓xO, ↓zQ, ↓yH, ↓zR, ↓yI, Bool.not_true, Bool.not_false, yV, zZ,  ↓yS, ↓fa189_0, ↓e1, ↓e2, ↓e3, ↓yP])
 | cons s r =>
  have e3 : vD 0 ((s :: r).length : Nat) = true := by rw [yC]; exact decide_eq_true (by simp)
  obtain ⟨p, q1, q2⟩ := xX (P := P) (k := .i64) h4 ix23 (tl := 9) sh9 (i := 0) (x := str s) rfl
  have q1' : zT P 23 sv (.int .i64 0) = some p := q1
  obtain ⟨sv', p1, p2, p3⟩ := slice_fromI (P := P) (ty := 23) us23 in23 h4 (k := .i64) (i := 1) (by simp)
  have p1' : uW P h 23 sv (some (.int .i64 1)) none none = some sv' := p1
  have p4 : sv'.oneCell' = true := p2.one
  repeat' (first
   | refine yA (fun _ => ?_) (fun e => by cases e)
   | refine xQ h3 sh23 (by simp) p4 (fun h' c1 c2 => ?_)
   | refine yF r153 (v := str s) rfl (hk _ _ _ ⟨zS c2 (by simp), _, rfl, rfl, h1, h2, ?_, fun x hx => h2c x (List.mem_cons_of_mem _ hx), sv', c1, ?_, ?_⟩)
   | with_reducible first | refine tV (fun _ => ?_) (fun _ => ?_) | refine tW (fun _ => ?_) (fun _ => ?_) | refine vR (fun _ => ?_) (fun _ => ?_) | refine vS (fun _ => ?_) (fun _ => ?_) | refine vL (fun _ => ?_) (fun _ => ?_) | refine vM (fun _ => ?_) (fun _ => ?_) | refine vN (fun _ => ?_) (fun _ => ?_) | refine vO (fun _ => ?_) (fun _ => ?_) | refine vP (fun _ => ?_) (fun _ => ?_) | refine vQ (fun _ => ?_) (fun _ => ?_)
   | simp only [↓zH, ↓zJ, ↓zC, ↓zG, ↓xE, ↓xC, ↓zM, ↓yZ, ↓xK, ↓uD, ↓uL, ↓tK, ↓xA, ↓xG, ↓qF, ↓rI, ↓wF, ↓xH, ↓xI, ↓yU, ↓xN, ↓xR, ↓xO, ↓zQ, ↓yH, ↓zR, ↓yI, Bool.not_true, Bool.not_false, yV, zZ,  ↓yS, ↓fa189_0, ↓e1, ↓e2, ↓e3, ↓yP, ↓q1', ↓q2, ↓p1'])
  · simp at h2b; omega
  · have p5 : Row n h sv' 9 1 r.length (r.map str) := by simpa using p2
    exact p5.touch (zS c2 (S := [b]) (by simp)) fun x hx => by
     have := (h5 x (by rw [← p3]; exact hx)).2.2
     simp; exact this
  · intro x hx
    exact h5 x (by rw [← p3]; exact hx)
open Go.Ex Go.Ex.Vir Go.RowKit
structure Env (m : Int) (h : zD) : Prop where
 tabs : TabsH (tb m) h
 syn : ErrH h 2
 rng : ErrH h 3
theorem Env.touch {m : Int} {h h' : zD} {n n' : Nat} {S : List Nat} (e : Env m h) (t : TouchE S h n h' n') (hn : 8 ≤ n) (hS : ∀ x ∈ S, 8 ≤ x) : Env m h' := by
 refine ⟨e.tabs.touch t (fun p hp => Nat.lt_of_lt_of_le (tb_ok m p hp).1 hn) (fun p hp hx => ?_), e.syn.touch t (by omega) (fun hx => ?_), e.rng.touch t (by omega) (fun hx => ?_)⟩
 · have := (tb_ok m p hp).1
   have := hS _ hx
   omega
 · have := hS _ hx; omega
 · have := hS _ hx; omega
theorem letter_pure (c : Int) (h : zD) (n : Nat) : Pure P 8 110 [.int .u8 c] h n (.bool (letter c)) := by
 refine yM zP mixed (hint := hint110) l110 fun u k hk => ?_
 rw [F110_eq]
 unfold F110
 repeat' (first
  | refine yF r110 (v := .bool _) rfl (hk _ _ _ ⟨congrArg Value.bool ?_, rfl, rfl⟩)
  | with_reducible first | refine tV (fun _ => ?_) (fun _ => ?_) | refine tW (fun _ => ?_) (fun _ => ?_) | refine vR (fun _ => ?_) (fun _ => ?_) | refine vS (fun _ => ?_) (fun _ => ?_) | refine vL (fun _ => ?_) (fun _ => ?_) | refine vM (fun _ => ?_) (fun _ => ?_) | refine vN (fun _ => ?_) (fun _ => ?_) | refine vO (fun _ => ?_) (fun _ => ?_) | refine vP (fun _ => ?_) (fun _ => ?_) | refine vQ (fun _ => ?_) (fun _ => ?_)
  | simp only [↓zH, ↓zJ, ↓zC, ↓zG, ↓xE, ↓xC, ↓zM, ↓yZ, ↓xK, ↓uD, ↓uL, ↓tK, ↓xA, ↓xG, ↓qF, ↓rI, ↓wF, ↓xH, ↓xI, ↓yU, ↓xN, ↓xR, ↓xO, ↓zQ, ↓yH, ↓zR, ↓yI, Bool.not_true, Bool.not_false, yV, zZ])
 all_goals (unfold letter; first | exact (decide_eq_true (by omega)).symm | exact (decide_eq_false (by omega)).symm)
theorem digit_pure (c : Int) (h : zD) (n : Nat) : Pure P 8 111 [.int .u8 c] h n (.bool (digit c)) := by
 refine yM zP mixed (hint := hint111) l111 fun u k hk => ?_
 rw [F111_eq]
 unfold F111
 repeat' (first
  | refine yF r111 (v := .bool _) rfl (hk _ _ _ ⟨congrArg Value.bool ?_, rfl, rfl⟩)
  | with_reducible first | refine tV (fun _ => ?_) (fun _ => ?_) | refine tW (fun _ => ?_) (fun _ => ?_) | refine vR (fun _ => ?_) (fun _ => ?_) | refine vS (fun _ => ?_) (fun _ => ?_) | refine vL (fun _ => ?_) (fun _ => ?_) | refine vM (fun _ => ?_) (fun _ => ?_) | refine vN (fun _ => ?_) (fun _ => ?_) | refine vO (fun _ => ?_) (fun _ => ?_) | refine vP (fun _ => ?_) (fun _ => ?_) | refine vQ (fun _ => ?_) (fun _ => ?_)
  | simp only [↓zH, ↓zJ, ↓zC, ↓zG, ↓xE, ↓xC, ↓zM, ↓yZ, ↓xK, ↓uD, ↓uL, ↓tK, ↓xA, ↓xG, ↓qF, ↓rI, ↓wF, ↓xH, ↓xI, ↓yU, ↓xN, ↓xR, ↓xO, ↓zQ, ↓yH, ↓zR, ↓yI, Bool.not_true, Bool.not_false, yV, zZ])
 all_goals (unfold digit; first | exact (decide_eq_true (by omega)).symm | exact (decide_eq_false (by omega)).symm)
theorem named_loop (s : Tx) (h : zD) (n : Nat) (d : List Deferred) (u : Option zL) (ka : KX) (hs : s.length < 1000) : ∀ (m i : Nat), m + i = s.length → ∀ t, zA t 0 = str s → zA t 18 = .int .i64 (s.length : Nat) → zA t 19 = .int .i64 i →
 ((s.drop i).all nameB = true → ∀ t', ka (.exit 0) t' ⟨d, u, h, n⟩ = true) → ((s.drop i).all nameB = false → ∀ t', zA t' 2 = .bool false → ka .ret t' ⟨d, u, h, n⟩ = true) →
 lpS P 8 1000004 ⟨58, none, false⟩ t ⟨d, u, h, n⟩ ka = true := by
 intro m
 induction m with
 | zero =>
  intro i hi t h0 h18 h19 hE hR
  refine xW zP mixed (hint := hint58) l58 lp58_1000004 ?_
  rw [B58_1000004_eq]
  unfold B58_1000004
  rw [h0, h18, h19]
  repeat' (first
   | omega
   | with_reducible first | refine tV (fun _ => ?_) (fun _ => ?_) | refine tW (fun _ => ?_) (fun _ => ?_) | refine vR (fun _ => ?_) (fun _ => ?_) | refine vS (fun _ => ?_) (fun _ => ?_) | refine vL (fun _ => ?_) (fun _ => ?_) | refine vM (fun _ => ?_) (fun _ => ?_) | refine vN (fun _ => ?_) (fun _ => ?_) | refine vO (fun _ => ?_) (fun _ => ?_) | refine vP (fun _ => ?_) (fun _ => ?_) | refine vQ (fun _ => ?_) (fun _ => ?_)
   | simp only [↓zH, ↓zJ, ↓zC, ↓zG, ↓xE, ↓xC, ↓zM, ↓yZ, ↓xK, ↓uD, ↓uL, ↓tK, ↓xA, ↓xG, ↓qF, ↓rI, ↓wF, ↓xH, ↓xI, ↓yU, ↓xN, ↓xR, ↓xO, ↓zQ, ↓yH, ↓zR, ↓yI, Bool.not_true, Bool.not_false, yV, zZ])
  refine hE ?_ _
  rw [List.drop_eq_nil_of_le (by omega)]; rfl
 | succ m ih =>
  intro i hi t h0 h18 h19 hE hR
  have hlt : i < s.length := by omega
  have hx : s[i]? = some (s[i]) := List.getElem?_eq_getElem hlt
  have hd : s.drop i = s[i] :: s.drop (i + 1) := List.drop_eq_getElem_cons hlt
  refine xW zP mixed (hint := hint58) l58 lp58_1000004 ?_
  rw [B58_1000004_eq]
  unfold B58_1000004
  rw [h0, h18, h19]
  generalize s[i] = c at hx hd
  rw [hd] at hE hR
  have hix : qX P 9 (str s) (.int .i64 i) = some (.int .u8 (c.toNat : Nat)) := index_strL us9 s .i64 i c hx
  cases hl : letter c.toNat <;> cases hdg : digit c.toNat
  all_goals
   have ea : (c :: s.drop (i + 1)).all nameB = ((letter c.toNat || digit c.toNat) && (s.drop (i + 1)).all nameB) := rfl
   rw [ea, hl, hdg] at hE hR
   have pl : Pure P 8 110 [.int .u8 (c.toNat : Nat)] h n (.bool _) := letter_pure _ h n
   have pd : Pure P 8 111 [.int .u8 (c.toNat : Nat)] h n (.bool _) := digit_pure _ h n
   rw [hl] at pl
   rw [hdg] at pd
   repeat' (first
    | with_reducible refine yN pl ?_
    | with_reducible refine yN pd ?_
    | exact hR rfl _ rfl
    | exact ih (i + 1) (by omega) _ rfl rfl rfl hE hR
    | omega
    | with_reducible refine sF (by omega) ?_
    | with_reducible first | refine tV (fun _ => ?_) (fun _ => ?_) | refine tW (fun _ => ?_) (fun _ => ?_) | refine vR (fun _ => ?_) (fun _ => ?_) | refine vS (fun _ => ?_) (fun _ => ?_) | refine vL (fun _ => ?_) (fun _ => ?_) | refine vM (fun _ => ?_) (fun _ => ?_) | refine vN (fun _ => ?_) (fun _ => ?_) | refine vO (fun _ => ?_) (fun _ => ?_) | refine vP (fun _ => ?_) (fun _ => ?_) | refine vQ (fun _ => ?_) (fun _ => ?_)
    | simp only [↓zH, ↓zJ, ↓zC, ↓zG, ↓xE, ↓xC, ↓zM, ↓yZ, ↓xK, ↓uD, ↓uL, ↓tK, ↓xA, ↓xG, ↓qF, ↓rI, ↓wF, ↓xH, ↓xI, ↓yU, ↓xN, ↓xR, ↓xO, ↓zQ, ↓yH, ↓zR, ↓yI, Bool.not_true, Bool.not_false, yV, zZ,  ↓hix, zZ, fg0, fg18, fg19])
theorem rW (s : Tx) (h : zD) (n : Nat) : Pure P 8 58 [str s] h n (.bool (named s)) := by
 refine yM zP mixed (hint := hint58) l58 fun u k hk => ?_
 rw [F58_eq]
 unfold F58
 rw [cmpS_eq]
 cases s with
 | nil =>
  have e0 : (([] : List UInt8) == (ByteArray.mk #[]).data.toList) = true := rfl
  show (fun b => _) (([] : List UInt8) == (ByteArray.mk #[]).data.toList) = true
  rw [e0]
  dsimp only
  repeat' (first
   | exact yF r58 (v := .bool _) rfl (hk _ _ _ ⟨rfl, rfl, rfl⟩)
   | with_reducible first | refine tV (fun _ => ?_) (fun _ => ?_) | refine tW (fun _ => ?_) (fun _ => ?_) | refine vR (fun _ => ?_) (fun _ => ?_) | refine vS (fun _ => ?_) (fun _ => ?_) | refine vL (fun _ => ?_) (fun _ => ?_) | refine vM (fun _ => ?_) (fun _ => ?_) | refine vN (fun _ => ?_) (fun _ => ?_) | refine vO (fun _ => ?_) (fun _ => ?_) | refine vP (fun _ => ?_) (fun _ => ?_) | refine vQ (fun _ => ?_) (fun _ => ?_)
   | simp only [↓zH, ↓zJ, ↓zC, ↓zG, ↓xE, ↓xC, ↓zM, ↓yZ, ↓xK, ↓uD, ↓uL, ↓tK, ↓xA, ↓xG, ↓qF, ↓rI, ↓wF, ↓xH, ↓xI, ↓yU, ↓xN, ↓xR, ↓xO, ↓zQ, ↓yH, ↓zR, ↓yI, Bool.not_true, Bool.not_false, yV, zZ])
 | cons c r =>
  have e0 : ((c :: r) == (ByteArray.mk #[]).data.toList) = false := rfl
  show (fun b => _) ((c :: r) == (ByteArray.mk #[]).data.toList) = true
  rw [e0]
  dsimp only
  have hix : qX P 9 (str (c :: r)) (.int .i64 0) = some (.int .u8 (c.toNat : Nat)) := index_strL us9 (c :: r) .i64 0 c rfl
  have hlen : yL P .len [9] [str (c :: r)] h = some (.int .i64 ((c :: r).length : Nat)) := len_strL us9 (c :: r) [] h
  have hn : named (c :: r) = (decide ((c :: r).length ≤ 20) && (letter c.toNat && (c :: r).all nameB)) := rfl
  rw [hn] at hk
  have pl : Pure P 8 110 [.int .u8 (c.toNat : Nat)] h n (.bool _) := letter_pure _ h n
  cases hl : letter c.toNat
  all_goals
   rw [hl] at pl hk
   repeat' (first
    | with_reducible refine yN pl ?_
    | refine yF r58 (v := .bool _) rfl (hk _ _ _ ⟨congrArg Value.bool ?_, rfl, rfl⟩)
    | with_reducible first | refine tV (fun _ => ?_) (fun _ => ?_) | refine tW (fun _ => ?_) (fun _ => ?_) | refine vR (fun _ => ?_) (fun _ => ?_) | refine vS (fun _ => ?_) (fun _ => ?_) | refine vL (fun _ => ?_) (fun _ => ?_) | refine vM (fun _ => ?_) (fun _ => ?_) | refine vN (fun _ => ?_) (fun _ => ?_) | refine vO (fun _ => ?_) (fun _ => ?_) | refine vP (fun _ => ?_) (fun _ => ?_) | refine vQ (fun _ => ?_) (fun _ => ?_)
    | simp only [↓zH, ↓zJ, ↓zC, ↓zG, ↓xE, ↓xC, ↓zM, ↓yZ, ↓xK, ↓uD, ↓uL, ↓tK, ↓xA, ↓xG, ↓qF, ↓rI, ↓wF, ↓xH, ↓xI, ↓yU, ↓xN, ↓xR, ↓xO, ↓zQ, ↓yH, ↓zR, ↓yI, Bool.not_true, Bool.not_false, yV, zZ,  ↓hix, ↓hlen])
  · simp
  · simp
  · rename_i hgt; rw [decide_eq_false (by omega)]; rfl
  · rename_i hle
    have hle2 : (c :: r).length ≤ 20 := by omega
    rw [decide_eq_true hle2] at hk
    refine named_loop (c :: r) h n [] u _ (by omega) _ 0 (Nat.add_zero _) _ rfl rfl rfl ?_ ?_
    · intro ha t'
      repeat' (first
       | refine yF r58 (v := .bool true) rfl (hk _ _ _ ⟨congrArg Value.bool ?_, rfl, rfl⟩)
       | with_reducible first | refine tV (fun _ => ?_) (fun _ => ?_) | refine tW (fun _ => ?_) (fun _ => ?_) | refine vR (fun _ => ?_) (fun _ => ?_) | refine vS (fun _ => ?_) (fun _ => ?_) | refine vL (fun _ => ?_) (fun _ => ?_) | refine vM (fun _ => ?_) (fun _ => ?_) | refine vN (fun _ => ?_) (fun _ => ?_) | refine vO (fun _ => ?_) (fun _ => ?_) | refine vP (fun _ => ?_) (fun _ => ?_) | refine vQ (fun _ => ?_) (fun _ => ?_)
       | simp only [↓zH, ↓zJ, ↓zC, ↓zG, ↓xE, ↓xC, ↓zM, ↓yZ, ↓xK, ↓uD, ↓uL, ↓tK, ↓xA, ↓xG, ↓qF, ↓rI, ↓wF, ↓xH, ↓xI, ↓yU, ↓xN, ↓xR, ↓xO, ↓zQ, ↓yH, ↓zR, ↓yI, Bool.not_true, Bool.not_false, yV, zZ])
      rw [List.drop_zero] at ha
      rw [ha]; rfl
    · intro ha t' h2
      repeat' (first
       | refine yF r58 (v := .bool false) h2 (hk _ _ _ ⟨congrArg Value.bool ?_, rfl, rfl⟩)
       | with_reducible first | refine tV (fun _ => ?_) (fun _ => ?_) | refine tW (fun _ => ?_) (fun _ => ?_) | refine vR (fun _ => ?_) (fun _ => ?_) | refine vS (fun _ => ?_) (fun _ => ?_) | refine vL (fun _ => ?_) (fun _ => ?_) | refine vM (fun _ => ?_) (fun _ => ?_) | refine vN (fun _ => ?_) (fun _ => ?_) | refine vO (fun _ => ?_) (fun _ => ?_) | refine vP (fun _ => ?_) (fun _ => ?_) | refine vQ (fun _ => ?_) (fun _ => ?_)
       | simp only [↓zH, ↓zJ, ↓zC, ↓zG, ↓xE, ↓xC, ↓zM, ↓yZ, ↓xK, ↓uD, ↓uL, ↓tK, ↓xA, ↓xG, ↓qF, ↓rI, ↓wF, ↓xH, ↓xI, ↓yU, ↓xN, ↓xR, ↓xO, ↓zQ, ↓yH, ↓zR, ↓yI, Bool.not_true, Bool.not_false, yV, zZ])
      rw [List.drop_zero] at ha
      rw [ha]; rfl
theorem want_comes {lo hi n b : Nat} {h : zD} {ws : List Tx} (w : WordsAt lo hi n h b ws) (x : Tx) : ComesE P 8 116 [ptr b 0, str x] h n (RQ lo hi b h n (wantW x ws) fun _ v => v = .tuple ⟨[]⟩) := by
 refine yR zP mixed (hint := hint116) l116 fun u k hk => ?_
 rw [F116_eq]
 unfold F116
 refine yY (next_comes w) (fun v h' n' q => ?_) (fun c h' n' q => ?_)
 · obtain ⟨q1, q2⟩ := q
   cases ws with
   | nil => cases q2
   | cons s r =>
    obtain ⟨v', q2, rfl, q3⟩ := q2
    injection q2 with q2; subst q2
    unfold wantW at hk
    dsimp only at hk
    cases hb : (s == x) <;> rw [hb] at hk
    all_goals
     repeat' (first
      | rw [vB, hb]
      | refine yA (fun e => ?_) (fun e => ?_)
      | cases e
      | exact yT r116 (hk _ _ _ ⟨q1, rfl⟩)
      | exact qE r116 (hk _ _ _ ⟨q1, _, rfl, rfl, q3⟩)
      | with_reducible first | refine tV (fun _ => ?_) (fun _ => ?_) | refine tW (fun _ => ?_) (fun _ => ?_) | refine vR (fun _ => ?_) (fun _ => ?_) | refine vS (fun _ => ?_) (fun _ => ?_) | refine vL (fun _ => ?_) (fun _ => ?_) | refine vM (fun _ => ?_) (fun _ => ?_) | refine vN (fun _ => ?_) (fun _ => ?_) | refine vO (fun _ => ?_) (fun _ => ?_) | refine vP (fun _ => ?_) (fun _ => ?_) | refine vQ (fun _ => ?_) (fun _ => ?_)
      | simp only [↓zH, ↓zJ, ↓zC, ↓zG, ↓xE, ↓xC, ↓zM, ↓yZ, ↓xK, ↓uD, ↓uL, ↓tK, ↓xA, ↓xG, ↓qF, ↓rI, ↓wF, ↓xH, ↓xI, ↓yU, ↓xN, ↓xR, ↓xO, ↓zQ, ↓yH, ↓zR, ↓yI, Bool.not_true, Bool.not_false, yV, zZ])
 · obtain ⟨q1, q2⟩ := q
   cases ws with
   | nil => injection q2 with q2; subst q2; exact yT r116 (hk _ _ _ ⟨q1, rfl⟩)
   | cons s r => obtain ⟨v', q2, _⟩ := q2; cases q2
theorem name_comes {lo hi n b : Nat} {h : zD} {ws : List Tx} (w : WordsAt lo hi n h b ws) : ComesE P 8 117 [ptr b 0] h n (RQ lo hi b h n (sK ws) fun s v => v = str s) := by
 refine yR zP mixed (hint := hint117) l117 fun u k hk => ?_
 rw [F117_eq]
 unfold F117
 refine yY (next_comes w) (fun v h' n' q => ?_) (fun c h' n' q => ?_)
 · obtain ⟨q1, q2⟩ := q
   cases ws with
   | nil => cases q2
   | cons s r =>
    obtain ⟨v', q2, rfl, q3⟩ := q2
    injection q2 with q2; subst q2
    unfold sK at hk
    dsimp only at hk
    have pn := rW s h' n'
    cases hb : named s <;> rw [hb] at hk pn
    all_goals
     repeat' (first
      | with_reducible refine yN pn ?_
      | refine yA (fun e => ?_) (fun e => ?_)
      | cases e
      | exact yT r117 (hk _ _ _ ⟨q1, rfl⟩)
      | exact yF r117 (v := str s) rfl (hk _ _ _ ⟨q1, _, rfl, rfl, q3⟩)
      | with_reducible first | refine tV (fun _ => ?_) (fun _ => ?_) | refine tW (fun _ => ?_) (fun _ => ?_) | refine vR (fun _ => ?_) (fun _ => ?_) | refine vS (fun _ => ?_) (fun _ => ?_) | refine vL (fun _ => ?_) (fun _ => ?_) | refine vM (fun _ => ?_) (fun _ => ?_) | refine vN (fun _ => ?_) (fun _ => ?_) | refine vO (fun _ => ?_) (fun _ => ?_) | refine vP (fun _ => ?_) (fun _ => ?_) | refine vQ (fun _ => ?_) (fun _ => ?_)
      | simp only [↓zH, ↓zJ, ↓zC, ↓zG, ↓xE, ↓xC, ↓zM, ↓yZ, ↓xK, ↓uD, ↓uL, ↓tK, ↓xA, ↓xG, ↓qF, ↓rI, ↓wF, ↓xH, ↓xI, ↓yU, ↓xN, ↓xR, ↓xO, ↓zQ, ↓yH, ↓zR, ↓yI, Bool.not_true, Bool.not_false, yV, zZ])
 · obtain ⟨q1, q2⟩ := q
   cases ws with
   | nil => injection q2 with q2; subst q2; exact yT r117 (hk _ _ _ ⟨q1, rfl⟩)
   | cons s r => obtain ⟨v', q2, _⟩ := q2; cases q2
theorem end_comes {lo hi n b : Nat} {h : zD} {ws : List Tx} (w : WordsAt lo hi n h b ws) : ComesE P 8 118 [ptr b 0] h n (RQ lo hi b h n (endW ws) fun _ v => v = .tuple ⟨[]⟩) := by
 have w0 := w
 obtain ⟨h1, h2, h2b, h2c, sv, h3, h4, h5⟩ := w
 refine yR zP mixed (hint := hint118) l118 fun u k hk => ?_
 rw [F118_eq]
 unfold F118
 have e1 : zF P 23 h (ptr b 0) = some sv := zI h3 sh23 rfl
 have e2 := xL (P := P) us23 h4 [] h
 cases ws with
 | nil =>
  have e3 : wJ (([] : List Tx).length : Nat) 0 = true := rfl
  repeat' (first
   | refine yA (fun e => ?_) (fun e => ?_)
   | cases e
   | exact qE r118 (hk _ _ _ ⟨TouchE.refl _ _ _, _, rfl, rfl, w0⟩)
   | with_reducible first | refine tV (fun _ => ?_) (fun _ => ?_) | refine tW (fun _ => ?_) (fun _ => ?_) | refine vR (fun _ => ?_) (fun _ => ?_) | refine vS (fun _ => ?_) (fun _ => ?_) | refine vL (fun _ => ?_) (fun _ => ?_) | refine vM (fun _ => ?_) (fun _ => ?_) | refine vN (fun _ => ?_) (fun _ => ?_) | refine vO (fun _ => ?_) (fun _ => ?_) | refine vP (fun _ => ?_) (fun _ => ?_) | refine vQ (fun _ => ?_) (fun _ => ?_)
   | simp only [↓zH, ↓zJ, ↓zC, ↓zG, ↓xE, ↓xC, ↓zM, ↓yZ, ↓xK, ↓uD, ↓uL, ↓tK, ↓xA, ↓xG, ↓qF, ↓rI, ↓wF, ↓xH, ↓xI, ↓yU, ↓xN, ↓xR, ↓xO, ↓zQ, ↓yH, ↓zR, ↓yI, Bool.not_true, Bool.not_false, yV, zZ,  ↓yS, ↓fa189_0, ↓e1, ↓e2, ↓e3, ↓yP])
 | cons s r =>
  have e3 : wJ ((s :: r).length : Nat) 0 = false := by rw [wX]; exact decide_eq_false (by simp only [List.length_cons]; omega)
  repeat' (first
   | refine yA (fun e => ?_) (fun e => ?_)
   | cases e
   | exact yT r118 (hk _ _ _ ⟨TouchE.refl _ _ _, rfl⟩)
   | with_reducible first | refine tV (fun _ => ?_) (fun _ => ?_) | refine tW (fun _ => ?_) (fun _ => ?_) | refine vR (fun _ => ?_) (fun _ => ?_) | refine vS (fun _ => ?_) (fun _ => ?_) | refine vL (fun _ => ?_) (fun _ => ?_) | refine vM (fun _ => ?_) (fun _ => ?_) | refine vN (fun _ => ?_) (fun _ => ?_) | refine vO (fun _ => ?_) (fun _ => ?_) | refine vP (fun _ => ?_) (fun _ => ?_) | refine vQ (fun _ => ?_) (fun _ => ?_)
   | simp only [↓zH, ↓zJ, ↓zC, ↓zG, ↓xE, ↓xC, ↓zM, ↓yZ, ↓xK, ↓uD, ↓uL, ↓tK, ↓xA, ↓xG, ↓qF, ↓rI, ↓wF, ↓xH, ↓xI, ↓yU, ↓xN, ↓xR, ↓xO, ↓zQ, ↓yH, ↓zR, ↓yI, Bool.not_true, Bool.not_false, yV, zZ,  ↓yS, ↓fa189_0, ↓e1, ↓e2, ↓e3, ↓yP])
theorem atoi_bad {m : Int} {h : zD} (n : Nat) (hE : Env m h) (s : Tx) (hs : s.length ≤ 1000000) (hv : ∀ a, Lib.atoiAll s ≠ .ok a) :
 Rets P 8 179 [str s] h n fun v h' n' => ∃ x, v = .tuple #[.int .i64 x, .iface 240 (.pointer (some ⟨n, 0, none⟩))] ∧ Ext h n h' n' := by
 have hs' : (⟨⟨s⟩⟩ : ByteArray).size ≤ 281474976710656 := by show s.length ≤ _; omega
 cases ha : Lib.atoiAll s with
 | ok a => exact absurd ha (hv a)
 | range =>
  refine (err_of_calls h_atoi rfl hE.rng (by omega) (x := Lib.atoiSat s) fun wd ⟨te, pe, hw⟩ => ?_).mono fun v h' n' ⟨e1, e2⟩ => ⟨_, e1, e2⟩
  exact (Any.strconv_Atoi_range Tryz.laysC172 ⟨⟨s⟩⟩ hs' ha _ wd hw (.inr ⟨te, pe, rfl⟩)).mono fun e w' ⟨N, a1, a2, a3, a4⟩ => ⟨N, a1, a2, a4⟩
 | _ =>
  refine (err_of_calls h_atoi rfl hE.syn (by omega) (x := 0) fun wd ⟨te, pe, hw⟩ => ?_).mono fun v h' n' ⟨e1, e2⟩ => ⟨_, e1, e2⟩
  exact (Any.strconv_Atoi_syntax Tryz.laysC172 ⟨⟨s⟩⟩ hs' ha _ wd hw (.inr ⟨te, pe, rfl⟩)).mono fun e w' ⟨N, a1, a2, a3, a4⟩ => ⟨N, a1, a2, a4⟩
theorem err_ne (v : Value) (K : Bool → Bool) : yB wJ P .eql 99 true (.iface 240 v) .nilIface K = K false := by kernel_rfl
theorem err_eq (K : Bool → Bool) : yB wJ P .eql 99 true .nilIface .nilIface K = K true := by kernel_rfl
theorem any_comes {m : Int} {lo hi n b : Nat} {h : zD} {ws : List Tx} (w : WordsAt lo hi n h b ws) (hE : Env m h) (hg : 8 ≤ lo) : ComesE P 8 155 [ptr b 0] h n (RQ lo hi b h n (anyW ws) fun a v => v = I64 a) := by
 refine yR zP mixed (hint := hint155) l155 fun u k hk => ?_
 rw [F155_eq]
 unfold F155
 refine yY (next_comes w) (fun v h' n' q => ?_) (fun c h' n' q => ?_)
 · obtain ⟨q1, q2⟩ := q
   cases ws with
   | nil => cases q2
   | cons s r =>
    obtain ⟨v', q2, rfl, q3⟩ := q2
    injection q2 with q2; subst q2
    have hsl : s.length ≤ 1000000 := by have := w.2.2.2.1 s (by simp); omega
    have hE' : Env m h' := hE.touch q1 (Nat.le_trans hg (Nat.le_trans w.1 (Nat.le_of_lt (Nat.lt_of_lt_of_le w.2.1.1 w.2.1.2)))) (fun x hx => by
     simp at hx; subst hx; exact Nat.le_trans hg w.1)
    unfold anyW at hk
    dsimp only at hk
    by_cases hok : ∃ a, Lib.atoiAll s = .ok a
    · obtain ⟨a, ha⟩ := hok
      rw [anyOf_ok ha] at hk
      have pa := atoi_pure (h := h') n' s a hsl ha
      obtain ⟨b1, b2⟩ := Lib.atoiAll_bounds ha
      have pi := itoa_pure n' hE'.tabs a b1 b2
      have x0 : xD 0 (.tuple #[.int .i64 a, .nilIface]) = some (.int .i64 a) := rfl
      have x1 : xD 1 (.tuple #[.int .i64 a, .nilIface]) = some .nilIface := rfl
      refine wW pa ?_
      cases hb : (Lib.itoa a == s) <;> rw [hb] at hk
      all_goals
       simp only [↓x0, ↓x1, ↓zC, ↓zH, ↓err_eq, ↓yZ]
       refine wW pi ?_
       repeat' (first
        | rw [vB, hb]
        | refine yA (fun e => ?_) (fun e => ?_)
        | cases e
        | exact yT r155 (hk _ _ _ ⟨q1, rfl⟩)
        | exact yF r155 (v := I64 a) rfl (hk _ _ _ ⟨q1, _, rfl, rfl, q3⟩)
        | with_reducible first | refine tV (fun _ => ?_) (fun _ => ?_) | refine tW (fun _ => ?_) (fun _ => ?_) | refine vR (fun _ => ?_) (fun _ => ?_) | refine vS (fun _ => ?_) (fun _ => ?_) | refine vL (fun _ => ?_) (fun _ => ?_) | refine vM (fun _ => ?_) (fun _ => ?_) | refine vN (fun _ => ?_) (fun _ => ?_) | refine vO (fun _ => ?_) (fun _ => ?_) | refine vP (fun _ => ?_) (fun _ => ?_) | refine vQ (fun _ => ?_) (fun _ => ?_)
        | simp only [↓zH, ↓zJ, ↓zC, ↓zG, ↓xE, ↓xC, ↓zM, ↓yZ, ↓xK, ↓uD, ↓uL, ↓tK, ↓xA, ↓xG, ↓qF, ↓rI, ↓wF, ↓xH, ↓xI, ↓yU, ↓xN, ↓xR, ↓xO, ↓zQ, ↓yH, ↓zR, ↓yI, Bool.not_true, Bool.not_false, yV, zZ])
    · rw [anyOf_bad (fun a ha => hok ⟨a, ha⟩)] at hk
      refine uH (atoi_bad n' hE' s hsl (fun a ha => hok ⟨a, ha⟩)) fun v h2 n2 ⟨x, e1, e2⟩ => ?_
      subst e1
      have x0 : xD 0 (.tuple #[.int .i64 x, .iface 240 (.pointer (some ⟨n', 0, none⟩))]) = some (.int .i64 x) := rfl
      have x1 : xD 1 (.tuple #[.int .i64 x, .iface 240 (.pointer (some ⟨n', 0, none⟩))]) = some (.iface 240 (.pointer (some ⟨n', 0, none⟩))) := rfl
      simp only [↓x0, ↓x1, ↓zC, ↓zH, ↓err_ne, ↓xK]
      repeat' (first
       | refine yA (fun e => ?_) (fun e => ?_)
       | cases e
       | exact yT r155 (hk _ _ _ ⟨q1.trans (e2.touch _), rfl⟩)
       | with_reducible first | refine tV (fun _ => ?_) (fun _ => ?_) | refine tW (fun _ => ?_) (fun _ => ?_) | refine vR (fun _ => ?_) (fun _ => ?_) | refine vS (fun _ => ?_) (fun _ => ?_) | refine vL (fun _ => ?_) (fun _ => ?_) | refine vM (fun _ => ?_) (fun _ => ?_) | refine vN (fun _ => ?_) (fun _ => ?_) | refine vO (fun _ => ?_) (fun _ => ?_) | refine vP (fun _ => ?_) (fun _ => ?_) | refine vQ (fun _ => ?_) (fun _ => ?_)
       | simp only [↓zH, ↓zJ, ↓zC, ↓zG, ↓xE, ↓xC, ↓zM, ↓yZ, ↓xK, ↓uD, ↓uL, ↓tK, ↓xA, ↓xG, ↓qF, ↓rI, ↓wF, ↓xH, ↓xI, ↓yU, ↓xN, ↓xR, ↓xO, ↓zQ, ↓yH, ↓zR, ↓yI, Bool.not_true, Bool.not_false, yV, zZ])
 · obtain ⟨q1, q2⟩ := q
   cases ws with
   | nil => injection q2 with q2; subst q2; exact yT r155 (hk _ _ _ ⟨q1, rfl⟩)
   | cons s r => obtain ⟨v', q2, _⟩ := q2; cases q2
theorem number_comes {m : Int} {lo hi n b : Nat} {h : zD} {ws : List Tx} (w : WordsAt lo hi n h b ws) (hE : Env m h) (hg : 8 ≤ lo) : ComesE P 8 122 [ptr b 0] h n (RQ lo hi b h n (xY ws) fun a v => v = I64 a) := by
 refine yR zP mixed (hint := hint122) l122 fun u k hk => ?_
 rw [F122_eq]
 unfold F122
 refine callI_comes (any_comes w hE hg) (fun v h' n' q => ?_) (fun c h' n' q => ?_)
 · obtain ⟨q1, q2⟩ := q
   unfold xY at hk
   cases ha : anyW ws with
   | error e => rw [ha] at q2; cases q2
   | ok p =>
    obtain ⟨a, r⟩ := p
    rw [ha] at q2 hk
    obtain ⟨v', q2, rfl, q3⟩ := q2
    injection q2 with q2; subst q2
    refine ⟨a, rfl, ?_⟩
    dsimp only at hk
    by_cases hs : 0 ≤ a ∧ a ≤ 99999
    · rw [if_pos (show wU a = true from decide_eq_true hs)] at hk
      have e1 : rM 0 a = true := by rw [vA]; exact decide_eq_true hs.1
      have e2 : rM a 99999 = true := by rw [vA]; exact decide_eq_true hs.2
      repeat' (first
       | refine yA (fun e => ?_) (fun e => ?_)
       | cases e
       | exact yF r122 (v := I64 a) rfl (hk _ _ _ ⟨q1, _, rfl, rfl, q3⟩)
       | with_reducible first | refine tV (fun _ => ?_) (fun _ => ?_) | refine tW (fun _ => ?_) (fun _ => ?_) | refine vR (fun _ => ?_) (fun _ => ?_) | refine vS (fun _ => ?_) (fun _ => ?_) | refine vL (fun _ => ?_) (fun _ => ?_) | refine vM (fun _ => ?_) (fun _ => ?_) | refine vN (fun _ => ?_) (fun _ => ?_) | refine vO (fun _ => ?_) (fun _ => ?_) | refine vP (fun _ => ?_) (fun _ => ?_) | refine vQ (fun _ => ?_) (fun _ => ?_)
       | simp only [↓zH, ↓zJ, ↓zC, ↓zG, ↓xE, ↓xC, ↓zM, ↓yZ, ↓xK, ↓uD, ↓uL, ↓tK, ↓xA, ↓xG, ↓qF, ↓rI, ↓wF, ↓xH, ↓xI, ↓yU, ↓xN, ↓xR, ↓xO, ↓zQ, ↓yH, ↓zR, ↓yI, Bool.not_true, Bool.not_false, yV, zZ])
      all_goals omega
    · rw [if_neg (show ¬ wU a = true from fun h => hs (of_decide_eq_true h))] at hk
      repeat' (first
       | refine yA (fun e => ?_) (fun e => ?_)
       | cases e
       | exact yT r122 (hk _ _ _ ⟨q1, rfl⟩)
       | with_reducible first | refine tV (fun _ => ?_) (fun _ => ?_) | refine tW (fun _ => ?_) (fun _ => ?_) | refine vR (fun _ => ?_) (fun _ => ?_) | refine vS (fun _ => ?_) (fun _ => ?_) | refine vL (fun _ => ?_) (fun _ => ?_) | refine vM (fun _ => ?_) (fun _ => ?_) | refine vN (fun _ => ?_) (fun _ => ?_) | refine vO (fun _ => ?_) (fun _ => ?_) | refine vP (fun _ => ?_) (fun _ => ?_) | refine vQ (fun _ => ?_) (fun _ => ?_)
       | simp only [↓zH, ↓zJ, ↓zC, ↓zG, ↓xE, ↓xC, ↓zM, ↓yZ, ↓xK, ↓uD, ↓uL, ↓tK, ↓xA, ↓xG, ↓qF, ↓rI, ↓wF, ↓xH, ↓xI, ↓yU, ↓xN, ↓xR, ↓xO, ↓zQ, ↓yH, ↓zR, ↓yI, Bool.not_true, Bool.not_false, yV, zZ])
      all_goals omega
 · obtain ⟨q1, q2⟩ := q
   unfold xY at hk
   cases ha : anyW ws with
   | error e => rw [ha] at q2 hk; injection q2 with q2; subst q2; exact yT r122 (hk _ _ _ ⟨q1, rfl⟩)
   | ok p => rw [ha] at q2; obtain ⟨v', q2, _⟩ := q2; cases q2
def RQO {α : Type} (lo hi w : Nat) (h : zD) (n : Nat) (e : Nat) (f : α → Value) (r : Res (List α)) : Out → zD → Nat → Prop := fun o h' n' => TouchE [w] h n h' n' ∧
 match r with
 | .ok (l, ws) => ∃ v, o = .ret v ∧ Own n n' h' v e 1 l.length (l.map f) ∧ l.length < 100000 ∧ WordsAt lo hi n' h' w ws
 | .error x => o = .panic (uZ x)
theorem touch_blk {h h' : zD} {n n' lo : Nat} {v : Value} (hn : n ≤ n') (hb : ∀ b, b < n → wB v ≠ some b → zU h' b = zU h b) : TouchE (wB v).toList h n h' n' :=
 ⟨hn, fun b hbn hS => hb b hbn fun e => hS (by rw [e]; simp)⟩
theorem I64_one (x : Int) : (I64 x).oneCell' = true := rfl
theorem sR (x : Tx) : (str x).oneCell' = true := rfl
theorem endA_panic (kn : KN) (ka : KX) (c : zL) (t : Fr) (w : W) : endA kn ka (.panic c) t w = ka (.panic c) t w := rfl
theorem blkA_panic (id : Nat) (kn : KN) (ka : KX) (c : zL) (t : Fr) (w : W) : blkA id kn ka (.panic c) t w = ka (.panic c) t w := rfl
theorem nameW_len {ws r : List Tx} {x : Tx} (h : sK ws = .ok (x, r)) : r.length + 1 ≤ ws.length := by
 cases ws with
 | nil => cases h
 | cons s t =>
  unfold sK at h
  dsimp only at h
  split at h
  · injection h with h; injection h with _ h; subst h; simp
  · cases h
theorem anyW_len {ws r : List Tx} {x : Int} (h : anyW ws = .ok (x, r)) : r.length + 1 ≤ ws.length := by
 cases ws with
 | nil => cases h
 | cons s t =>
  unfold anyW at h
  dsimp only at h
  split at h
  · injection h with h; injection h with _ h; subst h; simp
  · cases h
theorem numberW_len {ws r : List Tx} {x : Int} (h : xY ws = .ok (x, r)) : r.length + 1 ≤ ws.length := by
 unfold xY at h
 split at h
 · cases h
 · rename_i v t e
   split at h
   · injection h with h; injection h with h1 h2; subst h1 h2; exact anyW_len e
   · cases h
theorem restS_loop {m : Int} {lo hi b n0 : Nat} {h0 : zD} (hn0 : hi ≤ n0) (hg : 8 ≤ lo) (u : Option zL) (ka : KX) : ∀ (k : Nat) (ws : List Tx) (acc : List Tx) (sv : Value) (h : zD) (n : Nat) (t : Fr), ws.length ≤ k → WordsAt lo hi n h b ws → Env m h →
 Own n0 n h sv 9 1 acc.length (acc.map str) → acc.length + ws.length < 100000 → TouchE [b] h0 n0 h n → zA t 0 = ptr b 0 → zA t 1 = .func (.func 117) ⟨[ptr b 0]⟩ ⟨[]⟩ → zA t 5 = sv →
 (∀ l ws' t' h' n' sv', restW sK k ws = .ok (l, ws') → zA t' 5 = sv' → TouchE [b] h0 n0 h' n' → Own n0 n' h' sv' 9 1 (acc ++ l).length ((acc ++ l).map str) → (acc ++ l).length < 100000 → WordsAt lo hi n' h' b ws' → ka (.exit 0) t' ⟨[], u, h', n'⟩ = true) →
 (∀ e t' h' n', restW sK k ws = .error e → TouchE [b] h0 n0 h' n' → ka (.panic (uZ e)) t' ⟨[], u, h', n'⟩ = true) →
 lpS P 8 1000002 ⟨119, none, false⟩ t ⟨[], u, h, n⟩ ka = true := by
 intro k
 induction k with
 | zero =>
  intro ws acc sv h n t hk w hE ho hlen ht t0 t1 t5 hok herr
  have hws : ws = [] := List.length_eq_zero_iff.1 (by omega)
  subst hws
  refine xW zP mixed (hint := hint119) l119 lp119_1000002 ?_
  rw [B119_1000002_eq]
  unfold B119_1000002
  rw [t0, t1, t5]
  simp only [↓zG, ↓xC]
  refine sP (len_pure w) ?_
  have e3 : vD 0 (([] : List Tx).length : Nat) = false := rfl
  simp only [↓e3, ↓yP, ↓uL]
  exact hok [] [] _ h n sv rfl rfl ht (by rw [List.append_nil]; exact ho) (by rw [List.append_nil]; omega) w
 | succ k ih =>
  intro ws acc sv h n t hk w hE ho hlen ht t0 t1 t5 hok herr
  refine xW zP mixed (hint := hint119) l119 lp119_1000002 ?_
  rw [B119_1000002_eq]
  unfold B119_1000002
  rw [t0, t1, t5]
  simp only [↓zG, ↓xC]
  refine sP (len_pure w) ?_
  cases ws with
  | nil =>
   have e3 : vD 0 (([] : List Tx).length : Nat) = false := rfl
   simp only [↓e3, ↓yP, ↓uL]
   exact hok [] [] _ h n sv rfl rfl ht (by rw [List.append_nil]; exact ho) (by rw [List.append_nil]; omega) w
  | cons s r =>
   have e3 : vD 0 ((s :: r).length : Nat) = true := by rw [yC]; exact decide_eq_true (by simp only [List.length_cons]; omega)
   simp only [↓e3, ↓yP, ↓uD, ↓xO]
   have hn8 : 8 ≤ n := Nat.le_trans hg (Nat.le_trans w.1 (Nat.le_of_lt (Nat.lt_of_lt_of_le w.2.1.1 w.2.1.2)))
   have hn80 : 8 ≤ n0 := by have h8 := w.2.1.1; have h9 := w.1; omega
   refine rO (first := [ptr b 0]) (cap := []) (args := []) (name_comes w) (fun v h1 n1 q => ?_) (fun c h1 n1 q => ?_)
   · obtain ⟨q1, q2⟩ := q
     cases ha : sK (s :: r) with
     | error e => rw [ha] at q2; cases q2
     | ok p =>
      obtain ⟨x, r'⟩ := p
      rw [ha] at q2
      obtain ⟨v', q2, rfl, q3⟩ := q2
      injection q2 with q2; subst q2
      have hb : b < n := Nat.lt_of_lt_of_le w.2.1.1 w.2.1.2
      have hb0 : lo ≤ b := w.1
      have ho1 := ho.touch q1 (fun x hx hS => by have := (ho.ge x hx).1; have := w.2.1.1; simp at hS; omega)
      refine uJ on23 (sR x) fun h2 c2 e2 => ?_
      have ho2 := ho1.touch (e2.touch []) (fun _ _ h => by cases h)
      have hrl : r'.length + 1 ≤ (s :: r).length := nameW_len ha
      simp only [List.length_cons] at hrl hlen hk
      refine pG ap23 ho2 (by have := ht.1; have := q1.1; omega) c2 rfl (by simpa using sR x) (by omega) fun sv' h3 n3 o3 n3le k3 => ?_
      have q4 := q3.touch (e2.touch []) (fun _ h => by cases h)
      have t3 := touch_blk (lo := 0) n3le k3
      have hS : ∀ x ∈ (wB sv).toList, n0 ≤ x := fun x hx => (ho.ge x (by simpa using hx)).1
      have q5 := q4.touch t3 (fun x hx => .inr (Nat.le_trans hn0 (hS x hx)))
      have tt : TouchE [b] h0 n0 h3 n3 := ((ht.trans q1).trans (e2.touch _)).step t3 (fun x hx => .inr (hS x hx))
      have hEn : Env m h3 := ((hE.touch q1 (by omega) (fun x hx => by simp at hx; omega)).touch (e2.touch []) (by have := q1.1; omega) (fun _ h => by cases h)).touch t3 (by have := q1.1; omega) (fun x hx => by have := hS x hx; omega)
      simp only [↓fg0, ↓fg1, ↓fg5, ↓zG, ↓xC]
      have eL : (acc ++ [x]).length = acc.length + 1 := by simp
      have eM : (acc ++ [x]).map str = acc.map str ++ [str x] := by simp
      refine ih r' (acc ++ [x]) sv' h3 n3 _ (by omega) q5 hEn (by rw [eL, eM]; exact o3) (by rw [eL]; omega) tt rfl rfl rfl ?_ ?_
      · intro l ws' t' h' n' sv'' hr s5 tt' oo' ll' ww'
        refine hok (x :: l) ws' t' h' n' sv'' (restW_ok ha hr) s5 tt' (by rw [List.append_assoc] at oo'; exact oo') (by rw [List.append_assoc] at ll'; exact ll') ww'
      · intro e t' h' n' hr tt'
        exact herr e t' h' n' (restW_er2 ha hr) tt'
   · obtain ⟨q1, q2⟩ := q
     cases ha : sK (s :: r) with
     | error e => rw [ha] at q2; injection q2 with q2; subst q2; exact herr e _ h1 n1 (restW_er1 ha) (ht.trans q1)
     | ok p => rw [ha] at q2; obtain ⟨v', q2, _⟩ := q2; cases q2
theorem restS_comes {m : Int} {lo hi n b : Nat} {h : zD} {ws : List Tx} (w : WordsAt lo hi n h b ws) (hE : Env m h) (hg : 8 ≤ lo) :
 ComesE P 8 119 [ptr b 0, .func (.func 117) ⟨[ptr b 0]⟩ ⟨[]⟩] h n (RQO lo hi b h n 9 str (tF ws)) := by
 refine yR zP mixed (hint := hint119) l119 fun u k hk => ?_
 rw [F119_eq]
 unfold F119
 refine restS_loop (m := m) (n0 := n) (h0 := h) w.2.1.2 hg u _ ws.length ws [] (.slice none 0 0) h n _ (Nat.le_refl _) w hE (.inl ⟨rfl, rfl, rfl⟩) (by have := w.2.2.1; simpa using this) (TouchE.refl _ _ _) rfl rfl rfl ?_ ?_
 · intro l ws' t' h' n' sv' hr s5 tt oo ll ww
   have hr' : tF ws = .ok (l, ws') := hr
   rw [hr'] at hk
   simp only [↓zQ, ↓zR, ↓zG, ↓xC, s5]
   exact yF r119 rfl (hk _ _ _ ⟨tt, _, rfl, oo, ll, ww⟩)
 · intro e t' h' n' hr tt
   have hr' : tF ws = .error e := hr
   rw [hr'] at hk
   simp only [↓endA_panic, ↓blkA_panic]
   exact yT r119 (hk _ _ _ ⟨tt, rfl⟩)
theorem restI_loop {m : Int} {lo hi b n0 : Nat} {h0 : zD} (hn0 : hi ≤ n0) (hg : 8 ≤ lo) (u : Option zL) (ka : KX) : ∀ (k : Nat) (ws : List Tx) (acc : List Int) (sv : Value) (h : zD) (n : Nat) (t : Fr), ws.length ≤ k → WordsAt lo hi n h b ws → Env m h →
 Own n0 n h sv 3 1 acc.length (acc.map I64) → acc.length + ws.length < 100000 → TouchE [b] h0 n0 h n → zA t 0 = ptr b 0 → zA t 1 = .func (.func 122) ⟨[ptr b 0]⟩ ⟨[]⟩ → zA t 5 = sv →
 (∀ l ws' t' h' n' sv', restW xY k ws = .ok (l, ws') → zA t' 5 = sv' → TouchE [b] h0 n0 h' n' → Own n0 n' h' sv' 3 1 (acc ++ l).length ((acc ++ l).map I64) → (acc ++ l).length < 100000 → WordsAt lo hi n' h' b ws' → ka (.exit 0) t' ⟨[], u, h', n'⟩ = true) →
 (∀ e t' h' n', restW xY k ws = .error e → TouchE [b] h0 n0 h' n' → ka (.panic (uZ e)) t' ⟨[], u, h', n'⟩ = true) →
 lpS P 8 1000002 ⟨121, none, false⟩ t ⟨[], u, h, n⟩ ka = true := by
 intro k
 induction k with
 | zero =>
  intro ws acc sv h n t hk w hE ho hlen ht t0 t1 t5 hok herr
  have hws : ws = [] := List.length_eq_zero_iff.1 (by omega)
  subst hws
  refine xW zP mixed (hint := hint121) l121 lp121_1000002 ?_
  rw [B121_1000002_eq]
  unfold B121_1000002
  rw [t0, t1, t5]
  simp only [↓zG, ↓xC]
  refine sP (len_pure w) ?_
  have e3 : vD 0 (([] : List Tx).length : Nat) = false := rfl
  simp only [↓e3, ↓yP, ↓uL]
  exact hok [] [] _ h n sv rfl rfl ht (by rw [List.append_nil]; exact ho) (by rw [List.append_nil]; omega) w
 | succ k ih =>
  intro ws acc sv h n t hk w hE ho hlen ht t0 t1 t5 hok herr
  refine xW zP mixed (hint := hint121) l121 lp121_1000002 ?_
  rw [B121_1000002_eq]
  unfold B121_1000002
  rw [t0, t1, t5]
  simp only [↓zG, ↓xC]
  refine sP (len_pure w) ?_
  cases ws with
  | nil =>
   have e3 : vD 0 (([] : List Tx).length : Nat) = false := rfl
   simp only [↓e3, ↓yP, ↓uL]
   exact hok [] [] _ h n sv rfl rfl ht (by rw [List.append_nil]; exact ho) (by rw [List.append_nil]; omega) w
  | cons s r =>
   have e3 : vD 0 ((s :: r).length : Nat) = true := by rw [yC]; exact decide_eq_true (by simp only [List.length_cons]; omega)
   simp only [↓e3, ↓yP, ↓uD, ↓xO]
   have hn8 : 8 ≤ n := Nat.le_trans hg (Nat.le_trans w.1 (Nat.le_of_lt (Nat.lt_of_lt_of_le w.2.1.1 w.2.1.2)))
   have hn80 : 8 ≤ n0 := by have h8 := w.2.1.1; have h9 := w.1; omega
   refine invokeI_comes (first := [ptr b 0]) (cap := []) (args := []) (number_comes w hE hg) (fun v h1 n1 q => ?_) (fun c h1 n1 q => ?_)
   · obtain ⟨q1, q2⟩ := q
     cases ha : xY (s :: r) with
     | error e => rw [ha] at q2; cases q2
     | ok p =>
      obtain ⟨x, r'⟩ := p
      rw [ha] at q2
      obtain ⟨v', q2, rfl, q3⟩ := q2
      injection q2 with q2; subst q2
      refine ⟨x, rfl, ?_⟩
      have hb : b < n := Nat.lt_of_lt_of_le w.2.1.1 w.2.1.2
      have hb0 : lo ≤ b := w.1
      have ho1 := ho.touch q1 (fun x hx hS => by have := (ho.ge x hx).1; have := w.2.1.1; simp at hS; omega)
      refine uJ on40 (I64_one x) fun h2 c2 e2 => ?_
      have ho2 := ho1.touch (e2.touch []) (fun _ _ h => by cases h)
      have hrl : r'.length + 1 ≤ (s :: r).length := numberW_len ha
      simp only [List.length_cons] at hrl hlen hk
      refine pG ap40 ho2 (by have := ht.1; have := q1.1; omega) c2 rfl (by simpa using I64_one x) (by omega) fun sv' h3 n3 o3 n3le k3 => ?_
      have q4 := q3.touch (e2.touch []) (fun _ h => by cases h)
      have t3 := touch_blk (lo := 0) n3le k3
      have hS : ∀ x ∈ (wB sv).toList, n0 ≤ x := fun x hx => (ho.ge x (by simpa using hx)).1
      have q5 := q4.touch t3 (fun x hx => .inr (Nat.le_trans hn0 (hS x hx)))
      have tt : TouchE [b] h0 n0 h3 n3 := ((ht.trans q1).trans (e2.touch _)).step t3 (fun x hx => .inr (hS x hx))
      have hEn : Env m h3 := ((hE.touch q1 (by omega) (fun x hx => by simp at hx; omega)).touch (e2.touch []) (by have := q1.1; omega) (fun _ h => by cases h)).touch t3 (by have := q1.1; omega) (fun x hx => by have := hS x hx; omega)
      simp only [↓fg0, ↓fg1, ↓fg5, ↓zG, ↓xC]
      have eL : (acc ++ [x]).length = acc.length + 1 := by simp
      have eM : (acc ++ [x]).map I64 = acc.map I64 ++ [I64 x] := by simp
      refine ih r' (acc ++ [x]) sv' h3 n3 _ (by omega) q5 hEn (by rw [eL, eM]; exact o3) (by rw [eL]; omega) tt rfl rfl rfl ?_ ?_
      · intro l ws' t' h' n' sv'' hr s5 tt' oo' ll' ww'
        refine hok (x :: l) ws' t' h' n' sv'' (restW_ok ha hr) s5 tt' (by rw [List.append_assoc] at oo'; exact oo') (by rw [List.append_assoc] at ll'; exact ll') ww'
      · intro e t' h' n' hr tt'
        exact herr e t' h' n' (restW_er2 ha hr) tt'
   · obtain ⟨q1, q2⟩ := q
     cases ha : xY (s :: r) with
     | error e => rw [ha] at q2; injection q2 with q2; subst q2; exact herr e _ h1 n1 (restW_er1 ha) (ht.trans q1)
     | ok p => rw [ha] at q2; obtain ⟨v', q2, _⟩ := q2; cases q2
theorem restI_comes {m : Int} {lo hi n b : Nat} {h : zD} {ws : List Tx} (w : WordsAt lo hi n h b ws) (hE : Env m h) (hg : 8 ≤ lo) :
 ComesE P 8 121 [ptr b 0, .func (.func 122) ⟨[ptr b 0]⟩ ⟨[]⟩] h n (RQO lo hi b h n 3 I64 (vJ ws)) := by
 refine yR zP mixed (hint := hint121) l121 fun u k hk => ?_
 rw [F121_eq]
 unfold F121
 refine restI_loop (m := m) (n0 := n) (h0 := h) w.2.1.2 hg u _ ws.length ws [] (.slice none 0 0) h n _ (Nat.le_refl _) w hE (.inl ⟨rfl, rfl, rfl⟩) (by have := w.2.2.1; simpa using this) (TouchE.refl _ _ _) rfl rfl rfl ?_ ?_
 · intro l ws' t' h' n' sv' hr s5 tt oo ll ww
   have hr' : vJ ws = .ok (l, ws') := hr
   rw [hr'] at hk
   simp only [↓zQ, ↓zR, ↓zG, ↓xC, s5]
   exact yF r121 rfl (hk _ _ _ ⟨tt, _, rfl, oo, ll, ww⟩)
 · intro e t' h' n' hr tt
   have hr' : vJ ws = .error e := hr
   rw [hr'] at hk
   simp only [↓endA_panic, ↓blkA_panic]
   exact yT r121 (hk _ _ _ ⟨tt, rfl⟩)
def uM (i : Ins) (sv : Value) : List Value := [I64 i.kind, I64 i.d, I64 i.a, I64 i.b, I64 i.n, str i.name, sv, I64 i.t, I64 i.f]
def InsAt (lo n : Nat) (h : zD) (ib : Nat) (i : Ins) : Prop := ib < n ∧ ∃ sv, Cel h ib (50 + 1) (uM i sv) ∧ Own lo n h sv 3 1 i.args.length (i.args.map I64) ∧ i.args.length < 100000 ∧ wB sv ≠ some ib
theorem InsAt.touch {lo n n' ib : Nat} {h h' : zD} {i : Ins} {S : List Nat} (w : InsAt lo n h ib i) (t : TouchE S h n h' n') (h1 : ib ∉ S) (hS : ∀ x ∈ S, x < lo) : InsAt lo n' h' ib i := by
 obtain ⟨a, sv, b, c, d, e⟩ := w
 exact ⟨Nat.lt_of_lt_of_le a t.1, sv, b.touch t a h1, c.touch t (fun x hx hxS => by have := (c.ge x hx).1; have := hS x hxS; omega), d, e⟩
theorem InsAt.low {lo lo' n ib : Nat} {h : zD} {i : Ins} (w : InsAt lo n h ib i) (hl : lo' ≤ lo) : InsAt lo' n h ib i := by
 obtain ⟨a, sv, b, c, d⟩ := w
 exact ⟨a, sv, b, c.low hl, d⟩
theorem InsAt.store {lo n ib off : Nat} {h : zD} {i i' : Ins} {v : Value} {ty : TypeId} {K : KH} (w : InsAt lo n h ib i) (hs : yG P ty = .scal) (ho : off < 9) (hv : v.oneCell' = true) (he : ∀ sv, (uM i sv).set off v = uM i' sv) (ha : i'.args = i.args)
 (hlt : ib < lo ∨ True) (hK : ∀ h', InsAt lo n h' ib i' → TouchE [ib] h n h' n → K h' n undef = true) : zV P ty (.pointer (some ⟨ib, off, none⟩)) v h n K = true := by
 obtain ⟨a, sv, b, c, d, e⟩ := w
 refine xQ b hs (by show off < 9; exact ho) hv fun h' c' k' => ?_
 have t : TouchE [ib] h n h' n := zS k' (by simp)
 refine hK h' ⟨a, sv, ?_, ?_, ?_, e⟩ t
 · rw [← he]; exact c'
 · rw [ha]; exact c.touch t (fun x hx hxS => by simp at hxS; subst hxS; exact e hx)
 · rw [ha]; exact d
def RQI (lo hi w ib : Nat) (h : zD) (n : Nat) (r : Res Ins) : Out → zD → Nat → Prop := fun o h' n' => TouchE [w, ib] h n h' n' ∧
 match r with
 | .ok (i, ws) => o = .ret (.tuple ⟨[]⟩) ∧ InsAt n n' h' ib i ∧ WordsAt lo hi n' h' w ws
 | .error e => o = .panic (uZ e)
def RQV (lo hi w : Nat) (h : zD) (n : Nat) (r : Res Ins) : Out → zD → Nat → Prop := fun o h' n' => TouchE [w] h n h' n' ∧
 match r with
 | .ok (i, ws) => ∃ sv, o = .ret (.agg ⟨uM i sv⟩) ∧ Own n n' h' sv 3 1 i.args.length (i.args.map I64) ∧ i.args.length < 100000 ∧ WordsAt lo hi n' h' w ws
 | .error e => o = .panic (uZ e)
theorem called_comes {m : Int} {lo hi n b ib : Nat} {h : zD} {ws : List Tx} {i : Ins} {sv0 : Value} (w : WordsAt lo hi n h b ws) (hE : Env m h) (hg : 8 ≤ lo) (hc : Cel h ib (50 + 1) (uM i sv0)) (hib : ib < n) (hhi : hi ≤ ib) :
 ComesE P 8 158 [ptr ib 0, ptr b 0] h n (RQI lo hi b ib h n (rG i ws)) := by
 have hn8 : 8 ≤ n := Nat.le_trans hg (Nat.le_trans w.1 (Nat.le_of_lt (Nat.lt_of_lt_of_le w.2.1.1 w.2.1.2)))
 have hb8 : 8 ≤ b := Nat.le_trans hg w.1
 have hbi : b ≠ ib := fun e => by have := w.2.1.1; omega
 have hi8 : 8 ≤ ib := by have h8 := w.2.1.1; omega
 refine yR zP mixed (hint := hint158) l158 fun u k hk => ?_
 rw [F158_eq]
 unfold F158
 unfold rG at hk
 refine yY (name_comes w) (fun v h1 n1 q => ?_) (fun c h1 n1 q => ?_)
 · obtain ⟨q1, q2⟩ := q
   cases ha : sK ws with
   | error e => rw [ha] at q2; cases q2
   | ok p =>
    obtain ⟨s, r⟩ := p
    rw [ha] at q2 hk
    obtain ⟨v', q2, rfl, w1⟩ := q2
    injection q2 with q2; subst q2
    dsimp only at hk
    have c1 := hc.touch q1 hib (by simp; exact fun e => hbi e.symm)
    try simp only [↓zC, ↓yS, ↓tG, ↓qK, ↓sH]
    refine xQ c1 sh3 (by simp [uM]) rfl fun h2 c2 k2 => ?_
    try simp only [↓zC, ↓yS, ↓tG, ↓qK, ↓sH]
    refine xQ c2 sh9 (by simp [uM]) rfl fun h3 c3 k3 => ?_
    have t3 : TouchE [b, ib] h n h3 n1 := ((q1.mono (by simp)).trans (zS k2 (by simp))).trans (zS k3 (by simp))
    have t13 : TouchE [ib] h1 n1 h3 n1 := (zS k2 (by simp)).trans (zS k3 (by simp))
    have w3 := w1.touch t13 (fun x hx => by simp at hx; subst hx; exact .inr hhi)
    have hE3 : Env m h3 := hE.touch t3 hn8 (fun x hx => by simp at hx; rcases hx with rfl | rfl <;> omega)
    simp only [↓xE]
    refine yY (restI_comes w3 hE3 hg) (fun v h4 n4 q => ?_) (fun c h4 n4 q => ?_)
    · obtain ⟨q4, q5⟩ := q
      cases hb : vJ r with
      | error e => rw [hb] at q5; cases q5
      | ok p =>
       obtain ⟨l, r'⟩ := p
       rw [hb] at q5 hk
       obtain ⟨v', q5, o4, l4, w4⟩ := q5
       injection q5 with q5; subst q5
       dsimp only at hk
       have c4 := c3.touch q4 (Nat.lt_of_lt_of_le hib q1.1) (by simp; exact fun e => hbi e.symm)
       try simp only [↓zC, ↓yS, ↓tG, ↓qK, ↓sH]
       refine xQ c4 sh40 (by simp [uM]) o4.one fun h5 c5 k5 => ?_
       have t45 : TouchE [ib] h4 n4 h5 n4 := zS k5 (by simp)
       have hib1 : ib < n1 := Nat.lt_of_lt_of_le hib q1.1
       have o5 := o4.touch t45 (fun x hx hS => by have := (o4.ge x hx).1; simp at hS; omega)
       have w5 := w4.touch t45 (fun x hx => by simp at hx; subst hx; exact .inr hhi)
       have t5 : TouchE [b, ib] h n h5 n4 := (t3.step (q4.mono (S' := [b, ib]) (by simp)) (fun x hx => .inl hx)).trans (t45.mono (by simp))
       have e1 : zF P 40 h5 (.pointer (some ⟨ib, 6, none⟩)) = some v := zI c5 sh40 (by simp [uM])
       have e2 := xL (P := P) us40 (o5.row (Nat.le_refl 1)) [] h5
       try simp only [↓zC, ↓yS, ↓tG, ↓qK, ↓sH, ↓e1, ↓e2, ↓zH]
       by_cases hl : l.length ≤ 16
       · rw [if_pos hl] at hk
         have e3 : rM (l.length : Nat) 16 = true := by rw [vA]; exact decide_eq_true (by omega)
         simp only [↓e3, ↓yP]
         refine yA (fun _ => ?_) (fun e => by cases e)
         refine qE r158 (hk _ _ _ ⟨t5, rfl, ⟨Nat.lt_of_lt_of_le hib t5.1, v, c5, o5.low q1.1, l4, fun e => ?_⟩, w5⟩)
         have := (o4.ge _ e).1; omega
       · rw [if_neg hl] at hk
         have e3 : rM (l.length : Nat) 16 = false := by rw [vA]; exact decide_eq_false (by omega)
         simp only [↓e3, ↓yP]
         refine yA (fun e => by cases e) (fun _ => ?_)
         exact yT r158 (hk _ _ _ ⟨t5, rfl⟩)
    · obtain ⟨q4, q5⟩ := q
      cases hb : vJ r with
      | error e => rw [hb] at q5 hk; injection q5 with q5; subst q5; exact yT r158 (hk _ _ _ ⟨t3.step (q4.mono (S' := [b, ib]) (by simp)) (fun x hx => .inl hx), rfl⟩)
      | ok p => rw [hb] at q5; obtain ⟨v', q5, _⟩ := q5; cases q5
 · obtain ⟨q1, q2⟩ := q
   cases ha : sK ws with
   | error e => rw [ha] at q2 hk; injection q2 with q2; subst q2; exact yT r158 (hk _ _ _ ⟨q1.mono (by simp), rfl⟩)
   | ok p => rw [ha] at q2; obtain ⟨v', q2, _⟩ := q2; cases q2
theorem row_new {h : zD} {n e : Nat} {cs : List Value} (hl : cs.length < inf) : Row (n + 1) (h.set .dead (mkC cs 0 0) n) (.slice (some ⟨n, 0, none⟩) cs.length cs.length) e 1 cs.length cs := by
 refine .inr ⟨n, 0, cs.length, cs.length, 0, 0, Nat.lt_succ_self _, rfl, by simp, ?_, by omega, fun j v ej => ?_, .inl ⟨hl, Nat.le_refl _⟩⟩
 · rw [zK, if_pos rfl]; rfl
 · unfold xM
   rw [zK, if_pos rfl, Nat.zero_add]
   exact (uV cs 0 0 j).trans ej
theorem splitL_mem (c : UInt8) : ∀ (s x : Tx), x ∈ wR c s → x.length ≤ s.length := by
 intro s
 induction s with
 | nil => intro x hx; simp [wR] at hx; subst hx; exact Nat.le_refl _
 | cons a r ih =>
  intro x hx
  unfold wR at hx
  split at hx
  · rcases List.mem_cons.1 hx with rfl | hx
    · simp
    · have := ih x hx; simp only [List.length_cons]; omega
  · split at hx
    · rename_i e
      exact absurd e (splitL_ne c r)
    · rename_i y t e
      rcases List.mem_cons.1 hx with rfl | hx
      · have := ih y (by rw [e]; simp); simp only [List.length_cons]; omega
      · have := ih x (by rw [e]; exact List.mem_cons_of_mem _ hx); simp only [List.length_cons]; omega
theorem of_loop (ws : List Tx) (p sv : Value) (h : zD) (n : Nat) (u : Option zL) (ka : KX) (hr : Row n h sv 9 1 ws.length (ws.map str)) (hlen : ws.length < 100000) : ∀ (m i : Nat), m + i = ws.length → ∀ t, zA t 7 = p → zA t 29 = sv → zA t 30 = I64 (ws.length : Nat) → zA t 31 = I64 (i : Nat) →
 ((ws.drop i).all (fun s => !(s == [])) = true → ∀ t', zA t' 7 = p → ka (.exit 0) t' ⟨[], u, h, n⟩ = true) → ((ws.drop i).all (fun s => !(s == [])) = false → ∀ t', ka (.panic (uZ 3)) t' ⟨[], u, h, n⟩ = true) →
 lpS P 8 1000005 ⟨162, none, false⟩ t ⟨[], u, h, n⟩ ka = true := by
 intro m
 induction m with
 | zero =>
  intro i hi t t7 t29 t30 t31 hE hR
  refine xW zP mixed (hint := hint162) l162 lp162_1000005 ?_
  rw [B162_1000005_eq]
  unfold B162_1000005
  rw [t7, t29, t30, t31]
  have e3 : vD (i : Nat) (ws.length : Nat) = false := by rw [yC]; exact decide_eq_false (by omega)
  simp only [↓zG, ↓zH, ↓xC, ↓e3, ↓yP, ↓uL]
  refine hE ?_ _ rfl
  rw [List.drop_eq_nil_of_le (by omega)]; rfl
 | succ m ih =>
  intro i hi t t7 t29 t30 t31 hE hR
  have hlt : i < ws.length := by omega
  have hd : ws.drop i = ws[i] :: ws.drop (i + 1) := List.drop_eq_getElem_cons hlt
  obtain ⟨q, q1, q2⟩ := xX (P := P) (k := .i64) hr ix23 (tl := 9) sh9 (i := i) (x := str ws[i]) (by rw [List.getElem?_map, List.getElem?_eq_getElem hlt]; rfl)
  generalize ws[i] = y at hd q2
  rw [hd] at hE hR
  refine xW zP mixed (hint := hint162) l162 lp162_1000005 ?_
  rw [B162_1000005_eq]
  unfold B162_1000005
  rw [t7, t29, t30, t31]
  have e3 : vD (i : Nat) (ws.length : Nat) = true := by rw [yC]; exact decide_eq_true (by omega)
  simp only [↓zG, ↓zH, ↓xC, ↓e3, ↓yP, ↓uD, ↓xO, ↓q1, ↓q2, ↓zC]
  have ec : ((ByteArray.mk #[]).data.toList : List UInt8) = [] := rfl
  rw [cmpS_ne, ec]
  have ea : (y :: ws.drop (i + 1)).all (fun s => !(s == [])) = (!(y == []) && (ws.drop (i + 1)).all (fun s => !(s == []))) := rfl
  rw [ea] at hE hR
  show yX (loS P 8) 120 [.bool (!(y == [])), I64 3] h n _ _ = true
  refine yA (fun hb => ?_) (fun hb => ?_)
  · rw [hb] at hE hR
    simp only [↓fg7, ↓fg29, ↓fg30, ↓fg31, ↓zG, ↓zH, ↓xC]
    refine sF (by omega) ?_
    exact ih (i + 1) (by omega) _ rfl rfl rfl rfl hE hR
  · exact hR (by rw [hb]; rfl) _
theorem of_comes {m : Int} {h : zD} {n : Nat} (hE : Env m h) (hn : 8 ≤ n) (line head : Tx) (hl : line.length < 90000) :
 ComesE P 8 162 [str line, str head] h n fun o h' n' => Ext h n h' n' ∧ (match ofW line head with
  | .ok ws => ∃ b, o = .ret (ptr b 0) ∧ WordsAt n n' n' h' b ws
  | .error e => o = .panic (uZ e)) := by
 refine yR zP mixed (hint := hint162) l162 fun u k hk => ?_
 rw [F162_eq]
 unfold F162
 unfold ofW at hk
 refine wW (cutPrefix_pure n line head) ?_
 have x0 : ∀ a b, xD 0 (.tuple #[str a, .bool b]) = some (str a) := fun _ _ => rfl
 have x1 : ∀ a b, xD 1 (.tuple #[str a, .bool b]) = some (.bool b) := fun _ _ => rfl
 simp only [↓x0, ↓x1, ↓zC, ↓zJ]
 have htl : (Lib.trimPrefix line head).length ≤ line.length := by
  unfold Lib.trimPrefix
  split
  · rw [List.length_drop]; omega
  · exact Nat.le_refl _
 have ec : ((ByteArray.mk #[]).data.toList : List UInt8) = [] := rfl
 have hgo : (Lib.hasPrefix line head && !(Lib.trimPrefix line head == [])) = false → ∀ t, zE P (loS P 8) 162 k (.panic (uZ 3)) t ⟨[], u, h, n⟩ = true := fun e t => by
  rw [e, if_neg Bool.false_ne_true] at hk
  exact yT r162 (hk _ _ _ ⟨Ext.refl _ _, rfl⟩)
 cases hp : Lib.hasPrefix line head with
 | false =>
  simp only [↓xK, ↓xG, ↓zJ]
  refine yA (fun e => by cases e) (fun _ => ?_)
  exact hgo (by rw [hp]; rfl) _
 | true =>
  simp only [↓yZ, ↓xA, ↓zJ]
  rw [cmpS_ne, ec]
  simp only [↓zJ]
  show yX (loS P 8) 120 [.bool (!(Lib.trimPrefix line head == [])), I64 3] h n _ _ = true
  refine yA (fun hb => ?_) (fun hb => ?_)
  · rw [hp, hb] at hk
    rw [if_pos (show (true && true) = true from rfl)] at hk
    generalize Lib.trimPrefix line head = r at *
    refine uH (split_rets n hE.tabs r 32 (by omega)) fun v h1 n1 ⟨e1, e2, e3⟩ => ?_
    subst e1 e2 e3
    have hsl : (wR 32 r).length < 100000 := by rw [splitL_length]; have := List.count_le_length (a := 32) (l := r); omega
    have hml : ∀ x ∈ wR 32 r, x.length < 1000000 := fun x hx => by have := splitL_mem 32 r x hx; omega
    generalize wR 32 r = ws at *
    have e1 : xP P 189 [(0, .slice (some ⟨n, 0, none⟩) ws.length ws.length)] = some (.agg ⟨[.slice (some ⟨n, 0, none⟩) ws.length ws.length]⟩) := by kernel_rfl
    simp only [↓e1, ↓zC]
    have hr : Row (n + 1) (h.set .dead (mkC (ws.map str) 0 0) n) (.slice (some ⟨n, 0, none⟩) ws.length ws.length) 9 1 ws.length (ws.map str) := by
     have := row_new (h := h) (n := n) (e := 9) (cs := ws.map str) (by unfold inf; simp; omega)
     rw [List.length_map] at this
     exact this
    refine tL (by simp [cellsOf, Value.oneCell']) fun h2 c2 x2 => ?_
    have hr2 := hr.ext x2
    have e2 : zF P 23 h2 (ptr (n + 1) 0) = some (.slice (some ⟨n, 0, none⟩) ws.length ws.length) := zI c2 sh23 rfl
    have e3 := xL (P := P) us23 hr2 [] h2
    have xx : Ext h n h2 (n + 1 + 1) := (set_ext).trans x2
    simp only [↓zC, ↓yS, ↓fa189_0, ↓e2, ↓e3, ↓zH]
    refine of_loop ws (ptr (n + 1) 0) _ h2 (n + 1 + 1) u _ hr2 (by omega) ws.length 0 (Nat.add_zero _) _ rfl rfl rfl rfl ?_ ?_
    · intro ha t' t7
      rw [List.drop_zero] at ha
      rw [if_pos ha] at hk
      simp only [↓zQ, ↓zR, ↓zG, ↓xC, t7]
      refine yF r162 rfl (hk _ _ _ ⟨xx, n + 1, rfl, by omega, ⟨by omega, Nat.le_refl _⟩, by omega, hml, _, c2, hr2, fun x hx => ?_⟩)
      have hx' : some n = some x := hx
      injection hx' with hx'
      omega
    · intro ha t'
      rw [List.drop_zero] at ha
      rw [if_neg (by rw [ha]; exact Bool.false_ne_true)] at hk
      simp only [↓endA_panic, ↓blkA_panic]
      exact yT r162 (hk _ _ _ ⟨xx, rfl⟩)
  · exact hgo (by rw [hp, hb]; rfl) _
structure J (m : Int) (lo hi b rb ib n0 : Nat) (h0 : zD) (n : Nat) (h : zD) (i : Ins) (ws : List Tx) : Prop where
 t : TouchE [b] h0 n0 h n
 env : Env m h
 w : WordsAt lo hi n h b ws
 r : ∃ vs, vs.length = 9 ∧ Cel h rb (50 + 1) vs
 i : InsAt (rb + 1) n h ib i
 g : 8 ≤ lo
 hi0 : hi ≤ n0
 rb0 : n0 ≤ rb ∧ rb < n
 ib0 : n0 ≤ ib ∧ rb ≠ ib
section
variable {m : Int} {lo hi b rb ib n0 n : Nat} {h0 h : zD} {i : Ins} {ws : List Tx}
theorem J.b8 (j : J m lo hi b rb ib n0 h0 n h i ws) : 8 ≤ b ∧ b < hi ∧ b < n ∧ n0 ≤ n ∧ ib < n := by
 have h1 := j.g; have h2 := j.w.1; have h3 := j.w.2.1; have h4 := j.t.1; have h5 := j.i.1
 omega
theorem J.call (j : J m lo hi b rb ib n0 h0 n h i ws) {h' : zD} {n' : Nat} {ws' : List Tx} (t : TouchE [b] h n h' n') (w : WordsAt lo hi n' h' b ws') : J m lo hi b rb ib n0 h0 n' h' i ws' := by
 obtain ⟨b1, b2, b3, b4, b5⟩ := j.b8
 obtain ⟨vs, v1, v2⟩ := j.r
 have hh := j.hi0; have hr := j.rb0; have hib := j.ib0
 refine ⟨j.t.trans t, j.env.touch t (by omega) (fun x hx => by simp at hx; omega), w, ⟨vs, v1, v2.touch t hr.2 (by simp; omega)⟩, j.i.touch t (by simp; omega) (fun x hx => by simp at hx; omega), j.g, j.hi0, ⟨hr.1, Nat.lt_of_lt_of_le hr.2 t.1⟩, hib⟩
theorem J.wr (j : J m lo hi b rb ib n0 h0 n h i ws) {h' : zD} {i' : Ins} (t : TouchE [ib] h n h' n) (w : InsAt (rb + 1) n h' ib i') : J m lo hi b rb ib n0 h0 n h' i' ws := by
 obtain ⟨b1, b2, b3, b4, b5⟩ := j.b8
 obtain ⟨vs, v1, v2⟩ := j.r
 have hh := j.hi0; have hr := j.rb0; have hib := j.ib0
 refine ⟨j.t.step t (fun x hx => by simp at hx; subst hx; exact .inr hib.1), j.env.touch t (by omega) (fun x hx => by simp at hx; omega), j.w.touch t (fun x hx => by simp at hx; subst hx; exact .inr (by omega)), ⟨vs, v1, v2.touch t hr.2 (by simp; omega)⟩, w, j.g, j.hi0, hr, hib⟩
theorem J.store (j : J m lo hi b rb ib n0 h0 n h i ws) {off : Nat} {i' : Ins} {v : Value} {ty : TypeId} {K : KH} (hs : yG P ty = .scal) (ho : off < 9) (hv : v.oneCell' = true) (he : ∀ sv, (uM i sv).set off v = uM i' sv) (ha : i'.args = i.args)
 (hK : ∀ h', J m lo hi b rb ib n0 h0 n h' i' ws → K h' n undef = true) : zV P ty (.pointer (some ⟨ib, off, none⟩)) v h n K = true :=
 j.i.store hs ho hv he ha (.inr trivial) fun h' w t => hK h' (j.wr t w)
theorem J.args (j : J m lo hi b rb ib n0 h0 n h i ws) {l : List Int} {v : Value} {ty : TypeId} {K : KH} (hs : yG P ty = .scal) (ho : Own (rb + 1) n h v 3 1 l.length (l.map I64)) (hl : l.length < 100000) (hne : wB v ≠ some ib)
 (hK : ∀ h', J m lo hi b rb ib n0 h0 n h' { i with args := l } ws → zF P 40 h' (.pointer (some ⟨ib, 6, none⟩)) = some v → Own (rb + 1) n h' v 3 1 l.length (l.map I64) → K h' n undef = true) : zV P ty (.pointer (some ⟨ib, 6, none⟩)) v h n K = true := by
 obtain ⟨a, sv, c, d, e, f⟩ := j.i
 refine xQ c hs (by simp [uM]) ho.one fun h' c' k' => ?_
 have t : TouchE [ib] h n h' n := zS k' (by simp)
 have o' := ho.touch t (fun x hx hS => by simp at hS; subst hS; exact hne hx)
 exact hK h' (j.wr t ⟨a, v, c', o', hl, hne⟩) (zI c' sh40 (by simp [uM])) o'
theorem J.num (j : J m lo hi b rb ib n0 h0 n h i ws) {Kp : KC} {K : Int → zD → Nat → Bool} (hK : ∀ a r h' n', xY ws = .ok (a, r) → J m lo hi b rb ib n0 h0 n' h' i r → K a h' n' = true)
 (hp : ∀ e h' n', xY ws = .error e → TouchE [b] h0 n0 h' n' → Kp (uZ e) h' n' = true) : qN (loS P 8) .i64 122 [ptr b 0] h n Kp K = true := by
 refine callI_comes (number_comes j.w j.env j.g) (fun v h1 n1 q => ?_) (fun c h1 n1 q => ?_)
 · obtain ⟨q1, q2⟩ := q
   cases ha : xY ws with
   | error e => rw [ha] at q2; cases q2
   | ok p =>
    rw [ha] at q2
    obtain ⟨v', q2, e, w1⟩ := q2
    injection q2 with q2; subst q2
    exact ⟨_, e, hK _ _ _ _ ha (j.call q1 w1)⟩
 · obtain ⟨q1, q2⟩ := q
   cases ha : xY ws with
   | error e => rw [ha] at q2; injection q2 with q2; subst q2; exact hp _ _ _ ha (j.t.trans q1)
   | ok p => rw [ha] at q2; obtain ⟨v', q2, _⟩ := q2; cases q2
theorem J.any (j : J m lo hi b rb ib n0 h0 n h i ws) {Kp : KC} {K : Int → zD → Nat → Bool} (hK : ∀ a r h' n', anyW ws = .ok (a, r) → J m lo hi b rb ib n0 h0 n' h' i r → K a h' n' = true)
 (hp : ∀ e h' n', anyW ws = .error e → TouchE [b] h0 n0 h' n' → Kp (uZ e) h' n' = true) : qN (loS P 8) .i64 155 [ptr b 0] h n Kp K = true := by
 refine callI_comes (any_comes j.w j.env j.g) (fun v h1 n1 q => ?_) (fun c h1 n1 q => ?_)
 · obtain ⟨q1, q2⟩ := q
   cases ha : anyW ws with
   | error e => rw [ha] at q2; cases q2
   | ok p =>
    rw [ha] at q2
    obtain ⟨v', q2, e, w1⟩ := q2
    injection q2 with q2; subst q2
    exact ⟨_, e, hK _ _ _ _ ha (j.call q1 w1)⟩
 · obtain ⟨q1, q2⟩ := q
   cases ha : anyW ws with
   | error e => rw [ha] at q2; injection q2 with q2; subst q2; exact hp _ _ _ ha (j.t.trans q1)
   | ok p => rw [ha] at q2; obtain ⟨v', q2, _⟩ := q2; cases q2
theorem J.name (j : J m lo hi b rb ib n0 h0 n h i ws) {Kp : KC} {K : Value → zD → Nat → Bool} (hK : ∀ a r h' n', sK ws = .ok (a, r) → J m lo hi b rb ib n0 h0 n' h' i r → K (str a) h' n' = true)
 (hp : ∀ e h' n', sK ws = .error e → TouchE [b] h0 n0 h' n' → Kp (uZ e) h' n' = true) : yX (loS P 8) 117 [ptr b 0] h n Kp K = true := by
 refine yY (name_comes j.w) (fun v h1 n1 q => ?_) (fun c h1 n1 q => ?_)
 · obtain ⟨q1, q2⟩ := q
   cases ha : sK ws with
   | error e => rw [ha] at q2; cases q2
   | ok p =>
    rw [ha] at q2
    obtain ⟨v', q2, e, w1⟩ := q2
    injection q2 with q2; subst q2; subst e
    exact hK _ _ _ _ ha (j.call q1 w1)
 · obtain ⟨q1, q2⟩ := q
   cases ha : sK ws with
   | error e => rw [ha] at q2; injection q2 with q2; subst q2; exact hp _ _ _ ha (j.t.trans q1)
   | ok p => rw [ha] at q2; obtain ⟨v', q2, _⟩ := q2; cases q2
theorem J.next (j : J m lo hi b rb ib n0 h0 n h i ws) {Kp : KC} {K : Value → zD → Nat → Bool} (hK : ∀ a r h' n', nextW ws = .ok (a, r) → J m lo hi b rb ib n0 h0 n' h' i r → K (str a) h' n' = true)
 (hp : ∀ e h' n', nextW ws = .error e → TouchE [b] h0 n0 h' n' → Kp (uZ e) h' n' = true) : yX (loS P 8) 153 [ptr b 0] h n Kp K = true := by
 refine yY (next_comes j.w) (fun v h1 n1 q => ?_) (fun c h1 n1 q => ?_)
 · obtain ⟨q1, q2⟩ := q
   cases ha : nextW ws with
   | error e => rw [ha] at q2; cases q2
   | ok p =>
    rw [ha] at q2
    obtain ⟨v', q2, e, w1⟩ := q2
    injection q2 with q2; subst q2; subst e
    exact hK _ _ _ _ ha (j.call q1 w1)
 · obtain ⟨q1, q2⟩ := q
   cases ha : nextW ws with
   | error e => rw [ha] at q2; injection q2 with q2; subst q2; exact hp _ _ _ ha (j.t.trans q1)
   | ok p => rw [ha] at q2; obtain ⟨v', q2, _⟩ := q2; cases q2
theorem J.want (j : J m lo hi b rb ib n0 h0 n h i ws) (x : Tx) {Kp : KC} {K : Value → zD → Nat → Bool} (hK : ∀ r h' n', wantW x ws = .ok ((), r) → J m lo hi b rb ib n0 h0 n' h' i r → K (.tuple ⟨[]⟩) h' n' = true)
 (hp : ∀ e h' n', wantW x ws = .error e → TouchE [b] h0 n0 h' n' → Kp (uZ e) h' n' = true) : yX (loS P 8) 116 [ptr b 0, str x] h n Kp K = true := by
 refine yY (want_comes j.w x) (fun v h1 n1 q => ?_) (fun c h1 n1 q => ?_)
 · obtain ⟨q1, q2⟩ := q
   cases ha : wantW x ws with
   | error e => rw [ha] at q2; cases q2
   | ok p =>
    rw [ha] at q2
    obtain ⟨v', q2, e, w1⟩ := q2
    injection q2 with q2; subst q2; subst e
    exact hK _ _ _ ha (j.call q1 w1)
 · obtain ⟨q1, q2⟩ := q
   cases ha : wantW x ws with
   | error e => rw [ha] at q2; injection q2 with q2; subst q2; exact hp _ _ _ ha (j.t.trans q1)
   | ok p => rw [ha] at q2; obtain ⟨v', q2, _⟩ := q2; cases q2
theorem J.nums (j : J m lo hi b rb ib n0 h0 n h i ws) {Kp : KC} {K : Value → zD → Nat → Bool} (hK : ∀ l r v h' n', vJ ws = .ok (l, r) → J m lo hi b rb ib n0 h0 n' h' i r → Own (rb + 1) n' h' v 3 1 l.length (l.map I64) → l.length < 100000 → wB v ≠ some ib → K v h' n' = true)
 (hp : ∀ e h' n', vJ ws = .error e → TouchE [b] h0 n0 h' n' → Kp (uZ e) h' n' = true) : yX (loS P 8) 121 [ptr b 0, .func (.func 122) ⟨[ptr b 0]⟩ ⟨[]⟩] h n Kp K = true := by
 obtain ⟨b1, b2, b3, b4, b5⟩ := j.b8
 refine yY (restI_comes j.w j.env j.g) (fun v h1 n1 q => ?_) (fun c h1 n1 q => ?_)
 · obtain ⟨q1, q2⟩ := q
   cases ha : vJ ws with
   | error e => rw [ha] at q2; cases q2
   | ok p =>
    rw [ha] at q2
    obtain ⟨v', q2, o1, l1, w1⟩ := q2
    injection q2 with q2; subst q2
    exact hK _ _ _ _ _ ha (j.call q1 w1) (o1.low j.rb0.2) l1 (fun e => by have := (o1.ge _ e).1; omega)
 · obtain ⟨q1, q2⟩ := q
   cases ha : vJ ws with
   | error e => rw [ha] at q2; injection q2 with q2; subst q2; exact hp _ _ _ ha (j.t.trans q1)
   | ok p => rw [ha] at q2; obtain ⟨v', q2, _⟩ := q2; cases q2
theorem J.called (j : J m lo hi b rb ib n0 h0 n h i ws) {Kp : KC} {K : Value → zD → Nat → Bool} (hK : ∀ i' r h' n', rG i ws = .ok (i', r) → J m lo hi b rb ib n0 h0 n' h' i' r → K (.tuple ⟨[]⟩) h' n' = true)
 (hp : ∀ e h' n', rG i ws = .error e → TouchE [b] h0 n0 h' n' → Kp (uZ e) h' n' = true) : yX (loS P 8) 158 [ptr ib 0, ptr b 0] h n Kp K = true := by
 obtain ⟨b1, b2, b3, b4, b5⟩ := j.b8
 obtain ⟨a, sv, c, d, e, f⟩ := j.i
 obtain ⟨vs, v1, v2⟩ := j.r
 have hh := j.hi0; have hr := j.rb0; have hib := j.ib0
 refine yY (called_comes j.w j.env j.g c a (by omega)) (fun v h1 n1 q => ?_) (fun c h1 n1 q => ?_)
 · obtain ⟨q1, q2⟩ := q
   cases ha : rG i ws with
   | error e => rw [ha] at q2; cases q2
   | ok p =>
    rw [ha] at q2
    obtain ⟨q2, i1, w1⟩ := q2
    injection q2 with q2; subst q2
    refine hK _ _ _ _ ha ⟨j.t.step q1 (fun x hx => by simp at hx; rcases hx with rfl | rfl; exact .inl (by simp); exact .inr hib.1), j.env.touch q1 (by omega) (fun x hx => by simp at hx; rcases hx with rfl | rfl <;> omega), w1, ⟨vs, v1, v2.touch q1 hr.2 (by simp; omega)⟩, i1.low hr.2, j.g, j.hi0, ⟨hr.1, Nat.lt_of_lt_of_le hr.2 q1.1⟩, hib⟩
 · obtain ⟨q1, q2⟩ := q
   cases ha : rG i ws with
   | error e => rw [ha] at q2; injection q2 with q2; subst q2; exact hp _ _ _ ha (j.t.step q1 (fun x hx => by simp at hx; rcases hx with rfl | rfl; exact .inl (by simp); exact .inr hib.1))
   | ok p => rw [ha] at q2; obtain ⟨q2, _⟩ := q2; cases q2
theorem J.tell (j : J m lo hi b rb ib n0 h0 n h i ws) {f : FuncId} (hr : wA P f = some [.cell 2 50]) {k : KO} {u : Option zL} {T : Value → Fr} (hT : ∀ v, zA (T v) 2 = ptr rb 0)
 (hk : ∀ v h' n', RQV lo hi b h0 n0 (.ok (i, ws)) (.ret v) h' n' → k (.ret v) u h' n' = true) :
 opt (zF P 50 h (ptr ib 0)) (fun v => zV P 50 (ptr rb 0) v h n fun h' n' _ => zE P (loS P 8) f k .ret (T v) ⟨[], u, h', n'⟩) = true := by
 obtain ⟨b1, b2, b3, b4, b5⟩ := j.b8
 obtain ⟨a, sv, c, d, e, f'⟩ := j.i
 obtain ⟨vs, v1, v2⟩ := j.r
 have hh := j.hi0; have hrb := j.rb0; have hib := j.ib0
 refine opt_of (xJ c sh50 rfl (by decide)) ?_
 have hone : ∀ x ∈ uM i sv, x.oneCell' = true := by
  intro x hx
  simp only [uM, List.mem_cons, List.not_mem_nil, or_false] at hx
  rcases hx with rfl | rfl | rfl | rfl | rfl | rfl | rfl | rfl | rfl <;> first | rfl | exact d.one
 refine xU v2 sh50 rfl v1 hone fun h' c' k' => ?_
 have t : TouchE [rb] h n h' n := zS k' (by simp)
 refine leaveC hr (hT _) (xJ c' sh50 rfl (by decide)) (hk _ _ _ ⟨j.t.step t (fun x hx => by simp at hx; subst hx; exact .inr hrb.1), sv, rfl, ?_, e, j.w.touch t (fun x hx => by simp at hx; subst hx; exact .inr (by omega))⟩)
 exact (d.touch t (fun x hx hS => by have := (d.ge x hx).1; simp at hS; omega)).low (by omega)
end
end Go.Proofs.YtapnnpoljobanaaGreatDoor
