/- What the law leans on: an executor of the model that is sound, deduction over it, and the walks through the code (part 4 of 21). Conditions: those that each theorem states. -/
import Derived.Test.YtapnnpoljobanaaGreatDoorShippedTakenx3

set_option linter.unusedVariables false
set_option linter.unusedSimpArgs false
namespace Go.Proofs.YtapnnpoljobanaaGreatDoor
open Go.Ex
set_option maxRecDepth 1000000
noncomputable abbrev fr12 (s0 s1 s2 s3 : Value) : Fr := (.nD (.nD (.nD .lF s3 .lF) s1 .lF) s0 (.nD .lF s2 .lF))
noncomputable def hint12 : yR := fun kind _ i => match kind with
  | 4 => bif Nat.beq i 0 then [(.int .i64)] else []
  | _ => []
noncomputable def F12 (L : Lo) (lp : LP) (p0 : Value) (df : Bool) (u : Option zF) (h : zE) (n : Nat) (k : KO) : Bool :=
 rtI .i64 p0 fun ap0 =>
 zD P L 12 k .ret (fr12 (.int .i64 ap0) undef (.int .i64 ap0) (.int .i64 ap0)) (W.mk [] u h n)
theorem F12_eq (L : Lo) (lp : LP) (p0 : Value) (df : Bool) (u : Option zF) (h : zE) (n : Nat) (k : KO) : zY P hint12 L lp 12 [p0] df u h n k = F12 L lp p0 df u h n k := by kernel_rfl
theorem l12 : zL P 12 = true := by kernel_rfl
noncomputable def eF12 : EntF P 8 := xL zG mixed 12 l12 F12 F12_eq
noncomputable abbrev fr38 (s0 s1 s2 s3 s4 s5 s6 s7 s8 s9 s10 s11 s12 s13 s14 s15 s16 s17 s18 s19 : Value) : Fr := (.nD (.nD (.nD (.nD (.nD .lF s15 .lF) s7 .lF) s3 (.nD (.nD .lF s19 .lF) s11 .lF)) s1 (.nD (.nD (.nD .lF s17 .lF) s9 .lF) s5 (.nD .lF s13 .lF))) s0 (.nD (.nD (.nD (.nD .lF s16 .lF) s8 .lF) s4 (.nD .lF s12 .lF)) s2 (.nD (.nD (.nD .lF s18 .lF) s10 .lF) s6 (.nD .lF s14 .lF))))
noncomputable def hint38 : yR := fun kind _ i => match kind with
  | 0 => bif Nat.beq i 1000002 then [.val, .val, .val, .val, .val, .val, .val, .val, .val, .val, .val, .val, .val, .val, .val, .val, .val, .val, .val, .val] else []
  | 1 => bif Nat.beq i 0 then [.val, .val, .val, .val, .val, .val, .val, .val, .val, .val, .val, .val, .val, .val, .val, .val, .val, .val, .val, .val] else bif Nat.beq i 1 then [.val, .val, .val, .val, .val, .val, .val, .val, .val, .val, .val, .val, .val, .val, .val, .val, .val, .val, .val, .val] else []
  | 2 => bif Nat.beq i 0 then [.val, .val, .val, .val, .val, .val, .val, .val, .val, .val, .val, .val, .val, .val, .val, .val, .val, .val, .val, .val] else bif Nat.beq i 4 then [.val, .val, .val, .val, .val, .val, .val, .val, .val, .val, .val, .val, .val, .val, .val, .val, .val, .val, .val, .val] else []
  | 4 => bif Nat.beq i 0 then [.any] else []
  | _ => []
noncomputable def F38 (L : Lo) (lp : LP) (p0 : Value) (df : Bool) (u : Option zF) (h : zE) (n : Nat) (k : KO) : Bool :=
 yH L 34 [p0] h n (fun c4 h5 n6 =>
 zD P L 38 k (.panic c4) (fr38 p0 undef (.slice none 0 0) undef p0 undef undef undef undef undef undef undef undef undef undef undef undef undef undef undef) (W.mk [] u h5 n6)) fun a1 h2 n3 =>
 yC P 23 1 [(0, a1)] h2 n3 fun h7 n8 v9 =>
 lp 1000002 ⟨38, none, df⟩ (fr38 p0 undef (.slice none 0 0) v9 p0 a1 v9 undef undef undef undef undef undef undef undef undef undef undef undef undef) (W.mk [] u h7 n8) (endA noK (blkA 0 (fun t10 w11 =>
 zA (zB t10 0) fun s12 =>
 zA (zB t10 1) fun s13 =>
 zA (zB t10 2) fun s14 =>
 zA (zB t10 3) fun s15 =>
 zA (zB t10 4) fun s16 =>
 zA (zB t10 5) fun s17 =>
 zA (zB t10 6) fun s18 =>
 zA (zB t10 7) fun s19 =>
 zA (zB t10 8) fun s20 =>
 zA (zB t10 9) fun s21 =>
 zA (zB t10 10) fun s22 =>
 zA (zB t10 11) fun s23 =>
 zA (zB t10 12) fun s24 =>
 zA (zB t10 13) fun s25 =>
 zA (zB t10 14) fun s26 =>
 zA (zB t10 15) fun s27 =>
 zA (zB t10 16) fun s28 =>
 zA (zB t10 17) fun s29 =>
 zA (zB t10 18) fun s30 =>
 zA (zB t10 19) fun s31 =>
 onW w11 fun d32 u33 h34 n35 =>
 zD P L 38 k .ret (fr38 s12 s13 s15 s15 s16 s17 s18 s19 s20 s21 s22 s23 s24 s25 s26 s27 s28 s29 s30 s15) (W.mk d32 u33 h34 n35)) (zD P L 38 k)))
theorem F38_eq (L : Lo) (lp : LP) (p0 : Value) (df : Bool) (u : Option zF) (h : zE) (n : Nat) (k : KO) : zY P hint38 L lp 38 [p0] df u h n k = F38 L lp p0 df u h n k := by kernel_rfl
noncomputable def B38_1000002 (L : Lo) (lp : LP) (rd : Option Nat) (df : Bool) (t : Fr) (w : W) (ka : KX) : Bool :=
 zA (zB t 0) fun s36 =>
 zA (zB t 1) fun s37 =>
 zA (zB t 2) fun s38 =>
 zA (zB t 3) fun s39 =>
 zA (zB t 4) fun s40 =>
 zA (zB t 5) fun s41 =>
 zA (zB t 6) fun s42 =>
 zA (zB t 7) fun s43 =>
 zA (zB t 8) fun s44 =>
 zA (zB t 9) fun s45 =>
 zA (zB t 10) fun s46 =>
 zA (zB t 11) fun s47 =>
 zA (zB t 12) fun s48 =>
 zA (zB t 13) fun s49 =>
 zA (zB t 14) fun s50 =>
 zA (zB t 15) fun s51 =>
 zA (zB t 16) fun s52 =>
 zA (zB t 17) fun s53 =>
 zA (zB t 18) fun s54 =>
 zA (zB t 19) fun s55 =>
 onW w fun d56 u57 h58 n59 =>
 xR L 40 [s36] h58 n59 (fun c63 h64 n65 =>
 ka (.panic c63) (fr38 s36 s37 s38 s39 s40 s41 s42 s36 s44 s45 s46 s47 s48 s49 s50 s51 s52 s53 s54 s55) (W.mk d56 u57 h64 n65)) fun a60 h61 n62 =>
 br a60 (
 blkJ (fun k66 =>
 opt (zU P .len [23] [s39] h61) fun v67 =>
 rtI .i64 v67 fun a68 =>
 fb (ileB 200 a68) fun a69 =>
 br a69 (
 yH L 37 [s36, (.int .i64 2)] h61 n62 (fun c73 h74 n75 =>
 ka (.panic c73) (fr38 s36 s37 s38 s39 s40 s41 s42 s36 (.bool a60) s39 (.int .i64 a68) (.bool a69) s36 s49 s50 s51 s52 s53 s54 s55) (W.mk d56 u57 h74 n75)) fun a70 h71 n72 =>
 ka (.exit 0) (fr38 s36 s37 s38 s39 s40 s41 s42 s36 (.bool a60) s39 (.int .i64 a68) (.bool a69) s36 a70 s50 s51 s52 s53 s54 s55) (W.mk d56 u57 h71 n72)) (
 yH L 34 [s36] h61 n62 (fun c79 h80 n81 =>
 ka (.panic c79) (fr38 s36 s37 s38 s39 s40 s41 s42 s36 (.bool a60) s39 (.int .i64 a68) (.bool a69) s48 s49 s39 s36 s52 s53 s54 s55) (W.mk d56 u57 h80 n81)) fun a76 h77 n78 =>
 yC P 23 1 [(0, a76)] h77 n78 fun h82 n83 v84 =>
 eAppend P [23, 23] [s39, v84] h82 n83 fun h85 n86 v87 =>
 k66 (fr38 s36 s37 s38 v87 s40 s41 s42 s36 (.bool a60) s39 (.int .i64 a68) (.bool a69) s48 s49 s39 s36 a76 v84 v87 s55) (W.mk d56 u57 h85 n86))) (fun t88 w89 =>
 zA (zB t88 0) fun s90 =>
 zA (zB t88 1) fun s91 =>
 zA (zB t88 2) fun s92 =>
 zA (zB t88 3) fun s93 =>
 zA (zB t88 4) fun s94 =>
 zA (zB t88 5) fun s95 =>
 zA (zB t88 6) fun s96 =>
 zA (zB t88 7) fun s97 =>
 zA (zB t88 8) fun s98 =>
 zA (zB t88 9) fun s99 =>
 zA (zB t88 10) fun s100 =>
 zA (zB t88 11) fun s101 =>
 zA (zB t88 12) fun s102 =>
 zA (zB t88 13) fun s103 =>
 zA (zB t88 14) fun s104 =>
 zA (zB t88 15) fun s105 =>
 zA (zB t88 16) fun s106 =>
 zA (zB t88 17) fun s107 =>
 zA (zB t88 18) fun s108 =>
 zA (zB t88 19) fun s109 =>
 onW w89 fun d110 u111 h112 n113 =>
 lp 1000002 ⟨38, rd, df⟩ (fr38 s90 s91 s92 s93 s94 s95 s96 s97 s98 s99 s100 s101 s102 s103 s104 s105 s106 s107 s108 s109) (W.mk d110 u111 h112 n113) ka)) (
 ka (.exit 0) (fr38 s36 s37 s38 s39 s40 s41 s42 s36 (.bool a60) s45 s46 s47 s48 s49 s50 s51 s52 s53 s54 s55) (W.mk d56 u57 h61 n62))
theorem B38_1000002_eq (L : Lo) (lp : LP) (rd : Option Nat) (df : Bool) (t : Fr) (w : W) (ka : KX) : wU P hint38 L lp (unL (zJ P 38 1000002)) ⟨38, rd, df⟩ t w ka = B38_1000002 L lp rd df t w ka := by kernel_rfl
theorem l38 : zL P 38 = true := by kernel_rfl
theorem lp38_1000002 : yW (zJ P 38 1000002) = true := by kernel_rfl
noncomputable def eF38 : EntF P 8 := xL zG mixed 38 l38 F38 F38_eq
noncomputable def eL38_1000002 : EntL P 8 := entL zG mixed 38 l38 1000002 lp38_1000002 B38_1000002 B38_1000002_eq
noncomputable abbrev fr48 (s0 s1 s2 s3 s4 s5 s6 s7 s8 s9 s10 s11 s12 s13 s14 s15 s16 s17 s18 s19 s20 s21 s22 s23 s24 s25 : Value) : Fr := (.nD (.nD (.nD (.nD (.nD .lF s15 .lF) s7 (.nD .lF s23 .lF)) s3 (.nD (.nD .lF s19 .lF) s11 .lF)) s1 (.nD (.nD (.nD .lF s17 .lF) s9 (.nD .lF s25 .lF)) s5 (.nD (.nD .lF s21 .lF) s13 .lF))) s0 (.nD (.nD (.nD (.nD .lF s16 .lF) s8 (.nD .lF s24 .lF)) s4 (.nD (.nD .lF s20 .lF) s12 .lF)) s2 (.nD (.nD (.nD .lF s18 .lF) s10 .lF) s6 (.nD (.nD .lF s22 .lF) s14 .lF))))
noncomputable def hint48 : yR := fun kind _ i => match kind with
  | 2 => bif Nat.beq i 2 then [(.int .i64), .val, .val, .val, .val, .val, .val, .val, .val, .val, .val, .val, .val, .val, .val, .val, .val, .val, .val, .val, .val, .val, .val, .val, .val, .val] else bif Nat.beq i 3 then [(.int .i64), .val, .val, .val, .val, .val, .val, .val, .val, .val, .val, .val, .val, .val, .val, .val, .val, .val, .val, .val, .val, .val, .val, .val, .val, .val] else bif Nat.beq i 7 then [.val, .val, .val, .val, .val, .val, .val, .val, .val, .val, .val, .val, .val, .val, .val, .val, .val, .val, .val, .val, .val, .val, .val, .val, .val, .val] else []
  | 4 => bif Nat.beq i 0 then [(.int .i64)] else []
  | _ => []
noncomputable def F48 (L : Lo) (lp : LP) (p0 : Value) (df : Bool) (u : Option zF) (h : zE) (n : Nat) (k : KO) : Bool :=
 rtI .i64 p0 fun ap0 =>
 fb (wE ap0 0) fun a1 =>
 br a1 (
 fb (yO ap0 (-9223372036854775808)) fun a2 =>
 br a2 (
 zD P L 48 k .ret (fr48 (.int .i64 ap0) undef (.string (ByteArray.mk #[45, 57, 50, 50, 51, 51, 55, 50, 48, 51, 54, 56, 53, 52, 55, 55, 53, 56, 48, 56])) undef (.int .i64 ap0) (.bool a1) (.int .i64 ap0) (.bool a2) undef undef undef undef undef undef undef undef undef undef undef undef undef undef undef undef undef undef) (W.mk [] u h n)) (
 opt (aUn .neg (.int .i64 ap0)) fun v3 =>
 rtI .i64 v3 fun a4 =>
 yH L 48 [(.int .i64 a4)] h n (fun c8 h9 n10 =>
 zD P L 48 k (.panic c8) (fr48 (.int .i64 ap0) undef (.string (ByteArray.mk #[])) undef (.int .i64 ap0) (.bool a1) (.int .i64 ap0) (.bool a2) (.int .i64 ap0) (.int .i64 a4) undef undef undef undef undef undef undef undef undef undef undef undef undef undef undef undef) (W.mk [] u h9 n10)) fun a5 h6 n7 =>
 xF wV P .add 9 true (.string (ByteArray.mk #[45])) a5 fun v11 =>
 zD P L 48 k .ret (fr48 (.int .i64 ap0) undef v11 undef (.int .i64 ap0) (.bool a1) (.int .i64 ap0) (.bool a2) (.int .i64 ap0) (.int .i64 a4) a5 v11 undef undef undef undef undef undef undef undef undef undef undef undef undef undef) (W.mk [] u h6 n7))) (
 opt (qBin P .rem 3 true (.int .i64 ap0) (.int .i64 10)) fun v13 =>
 rtI .i64 v13 fun a14 =>
 opt (qBin P .rem 3 true (.int .i64 ap0) (.int .i64 10)) fun v16 =>
 rtI .i64 v16 fun a17 =>
 fi (yK .i64 (wV a17 1)) fun a18 =>
 opt (aSlice P h 9 (.string (ByteArray.mk #[48, 49, 50, 51, 52, 53, 54, 55, 56, 57])) (some (.int .i64 a14)) (some (.int .i64 a18)) none) fun v19 =>
 fb (wE 9 ap0) fun a20 =>
 br a20 (
 opt (qBin P .quo 3 true (.int .i64 ap0) (.int .i64 10)) fun v22 =>
 rtI .i64 v22 fun a23 =>
 yH L 48 [(.int .i64 a23)] h n (fun c27 h28 n29 =>
 zD P L 48 k (.panic c27) (fr48 (.int .i64 ap0) undef (.string (ByteArray.mk #[])) v19 (.int .i64 ap0) (.bool a1) undef undef undef undef undef undef (.int .i64 ap0) (.int .i64 a14) (.int .i64 ap0) (.int .i64 a17) (.int .i64 a18) v19 (.int .i64 ap0) (.bool a20) (.int .i64 ap0) (.int .i64 a23) undef undef undef undef) (W.mk [] u h28 n29)) fun a24 h25 n26 =>
 xF wV P .add 9 false a24 v19 fun v30 =>
 zD P L 48 k .ret (fr48 (.int .i64 ap0) undef v30 v19 (.int .i64 ap0) (.bool a1) undef undef undef undef undef undef (.int .i64 ap0) (.int .i64 a14) (.int .i64 ap0) (.int .i64 a17) (.int .i64 a18) v19 (.int .i64 ap0) (.bool a20) (.int .i64 ap0) (.int .i64 a23) a24 v19 v30 undef) (W.mk [] u h25 n26)) (
 zD P L 48 k .ret (fr48 (.int .i64 ap0) undef v19 v19 (.int .i64 ap0) (.bool a1) undef undef undef undef undef undef (.int .i64 ap0) (.int .i64 a14) (.int .i64 ap0) (.int .i64 a17) (.int .i64 a18) v19 (.int .i64 ap0) (.bool a20) undef undef undef undef undef v19) (W.mk [] u h n)))
theorem F48_eq (L : Lo) (lp : LP) (p0 : Value) (df : Bool) (u : Option zF) (h : zE) (n : Nat) (k : KO) : zY P hint48 L lp 48 [p0] df u h n k = F48 L lp p0 df u h n k := by kernel_rfl
theorem l48 : zL P 48 = true := by kernel_rfl
noncomputable def eF48 : EntF P 8 := xL zG mixed 48 l48 F48 F48_eq
noncomputable abbrev fr76 (s0 s1 s2 s3 s4 s5 s6 s7 s8 s9 s10 s11 s12 s13 s14 s15 s16 s17 s18 s19 s20 s21 s22 s23 s24 s25 s26 : Value) : Fr := (.nD (.nD (.nD (.nD (.nD .lF s15 .lF) s7 (.nD .lF s23 .lF)) s3 (.nD (.nD .lF s19 .lF) s11 .lF)) s1 (.nD (.nD (.nD .lF s17 .lF) s9 (.nD .lF s25 .lF)) s5 (.nD (.nD .lF s21 .lF) s13 .lF))) s0 (.nD (.nD (.nD (.nD .lF s16 .lF) s8 (.nD .lF s24 .lF)) s4 (.nD (.nD .lF s20 .lF) s12 .lF)) s2 (.nD (.nD (.nD .lF s18 .lF) s10 (.nD .lF s26 .lF)) s6 (.nD (.nD .lF s22 .lF) s14 .lF))))
noncomputable def hint76 : yR := fun kind _ i => match kind with
  | 0 => bif Nat.beq i 1000003 then [.val, .val, .val, (.int .i64), .val, .val, .val, .val, .val, .val, (.int .i64), .val, .val, .val, .val, .val, .val, .val, .val, .val, .val, .val, .val, .val, .val, .val, .val] else []
  | 1 => bif Nat.beq i 0 then [.val, .val, .val, .val, .val, .val, .val, .val, .val, .val, .val, .val, .val, .val, .val, .val, .val, .val, .val, .val, .val, .val, .val, .val, .val, .val, .val] else bif Nat.beq i 1 then [.val, .val, .val, (.int .i64), .val, .val, .val, .val, .val, .val, (.int .i64), .val, .val, .val, .val, .val, .val, .val, .val, .val, .val, .val, .val, .val, .val, .val, .val] else []
  | 2 => bif Nat.beq i 0 then [.val, .val, .val, (.int .i64), .val, .val, .val, .val, .val, .val, (.int .i64), .val, .val, .val, .val, .val, .val, .val, .val, .val, .val, .val, .val, .val, .val, .val, .val] else []
  | 4 => bif Nat.beq i 0 then [.any, .any, (.int .i64), (.int .i64)] else []
  | _ => []
noncomputable def F76 (L : Lo) (lp : LP) (p0 p1 p2 p3 : Value) (df : Bool) (u : Option zF) (h : zE) (n : Nat) (k : KO) : Bool :=
 rtI .i64 p2 fun ap2 =>
 rtI .i64 p3 fun ap3 =>
 lp 1000003 ⟨76, none, df⟩ (fr76 p0 p1 (.int .i64 ap2) (.int .i64 ap3) undef undef undef undef (.slice none 0 0) (.slice none 0 0) (.int .i64 ap2) (.int .i64 ap2) undef undef undef undef undef undef undef undef undef undef undef undef undef undef undef) (W.mk [] u h n) (endA noK (blkA 0 (fun t1 w2 =>
 zA (zB t1 0) fun s3 =>
 zA (zB t1 1) fun s4 =>
 zA (zB t1 2) fun s5 =>
 zA (zB t1 3) fun s6 =>
 zA (zB t1 4) fun s7 =>
 zA (zB t1 5) fun s8 =>
 zA (zB t1 6) fun s9 =>
 zA (zB t1 7) fun s10 =>
 zA (zB t1 8) fun s11 =>
 zA (zB t1 9) fun s12 =>
 zA (zB t1 10) fun s13 =>
 zA (zB t1 11) fun s14 =>
 zA (zB t1 12) fun s15 =>
 zA (zB t1 13) fun s16 =>
 zA (zB t1 14) fun s17 =>
 zA (zB t1 15) fun s18 =>
 zA (zB t1 16) fun s19 =>
 zA (zB t1 17) fun s20 =>
 zA (zB t1 18) fun s21 =>
 zA (zB t1 19) fun s22 =>
 zA (zB t1 20) fun s23 =>
 zA (zB t1 21) fun s24 =>
 zA (zB t1 22) fun s25 =>
 zA (zB t1 23) fun s26 =>
 zA (zB t1 24) fun s27 =>
 zA (zB t1 25) fun s28 =>
 zA (zB t1 26) fun s29 =>
 onW w2 fun d30 u31 h32 n33 =>
 zD P L 76 k .ret (fr76 s3 s4 s5 s6 s7 s8 s9 s10 s12 s12 s13 s14 s15 s16 s17 s18 s19 s20 s21 s22 s23 s24 s25 s26 s27 s28 s12) (W.mk d30 u31 h32 n33)) (zD P L 76 k)))
theorem F76_eq (L : Lo) (lp : LP) (p0 p1 p2 p3 : Value) (df : Bool) (u : Option zF) (h : zE) (n : Nat) (k : KO) : zY P hint76 L lp 76 [p0, p1, p2, p3] df u h n k = F76 L lp p0 p1 p2 p3 df u h n k := by kernel_rfl
noncomputable def B76_1000003 (L : Lo) (lp : LP) (rd : Option Nat) (df : Bool) (t : Fr) (w : W) (ka : KX) : Bool :=
 zA (zB t 0) fun s34 =>
 zA (zB t 1) fun s35 =>
 zA (zB t 2) fun s36 =>
 rtI .i64 (zB t 3) fun s37 =>
 zA (zB t 4) fun s38 =>
 zA (zB t 5) fun s39 =>
 zA (zB t 6) fun s40 =>
 zA (zB t 7) fun s41 =>
 zA (zB t 8) fun s42 =>
 zA (zB t 9) fun s43 =>
 rtI .i64 (zB t 10) fun s44 =>
 zA (zB t 11) fun s45 =>
 zA (zB t 12) fun s46 =>
 zA (zB t 13) fun s47 =>
 zA (zB t 14) fun s48 =>
 zA (zB t 15) fun s49 =>
 zA (zB t 16) fun s50 =>
 zA (zB t 17) fun s51 =>
 zA (zB t 18) fun s52 =>
 zA (zB t 19) fun s53 =>
 zA (zB t 20) fun s54 =>
 zA (zB t 21) fun s55 =>
 zA (zB t 22) fun s56 =>
 zA (zB t 23) fun s57 =>
 zA (zB t 24) fun s58 =>
 zA (zB t 25) fun s59 =>
 zA (zB t 26) fun s60 =>
 onW w fun d61 u62 h63 n64 =>
 fb (ileB s44 s37) fun a65 =>
 br a65 (
 blkJ (fun k66 =>
 yH L 81 [(.int .i64 s44)] h63 n64 (fun c70 h71 n72 =>
 ka (.panic c70) (fr76 s34 s35 s36 (.int .i64 s37) s38 s39 s40 s41 s42 s43 (.int .i64 s44) s45 (.int .i64 s44) (.int .i64 s37) (.bool a65) s49 s50 s43 s34 (.int .i64 s44) s54 s55 s56 s57 s58 s59 s60) (W.mk d61 u62 h71 n72)) fun a67 h68 n69 =>
 xF wV P .add 9 false s34 a67 fun v73 =>
 xF wV P .add 9 false v73 s35 fun v74 =>
 yC P 23 1 [(0, v74)] h68 n69 fun h75 n76 v77 =>
 eAppend P [23, 23] [s43, v77] h75 n76 fun h78 n79 v80 =>
 k66 (fr76 s34 s35 s36 (.int .i64 s37) s38 s39 s40 s41 s42 v80 (.int .i64 s44) s45 (.int .i64 s44) (.int .i64 s37) (.bool a65) s49 s50 s43 s34 (.int .i64 s44) a67 v73 s35 v74 v77 v80 s60) (W.mk d61 u62 h78 n79)) (fun t81 w82 =>
 zA (zB t81 0) fun s83 =>
 zA (zB t81 1) fun s84 =>
 zA (zB t81 2) fun s85 =>
 rtI .i64 (zB t81 3) fun s86 =>
 zA (zB t81 4) fun s87 =>
 zA (zB t81 5) fun s88 =>
 zA (zB t81 6) fun s89 =>
 zA (zB t81 7) fun s90 =>
 zA (zB t81 8) fun s91 =>
 zA (zB t81 9) fun s92 =>
 rtI .i64 (zB t81 10) fun s93 =>
 zA (zB t81 11) fun s94 =>
 zA (zB t81 12) fun s95 =>
 zA (zB t81 13) fun s96 =>
 zA (zB t81 14) fun s97 =>
 zA (zB t81 15) fun s98 =>
 zA (zB t81 16) fun s99 =>
 zA (zB t81 17) fun s100 =>
 zA (zB t81 18) fun s101 =>
 zA (zB t81 19) fun s102 =>
 zA (zB t81 20) fun s103 =>
 zA (zB t81 21) fun s104 =>
 zA (zB t81 22) fun s105 =>
 zA (zB t81 23) fun s106 =>
 zA (zB t81 24) fun s107 =>
 zA (zB t81 25) fun s108 =>
 zA (zB t81 26) fun s109 =>
 onW w82 fun d110 u111 h112 n113 =>
 fi (yK .i64 (wV s93 1)) fun a114 =>
 lp 1000003 ⟨76, rd, df⟩ (fr76 s83 s84 s85 (.int .i64 s86) s87 s88 s89 s90 s91 s92 (.int .i64 a114) s94 s95 s96 s97 (.int .i64 s93) (.int .i64 a114) s100 s101 s102 s103 s104 s105 s106 s107 s108 s109) (W.mk d110 u111 h112 n113) ka)) (
 ka (.exit 0) (fr76 s34 s35 s36 (.int .i64 s37) s38 s39 s40 s41 s42 s43 (.int .i64 s44) s45 (.int .i64 s44) (.int .i64 s37) (.bool a65) s49 s50 s51 s52 s53 s54 s55 s56 s57 s58 s59 s60) (W.mk d61 u62 h63 n64))
theorem B76_1000003_eq (L : Lo) (lp : LP) (rd : Option Nat) (df : Bool) (t : Fr) (w : W) (ka : KX) : wU P hint76 L lp (unL (zJ P 76 1000003)) ⟨76, rd, df⟩ t w ka = B76_1000003 L lp rd df t w ka := by kernel_rfl
theorem l76 : zL P 76 = true := by kernel_rfl
theorem lp76_1000003 : yW (zJ P 76 1000003) = true := by kernel_rfl
noncomputable def eF76 : EntF P 8 := entF4 zG mixed 76 l76 F76 F76_eq
noncomputable def eL76_1000003 : EntL P 8 := entL zG mixed 76 l76 1000003 lp76_1000003 B76_1000003 B76_1000003_eq
noncomputable abbrev fr79 (s0 s1 s2 s3 s4 : Value) : Fr := (.nD (.nD (.nD .lF s3 .lF) s1 .lF) s0 (.nD (.nD .lF s4 .lF) s2 .lF))
noncomputable def hint79 : yR := fun kind _ i => match kind with
  | _ => []
noncomputable def F79 (L : Lo) (lp : LP) (df : Bool) (u : Option zF) (h : zE) (n : Nat) (k : KO) : Bool :=
 eAlloc P 80 h n fun h1 n2 v3 =>
 yH L 77 [(.string (ByteArray.mk #[]))] h1 n2 (fun c7 h8 n9 =>
 zD P L 79 k (.panic c7) (fr79 v3 undef undef undef undef) (W.mk [] u h8 n9)) fun a4 h5 n6 =>
 yH L 77 [(.string (ByteArray.mk #[]))] h5 n6 (fun c13 h14 n15 =>
 zD P L 79 k (.panic c13) (fr79 v3 a4 undef undef undef) (W.mk [] u h14 n15)) fun a10 h11 n12 =>
 yC P 78 1 [(0, a10)] h11 n12 fun h16 n17 v18 =>
 opt (aBuild P 80 [(0, (.string (ByteArray.mk #[110, 111, 116]))), (1, a4), (2, v18), (3, (.int .i64 (-1)))]) fun v19 =>
 xG P 80 v3 v19 h16 n17 fun h20 n21 v22 =>
 zD P L 79 k .ret (fr79 v3 a4 a10 v18 v19) (W.mk [] u h20 n21)
theorem F79_eq (L : Lo) (lp : LP) (df : Bool) (u : Option zF) (h : zE) (n : Nat) (k : KO) : zY P hint79 L lp 79 [] df u h n k = F79 L lp  df u h n k := by kernel_rfl
theorem l79 : zL P 79 = true := by kernel_rfl
noncomputable def eF79 : EntF P 8 := entF0 zG mixed 79 l79 F79 F79_eq
noncomputable abbrev fr83 (s0 s1 s2 s3 s4 s5 s6 s7 s8 s9 s10 s11 s12 s13 s14 s15 s16 : Value) : Fr := (.nD (.nD (.nD (.nD (.nD .lF s15 .lF) s7 .lF) s3 (.nD .lF s11 .lF)) s1 (.nD (.nD .lF s9 .lF) s5 (.nD .lF s13 .lF))) s0 (.nD (.nD (.nD (.nD .lF s16 .lF) s8 .lF) s4 (.nD .lF s12 .lF)) s2 (.nD (.nD .lF s10 .lF) s6 (.nD .lF s14 .lF))))
noncomputable def hint83 : yR := fun kind _ i => match kind with
  | 4 => bif Nat.beq i 0 then [.any, .any] else []
  | _ => []
noncomputable def F83 (L : Lo) (lp : LP) (p0 p1 : Value) (df : Bool) (u : Option zF) (h : zE) (n : Nat) (k : KO) : Bool :=
 opt (wZ p0) fun v1 =>
 opt (zC P 136 1 v1) fun v2 =>
 opt (zP P 3 h v2) fun v3 =>
 rtI .i64 v3 fun a4 =>
 yH L 138 [(.string (ByteArray.mk #[32, 32])), (.int .i64 a4)] h n (fun c8 h9 n10 =>
 false) fun a5 h6 n7 =>
 gt (Nat.ble n n7) (
 yH L 54 [p1, (.string (ByteArray.mk #[32]))] h6 n7 (fun c14 h15 n16 =>
 false) fun a11 h12 n13 =>
 gt (Nat.ble n7 n13) (
 opt (wZ p0) fun v17 =>
 opt (zC P 136 0 v17) fun v18 =>
 xF wV P .add 9 false a5 a11 fun v19 =>
 xF wV P .add 9 true v19 (.string (ByteArray.mk #[10])) fun v20 =>
 yH L 53 [v18, v20] h12 n13 (fun c24 h25 n26 =>
 gt (lks [(W.mk [] u h12 n13), (W.mk [] u h6 n7), (W.mk [] u h n)] []) (
 zD P L 83 k (.panic c24) (fr83 p0 p1 undef undef p0 v17 v18 p0 v1 v2 (.int .i64 a4) a5 p1 a11 v19 v20 undef) (W.mk [] u h25 n26))) fun a21 h22 n23 =>
 gt (Nat.ble n13 n23) (
 gt (lks [(W.mk [] u h22 n23), (W.mk [] u h12 n13), (W.mk [] u h6 n7), (W.mk [] u h n)] []) (
 zD P L 83 k .ret (fr83 p0 p1 undef undef p0 v17 v18 p0 v1 v2 (.int .i64 a4) a5 p1 a11 v19 v20 a21) (W.mk [] u h22 n23)))))
theorem F83_eq (L : Lo) (lp : LP) (p0 p1 : Value) (df : Bool) (u : Option zF) (h : zE) (n : Nat) (k : KO) : zY P hint83 L lp 83 [p0, p1] df u h n k = F83 L lp p0 p1 df u h n k := by kernel_rfl
theorem l83 : zL P 83 = true := by kernel_rfl
noncomputable def eF83 : EntF P 8 := wL zG mixed 83 l83 F83 F83_eq
noncomputable abbrev fr88 (s0 s1 s2 s3 s4 s5 s6 s7 s8 : Value) : Fr := (.nD (.nD (.nD (.nD .lF s7 .lF) s3 .lF) s1 (.nD .lF s5 .lF)) s0 (.nD (.nD (.nD .lF s8 .lF) s4 .lF) s2 (.nD .lF s6 .lF)))
noncomputable def hint88 : yR := fun kind _ i => match kind with
  | 4 => bif Nat.beq i 0 then [(.int .u8)] else []
  | _ => []
noncomputable def F88 (L : Lo) (lp : LP) (p0 : Value) (df : Bool) (u : Option zF) (h : zE) (n : Nat) (k : KO) : Bool :=
 rtI .u8 p0 fun ap0 =>
 fb (ileB 48 ap0) fun a1 =>
 grd a1 (fun k2 =>
 k2 h n (.int .u8 ap0)) (fun h3 n4 v5 =>
 grd a1 (fun k6 =>
 zK ileB P .leq 5 true v5 (.int .u8 57) fun a10 =>
 k6 h3 n4 (.bool a10)) (fun h7 n8 v9 =>
 rtB (sel a1 v9 (.bool false)) fun a11 =>
 zD P L 88 k .ret (fr88 (.int .u8 ap0) undef (.bool a11) (.int .u8 ap0) (.bool a1) (.bool a1) v5 v9 (.bool a11)) (W.mk [] u h7 n8)) h3 n4) h n
theorem F88_eq (L : Lo) (lp : LP) (p0 : Value) (df : Bool) (u : Option zF) (h : zE) (n : Nat) (k : KO) : zY P hint88 L lp 88 [p0] df u h n k = F88 L lp p0 df u h n k := by kernel_rfl
theorem l88 : zL P 88 = true := by kernel_rfl
noncomputable def eF88 : EntF P 8 := xL zG mixed 88 l88 F88 F88_eq
noncomputable abbrev fr92 (s0 s1 s2 s3 s4 s5 s6 s7 s8 s9 : Value) : Fr := (.nD (.nD (.nD (.nD .lF s7 .lF) s3 .lF) s1 (.nD (.nD .lF s9 .lF) s5 .lF)) s0 (.nD (.nD (.nD .lF s8 .lF) s4 .lF) s2 (.nD .lF s6 .lF)))
noncomputable def hint92 : yR := fun kind _ i => match kind with
  | 4 => bif Nat.beq i 0 then [.any] else []
  | _ => []
noncomputable def F92 (L : Lo) (lp : LP) (p0 : Value) (df : Bool) (u : Option zF) (h : zE) (n : Nat) (k : KO) : Bool :=
 opt (wZ p0) fun v1 =>
 opt (zC P 149 0 v1) fun v2 =>
 opt (zC P 33 5 v2) fun v3 =>
 opt (zP P 9 h v3) fun v4 =>
 callI L .i64 94 [p0, v4] h n (fun c8 h9 n10 =>
 zD P L 92 k (.panic c8) (fr92 p0 undef (.int .i64 0) p0 p0 v1 v2 v3 v4 undef) (W.mk [] u h9 n10)) fun a5 h6 n7 =>
 zD P L 92 k .ret (fr92 p0 undef (.int .i64 a5) p0 p0 v1 v2 v3 v4 (.int .i64 a5)) (W.mk [] u h6 n7)
theorem F92_eq (L : Lo) (lp : LP) (p0 : Value) (df : Bool) (u : Option zF) (h : zE) (n : Nat) (k : KO) : zY P hint92 L lp 92 [p0] df u h n k = F92 L lp p0 df u h n k := by kernel_rfl
theorem l92 : zL P 92 = true := by kernel_rfl
noncomputable def eF92 : EntF P 8 := xL zG mixed 92 l92 F92 F92_eq
noncomputable abbrev fr95 (s0 s1 s2 s3 s4 s5 s6 s7 s8 s9 : Value) : Fr := (.nD (.nD (.nD (.nD .lF s7 .lF) s3 .lF) s1 (.nD (.nD .lF s9 .lF) s5 .lF)) s0 (.nD (.nD (.nD .lF s8 .lF) s4 .lF) s2 (.nD .lF s6 .lF)))
noncomputable def hint95 : yR := fun kind _ i => match kind with
  | 4 => bif Nat.beq i 0 then [.any] else []
  | _ => []
noncomputable def F95 (L : Lo) (lp : LP) (p0 : Value) (df : Bool) (u : Option zF) (h : zE) (n : Nat) (k : KO) : Bool :=
 opt (wZ p0) fun v1 =>
 opt (zC P 149 0 v1) fun v2 =>
 opt (zC P 33 4 v2) fun v3 =>
 opt (zP P 23 h v3) fun v4 =>
 yH L 145 [p0, v4] h n (fun c8 h9 n10 =>
 zD P L 95 k (.panic c8) (fr95 p0 undef (.slice none 0 0) p0 p0 v1 v2 v3 v4 undef) (W.mk [] u h9 n10)) fun a5 h6 n7 =>
 zD P L 95 k .ret (fr95 p0 undef a5 p0 p0 v1 v2 v3 v4 a5) (W.mk [] u h6 n7)
theorem F95_eq (L : Lo) (lp : LP) (p0 : Value) (df : Bool) (u : Option zF) (h : zE) (n : Nat) (k : KO) : zY P hint95 L lp 95 [p0] df u h n k = F95 L lp p0 df u h n k := by kernel_rfl
theorem l95 : zL P 95 = true := by kernel_rfl
noncomputable def eF95 : EntF P 8 := xL zG mixed 95 l95 F95 F95_eq
noncomputable abbrev fr99 (s0 s1 s2 s3 s4 s5 s6 s7 s8 s9 s10 s11 s12 s13 : Value) : Fr := (.nD (.nD (.nD (.nD .lF s7 .lF) s3 (.nD .lF s11 .lF)) s1 (.nD (.nD .lF s9 .lF) s5 (.nD .lF s13 .lF))) s0 (.nD (.nD (.nD .lF s8 .lF) s4 (.nD .lF s12 .lF)) s2 (.nD (.nD .lF s10 .lF) s6 .lF)))
noncomputable def hint99 : yR := fun kind _ i => match kind with
  | 4 => bif Nat.beq i 0 then [.any] else []
  | _ => []
noncomputable def F99 (L : Lo) (lp : LP) (p0 : Value) (df : Bool) (u : Option zF) (h : zE) (n : Nat) (k : KO) : Bool :=
 xR L 49 [p0] h n (fun c4 h5 n6 =>
 zD P L 99 k (.panic c4) (fr99 p0 undef (.bool false) undef undef p0 undef undef undef undef undef undef undef undef) (W.mk [] u h5 n6)) fun a1 h2 n3 =>
 xR L 89 [p0] h2 n3 (fun c10 h11 n12 =>
 zD P L 99 k (.panic c10) (fr99 p0 undef (.bool false) (.bool a1) undef p0 (.bool a1) p0 undef undef undef undef undef undef) (W.mk [] u h11 n12)) fun a7 h8 n9 =>
 grd a1 (fun k13 =>
 k13 h8 n9 (.bool a7)) (fun h14 n15 v16 =>
 grd a1 (fun k17 =>
 opt (aUn .not v16) fun v21 =>
 rtB v21 fun a22 =>
 k17 h14 n15 (.bool a22)) (fun h18 n19 v20 =>
 rtB (sel a1 v20 (.bool false)) fun a23 =>
 zD P L 99 k .ret (fr99 p0 undef (.bool a23) (.bool a1) (.bool a7) p0 (.bool a1) p0 (.bool a7) (.bool a1) (.bool a1) v16 v20 (.bool a23)) (W.mk [] u h18 n19)) h14 n15) h8 n9
theorem F99_eq (L : Lo) (lp : LP) (p0 : Value) (df : Bool) (u : Option zF) (h : zE) (n : Nat) (k : KO) : zY P hint99 L lp 99 [p0] df u h n k = F99 L lp p0 df u h n k := by kernel_rfl
theorem l99 : zL P 99 = true := by kernel_rfl
noncomputable def eF99 : EntF P 8 := xL zG mixed 99 l99 F99 F99_eq
noncomputable abbrev fr101 (s0 s1 s2 s3 s4 s5 s6 s7 s8 s9 s10 s11 s12 s13 s14 s15 s16 s17 s18 s19 s20 : Value) : Fr := (.nD (.nD (.nD (.nD (.nD .lF s15 .lF) s7 .lF) s3 (.nD (.nD .lF s19 .lF) s11 .lF)) s1 (.nD (.nD (.nD .lF s17 .lF) s9 .lF) s5 (.nD .lF s13 .lF))) s0 (.nD (.nD (.nD (.nD .lF s16 .lF) s8 .lF) s4 (.nD (.nD .lF s20 .lF) s12 .lF)) s2 (.nD (.nD (.nD .lF s18 .lF) s10 .lF) s6 (.nD .lF s14 .lF))))
noncomputable def hint101 : yR := fun kind _ i => match kind with
  | 0 => bif Nat.beq i 1000004 then [.val, .val, .val, (.int .i64), .val, .val, .val, .val, .val, .val, .val, .val, .val, .val, .val, .val, .val, .val, .val, .val, .val] else []
  | 1 => bif Nat.beq i 0 then [.val, .val, .val, .val, .val, .val, .val, .val, .val, .val, .val, .val, .val, .val, .val, .val, .val, .val, .val, .val, .val] else bif Nat.beq i 1 then [.val, .val, .val, (.int .i64), .val, .val, .val, .val, .val, .val, .val, .val, .val, .val, .val, .val, .val, .val, .val, .val, .val] else []
  | 2 => bif Nat.beq i 0 then [.val, .val, .val, (.int .i64), .val, .val, .val, .val, .val, .val, .val, .val, .val, .val, .val, .val, .val, .val, .val, .val, .val] else bif Nat.beq i 2 then [.val, .val, .val, .val, .val, .val, .val, .val, .val, .val, .val, .val, .val, .val, .val, .val, .val, .val, .val, .val, .val] else bif Nat.beq i 8 then [.val, .val, .val, (.int .i64), .val, .val, .val, .val, .val, .val, .val, .val, .val, .val, .val, .val, .val, .val, .val, .val, .val] else []
  | 4 => bif Nat.beq i 0 then [.any] else []
  | _ => []
noncomputable def F101 (L : Lo) (lp : LP) (p0 : Value) (df : Bool) (u : Option zF) (h : zE) (n : Nat) (k : KO) : Bool :=
 opt (zU P .len [23] [p0] h) fun v1 =>
 rtI .i64 v1 fun a2 =>
 fb (wE 200 a2) fun a3 =>
 br a3 (
 zD P L 101 k .ret (fr101 p0 undef (.bool false) undef undef p0 (.int .i64 a2) (.bool a3) undef undef undef undef undef undef undef undef undef undef undef undef undef) (W.mk [] u h n)) (
 lp 1000004 ⟨101, none, df⟩ (fr101 p0 undef (.bool false) (.int .i64 0) undef p0 (.int .i64 a2) (.bool a3) undef undef undef undef undef undef undef undef undef undef undef undef undef) (W.mk [] u h n) (endA noK (blkA 0 (fun t4 w5 =>
 zA (zB t4 0) fun s6 =>
 zA (zB t4 1) fun s7 =>
 zA (zB t4 2) fun s8 =>
 zA (zB t4 3) fun s9 =>
 zA (zB t4 4) fun s10 =>
 zA (zB t4 5) fun s11 =>
 zA (zB t4 6) fun s12 =>
 zA (zB t4 7) fun s13 =>
 zA (zB t4 8) fun s14 =>
 zA (zB t4 9) fun s15 =>
 zA (zB t4 10) fun s16 =>
 zA (zB t4 11) fun s17 =>
 zA (zB t4 12) fun s18 =>
 zA (zB t4 13) fun s19 =>
 zA (zB t4 14) fun s20 =>
 zA (zB t4 15) fun s21 =>
 zA (zB t4 16) fun s22 =>
 zA (zB t4 17) fun s23 =>
 zA (zB t4 18) fun s24 =>
 zA (zB t4 19) fun s25 =>
 zA (zB t4 20) fun s26 =>
 onW w5 fun d27 u28 h29 n30 =>
 zD P L 101 k .ret (fr101 s6 s7 (.bool true) s9 s10 s11 s12 s13 s14 s15 s16 s17 s18 s19 s20 s21 s22 s23 s24 s25 s26) (W.mk d27 u28 h29 n30)) (zD P L 101 k))))
theorem F101_eq (L : Lo) (lp : LP) (p0 : Value) (df : Bool) (u : Option zF) (h : zE) (n : Nat) (k : KO) : zY P hint101 L lp 101 [p0] df u h n k = F101 L lp p0 df u h n k := by kernel_rfl
noncomputable def B101_1000004 (L : Lo) (lp : LP) (rd : Option Nat) (df : Bool) (t : Fr) (w : W) (ka : KX) : Bool :=
 zA (zB t 0) fun s31 =>
 zA (zB t 1) fun s32 =>
 zA (zB t 2) fun s33 =>
 rtI .i64 (zB t 3) fun s34 =>
 zA (zB t 4) fun s35 =>
 zA (zB t 5) fun s36 =>
 zA (zB t 6) fun s37 =>
 zA (zB t 7) fun s38 =>
 zA (zB t 8) fun s39 =>
 zA (zB t 9) fun s40 =>
 zA (zB t 10) fun s41 =>
 zA (zB t 11) fun s42 =>
 zA (zB t 12) fun s43 =>
 zA (zB t 13) fun s44 =>
 zA (zB t 14) fun s45 =>
 zA (zB t 15) fun s46 =>
 zA (zB t 16) fun s47 =>
 zA (zB t 17) fun s48 =>
 zA (zB t 18) fun s49 =>
 zA (zB t 19) fun s50 =>
 zA (zB t 20) fun s51 =>
 onW w fun d52 u53 h54 n55 =>
 opt (zU P .len [23] [s31] h54) fun v56 =>
 rtI .i64 v56 fun a57 =>
 fb (wE s34 a57) fun a58 =>
 br a58 (
 blkJ (fun k59 =>
 opt (zQ P 23 s31 (.int .i64 s34)) fun v60 =>
 opt (zP P 9 h54 v60) fun v61 =>
 xR L 99 [v61] h54 n55 (fun c65 h66 n67 =>
 ka (.panic c65) (fr101 s31 s32 s33 (.int .i64 s34) s35 s36 s37 s38 (.int .i64 s34) s31 (.int .i64 a57) (.bool a58) s43 s44 s31 (.int .i64 s34) v60 v61 s49 s50 s51) (W.mk d52 u53 h66 n67)) fun a62 h63 n64 =>
 opt (aUn .not (.bool a62)) fun v68 =>
 rtB v68 fun a69 =>
 br a69 (
 ka .ret (fr101 s31 s32 (.bool false) (.int .i64 s34) (.bool a62) s36 s37 s38 (.int .i64 s34) s31 (.int .i64 a57) (.bool a58) s43 s44 s31 (.int .i64 s34) v60 v61 (.bool a62) (.bool a62) (.bool a69)) (W.mk d52 u53 h63 n64)) (
 k59 (fr101 s31 s32 s33 (.int .i64 s34) (.bool a62) s36 s37 s38 (.int .i64 s34) s31 (.int .i64 a57) (.bool a58) s43 s44 s31 (.int .i64 s34) v60 v61 (.bool a62) (.bool a62) (.bool a69)) (W.mk d52 u53 h63 n64))) (fun t70 w71 =>
 zA (zB t70 0) fun s72 =>
 zA (zB t70 1) fun s73 =>
 zA (zB t70 2) fun s74 =>
 rtI .i64 (zB t70 3) fun s75 =>
 zA (zB t70 4) fun s76 =>
 zA (zB t70 5) fun s77 =>
 zA (zB t70 6) fun s78 =>
 zA (zB t70 7) fun s79 =>
 zA (zB t70 8) fun s80 =>
 zA (zB t70 9) fun s81 =>
 zA (zB t70 10) fun s82 =>
 zA (zB t70 11) fun s83 =>
 zA (zB t70 12) fun s84 =>
 zA (zB t70 13) fun s85 =>
 zA (zB t70 14) fun s86 =>
 zA (zB t70 15) fun s87 =>
 zA (zB t70 16) fun s88 =>
 zA (zB t70 17) fun s89 =>
 zA (zB t70 18) fun s90 =>
 zA (zB t70 19) fun s91 =>
 zA (zB t70 20) fun s92 =>
 onW w71 fun d93 u94 h95 n96 =>
 fi (yK .i64 (wV s75 1)) fun a97 =>
 lp 1000004 ⟨101, rd, df⟩ (fr101 s72 s73 s74 (.int .i64 a97) s76 s77 s78 s79 s80 s81 s82 s83 (.int .i64 s75) (.int .i64 a97) s86 s87 s88 s89 s90 s91 s92) (W.mk d93 u94 h95 n96) ka)) (
 ka (.exit 0) (fr101 s31 s32 s33 (.int .i64 s34) s35 s36 s37 s38 (.int .i64 s34) s31 (.int .i64 a57) (.bool a58) s43 s44 s45 s46 s47 s48 s49 s50 s51) (W.mk d52 u53 h54 n55))
theorem B101_1000004_eq (L : Lo) (lp : LP) (rd : Option Nat) (df : Bool) (t : Fr) (w : W) (ka : KX) : wU P hint101 L lp (unL (zJ P 101 1000004)) ⟨101, rd, df⟩ t w ka = B101_1000004 L lp rd df t w ka := by kernel_rfl
theorem l101 : zL P 101 = true := by kernel_rfl
theorem lp101_1000004 : yW (zJ P 101 1000004) = true := by kernel_rfl
noncomputable def eF101 : EntF P 8 := xL zG mixed 101 l101 F101 F101_eq
noncomputable def eL101_1000004 : EntL P 8 := entL zG mixed 101 l101 1000004 lp101_1000004 B101_1000004 B101_1000004_eq
noncomputable abbrev fr110 (s0 s1 s2 s3 s4 s5 s6 s7 s8 s9 s10 s11 s12 s13 s14 s15 s16 s17 s18 s19 s20 : Value) : Fr := (.nD (.nD (.nD (.nD (.nD .lF s15 .lF) s7 .lF) s3 (.nD (.nD .lF s19 .lF) s11 .lF)) s1 (.nD (.nD (.nD .lF s17 .lF) s9 .lF) s5 (.nD .lF s13 .lF))) s0 (.nD (.nD (.nD (.nD .lF s16 .lF) s8 .lF) s4 (.nD (.nD .lF s20 .lF) s12 .lF)) s2 (.nD (.nD (.nD .lF s18 .lF) s10 .lF) s6 (.nD .lF s14 .lF))))
noncomputable def hint110 : yR := fun kind _ i => match kind with
  | 4 => bif Nat.beq i 0 then [(.int .u8)] else []
  | _ => []
noncomputable def F110 (L : Lo) (lp : LP) (p0 : Value) (df : Bool) (u : Option zF) (h : zE) (n : Nat) (k : KO) : Bool :=
 rtI .u8 p0 fun ap0 =>
 fb (ileB 97 ap0) fun a1 =>
 grd a1 (fun k2 =>
 k2 h n (.int .u8 ap0)) (fun h3 n4 v5 =>
 grd a1 (fun k6 =>
 zK ileB P .leq 5 true v5 (.int .u8 122) fun a10 =>
 k6 h3 n4 (.bool a10)) (fun h7 n8 v9 =>
 rtB (sel a1 v9 (.bool false)) fun a11 =>
 grd (nt a11) (fun k12 =>
 k12 h7 n8 (.int .u8 ap0)) (fun h13 n14 v15 =>
 grd (nt a11) (fun k16 =>
 zK igeB P .geq 5 true v15 (.int .u8 65) fun a20 =>
 k16 h13 n14 (.bool a20)) (fun h17 n18 v19 =>
 grd (nt a11) (fun k21 =>
 k21 h17 n18 v19) (fun h22 n23 v24 =>
 grd (gv v24) (fun k25 =>
 k25 h22 n23 (.int .u8 ap0)) (fun h26 n27 v28 =>
 grd (gv v24) (fun k29 =>
 zK ileB P .leq 5 true v28 (.int .u8 90) fun a33 =>
 k29 h26 n27 (.bool a33)) (fun h30 n31 v32 =>
 grd (nt a11) (fun k34 =>
 zW v24 (fun b38 =>
 rtB (sel b38 v32 (.bool false)) fun a39 =>
 k34 h30 n31 (.bool a39)) false) (fun h35 n36 v37 =>
 rtB (sel a11 (.bool true) v37) fun a40 =>
 grd (nt a40) (fun k41 =>
 k41 h35 n36 (.int .u8 ap0)) (fun h42 n43 v44 =>
 grd (nt a40) (fun k45 =>
 zK yO P .eql 5 true v44 (.int .u8 95) fun a49 =>
 k45 h42 n43 (.bool a49)) (fun h46 n47 v48 =>
 rtB (sel a40 (.bool true) v48) fun a50 =>
 zD P L 110 k .ret (fr110 (.int .u8 ap0) undef (.bool a50) (.int .u8 ap0) (.bool a1) (.bool a1) v5 v9 (.bool a11) (.bool a11) v15 v19 v24 v28 v32 v37 (.bool a40) (.bool a40) v44 v48 (.bool a50)) (W.mk [] u h46 n47)) h42 n43) h35 n36) h30 n31) h26 n27) h22 n23) h17 n18) h13 n14) h7 n8) h3 n4) h n
theorem F110_eq (L : Lo) (lp : LP) (p0 : Value) (df : Bool) (u : Option zF) (h : zE) (n : Nat) (k : KO) : zY P hint110 L lp 110 [p0] df u h n k = F110 L lp p0 df u h n k := by kernel_rfl
theorem l110 : zL P 110 = true := by kernel_rfl
noncomputable def eF110 : EntF P 8 := xL zG mixed 110 l110 F110 F110_eq
noncomputable abbrev fr132 (s0 s1 s2 s3 s4 s5 s6 s7 s8 s9 s10 s11 s12 s13 s14 s15 s16 s17 s18 s19 s20 s21 s22 s23 s24 s25 s26 s27 s28 s29 s30 s31 s32 s33 s34 s35 s36 : Value) : Fr := (.nD (.nD (.nD (.nD (.nD (.nD .lF s31 .lF) s15 .lF) s7 (.nD .lF s23 .lF)) s3 (.nD (.nD (.nD .lF s35 .lF) s19 .lF) s11 (.nD .lF s27 .lF))) s1 (.nD (.nD (.nD (.nD .lF s33 .lF) s17 .lF) s9 (.nD .lF s25 .lF)) s5 (.nD (.nD .lF s21 .lF) s13 (.nD .lF s29 .lF)))) s0 (.nD (.nD (.nD (.nD (.nD .lF s32 .lF) s16 .lF) s8 (.nD .lF s24 .lF)) s4 (.nD (.nD (.nD .lF s36 .lF) s20 .lF) s12 (.nD .lF s28 .lF))) s2 (.nD (.nD (.nD (.nD .lF s34 .lF) s18 .lF) s10 (.nD .lF s26 .lF)) s6 (.nD (.nD .lF s22 .lF) s14 (.nD .lF s30 .lF)))))
noncomputable def hint132 : yR := fun kind _ i => match kind with
  | 0 => bif Nat.beq i 1000002 then [.val, .val, .val, .val, .val, .val, .val, .val, .val, .val, .val, .val, .val, .val, .val, .val, .val, .val, .val, (.int .i64), (.int .i64), .val, .val, .val, .val, .val, .val, .val, .val, .val, .val, .val, .val, .val, .val, .val, .val] else []
  | 1 => bif Nat.beq i 0 then [.val, .val, .val, .val, .val, .val, .val, .val, .val, .val, .val, .val, .val, .val, .val, .val, .val, .val, .val, .val, .val, .val, .val, .val, .val, .val, .val, .val, .val, .val, .val, .val, .val, .val, .val, .val, .val] else bif Nat.beq i 1 then [.val, .val, .val, .val, .val, .val, .val, .val, .val, .val, .val, .val, .val, .val, .val, .val, .val, .val, .val, (.int .i64), (.int .i64), .val, .val, .val, .val, .val, .val, .val, .val, .val, .val, .val, .val, .val, .val, .val, .val] else []
  | 2 => bif Nat.beq i 0 then [.val, .val, .val, .val, .val, .val, .val, .val, .val, .val, .val, .val, .val, .val, .val, .val, .val, .val, .val, (.int .i64), (.int .i64), .val, .val, .val, .val, .val, .val, .val, .val, .val, .val, .val, .val, .val, .val, .val, .val] else []
  | 4 => bif Nat.beq i 0 then [.any, .any] else []
  | _ => []
noncomputable def F132 (L : Lo) (lp : LP) (p0 p1 : Value) (df : Bool) (u : Option zF) (h : zE) (n : Nat) (k : KO) : Bool :=
 opt (wZ p0) fun v1 =>
 opt (zC P 171 0 v1) fun v2 =>
 opt (zP P 4 h v2) fun v3 =>
 rtB v3 fun a4 =>
 grd (nt a4) (fun k5 =>
 k5 h n p1) (fun h6 n7 v8 =>
 grd (nt a4) (fun k9 =>
 opt (zU P .len [23] [v8] h6) fun v13 =>
 rtI .i64 v13 fun a14 =>
 k9 h6 n7 (.int .i64 a14)) (fun h10 n11 v12 =>
 grd (nt a4) (fun k15 =>
 zK igtB P .gtr 3 true v12 (.int .i64 200) fun a19 =>
 k15 h10 n11 (.bool a19)) (fun h16 n17 v18 =>
 rtB (sel a4 (.bool true) v18) fun a20 =>
 opt (wZ p0) fun v21 =>
 opt (zC P 171 0 v21) fun v22 =>
 xG P 4 v22 (.bool a20) h16 n17 fun h23 n24 v25 =>
 opt (zU P .len [23] [p1] h23) fun v26 =>
 rtI .i64 v26 fun a27 =>
 lp 1000002 ⟨132, none, df⟩ (fr132 p0 p1 undef undef undef undef p0 p0 v1 v2 (.bool a4) (.bool a4) v8 v12 v18 (.bool a20) v21 v22 p1 (.int .i64 a27) (.int .i64 0) undef undef undef undef undef undef undef undef undef undef undef undef undef undef undef undef) (W.mk [] u h23 n24) (endA noK (blkA 0 (fun t28 w29 =>
 zA (zB t28 0) fun s30 =>
 zA (zB t28 1) fun s31 =>
 zA (zB t28 2) fun s32 =>
 zA (zB t28 3) fun s33 =>
 zA (zB t28 4) fun s34 =>
 zA (zB t28 5) fun s35 =>
 zA (zB t28 6) fun s36 =>
 zA (zB t28 7) fun s37 =>
 zA (zB t28 8) fun s38 =>
 zA (zB t28 9) fun s39 =>
 zA (zB t28 10) fun s40 =>
 zA (zB t28 11) fun s41 =>
 zA (zB t28 12) fun s42 =>
 zA (zB t28 13) fun s43 =>
 zA (zB t28 14) fun s44 =>
 zA (zB t28 15) fun s45 =>
 zA (zB t28 16) fun s46 =>
 zA (zB t28 17) fun s47 =>
 zA (zB t28 18) fun s48 =>
 zA (zB t28 19) fun s49 =>
 zA (zB t28 20) fun s50 =>
 zA (zB t28 21) fun s51 =>
 zA (zB t28 22) fun s52 =>
 zA (zB t28 23) fun s53 =>
 zA (zB t28 24) fun s54 =>
 zA (zB t28 25) fun s55 =>
 zA (zB t28 26) fun s56 =>
 zA (zB t28 27) fun s57 =>
 zA (zB t28 28) fun s58 =>
 zA (zB t28 29) fun s59 =>
 zA (zB t28 30) fun s60 =>
 zA (zB t28 31) fun s61 =>
 zA (zB t28 32) fun s62 =>
 zA (zB t28 33) fun s63 =>
 zA (zB t28 34) fun s64 =>
 zA (zB t28 35) fun s65 =>
 zA (zB t28 36) fun s66 =>
 onW w29 fun d67 u68 h69 n70 =>
 zD P L 132 k .ret (fr132 s30 s31 s32 s33 s34 s35 s36 s37 s38 s39 s40 s41 s42 s43 s44 s45 s46 s47 s48 s49 s50 s51 s52 s53 s54 s55 s56 s57 s58 s59 s60 s61 s62 s63 s64 s65 s66) (W.mk d67 u68 h69 n70)) (zD P L 132 k)))) h10 n11) h6 n7) h n
theorem F132_eq (L : Lo) (lp : LP) (p0 p1 : Value) (df : Bool) (u : Option zF) (h : zE) (n : Nat) (k : KO) : zY P hint132 L lp 132 [p0, p1] df u h n k = F132 L lp p0 p1 df u h n k := by kernel_rfl
noncomputable def B132_1000002 (L : Lo) (lp : LP) (rd : Option Nat) (df : Bool) (t : Fr) (w : W) (ka : KX) : Bool :=
 zA (zB t 0) fun s71 =>
 zA (zB t 1) fun s72 =>
 zA (zB t 2) fun s73 =>
 zA (zB t 3) fun s74 =>
 zA (zB t 4) fun s75 =>
 zA (zB t 5) fun s76 =>
 zA (zB t 6) fun s77 =>
 zA (zB t 7) fun s78 =>
 zA (zB t 8) fun s79 =>
 zA (zB t 9) fun s80 =>
 zA (zB t 10) fun s81 =>
 zA (zB t 11) fun s82 =>
 zA (zB t 12) fun s83 =>
 zA (zB t 13) fun s84 =>
 zA (zB t 14) fun s85 =>
 zA (zB t 15) fun s86 =>
 zA (zB t 16) fun s87 =>
 zA (zB t 17) fun s88 =>
 zA (zB t 18) fun s89 =>
 rtI .i64 (zB t 19) fun s90 =>
 rtI .i64 (zB t 20) fun s91 =>
 zA (zB t 21) fun s92 =>
 zA (zB t 22) fun s93 =>
 zA (zB t 23) fun s94 =>
 zA (zB t 24) fun s95 =>
 zA (zB t 25) fun s96 =>
 zA (zB t 26) fun s97 =>
 zA (zB t 27) fun s98 =>
 zA (zB t 28) fun s99 =>
 zA (zB t 29) fun s100 =>
 zA (zB t 30) fun s101 =>
 zA (zB t 31) fun s102 =>
 zA (zB t 32) fun s103 =>
 zA (zB t 33) fun s104 =>
 zA (zB t 34) fun s105 =>
 zA (zB t 35) fun s106 =>
 zA (zB t 36) fun s107 =>
 onW w fun d108 u109 h110 n111 =>
 fb (wE s91 s90) fun a112 =>
 br a112 (
 blkJ (fun k113 =>
 opt (zQ P 23 s89 (.int .i64 s91)) fun v114 =>
 opt (zP P 9 h110 v114) fun v115 =>
 opt (wZ s71) fun v116 =>
 opt (zC P 171 0 v116) fun v117 =>
 opt (zP P 4 h110 v117) fun v118 =>
 rtB v118 fun a119 =>
 grd (nt a119) (fun k120 =>
 k120 h110 n111 v115) (fun h121 n122 v123 =>
 grd (nt a119) (fun k124 =>
 xR L 164 [v123] h121 n122 (fun c131 h132 n133 =>
 ka (.panic c131) (fr132 s71 s72 s73 s74 s75 v115 s77 s78 s79 s80 s81 s82 s83 s84 s85 s86 s87 s88 s89 (.int .i64 s90) (.int .i64 s91) (.bool a112) v114 v115 s71 s71 v116 v117 (.bool a119) (.bool a119) v123 s102 s103 s104 s105 s106 s107) (W.mk d108 u109 h132 n133)) fun a128 h129 n130 =>
 k124 h129 n130 (.bool a128)) (fun h125 n126 v127 =>
 grd (nt a119) (fun k134 =>
 opt (aUn .not v127) fun v138 =>
 rtB v138 fun a139 =>
 k134 h125 n126 (.bool a139)) (fun h135 n136 v137 =>
 rtB (sel a119 (.bool true) v137) fun a140 =>
 opt (wZ s71) fun v141 =>
 opt (zC P 171 0 v141) fun v142 =>
 xG P 4 v142 (.bool a140) h135 n136 fun h143 n144 v145 =>
 k113 (fr132 s71 s72 s73 s74 s75 v115 s77 s78 s79 s80 s81 s82 s83 s84 s85 s86 s87 s88 s89 (.int .i64 s90) (.int .i64 s91) (.bool a112) v114 v115 s71 s71 v116 v117 (.bool a119) (.bool a119) v123 v127 v137 (.bool a140) v141 v142 s107) (W.mk d108 u109 h143 n144)) h125 n126) h121 n122) h110 n111) (fun t146 w147 =>
 zA (zB t146 0) fun s148 =>
 zA (zB t146 1) fun s149 =>
 zA (zB t146 2) fun s150 =>
 zA (zB t146 3) fun s151 =>
 zA (zB t146 4) fun s152 =>
 zA (zB t146 5) fun s153 =>
 zA (zB t146 6) fun s154 =>
 zA (zB t146 7) fun s155 =>
 zA (zB t146 8) fun s156 =>
 zA (zB t146 9) fun s157 =>
 zA (zB t146 10) fun s158 =>
 zA (zB t146 11) fun s159 =>
 zA (zB t146 12) fun s160 =>
 zA (zB t146 13) fun s161 =>
 zA (zB t146 14) fun s162 =>
 zA (zB t146 15) fun s163 =>
 zA (zB t146 16) fun s164 =>
 zA (zB t146 17) fun s165 =>
 zA (zB t146 18) fun s166 =>
 rtI .i64 (zB t146 19) fun s167 =>
 rtI .i64 (zB t146 20) fun s168 =>
 zA (zB t146 21) fun s169 =>
 zA (zB t146 22) fun s170 =>
 zA (zB t146 23) fun s171 =>
 zA (zB t146 24) fun s172 =>
 zA (zB t146 25) fun s173 =>
 zA (zB t146 26) fun s174 =>
 zA (zB t146 27) fun s175 =>
 zA (zB t146 28) fun s176 =>
 zA (zB t146 29) fun s177 =>
 zA (zB t146 30) fun s178 =>
 zA (zB t146 31) fun s179 =>
 zA (zB t146 32) fun s180 =>
 zA (zB t146 33) fun s181 =>
 zA (zB t146 34) fun s182 =>
 zA (zB t146 35) fun s183 =>
 zA (zB t146 36) fun s184 =>
 onW w147 fun d185 u186 h187 n188 =>
 fi (yK .i64 (wV s168 1)) fun a189 =>
 lp 1000002 ⟨132, rd, df⟩ (fr132 s148 s149 s150 s151 s152 s153 s154 s155 s156 s157 s158 s159 s160 s161 s162 s163 s164 s165 s166 (.int .i64 s167) (.int .i64 a189) s169 s170 s171 s172 s173 s174 s175 s176 s177 s178 s179 s180 s181 s182 s183 (.int .i64 a189)) (W.mk d185 u186 h187 n188) ka)) (
 ka (.exit 0) (fr132 s71 s72 s73 s74 s75 s76 s77 s78 s79 s80 s81 s82 s83 s84 s85 s86 s87 s88 s89 (.int .i64 s90) (.int .i64 s91) (.bool a112) s93 s94 s95 s96 s97 s98 s99 s100 s101 s102 s103 s104 s105 s106 s107) (W.mk d108 u109 h110 n111))
theorem B132_1000002_eq (L : Lo) (lp : LP) (rd : Option Nat) (df : Bool) (t : Fr) (w : W) (ka : KX) : wU P hint132 L lp (unL (zJ P 132 1000002)) ⟨132, rd, df⟩ t w ka = B132_1000002 L lp rd df t w ka := by kernel_rfl
theorem l132 : zL P 132 = true := by kernel_rfl
theorem lp132_1000002 : yW (zJ P 132 1000002) = true := by kernel_rfl
noncomputable def eF132 : EntF P 8 := wL zG mixed 132 l132 F132 F132_eq
noncomputable def eL132_1000002 : EntL P 8 := entL zG mixed 132 l132 1000002 lp132_1000002 B132_1000002 B132_1000002_eq
noncomputable abbrev fr146 (s0 s1 s2 s3 s4 s5 s6 s7 s8 s9 s10 s11 s12 s13 s14 s15 s16 s17 : Value) : Fr := (.nD (.nD (.nD (.nD (.nD .lF s15 .lF) s7 .lF) s3 (.nD .lF s11 .lF)) s1 (.nD (.nD (.nD .lF s17 .lF) s9 .lF) s5 (.nD .lF s13 .lF))) s0 (.nD (.nD (.nD (.nD .lF s16 .lF) s8 .lF) s4 (.nD .lF s12 .lF)) s2 (.nD (.nD .lF s10 .lF) s6 (.nD .lF s14 .lF))))
noncomputable def hint146 : yR := fun kind _ i => match kind with
  | 0 => bif Nat.beq i 1000002 then [.val, (.int .i64), .val, .val, .val, (.int .i64), .val, .val, .val, .val, .val, .val, .val, .val, .val, .val, .val, .val] else []
  | 1 => bif Nat.beq i 0 then [.val, .val, .val, .val, .val, .val, .val, .val, .val, .val, .val, .val, .val, .val, .val, .val, .val, .val] else bif Nat.beq i 1 then [.val, (.int .i64), .val, .val, .val, (.int .i64), .val, .val, .val, .val, .val, .val, .val, .val, .val, .val, .val, .val] else []
  | 2 => bif Nat.beq i 0 then [.val, (.int .i64), .val, .val, .val, (.int .i64), .val, .val, .val, .val, .val, .val, .val, .val, .val, .val, .val, .val] else bif Nat.beq i 5 then [.val, (.int .i64), .val, .val, .val, (.int .i64), .val, .val, .val, .val, .val, .val, .val, .val, .val, .val, .val, .val] else []
  | 4 => bif Nat.beq i 0 then [.any, (.int .i64)] else []
  | _ => []
noncomputable def F146 (L : Lo) (lp : LP) (p0 p1 : Value) (df : Bool) (u : Option zF) (h : zE) (n : Nat) (k : KO) : Bool :=
 rtI .i64 p1 fun ap1 =>
 lp 1000002 ⟨146, none, df⟩ (fr146 p0 (.int .i64 ap1) undef undef (.bool false) (.int .i64 0) undef undef undef undef undef undef undef undef undef undef undef undef) (W.mk [] u h n) (endA noK (blkA 0 (fun t1 w2 =>
 zA (zB t1 0) fun s3 =>
 zA (zB t1 1) fun s4 =>
 zA (zB t1 2) fun s5 =>
 zA (zB t1 3) fun s6 =>
 zA (zB t1 4) fun s7 =>
 zA (zB t1 5) fun s8 =>
 zA (zB t1 6) fun s9 =>
 zA (zB t1 7) fun s10 =>
 zA (zB t1 8) fun s11 =>
 zA (zB t1 9) fun s12 =>
 zA (zB t1 10) fun s13 =>
 zA (zB t1 11) fun s14 =>
 zA (zB t1 12) fun s15 =>
 zA (zB t1 13) fun s16 =>
 zA (zB t1 14) fun s17 =>
 zA (zB t1 15) fun s18 =>
 zA (zB t1 16) fun s19 =>
 zA (zB t1 17) fun s20 =>
 onW w2 fun d21 u22 h23 n24 =>
 zD P L 146 k .ret (fr146 s3 s4 s5 s6 (.bool false) s8 s9 s10 s11 s12 s13 s14 s15 s16 s17 s18 s19 s20) (W.mk d21 u22 h23 n24)) (zD P L 146 k)))
theorem F146_eq (L : Lo) (lp : LP) (p0 p1 : Value) (df : Bool) (u : Option zF) (h : zE) (n : Nat) (k : KO) : zY P hint146 L lp 146 [p0, p1] df u h n k = F146 L lp p0 p1 df u h n k := by kernel_rfl
noncomputable def B146_1000002 (L : Lo) (lp : LP) (rd : Option Nat) (df : Bool) (t : Fr) (w : W) (ka : KX) : Bool :=
 zA (zB t 0) fun s25 =>
 rtI .i64 (zB t 1) fun s26 =>
 zA (zB t 2) fun s27 =>
 zA (zB t 3) fun s28 =>
 zA (zB t 4) fun s29 =>
 rtI .i64 (zB t 5) fun s30 =>
 zA (zB t 6) fun s31 =>
 zA (zB t 7) fun s32 =>
 zA (zB t 8) fun s33 =>
 zA (zB t 9) fun s34 =>
 zA (zB t 10) fun s35 =>
 zA (zB t 11) fun s36 =>
 zA (zB t 12) fun s37 =>
 zA (zB t 13) fun s38 =>
 zA (zB t 14) fun s39 =>
 zA (zB t 15) fun s40 =>
 zA (zB t 16) fun s41 =>
 zA (zB t 17) fun s42 =>
 onW w fun d43 u44 h45 n46 =>
 opt (zU P .len [40] [s25] h45) fun v47 =>
 rtI .i64 v47 fun a48 =>
 fb (wE s30 a48) fun a49 =>
 br a49 (
 blkJ (fun k50 =>
 opt (zQ P 40 s25 (.int .i64 s30)) fun v51 =>
 opt (zP P 3 h45 v51) fun v52 =>
 rtI .i64 v52 fun a53 =>
 fb (yO a53 s26) fun a54 =>
 br a54 (
 ka .ret (fr146 s25 (.int .i64 s26) s27 s28 (.bool true) (.int .i64 s30) (.int .i64 s30) s25 (.int .i64 a48) (.bool a49) s35 s36 s25 (.int .i64 s30) v51 (.int .i64 a53) (.int .i64 s26) (.bool a54)) (W.mk d43 u44 h45 n46)) (
 k50 (fr146 s25 (.int .i64 s26) s27 s28 s29 (.int .i64 s30) (.int .i64 s30) s25 (.int .i64 a48) (.bool a49) s35 s36 s25 (.int .i64 s30) v51 (.int .i64 a53) (.int .i64 s26) (.bool a54)) (W.mk d43 u44 h45 n46))) (fun t55 w56 =>
 zA (zB t55 0) fun s57 =>
 rtI .i64 (zB t55 1) fun s58 =>
 zA (zB t55 2) fun s59 =>
 zA (zB t55 3) fun s60 =>
 zA (zB t55 4) fun s61 =>
 rtI .i64 (zB t55 5) fun s62 =>
 zA (zB t55 6) fun s63 =>
 zA (zB t55 7) fun s64 =>
 zA (zB t55 8) fun s65 =>
 zA (zB t55 9) fun s66 =>
 zA (zB t55 10) fun s67 =>
 zA (zB t55 11) fun s68 =>
 zA (zB t55 12) fun s69 =>
 zA (zB t55 13) fun s70 =>
 zA (zB t55 14) fun s71 =>
 zA (zB t55 15) fun s72 =>
 zA (zB t55 16) fun s73 =>
 zA (zB t55 17) fun s74 =>
 onW w56 fun d75 u76 h77 n78 =>
 fi (yK .i64 (wV s62 1)) fun a79 =>
 lp 1000002 ⟨146, rd, df⟩ (fr146 s57 (.int .i64 s58) s59 s60 s61 (.int .i64 a79) s63 s64 s65 s66 (.int .i64 s62) (.int .i64 a79) s69 s70 s71 s72 s73 s74) (W.mk d75 u76 h77 n78) ka)) (
 ka (.exit 0) (fr146 s25 (.int .i64 s26) s27 s28 s29 (.int .i64 s30) (.int .i64 s30) s25 (.int .i64 a48) (.bool a49) s35 s36 s37 s38 s39 s40 s41 s42) (W.mk d43 u44 h45 n46))
theorem B146_1000002_eq (L : Lo) (lp : LP) (rd : Option Nat) (df : Bool) (t : Fr) (w : W) (ka : KX) : wU P hint146 L lp (unL (zJ P 146 1000002)) ⟨146, rd, df⟩ t w ka = B146_1000002 L lp rd df t w ka := by kernel_rfl
theorem l146 : zL P 146 = true := by kernel_rfl
theorem lp146_1000002 : yW (zJ P 146 1000002) = true := by kernel_rfl
noncomputable def eF146 : EntF P 8 := wL zG mixed 146 l146 F146 F146_eq
noncomputable def eL146_1000002 : EntL P 8 := entL zG mixed 146 l146 1000002 lp146_1000002 B146_1000002 B146_1000002_eq
noncomputable abbrev fr165 (s0 s1 s2 s3 : Value) : Fr := (.nD (.nD (.nD .lF s3 .lF) s1 .lF) s0 (.nD .lF s2 .lF))
noncomputable def hint165 : yR := fun kind _ i => match kind with
  | 4 => bif Nat.beq i 0 then [.any] else []
  | _ => []
noncomputable def F165 (L : Lo) (lp : LP) (p0 : Value) (df : Bool) (u : Option zF) (h : zE) (n : Nat) (k : KO) : Bool :=
 eBox 29 p0 h n fun h1 n2 v3 =>
 letV (.func (.func 188) (Array.mk []) (Array.mk [v3])) fun v4 =>
 zD P L 165 k .ret (fr165 p0 v3 v4 v4) (W.mk [] u h1 n2)
theorem F165_eq (L : Lo) (lp : LP) (p0 : Value) (df : Bool) (u : Option zF) (h : zE) (n : Nat) (k : KO) : zY P hint165 L lp 165 [p0] df u h n k = F165 L lp p0 df u h n k := by kernel_rfl
theorem l165 : zL P 165 = true := by kernel_rfl
noncomputable def eF165 : EntF P 8 := xL zG mixed 165 l165 F165 F165_eq
noncomputable abbrev fr166 (s0 s1 s2 s3 s4 s5 s6 s7 s8 s9 s10 s11 s12 s13 s14 s15 s16 s17 s18 s19 s20 s21 s22 s23 s24 s25 s26 s27 s28 s29 : Value) : Fr := (.nD (.nD (.nD (.nD (.nD .lF s15 .lF) s7 (.nD .lF s23 .lF)) s3 (.nD (.nD .lF s19 .lF) s11 (.nD .lF s27 .lF))) s1 (.nD (.nD (.nD .lF s17 .lF) s9 (.nD .lF s25 .lF)) s5 (.nD (.nD .lF s21 .lF) s13 (.nD .lF s29 .lF)))) s0 (.nD (.nD (.nD (.nD .lF s16 .lF) s8 (.nD .lF s24 .lF)) s4 (.nD (.nD .lF s20 .lF) s12 (.nD .lF s28 .lF))) s2 (.nD (.nD (.nD .lF s18 .lF) s10 (.nD .lF s26 .lF)) s6 (.nD (.nD .lF s22 .lF) s14 .lF))))
noncomputable def hint166 : yR := fun kind _ i => match kind with
  | 2 => bif Nat.beq i 1 then [(.int .u64), (.int .u64), .val, .val, .val, .val, .val, .val, .val, .val, .val, .val, .val, .val, .val, .val, .val, .val, .val, .val, .val, .val, .val, .val, .val, .val, .val, .val, .val, .val] else []
  | 4 => bif Nat.beq i 0 then [(.int .u64), (.int .u64)] else []
  | _ => []
noncomputable def F166 (L : Lo) (lp : LP) (p0 p1 : Value) (df : Bool) (u : Option zF) (h : zE) (n : Nat) (k : KO) : Bool :=
 rtI .u64 p0 fun ap0 =>
 rtI .u64 p1 fun ap1 =>
 br false (
 opt (qConvert P 204 226 (.int .u64 ap0)) fun v1 =>
 rtI .u32 v1 fun a2 =>
 opt (qConvert P 204 226 (.int .u64 ap1)) fun v3 =>
 rtI .u32 v3 fun a4 =>
 yH L 190 [(.int .u32 a2), (.int .u32 a4)] h n (fun c8 h9 n10 =>
 zD P L 166 k (.panic c8) (fr166 (.int .u64 ap0) (.int .u64 ap1) undef undef (.int .u64 0) (.int .u64 0) undef undef undef undef undef (.int .u64 ap0) (.int .u32 a2) (.int .u64 ap1) (.int .u32 a4) undef undef undef undef undef undef undef undef undef undef undef undef undef undef undef) (W.mk [] u h9 n10)) fun a5 h6 n7 =>
 opt (zZ 0 a5) fun v11 =>
 rtI .u32 v11 fun a12 =>
 opt (zZ 1 a5) fun v13 =>
 rtI .u32 v13 fun a14 =>
 opt (qConvert P 226 204 (.int .u32 a12)) fun v15 =>
 rtI .u64 v15 fun a16 =>
 opt (qConvert P 226 204 (.int .u32 a14)) fun v17 =>
 rtI .u64 v17 fun a18 =>
 zD P L 166 k .ret (fr166 (.int .u64 ap0) (.int .u64 ap1) undef undef (.int .u64 a16) (.int .u64 a18) (.int .u32 a12) (.int .u32 a14) undef undef a5 (.int .u64 ap0) (.int .u32 a2) (.int .u64 ap1) (.int .u32 a4) a5 (.int .u32 a12) (.int .u32 a14) (.int .u32 a12) (.int .u64 a16) (.int .u32 a14) (.int .u64 a18) undef undef undef undef undef undef undef undef) (W.mk [] u h6 n7)) (
 yH L 191 [(.int .u64 ap0), (.int .u64 ap1)] h n (fun c22 h23 n24 =>
 zD P L 166 k (.panic c22) (fr166 (.int .u64 ap0) (.int .u64 ap1) undef undef (.int .u64 0) (.int .u64 0) undef undef undef undef undef undef undef undef undef undef undef undef undef undef undef undef undef (.int .u64 ap0) (.int .u64 ap1) undef undef undef undef undef) (W.mk [] u h23 n24)) fun a19 h20 n21 =>
 opt (zZ 0 a19) fun v25 =>
 rtI .u64 v25 fun a26 =>
 opt (zZ 1 a19) fun v27 =>
 rtI .u64 v27 fun a28 =>
 zD P L 166 k .ret (fr166 (.int .u64 ap0) (.int .u64 ap1) undef undef (.int .u64 a26) (.int .u64 a28) undef undef (.int .u64 a26) (.int .u64 a28) undef undef undef undef undef undef undef undef undef undef undef undef a19 (.int .u64 ap0) (.int .u64 ap1) a19 (.int .u64 a26) (.int .u64 a28) (.int .u64 a26) (.int .u64 a28)) (W.mk [] u h20 n21))
theorem F166_eq (L : Lo) (lp : LP) (p0 p1 : Value) (df : Bool) (u : Option zF) (h : zE) (n : Nat) (k : KO) : zY P hint166 L lp 166 [p0, p1] df u h n k = F166 L lp p0 p1 df u h n k := by kernel_rfl
theorem l166 : zL P 166 = true := by kernel_rfl
noncomputable def eF166 : EntF P 8 := wL zG mixed 166 l166 F166 F166_eq
noncomputable abbrev fr172 (s0 s1 s2 s3 s4 s5 s6 s7 s8 s9 s10 s11 s12 s13 s14 s15 s16 s17 s18 s19 s20 s21 s22 s23 s24 s25 s26 s27 : Value) : Fr := (.nD (.nD (.nD (.nD (.nD .lF s15 .lF) s7 (.nD .lF s23 .lF)) s3 (.nD (.nD .lF s19 .lF) s11 (.nD .lF s27 .lF))) s1 (.nD (.nD (.nD .lF s17 .lF) s9 (.nD .lF s25 .lF)) s5 (.nD (.nD .lF s21 .lF) s13 .lF))) s0 (.nD (.nD (.nD (.nD .lF s16 .lF) s8 (.nD .lF s24 .lF)) s4 (.nD (.nD .lF s20 .lF) s12 .lF)) s2 (.nD (.nD (.nD .lF s18 .lF) s10 (.nD .lF s26 .lF)) s6 (.nD (.nD .lF s22 .lF) s14 .lF))))
noncomputable def hint172 : yR := fun kind _ i => match kind with
  | 0 => bif Nat.beq i 1000002 then [.val, .val, .val, .val, .val, (.int .i64), .val, .val, .val, .val, .val, .val, .val, .val, .val, .val, .val, .val, .val, .val, .val, .val, .val, .val, .val, .val, .val, .val] else []
  | 1 => bif Nat.beq i 0 then [.val, .val, .val, .val, .val, .val, .val, .val, .val, .val, .val, .val, .val, .val, .val, .val, .val, .val, .val, .val, .val, .val, .val, .val, .val, .val, .val, .val] else bif Nat.beq i 1 then [.val, .val, .val, .val, .val, (.int .i64), .val, .val, .val, .val, .val, .val, .val, .val, .val, .val, .val, .val, .val, .val, .val, .val, .val, .val, .val, .val, .val, .val] else []
  | 2 => bif Nat.beq i 0 then [.val, .val, .val, .val, .val, (.int .i64), .val, .val, .val, .val, .val, .val, .val, .val, .val, .val, .val, .val, .val, .val, .val, .val, .val, .val, .val, .val, .val, .val] else bif Nat.beq i 5 then [.val, .val, .val, .val, .val, (.int .i64), .val, .val, .val, .val, .val, .val, .val, .val, .val, .val, .val, .val, .val, .val, .val, .val, .val, .val, .val, .val, .val, .val] else []
  | 4 => bif Nat.beq i 0 then [.any, .any] else []
  | _ => []
noncomputable def F172 (L : Lo) (lp : LP) (p0 p1 : Value) (df : Bool) (u : Option zF) (h : zE) (n : Nat) (k : KO) : Bool :=
 lp 1000002 ⟨172, none, df⟩ (fr172 p0 p1 undef undef (.int .i64 0) (.int .i64 0) undef undef undef undef undef undef undef undef undef undef undef undef undef undef undef undef undef undef undef undef undef undef) (W.mk [] u h n) (endA noK (blkA 0 (fun t1 w2 =>
 zA (zB t1 0) fun s3 =>
 zA (zB t1 1) fun s4 =>
 zA (zB t1 2) fun s5 =>
 zA (zB t1 3) fun s6 =>
 zA (zB t1 4) fun s7 =>
 zA (zB t1 5) fun s8 =>
 zA (zB t1 6) fun s9 =>
 zA (zB t1 7) fun s10 =>
 zA (zB t1 8) fun s11 =>
 zA (zB t1 9) fun s12 =>
 zA (zB t1 10) fun s13 =>
 zA (zB t1 11) fun s14 =>
 zA (zB t1 12) fun s15 =>
 zA (zB t1 13) fun s16 =>
 zA (zB t1 14) fun s17 =>
 zA (zB t1 15) fun s18 =>
 zA (zB t1 16) fun s19 =>
 zA (zB t1 17) fun s20 =>
 zA (zB t1 18) fun s21 =>
 zA (zB t1 19) fun s22 =>
 zA (zB t1 20) fun s23 =>
 zA (zB t1 21) fun s24 =>
 zA (zB t1 22) fun s25 =>
 zA (zB t1 23) fun s26 =>
 zA (zB t1 24) fun s27 =>
 zA (zB t1 25) fun s28 =>
 zA (zB t1 26) fun s29 =>
 zA (zB t1 27) fun s30 =>
 onW w2 fun d31 u32 h33 n34 =>
 zD P L 172 k .ret (fr172 s3 s4 s5 s6 (.int .i64 (-1)) s8 s9 s10 s11 s12 s13 s14 s15 s16 s17 s18 s19 s20 s21 s22 s23 s24 s25 s26 s27 s28 s29 s30) (W.mk d31 u32 h33 n34)) (zD P L 172 k)))
theorem F172_eq (L : Lo) (lp : LP) (p0 p1 : Value) (df : Bool) (u : Option zF) (h : zE) (n : Nat) (k : KO) : zY P hint172 L lp 172 [p0, p1] df u h n k = F172 L lp p0 p1 df u h n k := by kernel_rfl
noncomputable def B172_1000002 (L : Lo) (lp : LP) (rd : Option Nat) (df : Bool) (t : Fr) (w : W) (ka : KX) : Bool :=
 zA (zB t 0) fun s35 =>
 zA (zB t 1) fun s36 =>
 zA (zB t 2) fun s37 =>
 zA (zB t 3) fun s38 =>
 zA (zB t 4) fun s39 =>
 rtI .i64 (zB t 5) fun s40 =>
 zA (zB t 6) fun s41 =>
 zA (zB t 7) fun s42 =>
 zA (zB t 8) fun s43 =>
 zA (zB t 9) fun s44 =>
 zA (zB t 10) fun s45 =>
 zA (zB t 11) fun s46 =>
 zA (zB t 12) fun s47 =>
 zA (zB t 13) fun s48 =>
 zA (zB t 14) fun s49 =>
 zA (zB t 15) fun s50 =>
 zA (zB t 16) fun s51 =>
 zA (zB t 17) fun s52 =>
 zA (zB t 18) fun s53 =>
 zA (zB t 19) fun s54 =>
 zA (zB t 20) fun s55 =>
 zA (zB t 21) fun s56 =>
 zA (zB t 22) fun s57 =>
 zA (zB t 23) fun s58 =>
 zA (zB t 24) fun s59 =>
 zA (zB t 25) fun s60 =>
 zA (zB t 26) fun s61 =>
 zA (zB t 27) fun s62 =>
 onW w fun d63 u64 h65 n66 =>
 opt (wZ s35) fun v67 =>
 opt (zC P 149 0 v67) fun v68 =>
 opt (zC P 33 3 v68) fun v69 =>
 opt (zP P 31 h65 v69) fun v70 =>
 opt (zU P .len [31] [v70] h65) fun v71 =>
 rtI .i64 v71 fun a72 =>
 fb (wE s40 a72) fun a73 =>
 br a73 (
 blkJ (fun k74 =>
 opt (wZ s35) fun v75 =>
 opt (zC P 149 0 v75) fun v76 =>
 opt (zC P 33 3 v76) fun v77 =>
 opt (zP P 31 h65 v77) fun v78 =>
 opt (zQ P 31 v78 (.int .i64 s40)) fun v79 =>
 opt (zC P 80 0 v79) fun v80 =>
 opt (zP P 9 h65 v80) fun v81 =>
 zK yO P .eql 9 false v81 s36 fun a82 =>
 br a82 (
 ka .ret (fr172 s35 s36 s37 s38 (.int .i64 s40) (.int .i64 s40) (.int .i64 s40) s35 v67 v68 v69 v70 (.int .i64 a72) (.bool a73) s49 s50 s35 v75 v76 v77 v78 (.int .i64 s40) v79 v80 v81 s36 (.bool a82) (.int .i64 s40)) (W.mk d63 u64 h65 n66)) (
 k74 (fr172 s35 s36 s37 s38 s39 (.int .i64 s40) (.int .i64 s40) s35 v67 v68 v69 v70 (.int .i64 a72) (.bool a73) s49 s50 s35 v75 v76 v77 v78 (.int .i64 s40) v79 v80 v81 s36 (.bool a82) s62) (W.mk d63 u64 h65 n66))) (fun t83 w84 =>
 zA (zB t83 0) fun s85 =>
 zA (zB t83 1) fun s86 =>
 zA (zB t83 2) fun s87 =>
 zA (zB t83 3) fun s88 =>
 zA (zB t83 4) fun s89 =>
 rtI .i64 (zB t83 5) fun s90 =>
 zA (zB t83 6) fun s91 =>
 zA (zB t83 7) fun s92 =>
 zA (zB t83 8) fun s93 =>
 zA (zB t83 9) fun s94 =>
 zA (zB t83 10) fun s95 =>
 zA (zB t83 11) fun s96 =>
 zA (zB t83 12) fun s97 =>
 zA (zB t83 13) fun s98 =>
 zA (zB t83 14) fun s99 =>
 zA (zB t83 15) fun s100 =>
 zA (zB t83 16) fun s101 =>
 zA (zB t83 17) fun s102 =>
 zA (zB t83 18) fun s103 =>
 zA (zB t83 19) fun s104 =>
 zA (zB t83 20) fun s105 =>
 zA (zB t83 21) fun s106 =>
 zA (zB t83 22) fun s107 =>
 zA (zB t83 23) fun s108 =>
 zA (zB t83 24) fun s109 =>
 zA (zB t83 25) fun s110 =>
 zA (zB t83 26) fun s111 =>
 zA (zB t83 27) fun s112 =>
 onW w84 fun d113 u114 h115 n116 =>
 fi (yK .i64 (wV s90 1)) fun a117 =>
 lp 1000002 ⟨172, rd, df⟩ (fr172 s85 s86 s87 s88 s89 (.int .i64 a117) s91 s92 s93 s94 s95 s96 s97 s98 (.int .i64 s90) (.int .i64 a117) s101 s102 s103 s104 s105 s106 s107 s108 s109 s110 s111 s112) (W.mk d113 u114 h115 n116) ka)) (
 ka (.exit 0) (fr172 s35 s36 s37 s38 s39 (.int .i64 s40) (.int .i64 s40) s35 v67 v68 v69 v70 (.int .i64 a72) (.bool a73) s49 s50 s51 s52 s53 s54 s55 s56 s57 s58 s59 s60 s61 s62) (W.mk d63 u64 h65 n66))
theorem B172_1000002_eq (L : Lo) (lp : LP) (rd : Option Nat) (df : Bool) (t : Fr) (w : W) (ka : KX) : wU P hint172 L lp (unL (zJ P 172 1000002)) ⟨172, rd, df⟩ t w ka = B172_1000002 L lp rd df t w ka := by kernel_rfl
theorem l172 : zL P 172 = true := by kernel_rfl
theorem lp172_1000002 : yW (zJ P 172 1000002) = true := by kernel_rfl
noncomputable def eF172 : EntF P 8 := wL zG mixed 172 l172 F172 F172_eq
noncomputable def eL172_1000002 : EntL P 8 := entL zG mixed 172 l172 1000002 lp172_1000002 B172_1000002 B172_1000002_eq
noncomputable abbrev fr178 (s0 s1 s2 s3 s4 s5 s6 s7 s8 s9 s10 s11 s12 s13 s14 s15 s16 s17 s18 : Value) : Fr := (.nD (.nD (.nD (.nD (.nD .lF s15 .lF) s7 .lF) s3 (.nD .lF s11 .lF)) s1 (.nD (.nD (.nD .lF s17 .lF) s9 .lF) s5 (.nD .lF s13 .lF))) s0 (.nD (.nD (.nD (.nD .lF s16 .lF) s8 .lF) s4 (.nD .lF s12 .lF)) s2 (.nD (.nD (.nD .lF s18 .lF) s10 .lF) s6 (.nD .lF s14 .lF))))
noncomputable def hint178 : yR := fun kind _ i => match kind with
  | 0 => bif Nat.beq i 1000002 then [.val, .val, .val, .val, .val, .val, .val, (.int .i64), (.int .i64), .val, .val, .val, .val, .val, .val, .val, .val, .val, .val] else []
  | 1 => bif Nat.beq i 0 then [.val, .val, .val, .val, .val, .val, .val, .val, .val, .val, .val, .val, .val, .val, .val, .val, .val, .val, .val] else bif Nat.beq i 1 then [.val, .val, .val, .val, .val, .val, .val, (.int .i64), (.int .i64), .val, .val, .val, .val, .val, .val, .val, .val, .val, .val] else []
  | 2 => bif Nat.beq i 0 then [.val, .val, .val, .val, .val, .val, .val, (.int .i64), (.int .i64), .val, .val, .val, .val, .val, .val, .val, .val, .val, .val] else bif Nat.beq i 5 then [.val, .val, .val, .val, .val, .val, .val, (.int .i64), (.int .i64), .val, .val, .val, .val, .val, .val, .val, .val, .val, .val] else []
  | 4 => bif Nat.beq i 0 then [.any, .any] else []
  | _ => []
noncomputable def F178 (L : Lo) (lp : LP) (p0 p1 : Value) (df : Bool) (u : Option zF) (h : zE) (n : Nat) (k : KO) : Bool :=
 opt (zU P .len [23] [p0] h) fun v1 =>
 rtI .i64 v1 fun a2 =>
 lp 1000002 ⟨178, none, df⟩ (fr178 p0 p1 undef undef (.int .i64 0) undef p0 (.int .i64 a2) (.int .i64 0) undef undef undef undef undef undef undef undef undef undef) (W.mk [] u h n) (endA noK (blkA 0 (fun t3 w4 =>
 zA (zB t3 0) fun s5 =>
 zA (zB t3 1) fun s6 =>
 zA (zB t3 2) fun s7 =>
 zA (zB t3 3) fun s8 =>
 zA (zB t3 4) fun s9 =>
 zA (zB t3 5) fun s10 =>
 zA (zB t3 6) fun s11 =>
 zA (zB t3 7) fun s12 =>
 zA (zB t3 8) fun s13 =>
 zA (zB t3 9) fun s14 =>
 zA (zB t3 10) fun s15 =>
 zA (zB t3 11) fun s16 =>
 zA (zB t3 12) fun s17 =>
 zA (zB t3 13) fun s18 =>
 zA (zB t3 14) fun s19 =>
 zA (zB t3 15) fun s20 =>
 zA (zB t3 16) fun s21 =>
 zA (zB t3 17) fun s22 =>
 zA (zB t3 18) fun s23 =>
 onW w4 fun d24 u25 h26 n27 =>
 zD P L 178 k .ret (fr178 s5 s6 s7 s8 (.int .i64 (-1)) s10 s11 s12 s13 s14 s15 s16 s17 s18 s19 s20 s21 s22 s23) (W.mk d24 u25 h26 n27)) (zD P L 178 k)))
theorem F178_eq (L : Lo) (lp : LP) (p0 p1 : Value) (df : Bool) (u : Option zF) (h : zE) (n : Nat) (k : KO) : zY P hint178 L lp 178 [p0, p1] df u h n k = F178 L lp p0 p1 df u h n k := by kernel_rfl
noncomputable def B178_1000002 (L : Lo) (lp : LP) (rd : Option Nat) (df : Bool) (t : Fr) (w : W) (ka : KX) : Bool :=
 zA (zB t 0) fun s28 =>
 zA (zB t 1) fun s29 =>
 zA (zB t 2) fun s30 =>
 zA (zB t 3) fun s31 =>
 zA (zB t 4) fun s32 =>
 zA (zB t 5) fun s33 =>
 zA (zB t 6) fun s34 =>
 rtI .i64 (zB t 7) fun s35 =>
 rtI .i64 (zB t 8) fun s36 =>
 zA (zB t 9) fun s37 =>
 zA (zB t 10) fun s38 =>
 zA (zB t 11) fun s39 =>
 zA (zB t 12) fun s40 =>
 zA (zB t 13) fun s41 =>
 zA (zB t 14) fun s42 =>
 zA (zB t 15) fun s43 =>
 zA (zB t 16) fun s44 =>
 zA (zB t 17) fun s45 =>
 zA (zB t 18) fun s46 =>
 onW w fun d47 u48 h49 n50 =>
 fb (wE s36 s35) fun a51 =>
 br a51 (
 blkJ (fun k52 =>
 opt (zQ P 23 s28 (.int .i64 s36)) fun v53 =>
 opt (zP P 9 h49 v53) fun v54 =>
 zK yO P .eql 9 false s29 v54 fun a55 =>
 br a55 (
 ka .ret (fr178 s28 s29 s30 s31 (.int .i64 s36) (.int .i64 s36) s34 (.int .i64 s35) (.int .i64 s36) (.bool a51) (.int .i64 s36) s29 s28 (.int .i64 s36) v53 v54 (.bool a55) (.int .i64 s36) s46) (W.mk d47 u48 h49 n50)) (
 k52 (fr178 s28 s29 s30 s31 s32 (.int .i64 s36) s34 (.int .i64 s35) (.int .i64 s36) (.bool a51) (.int .i64 s36) s29 s28 (.int .i64 s36) v53 v54 (.bool a55) s45 s46) (W.mk d47 u48 h49 n50))) (fun t56 w57 =>
 zA (zB t56 0) fun s58 =>
 zA (zB t56 1) fun s59 =>
 zA (zB t56 2) fun s60 =>
 zA (zB t56 3) fun s61 =>
 zA (zB t56 4) fun s62 =>
 zA (zB t56 5) fun s63 =>
 zA (zB t56 6) fun s64 =>
 rtI .i64 (zB t56 7) fun s65 =>
 rtI .i64 (zB t56 8) fun s66 =>
 zA (zB t56 9) fun s67 =>
 zA (zB t56 10) fun s68 =>
 zA (zB t56 11) fun s69 =>
 zA (zB t56 12) fun s70 =>
 zA (zB t56 13) fun s71 =>
 zA (zB t56 14) fun s72 =>
 zA (zB t56 15) fun s73 =>
 zA (zB t56 16) fun s74 =>
 zA (zB t56 17) fun s75 =>
 zA (zB t56 18) fun s76 =>
 onW w57 fun d77 u78 h79 n80 =>
 fi (yK .i64 (wV s66 1)) fun a81 =>
 lp 1000002 ⟨178, rd, df⟩ (fr178 s58 s59 s60 s61 s62 s63 s64 (.int .i64 s65) (.int .i64 a81) s67 s68 s69 s70 s71 s72 s73 s74 s75 (.int .i64 a81)) (W.mk d77 u78 h79 n80) ka)) (
 ka (.exit 0) (fr178 s28 s29 s30 s31 s32 s33 s34 (.int .i64 s35) (.int .i64 s36) (.bool a51) s38 s39 s40 s41 s42 s43 s44 s45 s46) (W.mk d47 u48 h49 n50))
theorem B178_1000002_eq (L : Lo) (lp : LP) (rd : Option Nat) (df : Bool) (t : Fr) (w : W) (ka : KX) : wU P hint178 L lp (unL (zJ P 178 1000002)) ⟨178, rd, df⟩ t w ka = B178_1000002 L lp rd df t w ka := by kernel_rfl
theorem l178 : zL P 178 = true := by kernel_rfl
theorem lp178_1000002 : yW (zJ P 178 1000002) = true := by kernel_rfl
noncomputable def eF178 : EntF P 8 := wL zG mixed 178 l178 F178 F178_eq
noncomputable def eL178_1000002 : EntL P 8 := entL zG mixed 178 l178 1000002 lp178_1000002 B178_1000002 B178_1000002_eq
noncomputable abbrev fr192 (s0 s1 s2 s3 s4 s5 s6 s7 s8 s9 s10 s11 s12 s13 s14 s15 s16 s17 : Value) : Fr := (.nD (.nD (.nD (.nD (.nD .lF s15 .lF) s7 .lF) s3 (.nD .lF s11 .lF)) s1 (.nD (.nD (.nD .lF s17 .lF) s9 .lF) s5 (.nD .lF s13 .lF))) s0 (.nD (.nD (.nD (.nD .lF s16 .lF) s8 .lF) s4 (.nD .lF s12 .lF)) s2 (.nD (.nD .lF s10 .lF) s6 (.nD .lF s14 .lF))))
noncomputable def hint192 : yR := fun kind _ i => match kind with
  | 4 => bif Nat.beq i 0 then [.any, .any] else []
  | _ => []
noncomputable def F192 (L : Lo) (lp : LP) (p0 p1 : Value) (df : Bool) (u : Option zF) (h : zE) (n : Nat) (k : KO) : Bool :=
 opt (zU P .len [9] [p0] h) fun v1 =>
 rtI .i64 v1 fun a2 =>
 opt (zU P .len [9] [p1] h) fun v3 =>
 rtI .i64 v3 fun a4 =>
 fb (ileB a4 a2) fun a5 =>
 grd a5 (fun k6 =>
 k6 h n p0) (fun h7 n8 v9 =>
 grd a5 (fun k10 =>
 k10 h7 n8 p1) (fun h11 n12 v13 =>
 grd a5 (fun k14 =>
 opt (zU P .len [9] [v13] h11) fun v18 =>
 rtI .i64 v18 fun a19 =>
 k14 h11 n12 (.int .i64 a19)) (fun h15 n16 v17 =>
 grd a5 (fun k20 =>
 opt (aSlice P h15 9 v9 none (some v17) none) fun v24 =>
 k20 h15 n16 v24) (fun h21 n22 v23 =>
 grd a5 (fun k25 =>
 k25 h21 n22 p1) (fun h26 n27 v28 =>
 grd a5 (fun k29 =>
 zK yO P .eql 9 false v23 v28 fun a33 =>
 k29 h26 n27 (.bool a33)) (fun h30 n31 v32 =>
 rtB (sel a5 v32 (.bool false)) fun a34 =>
 zD P L 192 k .ret (fr192 p0 p1 undef undef (.bool a34) p0 (.int .i64 a2) p1 (.int .i64 a4) (.bool a5) (.bool a5) v9 v13 v17 v23 v28 v32 (.bool a34)) (W.mk [] u h30 n31)) h26 n27) h21 n22) h15 n16) h11 n12) h7 n8) h n
theorem F192_eq (L : Lo) (lp : LP) (p0 p1 : Value) (df : Bool) (u : Option zF) (h : zE) (n : Nat) (k : KO) : zY P hint192 L lp 192 [p0, p1] df u h n k = F192 L lp p0 p1 df u h n k := by kernel_rfl
theorem l192 : zL P 192 = true := by kernel_rfl
noncomputable def eF192 : EntF P 8 := wL zG mixed 192 l192 F192 F192_eq
noncomputable abbrev fr33 (s0 s1 s2 s3 s4 s5 s6 s7 s8 s9 s10 s11 s12 s13 s14 s15 s16 s17 s18 : Value) : Fr := (.nD (.nD (.nD (.nD (.nD .lF s15 .lF) s7 .lF) s3 (.nD .lF s11 .lF)) s1 (.nD (.nD (.nD .lF s17 .lF) s9 .lF) s5 (.nD .lF s13 .lF))) s0 (.nD (.nD (.nD (.nD .lF s16 .lF) s8 .lF) s4 (.nD .lF s12 .lF)) s2 (.nD (.nD (.nD .lF s18 .lF) s10 .lF) s6 (.nD .lF s14 .lF))))
noncomputable def hint33 : yR := fun kind _ i => match kind with
  | 2 => bif Nat.beq i 2 then [.val, .val, .val, .val, .val, .val, .val, .val, .val, .val, .val, .val, .val, .val, .val, .val, .val, .val, .val] else []
  | 4 => bif Nat.beq i 0 then [.any, .any] else []
  | _ => []
noncomputable def F33 (L : Lo) (lp : LP) (p0 p1 : Value) (df : Bool) (u : Option zF) (h : zE) (n : Nat) (k : KO) : Bool :=
 xR L 36 [p0, p1] h n (fun c4 h5 n6 =>
 zD P L 33 k (.panic c4) (fr33 p0 p1 undef undef undef p0 p1 undef undef undef undef undef undef undef undef undef undef undef undef) (W.mk [] u h5 n6)) fun a1 h2 n3 =>
 opt (aUn .not (.bool a1)) fun v7 =>
 rtB v7 fun a8 =>
 br a8 (
 yH L 37 [p0, (.int .i64 3)] h2 n3 (fun c12 h13 n14 =>
 zD P L 33 k (.panic c12) (fr33 p0 p1 undef undef (.bool a1) p0 p1 (.bool a1) (.bool a1) (.bool a8) p0 undef undef undef undef undef undef undef undef) (W.mk [] u h13 n14)) fun a9 h10 n11 =>
 zD P L 33 k .ret (fr33 p0 p1 undef undef (.bool a1) p0 p1 (.bool a1) (.bool a1) (.bool a8) p0 a9 undef undef undef undef undef undef undef) (W.mk [] u h10 n11)) (
 opt (wZ p0) fun v15 =>
 opt (zC P 68 1 v15) fun v16 =>
 opt (zP P 3 h2 v16) fun v17 =>
 rtI .i64 v17 fun a18 =>
 fi (yK .i64 (wV a18 1)) fun a19 =>
 opt (wZ p0) fun v20 =>
 opt (zC P 68 1 v20) fun v21 =>
 xG P 3 v21 (.int .i64 a19) h2 n3 fun h22 n23 v24 =>
 zD P L 33 k .ret (fr33 p0 p1 undef undef (.bool a1) p0 p1 (.bool a1) (.bool a1) (.bool a8) undef undef p0 v15 v16 (.int .i64 a18) (.int .i64 a19) v20 v21) (W.mk [] u h22 n23))
theorem F33_eq (L : Lo) (lp : LP) (p0 p1 : Value) (df : Bool) (u : Option zF) (h : zE) (n : Nat) (k : KO) : zY P hint33 L lp 33 [p0, p1] df u h n k = F33 L lp p0 p1 df u h n k := by kernel_rfl
theorem l33 : zL P 33 = true := by kernel_rfl
noncomputable def eF33 : EntF P 8 := wL zG mixed 33 l33 F33 F33_eq
noncomputable abbrev fr39 (s0 s1 s2 s3 s4 s5 s6 s7 s8 s9 s10 s11 s12 s13 s14 s15 s16 s17 s18 s19 : Value) : Fr := (.nD (.nD (.nD (.nD (.nD .lF s15 .lF) s7 .lF) s3 (.nD (.nD .lF s19 .lF) s11 .lF)) s1 (.nD (.nD (.nD .lF s17 .lF) s9 .lF) s5 (.nD .lF s13 .lF))) s0 (.nD (.nD (.nD (.nD .lF s16 .lF) s8 .lF) s4 (.nD .lF s12 .lF)) s2 (.nD (.nD (.nD .lF s18 .lF) s10 .lF) s6 (.nD .lF s14 .lF))))
noncomputable def hint39 : yR := fun kind _ i => match kind with
  | 2 => bif Nat.beq i 3 then [.val, .val, .val, .val, .val, .val, .val, .val, .val, .val, .val, .val, .val, .val, .val, .val, .val, .val, .val, .val] else []
  | 4 => bif Nat.beq i 0 then [.any] else []
  | _ => []
noncomputable def F39 (L : Lo) (lp : LP) (p0 : Value) (df : Bool) (u : Option zF) (h : zE) (n : Nat) (k : KO) : Bool :=
 eAlloc P 77 h n fun h1 n2 v3 =>
 yH L 34 [p0] h1 n2 (fun c7 h8 n9 =>
 zD P L 39 k (.panic c7) (fr39 p0 undef v3 undef p0 undef undef undef undef undef undef undef undef undef undef undef undef undef undef undef) (W.mk [] u h8 n9)) fun a4 h5 n6 =>
 opt (aBuild P 77 [(0, a4)]) fun v10 =>
 eAlloc P 77 h5 n6 fun h11 n12 v13 =>
 xG P 77 v13 v10 h11 n12 fun h14 n15 v16 =>
 xR L 36 [p0, (.string (ByteArray.mk #[58]))] h14 n15 (fun c20 h21 n22 =>
 zD P L 39 k (.panic c20) (fr39 p0 undef v3 v13 p0 a4 v10 p0 undef undef undef undef undef undef undef undef undef undef undef undef) (W.mk [] u h21 n22)) fun a17 h18 n19 =>
 brJ a17 (fun k23 =>
 opt (wZ p0) fun v25 =>
 opt (zC P 68 1 v25) fun v26 =>
 opt (zP P 3 h18 v26) fun v27 =>
 rtI .i64 v27 fun a28 =>
 fi (yK .i64 (wV a28 1)) fun a29 =>
 opt (wZ p0) fun v30 =>
 opt (zC P 68 1 v30) fun v31 =>
 xG P 3 v31 (.int .i64 a29) h18 n19 fun h32 n33 v34 =>
 yH L 34 [p0] h32 n33 (fun c38 h39 n40 =>
 zD P L 39 k (.panic c38) (fr39 p0 undef v3 v13 p0 a4 v10 p0 (.bool a17) p0 v25 v26 (.int .i64 a28) (.int .i64 a29) v30 v31 p0 undef undef undef) (W.mk [] u h39 n40)) fun a35 h36 n37 =>
 opt (zC P 77 1 v13) fun v41 =>
 xG P 9 v41 a35 h36 n37 fun h42 n43 v44 =>
 k23 (fr39 p0 undef v3 v13 p0 a4 v10 p0 (.bool a17) p0 v25 v26 (.int .i64 a28) (.int .i64 a29) v30 v31 p0 a35 v41 undef) (W.mk [] u h42 n43)) (fun k24 =>
 k24 (fr39 p0 undef v3 v13 p0 a4 v10 p0 (.bool a17) undef undef undef undef undef undef undef undef undef undef undef) (W.mk [] u h18 n19)) (fun t45 w46 =>
 zA (zB t45 0) fun s47 =>
 zA (zB t45 1) fun s48 =>
 zA (zB t45 2) fun s49 =>
 zA (zB t45 3) fun s50 =>
 zA (zB t45 4) fun s51 =>
 zA (zB t45 5) fun s52 =>
 zA (zB t45 6) fun s53 =>
 zA (zB t45 7) fun s54 =>
 zA (zB t45 8) fun s55 =>
 zA (zB t45 9) fun s56 =>
 zA (zB t45 10) fun s57 =>
 zA (zB t45 11) fun s58 =>
 zA (zB t45 12) fun s59 =>
 zA (zB t45 13) fun s60 =>
 zA (zB t45 14) fun s61 =>
 zA (zB t45 15) fun s62 =>
 zA (zB t45 16) fun s63 =>
 zA (zB t45 17) fun s64 =>
 zA (zB t45 18) fun s65 =>
 zA (zB t45 19) fun s66 =>
 onW w46 fun d67 u68 h69 n70 =>
 opt (zP P 77 h69 s50) fun v71 =>
 xG P 77 s49 v71 h69 n70 fun h72 n73 v74 =>
 zD P L 39 k .ret (fr39 s47 s48 s49 s50 s51 s52 s53 s54 s55 s56 s57 s58 s59 s60 s61 s62 s63 s64 s65 v71) (W.mk d67 u68 h72 n73))
theorem F39_eq (L : Lo) (lp : LP) (p0 : Value) (df : Bool) (u : Option zF) (h : zE) (n : Nat) (k : KO) : zY P hint39 L lp 39 [p0] df u h n k = F39 L lp p0 df u h n k := by kernel_rfl
theorem l39 : zL P 39 = true := by kernel_rfl
noncomputable def eF39 : EntF P 8 := xL zG mixed 39 l39 F39 F39_eq
noncomputable abbrev fr46 (s0 s1 s2 s3 s4 s5 s6 s7 s8 s9 s10 s11 s12 s13 s14 s15 s16 s17 s18 : Value) : Fr := (.nD (.nD (.nD (.nD (.nD .lF s15 .lF) s7 .lF) s3 (.nD .lF s11 .lF)) s1 (.nD (.nD (.nD .lF s17 .lF) s9 .lF) s5 (.nD .lF s13 .lF))) s0 (.nD (.nD (.nD (.nD .lF s16 .lF) s8 .lF) s4 (.nD .lF s12 .lF)) s2 (.nD (.nD (.nD .lF s18 .lF) s10 .lF) s6 (.nD .lF s14 .lF))))
noncomputable def hint46 : yR := fun kind _ i => match kind with
  | 0 => bif Nat.beq i 1000003 then [.val, .val, .val, .val, (.int .i64), .val, .val, .val, .val, .val, .val, .val, .val, .val, .val, .val, .val, .val, .val] else []
  | 1 => bif Nat.beq i 0 then [.val, .val, .val, .val, .val, .val, .val, .val, .val, .val, .val, .val, .val, .val, .val, .val, .val, .val, .val] else bif Nat.beq i 1 then [.val, .val, .val, .val, (.int .i64), .val, .val, .val, .val, .val, .val, .val, .val, .val, .val, .val, .val, .val, .val] else []
  | 2 => bif Nat.beq i 0 then [.val, .val, .val, .val, (.int .i64), .val, .val, .val, .val, .val, .val, .val, .val, .val, .val, .val, .val, .val, .val] else []
  | 4 => bif Nat.beq i 0 then [.any] else []
  | _ => []
noncomputable def F46 (L : Lo) (lp : LP) (p0 : Value) (df : Bool) (u : Option zF) (h : zE) (n : Nat) (k : KO) : Bool :=
 lp 1000003 ⟨46, none, df⟩ (fr46 p0 undef (.string (ByteArray.mk #[])) (.string (ByteArray.mk #[])) (.int .i64 0) undef undef undef undef undef undef undef undef undef undef undef undef undef undef) (W.mk [] u h n) (endA noK (blkA 0 (fun t1 w2 =>
 zA (zB t1 0) fun s3 =>
 zA (zB t1 1) fun s4 =>
 zA (zB t1 2) fun s5 =>
 zA (zB t1 3) fun s6 =>
 zA (zB t1 4) fun s7 =>
 zA (zB t1 5) fun s8 =>
 zA (zB t1 6) fun s9 =>
 zA (zB t1 7) fun s10 =>
 zA (zB t1 8) fun s11 =>
 zA (zB t1 9) fun s12 =>
 zA (zB t1 10) fun s13 =>
 zA (zB t1 11) fun s14 =>
 zA (zB t1 12) fun s15 =>
 zA (zB t1 13) fun s16 =>
 zA (zB t1 14) fun s17 =>
 zA (zB t1 15) fun s18 =>
 zA (zB t1 16) fun s19 =>
 zA (zB t1 17) fun s20 =>
 zA (zB t1 18) fun s21 =>
 onW w2 fun d22 u23 h24 n25 =>
 zD P L 46 k .ret (fr46 s3 s4 s6 s6 s7 s8 s9 s10 s11 s12 s13 s14 s15 s16 s17 s18 s19 s20 s6) (W.mk d22 u23 h24 n25)) (zD P L 46 k)))
theorem F46_eq (L : Lo) (lp : LP) (p0 : Value) (df : Bool) (u : Option zF) (h : zE) (n : Nat) (k : KO) : zY P hint46 L lp 46 [p0] df u h n k = F46 L lp p0 df u h n k := by kernel_rfl
noncomputable def B46_1000003 (L : Lo) (lp : LP) (rd : Option Nat) (df : Bool) (t : Fr) (w : W) (ka : KX) : Bool :=
 zA (zB t 0) fun s26 =>
 zA (zB t 1) fun s27 =>
 zA (zB t 2) fun s28 =>
 zA (zB t 3) fun s29 =>
 rtI .i64 (zB t 4) fun s30 =>
 zA (zB t 5) fun s31 =>
 zA (zB t 6) fun s32 =>
 zA (zB t 7) fun s33 =>
 zA (zB t 8) fun s34 =>
 zA (zB t 9) fun s35 =>
 zA (zB t 10) fun s36 =>
 zA (zB t 11) fun s37 =>
 zA (zB t 12) fun s38 =>
 zA (zB t 13) fun s39 =>
 zA (zB t 14) fun s40 =>
 zA (zB t 15) fun s41 =>
 zA (zB t 16) fun s42 =>
 zA (zB t 17) fun s43 =>
 zA (zB t 18) fun s44 =>
 onW w fun d45 u46 h47 n48 =>
 opt (zU P .len [23] [s26] h47) fun v49 =>
 rtI .i64 v49 fun a50 =>
 fb (wE s30 a50) fun a51 =>
 br a51 (
 blkJ (fun k52 =>
 xF wV P .add 9 true s29 (.string (ByteArray.mk #[32])) fun v53 =>
 opt (zQ P 23 s26 (.int .i64 s30)) fun v54 =>
 opt (zP P 9 h47 v54) fun v55 =>
 xF wV P .add 9 false v53 v55 fun v56 =>
 k52 (fr46 s26 s27 s28 v56 (.int .i64 s30) (.int .i64 s30) s26 (.int .i64 a50) (.bool a51) s35 s36 s29 v53 s26 (.int .i64 s30) v54 v55 v56 s44) (W.mk d45 u46 h47 n48)) (fun t57 w58 =>
 zA (zB t57 0) fun s59 =>
 zA (zB t57 1) fun s60 =>
 zA (zB t57 2) fun s61 =>
 zA (zB t57 3) fun s62 =>
 rtI .i64 (zB t57 4) fun s63 =>
 zA (zB t57 5) fun s64 =>
 zA (zB t57 6) fun s65 =>
 zA (zB t57 7) fun s66 =>
 zA (zB t57 8) fun s67 =>
 zA (zB t57 9) fun s68 =>
 zA (zB t57 10) fun s69 =>
 zA (zB t57 11) fun s70 =>
 zA (zB t57 12) fun s71 =>
 zA (zB t57 13) fun s72 =>
 zA (zB t57 14) fun s73 =>
 zA (zB t57 15) fun s74 =>
 zA (zB t57 16) fun s75 =>
 zA (zB t57 17) fun s76 =>
 zA (zB t57 18) fun s77 =>
 onW w58 fun d78 u79 h80 n81 =>
 fi (yK .i64 (wV s63 1)) fun a82 =>
 lp 1000003 ⟨46, rd, df⟩ (fr46 s59 s60 s61 s62 (.int .i64 a82) s64 s65 s66 s67 (.int .i64 s63) (.int .i64 a82) s70 s71 s72 s73 s74 s75 s76 s77) (W.mk d78 u79 h80 n81) ka)) (
 ka (.exit 0) (fr46 s26 s27 s28 s29 (.int .i64 s30) (.int .i64 s30) s26 (.int .i64 a50) (.bool a51) s35 s36 s37 s38 s39 s40 s41 s42 s43 s44) (W.mk d45 u46 h47 n48))
theorem B46_1000003_eq (L : Lo) (lp : LP) (rd : Option Nat) (df : Bool) (t : Fr) (w : W) (ka : KX) : wU P hint46 L lp (unL (zJ P 46 1000003)) ⟨46, rd, df⟩ t w ka = B46_1000003 L lp rd df t w ka := by kernel_rfl
theorem l46 : zL P 46 = true := by kernel_rfl
theorem lp46_1000003 : yW (zJ P 46 1000003) = true := by kernel_rfl
noncomputable def eF46 : EntF P 8 := xL zG mixed 46 l46 F46 F46_eq
noncomputable def eL46_1000003 : EntL P 8 := entL zG mixed 46 l46 1000003 lp46_1000003 B46_1000003 B46_1000003_eq
noncomputable abbrev fr58 (s0 s1 s2 s3 s4 s5 s6 s7 s8 s9 s10 s11 s12 s13 s14 s15 s16 s17 s18 s19 s20 s21 s22 s23 s24 s25 s26 s27 s28 s29 s30 s31 s32 s33 s34 : Value) : Fr := (.nD (.nD (.nD (.nD (.nD (.nD .lF s31 .lF) s15 .lF) s7 (.nD .lF s23 .lF)) s3 (.nD (.nD .lF s19 .lF) s11 (.nD .lF s27 .lF))) s1 (.nD (.nD (.nD (.nD .lF s33 .lF) s17 .lF) s9 (.nD .lF s25 .lF)) s5 (.nD (.nD .lF s21 .lF) s13 (.nD .lF s29 .lF)))) s0 (.nD (.nD (.nD (.nD (.nD .lF s32 .lF) s16 .lF) s8 (.nD .lF s24 .lF)) s4 (.nD (.nD .lF s20 .lF) s12 (.nD .lF s28 .lF))) s2 (.nD (.nD (.nD (.nD .lF s34 .lF) s18 .lF) s10 (.nD .lF s26 .lF)) s6 (.nD (.nD .lF s22 .lF) s14 (.nD .lF s30 .lF)))))
noncomputable def hint58 : yR := fun kind _ i => match kind with
  | 0 => bif Nat.beq i 1000004 then [.val, .val, .val, .val, .val, .val, .val, .val, .val, .val, .val, .val, .val, .val, .val, .val, .val, .val, (.int .i64), (.int .i64), .val, .val, .val, .val, .val, .val, .val, .val, .val, .val, .val, .val, .val, .val, .val] else []
  | 1 => bif Nat.beq i 0 then [.val, .val, .val, .val, .val, .val, .val, .val, .val, .val, .val, .val, .val, .val, .val, .val, .val, .val, .val, .val, .val, .val, .val, .val, .val, .val, .val, .val, .val, .val, .val, .val, .val, .val, .val] else bif Nat.beq i 1 then [.val, .val, .val, .val, .val, .val, .val, .val, .val, .val, .val, .val, .val, .val, .val, .val, .val, .val, (.int .i64), (.int .i64), .val, .val, .val, .val, .val, .val, .val, .val, .val, .val, .val, .val, .val, .val, .val] else []
  | 2 => bif Nat.beq i 0 then [.val, .val, .val, .val, .val, .val, .val, .val, .val, .val, .val, .val, .val, .val, .val, .val, .val, .val, (.int .i64), (.int .i64), .val, .val, .val, .val, .val, .val, .val, .val, .val, .val, .val, .val, .val, .val, .val] else bif Nat.beq i 2 then [.val, .val, .val, .val, .val, .val, .val, .val, .val, .val, .val, .val, .val, .val, .val, .val, .val, .val, .val, .val, .val, .val, .val, .val, .val, .val, .val, .val, .val, .val, .val, .val, .val, .val, .val] else bif Nat.beq i 7 then [.val, .val, .val, .val, .val, .val, .val, .val, .val, .val, .val, .val, .val, .val, .val, .val, .val, .val, (.int .i64), (.int .i64), .val, .val, .val, .val, .val, .val, .val, .val, .val, .val, .val, .val, .val, .val, .val] else []
  | 4 => bif Nat.beq i 0 then [.any] else []
  | _ => []
noncomputable def F58 (L : Lo) (lp : LP) (p0 : Value) (df : Bool) (u : Option zF) (h : zE) (n : Nat) (k : KO) : Bool :=
 zK yO P .eql 9 true p0 (.string (ByteArray.mk #[])) fun a1 =>
 grd (nt a1) (fun k2 =>
 k2 h n p0) (fun h3 n4 v5 =>
 grd (nt a1) (fun k6 =>
 opt (zU P .len [9] [v5] h3) fun v10 =>
 rtI .i64 v10 fun a11 =>
 k6 h3 n4 (.int .i64 a11)) (fun h7 n8 v9 =>
 grd (nt a1) (fun k12 =>
 zK igtB P .gtr 3 true v9 (.int .i64 20) fun a16 =>
 k12 h7 n8 (.bool a16)) (fun h13 n14 v15 =>
 rtB (sel a1 (.bool true) v15) fun a17 =>
 grd (nt a17) (fun k18 =>
 k18 h13 n14 p0) (fun h19 n20 v21 =>
 grd (nt a17) (fun k22 =>
 opt (aIndex P 9 v21 (.int .i64 0)) fun v26 =>
 rtI .u8 v26 fun a27 =>
 k22 h19 n20 (.int .u8 a27)) (fun h23 n24 v25 =>
 grd (nt a17) (fun k28 =>
 xR L 110 [v25] h23 n24 (fun c35 h36 n37 =>
 zD P L 58 k (.panic c35) (fr58 p0 undef (.bool false) undef p0 (.bool a1) (.bool a1) v5 v9 v15 (.bool a17) (.bool a17) v21 v25 undef undef undef undef undef undef undef undef undef undef undef undef undef undef undef undef undef undef undef undef undef) (W.mk [] u h36 n37)) fun a32 h33 n34 =>
 k28 h33 n34 (.bool a32)) (fun h29 n30 v31 =>
 grd (nt a17) (fun k38 =>
 opt (aUn .not v31) fun v42 =>
 rtB v42 fun a43 =>
 k38 h29 n30 (.bool a43)) (fun h39 n40 v41 =>
 rtB (sel a17 (.bool true) v41) fun a44 =>
 br a44 (
 zD P L 58 k .ret (fr58 p0 undef (.bool false) undef p0 (.bool a1) (.bool a1) v5 v9 v15 (.bool a17) (.bool a17) v21 v25 v31 v41 (.bool a44) undef undef undef undef undef undef undef undef undef undef undef undef undef undef undef undef undef undef) (W.mk [] u h39 n40)) (
 opt (zU P .len [9] [p0] h39) fun v45 =>
 rtI .i64 v45 fun a46 =>
 lp 1000004 ⟨58, none, df⟩ (fr58 p0 undef (.bool false) undef p0 (.bool a1) (.bool a1) v5 v9 v15 (.bool a17) (.bool a17) v21 v25 v31 v41 (.bool a44) p0 (.int .i64 a46) (.int .i64 0) undef undef undef undef undef undef undef undef undef undef undef undef undef undef undef) (W.mk [] u h39 n40) (endA noK (blkA 0 (fun t47 w48 =>
 zA (zB t47 0) fun s49 =>
 zA (zB t47 1) fun s50 =>
 zA (zB t47 2) fun s51 =>
 zA (zB t47 3) fun s52 =>
 zA (zB t47 4) fun s53 =>
 zA (zB t47 5) fun s54 =>
 zA (zB t47 6) fun s55 =>
 zA (zB t47 7) fun s56 =>
 zA (zB t47 8) fun s57 =>
 zA (zB t47 9) fun s58 =>
 zA (zB t47 10) fun s59 =>
 zA (zB t47 11) fun s60 =>
 zA (zB t47 12) fun s61 =>
 zA (zB t47 13) fun s62 =>
 zA (zB t47 14) fun s63 =>
 zA (zB t47 15) fun s64 =>
 zA (zB t47 16) fun s65 =>
 zA (zB t47 17) fun s66 =>
 zA (zB t47 18) fun s67 =>
 zA (zB t47 19) fun s68 =>
 zA (zB t47 20) fun s69 =>
 zA (zB t47 21) fun s70 =>
 zA (zB t47 22) fun s71 =>
 zA (zB t47 23) fun s72 =>
 zA (zB t47 24) fun s73 =>
 zA (zB t47 25) fun s74 =>
 zA (zB t47 26) fun s75 =>
 zA (zB t47 27) fun s76 =>
 zA (zB t47 28) fun s77 =>
 zA (zB t47 29) fun s78 =>
 zA (zB t47 30) fun s79 =>
 zA (zB t47 31) fun s80 =>
 zA (zB t47 32) fun s81 =>
 zA (zB t47 33) fun s82 =>
 zA (zB t47 34) fun s83 =>
 onW w48 fun d84 u85 h86 n87 =>
 zD P L 58 k .ret (fr58 s49 s50 (.bool true) s52 s53 s54 s55 s56 s57 s58 s59 s60 s61 s62 s63 s64 s65 s66 s67 s68 s69 s70 s71 s72 s73 s74 s75 s76 s77 s78 s79 s80 s81 s82 s83) (W.mk d84 u85 h86 n87)) (zD P L 58 k))))) h29 n30) h23 n24) h19 n20) h13 n14) h7 n8) h3 n4) h n
theorem F58_eq (L : Lo) (lp : LP) (p0 : Value) (df : Bool) (u : Option zF) (h : zE) (n : Nat) (k : KO) : zY P hint58 L lp 58 [p0] df u h n k = F58 L lp p0 df u h n k := by kernel_rfl
noncomputable def B58_1000004 (L : Lo) (lp : LP) (rd : Option Nat) (df : Bool) (t : Fr) (w : W) (ka : KX) : Bool :=
 zA (zB t 0) fun s88 =>
 zA (zB t 1) fun s89 =>
 zA (zB t 2) fun s90 =>
 zA (zB t 3) fun s91 =>
 zA (zB t 4) fun s92 =>
 zA (zB t 5) fun s93 =>
 zA (zB t 6) fun s94 =>
 zA (zB t 7) fun s95 =>
 zA (zB t 8) fun s96 =>
 zA (zB t 9) fun s97 =>
 zA (zB t 10) fun s98 =>
 zA (zB t 11) fun s99 =>
 zA (zB t 12) fun s100 =>
 zA (zB t 13) fun s101 =>
 zA (zB t 14) fun s102 =>
 zA (zB t 15) fun s103 =>
 zA (zB t 16) fun s104 =>
 zA (zB t 17) fun s105 =>
 rtI .i64 (zB t 18) fun s106 =>
 rtI .i64 (zB t 19) fun s107 =>
 zA (zB t 20) fun s108 =>
 zA (zB t 21) fun s109 =>
 zA (zB t 22) fun s110 =>
 zA (zB t 23) fun s111 =>
 zA (zB t 24) fun s112 =>
 zA (zB t 25) fun s113 =>
 zA (zB t 26) fun s114 =>
 zA (zB t 27) fun s115 =>
 zA (zB t 28) fun s116 =>
 zA (zB t 29) fun s117 =>
 zA (zB t 30) fun s118 =>
 zA (zB t 31) fun s119 =>
 zA (zB t 32) fun s120 =>
 zA (zB t 33) fun s121 =>
 zA (zB t 34) fun s122 =>
 onW w fun d123 u124 h125 n126 =>
 fb (wE s107 s106) fun a127 =>
 br a127 (
 blkJ (fun k128 =>
 opt (aIndex P 9 s88 (.int .i64 s107)) fun v129 =>
 rtI .u8 v129 fun a130 =>
 xR L 110 [(.int .u8 a130)] h125 n126 (fun c134 h135 n136 =>
 ka (.panic c134) (fr58 s88 s89 s90 (.int .i64 s107) s92 s93 s94 s95 s96 s97 s98 s99 s100 s101 s102 s103 s104 s105 (.int .i64 s106) (.int .i64 s107) (.bool a127) (.int .i64 s107) s88 (.int .i64 s107) (.int .u8 a130) s113 s114 s115 s116 s117 s118 s119 s120 s121 s122) (W.mk d123 u124 h135 n136)) fun a131 h132 n133 =>
 opt (aUn .not (.bool a131)) fun v137 =>
 rtB v137 fun a138 =>
 grd a138 (fun k139 =>
 k139 h132 n133 s88) (fun h140 n141 v142 =>
 grd a138 (fun k143 =>
 k143 h140 n141 (.int .i64 s107)) (fun h144 n145 v146 =>
 grd a138 (fun k147 =>
 opt (aIndex P 9 v142 v146) fun v151 =>
 rtI .u8 v151 fun a152 =>
 k147 h144 n145 (.int .u8 a152)) (fun h148 n149 v150 =>
 grd a138 (fun k153 =>
 xR L 111 [v150] h148 n149 (fun c160 h161 n162 =>
 ka (.panic c160) (fr58 s88 s89 s90 (.int .i64 s107) s92 s93 s94 s95 s96 s97 s98 s99 s100 s101 s102 s103 s104 s105 (.int .i64 s106) (.int .i64 s107) (.bool a127) (.int .i64 s107) s88 (.int .i64 s107) (.int .u8 a130) (.bool a131) (.bool a138) (.bool a138) v142 v146 v150 s119 s120 s121 s122) (W.mk d123 u124 h161 n162)) fun a157 h158 n159 =>
 k153 h158 n159 (.bool a157)) (fun h154 n155 v156 =>
 grd a138 (fun k163 =>
 opt (aUn .not v156) fun v167 =>
 rtB v167 fun a168 =>
 k163 h154 n155 (.bool a168)) (fun h164 n165 v166 =>
 rtB (sel a138 v166 (.bool false)) fun a169 =>
 br a169 (
 ka .ret (fr58 s88 s89 (.bool false) (.int .i64 s107) s92 s93 s94 s95 s96 s97 s98 s99 s100 s101 s102 s103 s104 s105 (.int .i64 s106) (.int .i64 s107) (.bool a127) (.int .i64 s107) s88 (.int .i64 s107) (.int .u8 a130) (.bool a131) (.bool a138) (.bool a138) v142 v146 v150 v156 v166 (.bool a169) s122) (W.mk d123 u124 h164 n165)) (
 k128 (fr58 s88 s89 s90 (.int .i64 s107) s92 s93 s94 s95 s96 s97 s98 s99 s100 s101 s102 s103 s104 s105 (.int .i64 s106) (.int .i64 s107) (.bool a127) (.int .i64 s107) s88 (.int .i64 s107) (.int .u8 a130) (.bool a131) (.bool a138) (.bool a138) v142 v146 v150 v156 v166 (.bool a169) s122) (W.mk d123 u124 h164 n165))) h154 n155) h148 n149) h144 n145) h140 n141) h132 n133) (fun t170 w171 =>
 zA (zB t170 0) fun s172 =>
 zA (zB t170 1) fun s173 =>
 zA (zB t170 2) fun s174 =>
 zA (zB t170 3) fun s175 =>
 zA (zB t170 4) fun s176 =>
 zA (zB t170 5) fun s177 =>
 zA (zB t170 6) fun s178 =>
 zA (zB t170 7) fun s179 =>
 zA (zB t170 8) fun s180 =>
 zA (zB t170 9) fun s181 =>
 zA (zB t170 10) fun s182 =>
 zA (zB t170 11) fun s183 =>
 zA (zB t170 12) fun s184 =>
 zA (zB t170 13) fun s185 =>
 zA (zB t170 14) fun s186 =>
 zA (zB t170 15) fun s187 =>
 zA (zB t170 16) fun s188 =>
 zA (zB t170 17) fun s189 =>
 rtI .i64 (zB t170 18) fun s190 =>
 rtI .i64 (zB t170 19) fun s191 =>
 zA (zB t170 20) fun s192 =>
 zA (zB t170 21) fun s193 =>
 zA (zB t170 22) fun s194 =>
 zA (zB t170 23) fun s195 =>
 zA (zB t170 24) fun s196 =>
 zA (zB t170 25) fun s197 =>
 zA (zB t170 26) fun s198 =>
 zA (zB t170 27) fun s199 =>
 zA (zB t170 28) fun s200 =>
 zA (zB t170 29) fun s201 =>
 zA (zB t170 30) fun s202 =>
 zA (zB t170 31) fun s203 =>
 zA (zB t170 32) fun s204 =>
 zA (zB t170 33) fun s205 =>
 zA (zB t170 34) fun s206 =>
 onW w171 fun d207 u208 h209 n210 =>
 fi (yK .i64 (wV s191 1)) fun a211 =>
 lp 1000004 ⟨58, rd, df⟩ (fr58 s172 s173 s174 s175 s176 s177 s178 s179 s180 s181 s182 s183 s184 s185 s186 s187 s188 s189 (.int .i64 s190) (.int .i64 a211) s192 s193 s194 s195 s196 s197 s198 s199 s200 s201 s202 s203 s204 s205 (.int .i64 a211)) (W.mk d207 u208 h209 n210) ka)) (
 ka (.exit 0) (fr58 s88 s89 s90 s91 s92 s93 s94 s95 s96 s97 s98 s99 s100 s101 s102 s103 s104 s105 (.int .i64 s106) (.int .i64 s107) (.bool a127) s109 s110 s111 s112 s113 s114 s115 s116 s117 s118 s119 s120 s121 s122) (W.mk d123 u124 h125 n126))
theorem B58_1000004_eq (L : Lo) (lp : LP) (rd : Option Nat) (df : Bool) (t : Fr) (w : W) (ka : KX) : wU P hint58 L lp (unL (zJ P 58 1000004)) ⟨58, rd, df⟩ t w ka = B58_1000004 L lp rd df t w ka := by kernel_rfl
theorem l58 : zL P 58 = true := by kernel_rfl
theorem lp58_1000004 : yW (zJ P 58 1000004) = true := by kernel_rfl
noncomputable def eF58 : EntF P 8 := xL zG mixed 58 l58 F58 F58_eq
noncomputable def eL58_1000004 : EntL P 8 := entL zG mixed 58 l58 1000004 lp58_1000004 B58_1000004 B58_1000004_eq
noncomputable abbrev fr89 (s0 s1 s2 s3 s4 s5 s6 s7 s8 s9 s10 s11 s12 s13 s14 s15 : Value) : Fr := (.nD (.nD (.nD (.nD (.nD .lF s15 .lF) s7 .lF) s3 (.nD .lF s11 .lF)) s1 (.nD (.nD .lF s9 .lF) s5 (.nD .lF s13 .lF))) s0 (.nD (.nD (.nD .lF s8 .lF) s4 (.nD .lF s12 .lF)) s2 (.nD (.nD .lF s10 .lF) s6 (.nD .lF s14 .lF))))
noncomputable def hint89 : yR := fun kind _ i => match kind with
  | 1 => bif Nat.beq i 0 then [.val, .val, .val, .val, .val, .val, .val, .val, .val, .val, .val, .val, .val, .val, .val, .val] else []
  | 2 => bif Nat.beq i 3 then [.val, .val, .val, .val, .bool, .val, .val, .val, .val, .val, .val, .val, .val, .val, .val, .val] else bif Nat.beq i 4 then [.val, .val, .val, .val, .bool, .val, .val, .val, .val, .val, .val, .val, .val, .val, .val, .val] else bif Nat.beq i 5 then [.val, .val, .val, .val, .bool, .val, .val, .val, .val, .val, .val, .val, .val, .val, .val, .val] else bif Nat.beq i 6 then [.val, .val, .val, .val, .bool, .val, .val, .val, .val, .val, .val, .val, .val, .val, .val, .val] else bif Nat.beq i 7 then [.val, .val, .val, .val, .bool, .val, .val, .val, .val, .val, .val, .val, .val, .val, .val, .val] else bif Nat.beq i 8 then [.val, .val, .val, .val, .bool, .val, .val, .val, .val, .val, .val, .val, .val, .val, .val, .val] else bif Nat.beq i 9 then [.val, .val, .val, .val, .bool, .val, .val, .val, .val, .val, .val, .val, .val, .val, .val, .val] else bif Nat.beq i 10 then [.val, .val, .val, .val, .bool, .val, .val, .val, .val, .val, .val, .val, .val, .val, .val, .val] else bif Nat.beq i 11 then [.val, .val, .val, .val, .bool, .val, .val, .val, .val, .val, .val, .val, .val, .val, .val, .val] else bif Nat.beq i 12 then [.val, .val, .val, .val, .bool, .val, .val, .val, .val, .val, .val, .val, .val, .val, .val, .val] else bif Nat.beq i 13 then [.val, .val, .val, .val, .val, .val, .val, .val, .val, .val, .val, .val, .val, .val, .val, .val] else []
  | 4 => bif Nat.beq i 0 then [.any] else []
  | _ => []
noncomputable def F89 (L : Lo) (lp : LP) (p0 : Value) (df : Bool) (u : Option zF) (h : zE) (n : Nat) (k : KO) : Bool :=
 blkJ (fun k1 =>
 zK yO P .eql 9 true p0 (.string (ByteArray.mk #[109, 97, 99, 104, 105, 110, 101])) fun a2 =>
 brJ a2 (fun k3 =>
 k3 (fr89 p0 undef (.bool false) p0 (.bool a2) (.bool a2) undef undef undef undef undef undef undef undef undef undef) (W.mk [] u h n)) (fun k4 =>
 zK yO P .eql 9 true p0 (.string (ByteArray.mk #[114, 101, 103])) fun a5 =>
 brJ a5 (fun k6 =>
 k6 (fr89 p0 undef (.bool false) p0 (.bool a5) (.bool a2) (.bool a5) undef undef undef undef undef undef undef undef undef) (W.mk [] u h n)) (fun k7 =>
 zK yO P .eql 9 true p0 (.string (ByteArray.mk #[97, 116])) fun a8 =>
 brJ a8 (fun k9 =>
 k9 (fr89 p0 undef (.bool false) p0 (.bool a8) (.bool a2) (.bool a5) (.bool a8) undef undef undef undef undef undef undef undef) (W.mk [] u h n)) (fun k10 =>
 zK yO P .eql 9 true p0 (.string (ByteArray.mk #[99, 108, 97, 115, 115])) fun a11 =>
 brJ a11 (fun k12 =>
 k12 (fr89 p0 undef (.bool false) p0 (.bool a11) (.bool a2) (.bool a5) (.bool a8) (.bool a11) undef undef undef undef undef undef undef) (W.mk [] u h n)) (fun k13 =>
 zK yO P .eql 9 true p0 (.string (ByteArray.mk #[111, 112])) fun a14 =>
 brJ a14 (fun k15 =>
 k15 (fr89 p0 undef (.bool false) p0 (.bool a14) (.bool a2) (.bool a5) (.bool a8) (.bool a11) (.bool a14) undef undef undef undef undef undef) (W.mk [] u h n)) (fun k16 =>
 zK yO P .eql 9 true p0 (.string (ByteArray.mk #[116, 105, 101])) fun a17 =>
 brJ a17 (fun k18 =>
 k18 (fr89 p0 undef (.bool false) p0 (.bool a17) (.bool a2) (.bool a5) (.bool a8) (.bool a11) (.bool a14) (.bool a17) undef undef undef undef undef) (W.mk [] u h n)) (fun k19 =>
 zK yO P .eql 9 true p0 (.string (ByteArray.mk #[99, 108, 111, 98])) fun a20 =>
 brJ a20 (fun k21 =>
 k21 (fr89 p0 undef (.bool false) p0 (.bool a20) (.bool a2) (.bool a5) (.bool a8) (.bool a11) (.bool a14) (.bool a17) (.bool a20) undef undef undef undef) (W.mk [] u h n)) (fun k22 =>
 zK yO P .eql 9 true p0 (.string (ByteArray.mk #[97, 114, 103, 115])) fun a23 =>
 brJ a23 (fun k24 =>
 k24 (fr89 p0 undef (.bool false) p0 (.bool a23) (.bool a2) (.bool a5) (.bool a8) (.bool a11) (.bool a14) (.bool a17) (.bool a20) (.bool a23) undef undef undef) (W.mk [] u h n)) (fun k25 =>
 zK yO P .eql 9 true p0 (.string (ByteArray.mk #[114, 101, 115, 117, 108, 116])) fun a26 =>
 brJ a26 (fun k27 =>
 k27 (fr89 p0 undef (.bool false) p0 (.bool a26) (.bool a2) (.bool a5) (.bool a8) (.bool a11) (.bool a14) (.bool a17) (.bool a20) (.bool a23) (.bool a26) undef undef) (W.mk [] u h n)) (fun k28 =>
 zK yO P .eql 9 true p0 (.string (ByteArray.mk #[115, 97, 118, 101, 100])) fun a29 =>
 brJ a29 (fun k30 =>
 k30 (fr89 p0 undef (.bool false) p0 (.bool a29) (.bool a2) (.bool a5) (.bool a8) (.bool a11) (.bool a14) (.bool a17) (.bool a20) (.bool a23) (.bool a26) (.bool a29) undef) (W.mk [] u h n)) (fun k31 =>
 zK yO P .eql 9 true p0 (.string (ByteArray.mk #[115, 108, 111, 116, 115])) fun a32 =>
 k31 (fr89 p0 undef (.bool false) p0 (.bool a32) (.bool a2) (.bool a5) (.bool a8) (.bool a11) (.bool a14) (.bool a17) (.bool a20) (.bool a23) (.bool a26) (.bool a29) (.bool a32)) (W.mk [] u h n)) (fun t33 w34 =>
 zA (zB t33 0) fun s35 =>
 zA (zB t33 1) fun s36 =>
 zA (zB t33 2) fun s37 =>
 zA (zB t33 3) fun s38 =>
 rtB (zB t33 4) fun s39 =>
 zA (zB t33 5) fun s40 =>
 zA (zB t33 6) fun s41 =>
 zA (zB t33 7) fun s42 =>
 zA (zB t33 8) fun s43 =>
 zA (zB t33 9) fun s44 =>
 zA (zB t33 10) fun s45 =>
 zA (zB t33 11) fun s46 =>
 zA (zB t33 12) fun s47 =>
 zA (zB t33 13) fun s48 =>
 zA (zB t33 14) fun s49 =>
 zA (zB t33 15) fun s50 =>
 onW w34 fun d51 u52 h53 n54 =>
 k28 (fr89 s35 s36 s37 s38 (.bool s39) s40 s41 s42 s43 s44 s45 s46 s47 s48 s49 s50) (W.mk d51 u52 h53 n54))) (fun t55 w56 =>
 zA (zB t55 0) fun s57 =>
 zA (zB t55 1) fun s58 =>
 zA (zB t55 2) fun s59 =>
 zA (zB t55 3) fun s60 =>
 rtB (zB t55 4) fun s61 =>
 zA (zB t55 5) fun s62 =>
 zA (zB t55 6) fun s63 =>
 zA (zB t55 7) fun s64 =>
 zA (zB t55 8) fun s65 =>
 zA (zB t55 9) fun s66 =>
 zA (zB t55 10) fun s67 =>
 zA (zB t55 11) fun s68 =>
 zA (zB t55 12) fun s69 =>
 zA (zB t55 13) fun s70 =>
 zA (zB t55 14) fun s71 =>
 zA (zB t55 15) fun s72 =>
 onW w56 fun d73 u74 h75 n76 =>
 k25 (fr89 s57 s58 s59 s60 (.bool s61) s62 s63 s64 s65 s66 s67 s68 s69 s70 s71 s72) (W.mk d73 u74 h75 n76))) (fun t77 w78 =>
 zA (zB t77 0) fun s79 =>
 zA (zB t77 1) fun s80 =>
 zA (zB t77 2) fun s81 =>
 zA (zB t77 3) fun s82 =>
 rtB (zB t77 4) fun s83 =>
 zA (zB t77 5) fun s84 =>
 zA (zB t77 6) fun s85 =>
 zA (zB t77 7) fun s86 =>
 zA (zB t77 8) fun s87 =>
 zA (zB t77 9) fun s88 =>
 zA (zB t77 10) fun s89 =>
 zA (zB t77 11) fun s90 =>
 zA (zB t77 12) fun s91 =>
 zA (zB t77 13) fun s92 =>
 zA (zB t77 14) fun s93 =>
 zA (zB t77 15) fun s94 =>
 onW w78 fun d95 u96 h97 n98 =>
 k22 (fr89 s79 s80 s81 s82 (.bool s83) s84 s85 s86 s87 s88 s89 s90 s91 s92 s93 s94) (W.mk d95 u96 h97 n98))) (fun t99 w100 =>
 zA (zB t99 0) fun s101 =>
 zA (zB t99 1) fun s102 =>
 zA (zB t99 2) fun s103 =>
 zA (zB t99 3) fun s104 =>
 rtB (zB t99 4) fun s105 =>
 zA (zB t99 5) fun s106 =>
 zA (zB t99 6) fun s107 =>
 zA (zB t99 7) fun s108 =>
 zA (zB t99 8) fun s109 =>
 zA (zB t99 9) fun s110 =>
 zA (zB t99 10) fun s111 =>
 zA (zB t99 11) fun s112 =>
 zA (zB t99 12) fun s113 =>
 zA (zB t99 13) fun s114 =>
 zA (zB t99 14) fun s115 =>
 zA (zB t99 15) fun s116 =>
 onW w100 fun d117 u118 h119 n120 =>
 k19 (fr89 s101 s102 s103 s104 (.bool s105) s106 s107 s108 s109 s110 s111 s112 s113 s114 s115 s116) (W.mk d117 u118 h119 n120))) (fun t121 w122 =>
 zA (zB t121 0) fun s123 =>
 zA (zB t121 1) fun s124 =>
 zA (zB t121 2) fun s125 =>
 zA (zB t121 3) fun s126 =>
 rtB (zB t121 4) fun s127 =>
 zA (zB t121 5) fun s128 =>
 zA (zB t121 6) fun s129 =>
 zA (zB t121 7) fun s130 =>
 zA (zB t121 8) fun s131 =>
 zA (zB t121 9) fun s132 =>
 zA (zB t121 10) fun s133 =>
 zA (zB t121 11) fun s134 =>
 zA (zB t121 12) fun s135 =>
 zA (zB t121 13) fun s136 =>
 zA (zB t121 14) fun s137 =>
 zA (zB t121 15) fun s138 =>
 onW w122 fun d139 u140 h141 n142 =>
 k16 (fr89 s123 s124 s125 s126 (.bool s127) s128 s129 s130 s131 s132 s133 s134 s135 s136 s137 s138) (W.mk d139 u140 h141 n142))) (fun t143 w144 =>
 zA (zB t143 0) fun s145 =>
 zA (zB t143 1) fun s146 =>
 zA (zB t143 2) fun s147 =>
 zA (zB t143 3) fun s148 =>
 rtB (zB t143 4) fun s149 =>
 zA (zB t143 5) fun s150 =>
 zA (zB t143 6) fun s151 =>
 zA (zB t143 7) fun s152 =>
 zA (zB t143 8) fun s153 =>
 zA (zB t143 9) fun s154 =>
 zA (zB t143 10) fun s155 =>
 zA (zB t143 11) fun s156 =>
 zA (zB t143 12) fun s157 =>
 zA (zB t143 13) fun s158 =>
 zA (zB t143 14) fun s159 =>
 zA (zB t143 15) fun s160 =>
 onW w144 fun d161 u162 h163 n164 =>
 k13 (fr89 s145 s146 s147 s148 (.bool s149) s150 s151 s152 s153 s154 s155 s156 s157 s158 s159 s160) (W.mk d161 u162 h163 n164))) (fun t165 w166 =>
 zA (zB t165 0) fun s167 =>
 zA (zB t165 1) fun s168 =>
 zA (zB t165 2) fun s169 =>
 zA (zB t165 3) fun s170 =>
 rtB (zB t165 4) fun s171 =>
 zA (zB t165 5) fun s172 =>
 zA (zB t165 6) fun s173 =>
 zA (zB t165 7) fun s174 =>
 zA (zB t165 8) fun s175 =>
 zA (zB t165 9) fun s176 =>
 zA (zB t165 10) fun s177 =>
 zA (zB t165 11) fun s178 =>
 zA (zB t165 12) fun s179 =>
 zA (zB t165 13) fun s180 =>
 zA (zB t165 14) fun s181 =>
 zA (zB t165 15) fun s182 =>
 onW w166 fun d183 u184 h185 n186 =>
 k10 (fr89 s167 s168 s169 s170 (.bool s171) s172 s173 s174 s175 s176 s177 s178 s179 s180 s181 s182) (W.mk d183 u184 h185 n186))) (fun t187 w188 =>
 zA (zB t187 0) fun s189 =>
 zA (zB t187 1) fun s190 =>
 zA (zB t187 2) fun s191 =>
 zA (zB t187 3) fun s192 =>
 rtB (zB t187 4) fun s193 =>
 zA (zB t187 5) fun s194 =>
 zA (zB t187 6) fun s195 =>
 zA (zB t187 7) fun s196 =>
 zA (zB t187 8) fun s197 =>
 zA (zB t187 9) fun s198 =>
 zA (zB t187 10) fun s199 =>
 zA (zB t187 11) fun s200 =>
 zA (zB t187 12) fun s201 =>
 zA (zB t187 13) fun s202 =>
 zA (zB t187 14) fun s203 =>
 zA (zB t187 15) fun s204 =>
 onW w188 fun d205 u206 h207 n208 =>
 k7 (fr89 s189 s190 s191 s192 (.bool s193) s194 s195 s196 s197 s198 s199 s200 s201 s202 s203 s204) (W.mk d205 u206 h207 n208))) (fun t209 w210 =>
 zA (zB t209 0) fun s211 =>
 zA (zB t209 1) fun s212 =>
 zA (zB t209 2) fun s213 =>
 zA (zB t209 3) fun s214 =>
 rtB (zB t209 4) fun s215 =>
 zA (zB t209 5) fun s216 =>
 zA (zB t209 6) fun s217 =>
 zA (zB t209 7) fun s218 =>
 zA (zB t209 8) fun s219 =>
 zA (zB t209 9) fun s220 =>
 zA (zB t209 10) fun s221 =>
 zA (zB t209 11) fun s222 =>
 zA (zB t209 12) fun s223 =>
 zA (zB t209 13) fun s224 =>
 zA (zB t209 14) fun s225 =>
 zA (zB t209 15) fun s226 =>
 onW w210 fun d227 u228 h229 n230 =>
 k4 (fr89 s211 s212 s213 s214 (.bool s215) s216 s217 s218 s219 s220 s221 s222 s223 s224 s225 s226) (W.mk d227 u228 h229 n230))) (fun t231 w232 =>
 zA (zB t231 0) fun s233 =>
 zA (zB t231 1) fun s234 =>
 zA (zB t231 2) fun s235 =>
 zA (zB t231 3) fun s236 =>
 rtB (zB t231 4) fun s237 =>
 zA (zB t231 5) fun s238 =>
 zA (zB t231 6) fun s239 =>
 zA (zB t231 7) fun s240 =>
 zA (zB t231 8) fun s241 =>
 zA (zB t231 9) fun s242 =>
 zA (zB t231 10) fun s243 =>
 zA (zB t231 11) fun s244 =>
 zA (zB t231 12) fun s245 =>
 zA (zB t231 13) fun s246 =>
 zA (zB t231 14) fun s247 =>
 zA (zB t231 15) fun s248 =>
 onW w232 fun d249 u250 h251 n252 =>
 br s237 (
 zD P L 89 k .ret (fr89 s233 s234 (.bool true) s236 (.bool s237) s238 s239 s240 s241 s242 s243 s244 s245 s246 s247 s248) (W.mk d249 u250 h251 n252)) (
 k1 (fr89 s233 s234 s235 s236 (.bool s237) s238 s239 s240 s241 s242 s243 s244 s245 s246 s247 s248) (W.mk d249 u250 h251 n252)))) (fun t253 w254 =>
 zA (zB t253 0) fun s255 =>
 zA (zB t253 1) fun s256 =>
 zA (zB t253 2) fun s257 =>
 zA (zB t253 3) fun s258 =>
 zA (zB t253 4) fun s259 =>
 zA (zB t253 5) fun s260 =>
 zA (zB t253 6) fun s261 =>
 zA (zB t253 7) fun s262 =>
 zA (zB t253 8) fun s263 =>
 zA (zB t253 9) fun s264 =>
 zA (zB t253 10) fun s265 =>
 zA (zB t253 11) fun s266 =>
 zA (zB t253 12) fun s267 =>
 zA (zB t253 13) fun s268 =>
 zA (zB t253 14) fun s269 =>
 zA (zB t253 15) fun s270 =>
 onW w254 fun d271 u272 h273 n274 =>
 zD P L 89 k .ret (fr89 s255 s256 (.bool false) s258 s259 s260 s261 s262 s263 s264 s265 s266 s267 s268 s269 s270) (W.mk d271 u272 h273 n274))
theorem F89_eq (L : Lo) (lp : LP) (p0 : Value) (df : Bool) (u : Option zF) (h : zE) (n : Nat) (k : KO) : zY P hint89 L lp 89 [p0] df u h n k = F89 L lp p0 df u h n k := by kernel_rfl
theorem l89 : zL P 89 = true := by kernel_rfl
noncomputable def eF89 : EntF P 8 := xL zG mixed 89 l89 F89 F89_eq
noncomputable abbrev fr111 (s0 s1 s2 s3 s4 s5 s6 s7 s8 : Value) : Fr := (.nD (.nD (.nD (.nD .lF s7 .lF) s3 .lF) s1 (.nD .lF s5 .lF)) s0 (.nD (.nD (.nD .lF s8 .lF) s4 .lF) s2 (.nD .lF s6 .lF)))
noncomputable def hint111 : yR := fun kind _ i => match kind with
  | 4 => bif Nat.beq i 0 then [(.int .u8)] else []
  | _ => []
noncomputable def F111 (L : Lo) (lp : LP) (p0 : Value) (df : Bool) (u : Option zF) (h : zE) (n : Nat) (k : KO) : Bool :=
 rtI .u8 p0 fun ap0 =>
 fb (ileB 48 ap0) fun a1 =>
 grd a1 (fun k2 =>
 k2 h n (.int .u8 ap0)) (fun h3 n4 v5 =>
 grd a1 (fun k6 =>
 zK ileB P .leq 5 true v5 (.int .u8 57) fun a10 =>
 k6 h3 n4 (.bool a10)) (fun h7 n8 v9 =>
 rtB (sel a1 v9 (.bool false)) fun a11 =>
 zD P L 111 k .ret (fr111 (.int .u8 ap0) undef (.bool a11) (.int .u8 ap0) (.bool a1) (.bool a1) v5 v9 (.bool a11)) (W.mk [] u h7 n8)) h3 n4) h n
theorem F111_eq (L : Lo) (lp : LP) (p0 : Value) (df : Bool) (u : Option zF) (h : zE) (n : Nat) (k : KO) : zY P hint111 L lp 111 [p0] df u h n k = F111 L lp p0 df u h n k := by kernel_rfl
theorem l111 : zL P 111 = true := by kernel_rfl
noncomputable def eF111 : EntF P 8 := xL zG mixed 111 l111 F111 F111_eq
noncomputable abbrev fr136 (s0 s1 s2 s3 s4 s5 s6 s7 s8 s9 s10 s11 s12 s13 s14 s15 s16 s17 s18 s19 : Value) : Fr := (.nD (.nD (.nD (.nD (.nD .lF s15 .lF) s7 .lF) s3 (.nD (.nD .lF s19 .lF) s11 .lF)) s1 (.nD (.nD (.nD .lF s17 .lF) s9 .lF) s5 (.nD .lF s13 .lF))) s0 (.nD (.nD (.nD (.nD .lF s16 .lF) s8 .lF) s4 (.nD .lF s12 .lF)) s2 (.nD (.nD (.nD .lF s18 .lF) s10 .lF) s6 (.nD .lF s14 .lF))))
noncomputable def hint136 : yR := fun kind _ i => match kind with
  | 4 => bif Nat.beq i 0 then [.any, .any] else []
  | _ => []
noncomputable def F136 (L : Lo) (lp : LP) (p0 p1 : Value) (df : Bool) (u : Option zF) (h : zE) (n : Nat) (k : KO) : Bool :=
 opt (wZ p0) fun v1 =>
 opt (zC P 171 0 v1) fun v2 =>
 opt (zP P 4 h v2) fun v3 =>
 rtB v3 fun a4 =>
 grd (nt a4) (fun k5 =>
 k5 h n p1) (fun h6 n7 v8 =>
 grd (nt a4) (fun k9 =>
 zK ineB P .neq 9 true v8 (.string (ByteArray.mk #[])) fun a13 =>
 k9 h6 n7 (.bool a13)) (fun h10 n11 v12 =>
 grd (nt a4) (fun k14 =>
 k14 h10 n11 v12) (fun h15 n16 v17 =>
 grd (gv v17) (fun k18 =>
 k18 h15 n16 p1) (fun h19 n20 v21 =>
 grd (gv v17) (fun k22 =>
 xR L 164 [v21] h19 n20 (fun c29 h30 n31 =>
 zD P L 136 k (.panic c29) (fr136 p0 p1 undef undef p0 p0 v1 v2 (.bool a4) (.bool a4) v8 v12 v17 v21 undef undef undef undef undef undef) (W.mk [] u h30 n31)) fun a26 h27 n28 =>
 k22 h27 n28 (.bool a26)) (fun h23 n24 v25 =>
 grd (gv v17) (fun k32 =>
 opt (aUn .not v25) fun v36 =>
 rtB v36 fun a37 =>
 k32 h23 n24 (.bool a37)) (fun h33 n34 v35 =>
 grd (nt a4) (fun k38 =>
 zW v17 (fun b42 =>
 rtB (sel b42 v35 (.bool false)) fun a43 =>
 k38 h33 n34 (.bool a43)) false) (fun h39 n40 v41 =>
 rtB (sel a4 (.bool true) v41) fun a44 =>
 opt (wZ p0) fun v45 =>
 opt (zC P 171 0 v45) fun v46 =>
 xG P 4 v46 (.bool a44) h39 n40 fun h47 n48 v49 =>
 zD P L 136 k .ret (fr136 p0 p1 undef undef p0 p0 v1 v2 (.bool a4) (.bool a4) v8 v12 v17 v21 v25 v35 v41 (.bool a44) v45 v46) (W.mk [] u h47 n48)) h33 n34) h23 n24) h19 n20) h15 n16) h10 n11) h6 n7) h n
theorem F136_eq (L : Lo) (lp : LP) (p0 p1 : Value) (df : Bool) (u : Option zF) (h : zE) (n : Nat) (k : KO) : zY P hint136 L lp 136 [p0, p1] df u h n k = F136 L lp p0 p1 df u h n k := by kernel_rfl
theorem l136 : zL P 136 = true := by kernel_rfl
noncomputable def eF136 : EntF P 8 := wL zG mixed 136 l136 F136 F136_eq
noncomputable abbrev fr139 (s0 s1 s2 s3 s4 s5 s6 s7 s8 s9 s10 s11 s12 s13 : Value) : Fr := (.nD (.nD (.nD (.nD .lF s7 .lF) s3 (.nD .lF s11 .lF)) s1 (.nD (.nD .lF s9 .lF) s5 (.nD .lF s13 .lF))) s0 (.nD (.nD (.nD .lF s8 .lF) s4 (.nD .lF s12 .lF)) s2 (.nD (.nD .lF s10 .lF) s6 .lF)))
noncomputable def hint139 : yR := fun kind _ i => match kind with
  | 2 => bif Nat.beq i 2 then [.val, .val, .val, .val, .val, .val, .val, .val, .val, .val, .val, .val, .val, .val] else []
  | 4 => bif Nat.beq i 0 then [.any] else []
  | _ => []
noncomputable def F139 (L : Lo) (lp : LP) (p0 : Value) (df : Bool) (u : Option zF) (h : zE) (n : Nat) (k : KO) : Bool :=
 eBox 77 p0 h n fun h1 n2 v3 =>
 opt (zC P 77 1 v3) fun v4 =>
 opt (zP P 9 h1 v4) fun v5 =>
 zK yO P .eql 9 true v5 (.string (ByteArray.mk #[])) fun a6 =>
 br a6 (
 opt (zC P 77 0 v3) fun v7 =>
 opt (zP P 9 h1 v7) fun v8 =>
 zD P L 139 k .ret (fr139 p0 v3 v8 v4 v5 (.bool a6) v7 v8 undef undef undef undef undef undef) (W.mk [] u h1 n2)) (
 opt (zC P 77 0 v3) fun v9 =>
 opt (zP P 9 h1 v9) fun v10 =>
 xF wV P .add 9 true v10 (.string (ByteArray.mk #[58])) fun v11 =>
 opt (zC P 77 1 v3) fun v12 =>
 opt (zP P 9 h1 v12) fun v13 =>
 xF wV P .add 9 false v11 v13 fun v14 =>
 zD P L 139 k .ret (fr139 p0 v3 v14 v4 v5 (.bool a6) undef undef v9 v10 v11 v12 v13 v14) (W.mk [] u h1 n2))
theorem F139_eq (L : Lo) (lp : LP) (p0 : Value) (df : Bool) (u : Option zF) (h : zE) (n : Nat) (k : KO) : zY P hint139 L lp 139 [p0] df u h n k = F139 L lp p0 df u h n k := by kernel_rfl
theorem l139 : zL P 139 = true := by kernel_rfl
noncomputable def eF139 : EntF P 8 := xL zG mixed 139 l139 F139 F139_eq
noncomputable abbrev fr143 (s0 s1 s2 s3 s4 s5 s6 s7 s8 s9 s10 s11 s12 s13 s14 s15 s16 s17 s18 s19 s20 s21 s22 s23 s24 s25 s26 s27 s28 s29 s30 s31 s32 s33 s34 s35 s36 s37 s38 s39 : Value) : Fr := (.nD (.nD (.nD (.nD (.nD (.nD .lF s31 .lF) s15 .lF) s7 (.nD (.nD .lF s39 .lF) s23 .lF)) s3 (.nD (.nD (.nD .lF s35 .lF) s19 .lF) s11 (.nD .lF s27 .lF))) s1 (.nD (.nD (.nD (.nD .lF s33 .lF) s17 .lF) s9 (.nD .lF s25 .lF)) s5 (.nD (.nD (.nD .lF s37 .lF) s21 .lF) s13 (.nD .lF s29 .lF)))) s0 (.nD (.nD (.nD (.nD (.nD .lF s32 .lF) s16 .lF) s8 (.nD .lF s24 .lF)) s4 (.nD (.nD (.nD .lF s36 .lF) s20 .lF) s12 (.nD .lF s28 .lF))) s2 (.nD (.nD (.nD (.nD .lF s34 .lF) s18 .lF) s10 (.nD .lF s26 .lF)) s6 (.nD (.nD (.nD .lF s38 .lF) s22 .lF) s14 (.nD .lF s30 .lF)))))
noncomputable def hint143 : yR := fun kind _ i => match kind with
  | 4 => bif Nat.beq i 0 then [.any, .any] else []
  | _ => []
noncomputable def F143 (L : Lo) (lp : LP) (p0 p1 : Value) (df : Bool) (u : Option zF) (h : zE) (n : Nat) (k : KO) : Bool :=
 eBox 179 p0 h n fun h1 n2 v3 =>
 eBox 179 p1 h1 n2 fun h4 n5 v6 =>
 opt (zC P 179 0 v3) fun v7 =>
 opt (zP P 3 h4 v7) fun v8 =>
 rtI .i64 v8 fun a9 =>
 opt (zC P 179 0 v6) fun v10 =>
 opt (zP P 3 h4 v10) fun v11 =>
 rtI .i64 v11 fun a12 =>
 fb (yO a9 a12) fun a13 =>
 grd a13 (fun k14 =>
 opt (zC P 179 2 v3) fun v18 =>
 k14 h4 n5 v18) (fun h15 n16 v17 =>
 grd a13 (fun k19 =>
 opt (zP P 3 h15 v17) fun v23 =>
 rtI .i64 v23 fun a24 =>
 k19 h15 n16 (.int .i64 a24)) (fun h20 n21 v22 =>
 grd a13 (fun k25 =>
 zK igtB P .gtr 3 true v22 (.int .i64 0) fun a29 =>
 k25 h20 n21 (.bool a29)) (fun h26 n27 v28 =>
 rtB (sel a13 v28 (.bool false)) fun a30 =>
 grd a30 (fun k31 =>
 opt (zC P 179 2 v6) fun v35 =>
 k31 h26 n27 v35) (fun h32 n33 v34 =>
 grd a30 (fun k36 =>
 opt (zP P 3 h32 v34) fun v40 =>
 rtI .i64 v40 fun a41 =>
 k36 h32 n33 (.int .i64 a41)) (fun h37 n38 v39 =>
 grd a30 (fun k42 =>
 zK igtB P .gtr 3 true v39 (.int .i64 0) fun a46 =>
 k42 h37 n38 (.bool a46)) (fun h43 n44 v45 =>
 rtB (sel a30 v45 (.bool false)) fun a47 =>
 grd a47 (fun k48 =>
 opt (zC P 179 1 v3) fun v52 =>
 k48 h43 n44 v52) (fun h49 n50 v51 =>
 grd a47 (fun k53 =>
 opt (zP P 3 h49 v51) fun v57 =>
 rtI .i64 v57 fun a58 =>
 k53 h49 n50 (.int .i64 a58)) (fun h54 n55 v56 =>
 grd a47 (fun k59 =>
 opt (zC P 179 1 v6) fun v63 =>
 k59 h54 n55 v63) (fun h60 n61 v62 =>
 grd a47 (fun k64 =>
 opt (zP P 3 h60 v62) fun v68 =>
 rtI .i64 v68 fun a69 =>
 k64 h60 n61 (.int .i64 a69)) (fun h65 n66 v67 =>
 grd a47 (fun k70 =>
 opt (zC P 179 2 v6) fun v74 =>
 k70 h65 n66 v74) (fun h71 n72 v73 =>
 grd a47 (fun k75 =>
 opt (zP P 3 h71 v73) fun v79 =>
 rtI .i64 v79 fun a80 =>
 k75 h71 n72 (.int .i64 a80)) (fun h76 n77 v78 =>
 grd a47 (fun k81 =>
 xF wV P .add 3 false v67 v78 fun v85 =>
 k81 h76 n77 v85) (fun h82 n83 v84 =>
 grd a47 (fun k86 =>
 zK wE P .lss 3 false v56 v84 fun a90 =>
 k86 h82 n83 (.bool a90)) (fun h87 n88 v89 =>
 rtB (sel a47 v89 (.bool false)) fun a91 =>
 grd a91 (fun k92 =>
 opt (zC P 179 1 v6) fun v96 =>
 k92 h87 n88 v96) (fun h93 n94 v95 =>
 grd a91 (fun k97 =>
 opt (zP P 3 h93 v95) fun v101 =>
 rtI .i64 v101 fun a102 =>
 k97 h93 n94 (.int .i64 a102)) (fun h98 n99 v100 =>
 grd a91 (fun k103 =>
 opt (zC P 179 1 v3) fun v107 =>
 k103 h98 n99 v107) (fun h104 n105 v106 =>
 grd a91 (fun k108 =>
 opt (zP P 3 h104 v106) fun v112 =>
 rtI .i64 v112 fun a113 =>
 k108 h104 n105 (.int .i64 a113)) (fun h109 n110 v111 =>
 grd a91 (fun k114 =>
 opt (zC P 179 2 v3) fun v118 =>
 k114 h109 n110 v118) (fun h115 n116 v117 =>
 grd a91 (fun k119 =>
 opt (zP P 3 h115 v117) fun v123 =>
 rtI .i64 v123 fun a124 =>
 k119 h115 n116 (.int .i64 a124)) (fun h120 n121 v122 =>
 grd a91 (fun k125 =>
 xF wV P .add 3 false v111 v122 fun v129 =>
 k125 h120 n121 v129) (fun h126 n127 v128 =>
 grd a91 (fun k130 =>
 zK wE P .lss 3 false v100 v128 fun a134 =>
 k130 h126 n127 (.bool a134)) (fun h131 n132 v133 =>
 rtB (sel a91 v133 (.bool false)) fun a135 =>
 zD P L 143 k .ret (fr143 p0 p1 v3 v6 (.bool a135) v7 (.int .i64 a9) v10 (.int .i64 a12) (.bool a13) (.bool a13) v17 v22 v28 (.bool a30) (.bool a30) v34 v39 v45 (.bool a47) (.bool a47) v51 v56 v62 v67 v73 v78 v84 v89 (.bool a91) (.bool a91) v95 v100 v106 v111 v117 v122 v128 v133 (.bool a135)) (W.mk [] u h131 n132)) h126 n127) h120 n121) h115 n116) h109 n110) h104 n105) h98 n99) h93 n94) h87 n88) h82 n83) h76 n77) h71 n72) h65 n66) h60 n61) h54 n55) h49 n50) h43 n44) h37 n38) h32 n33) h26 n27) h20 n21) h15 n16) h4 n5
theorem F143_eq (L : Lo) (lp : LP) (p0 p1 : Value) (df : Bool) (u : Option zF) (h : zE) (n : Nat) (k : KO) : zY P hint143 L lp 143 [p0, p1] df u h n k = F143 L lp p0 p1 df u h n k := by kernel_rfl
theorem l143 : zL P 143 = true := by kernel_rfl
noncomputable def eF143 : EntF P 8 := wL zG mixed 143 l143 F143 F143_eq
noncomputable abbrev fr147 (s0 s1 s2 s3 s4 s5 s6 s7 s8 s9 s10 s11 s12 s13 s14 s15 s16 s17 s18 s19 s20 s21 s22 s23 s24 s25 s26 : Value) : Fr := (.nD (.nD (.nD (.nD (.nD .lF s15 .lF) s7 (.nD .lF s23 .lF)) s3 (.nD (.nD .lF s19 .lF) s11 .lF)) s1 (.nD (.nD (.nD .lF s17 .lF) s9 (.nD .lF s25 .lF)) s5 (.nD (.nD .lF s21 .lF) s13 .lF))) s0 (.nD (.nD (.nD (.nD .lF s16 .lF) s8 (.nD .lF s24 .lF)) s4 (.nD (.nD .lF s20 .lF) s12 .lF)) s2 (.nD (.nD (.nD .lF s18 .lF) s10 (.nD .lF s26 .lF)) s6 (.nD (.nD .lF s22 .lF) s14 .lF))))
noncomputable def hint147 : yR := fun kind _ i => match kind with
  | 2 => bif Nat.beq i 3 then [.val, .val, .val, .val, .val, (.int .i64), .val, .val, .val, .val, .val, .val, .val, .val, .val, .val, .val, .val, .val, .val, .val, .val, .val, .val, .val, .val, .val] else bif Nat.beq i 5 then [.val, .val, .val, .val, .val, .val, .val, .val, .val, .val, .val, .val, .val, .val, .val, .val, .val, .val, .val, .val, .val, .val, .val, .val, .val, .val, .val] else []
  | 4 => bif Nat.beq i 0 then [.any, .any] else []
  | _ => []
noncomputable def F147 (L : Lo) (lp : LP) (p0 p1 : Value) (df : Bool) (u : Option zF) (h : zE) (n : Nat) (k : KO) : Bool :=
 eBox 77 p1 h n fun h1 n2 v3 =>
 opt (zC P 77 0 v3) fun v4 =>
 opt (zP P 9 h1 v4) fun v5 =>
 callI L .i64 170 [p0, v5] h1 n2 (fun c9 h10 n11 =>
 zD P L 147 k (.panic c9) (fr147 p0 p1 undef v3 (.slice none 0 0) undef p0 v4 v5 undef undef undef undef undef undef undef undef undef undef undef undef undef undef undef undef undef undef) (W.mk [] u h10 n11)) fun a6 h7 n8 =>
 fb (wE a6 0) fun a12 =>
 br a12 (
 zD P L 147 k .ret (fr147 p0 p1 undef v3 (.slice none 0 0) (.int .i64 a6) p0 v4 v5 (.int .i64 a6) (.int .i64 a6) (.bool a12) undef undef undef undef undef undef undef undef undef undef undef undef undef undef undef) (W.mk [] u h7 n8)) (
 opt (zC P 77 1 v3) fun v13 =>
 opt (zP P 9 h7 v13) fun v14 =>
 zK yO P .eql 9 true v14 (.string (ByteArray.mk #[])) fun a15 =>
 br a15 (
 opt (wZ p0) fun v16 =>
 opt (zC P 149 3 v16) fun v17 =>
 opt (zP P 147 h7 v17) fun v18 =>
 opt (zQ P 147 v18 (.int .i64 a6)) fun v19 =>
 opt (zP P 40 h7 v19) fun v20 =>
 zD P L 147 k .ret (fr147 p0 p1 undef v3 v20 (.int .i64 a6) p0 v4 v5 (.int .i64 a6) (.int .i64 a6) (.bool a12) v13 v14 (.bool a15) p0 v16 v17 v18 (.int .i64 a6) v19 v20 undef undef undef undef undef) (W.mk [] u h7 n8)) (
 opt (zC P 77 1 v3) fun v21 =>
 opt (zP P 9 h7 v21) fun v22 =>
 yC P 23 1 [(0, v22)] h7 n8 fun h23 n24 v25 =>
 yH L 145 [p0, v25] h23 n24 (fun c29 h30 n31 =>
 zD P L 147 k (.panic c29) (fr147 p0 p1 undef v3 (.slice none 0 0) (.int .i64 a6) p0 v4 v5 (.int .i64 a6) (.int .i64 a6) (.bool a12) v13 v14 (.bool a15) undef undef undef undef undef undef undef p0 v21 v22 v25 undef) (W.mk [] u h30 n31)) fun a26 h27 n28 =>
 zD P L 147 k .ret (fr147 p0 p1 undef v3 a26 (.int .i64 a6) p0 v4 v5 (.int .i64 a6) (.int .i64 a6) (.bool a12) v13 v14 (.bool a15) undef undef undef undef undef undef undef p0 v21 v22 v25 a26) (W.mk [] u h27 n28)))
theorem F147_eq (L : Lo) (lp : LP) (p0 p1 : Value) (df : Bool) (u : Option zF) (h : zE) (n : Nat) (k : KO) : zY P hint147 L lp 147 [p0, p1] df u h n k = F147 L lp p0 p1 df u h n k := by kernel_rfl
theorem l147 : zL P 147 = true := by kernel_rfl
noncomputable def eF147 : EntF P 8 := wL zG mixed 147 l147 F147 F147_eq
noncomputable abbrev fr152 (s0 s1 s2 s3 s4 s5 s6 s7 s8 : Value) : Fr := (.nD (.nD (.nD (.nD .lF s7 .lF) s3 .lF) s1 (.nD .lF s5 .lF)) s0 (.nD (.nD (.nD .lF s8 .lF) s4 .lF) s2 (.nD .lF s6 .lF)))
noncomputable def hint152 : yR := fun kind _ i => match kind with
  | 4 => bif Nat.beq i 0 then [.any, .any] else []
  | _ => []
noncomputable def F152 (L : Lo) (lp : LP) (p0 p1 : Value) (df : Bool) (u : Option zF) (h : zE) (n : Nat) (k : KO) : Bool :=
 callI L .i64 178 [p0, p1] h n (fun c4 h5 n6 =>
 zD P L 152 k (.panic c4) (fr152 p0 p1 undef undef (.bool false) p0 p1 undef undef) (W.mk [] u h5 n6)) fun a1 h2 n3 =>
 fb (ileB 0 a1) fun a7 =>
 zD P L 152 k .ret (fr152 p0 p1 undef undef (.bool a7) p0 p1 (.int .i64 a1) (.bool a7)) (W.mk [] u h2 n3)
theorem F152_eq (L : Lo) (lp : LP) (p0 p1 : Value) (df : Bool) (u : Option zF) (h : zE) (n : Nat) (k : KO) : zY P hint152 L lp 152 [p0, p1] df u h n k = F152 L lp p0 p1 df u h n k := by kernel_rfl
theorem l152 : zL P 152 = true := by kernel_rfl
noncomputable def eF152 : EntF P 8 := wL zG mixed 152 l152 F152 F152_eq
noncomputable abbrev fr164 (s0 s1 s2 s3 s4 s5 s6 s7 s8 s9 : Value) : Fr := (.nD (.nD (.nD (.nD .lF s7 .lF) s3 .lF) s1 (.nD (.nD .lF s9 .lF) s5 .lF)) s0 (.nD (.nD (.nD .lF s8 .lF) s4 .lF) s2 (.nD .lF s6 .lF)))
noncomputable def hint164 : yR := fun kind _ i => match kind with
  | 4 => bif Nat.beq i 0 then [.any] else []
  | _ => []
noncomputable def F164 (L : Lo) (lp : LP) (p0 : Value) (df : Bool) (u : Option zF) (h : zE) (n : Nat) (k : KO) : Bool :=
 xR L 58 [p0] h n (fun c4 h5 n6 =>
 zD P L 164 k (.panic c4) (fr164 p0 undef (.bool false) p0 undef undef undef undef undef undef) (W.mk [] u h5 n6)) fun a1 h2 n3 =>
 grd a1 (fun k7 =>
 k7 h2 n3 p0) (fun h8 n9 v10 =>
 grd a1 (fun k11 =>
 xR L 187 [v10] h8 n9 (fun c18 h19 n20 =>
 zD P L 164 k (.panic c18) (fr164 p0 undef (.bool false) p0 (.bool a1) (.bool a1) v10 undef undef undef) (W.mk [] u h19 n20)) fun a15 h16 n17 =>
 k11 h16 n17 (.bool a15)) (fun h12 n13 v14 =>
 grd a1 (fun k21 =>
 opt (aUn .not v14) fun v25 =>
 rtB v25 fun a26 =>
 k21 h12 n13 (.bool a26)) (fun h22 n23 v24 =>
 rtB (sel a1 v24 (.bool false)) fun a27 =>
 zD P L 164 k .ret (fr164 p0 undef (.bool a27) p0 (.bool a1) (.bool a1) v10 v14 v24 (.bool a27)) (W.mk [] u h22 n23)) h12 n13) h8 n9) h2 n3
theorem F164_eq (L : Lo) (lp : LP) (p0 : Value) (df : Bool) (u : Option zF) (h : zE) (n : Nat) (k : KO) : zY P hint164 L lp 164 [p0] df u h n k = F164 L lp p0 df u h n k := by kernel_rfl
theorem l164 : zL P 164 = true := by kernel_rfl
noncomputable def eF164 : EntF P 8 := xL zG mixed 164 l164 F164 F164_eq
noncomputable abbrev fr167 (s0 s1 s2 s3 s4 s5 s6 s7 : Value) : Fr := (.nD (.nD (.nD (.nD .lF s7 .lF) s3 .lF) s1 (.nD .lF s5 .lF)) s0 (.nD (.nD .lF s4 .lF) s2 (.nD .lF s6 .lF)))
noncomputable def hint167 : yR := fun kind _ i => match kind with
  | 4 => bif Nat.beq i 0 then [.any, .any] else []
  | _ => []
noncomputable def F167 (L : Lo) (lp : LP) (p0 p1 : Value) (df : Bool) (u : Option zF) (h : zE) (n : Nat) (k : KO) : Bool :=
 xR L 192 [p0, p1] h n (fun c4 h5 n6 =>
 zD P L 167 k (.panic c4) (fr167 p0 p1 undef undef (.bool false) p0 p1 undef) (W.mk [] u h5 n6)) fun a1 h2 n3 =>
 zD P L 167 k .ret (fr167 p0 p1 undef undef (.bool a1) p0 p1 (.bool a1)) (W.mk [] u h2 n3)
theorem F167_eq (L : Lo) (lp : LP) (p0 p1 : Value) (df : Bool) (u : Option zF) (h : zE) (n : Nat) (k : KO) : zY P hint167 L lp 167 [p0, p1] df u h n k = F167 L lp p0 p1 df u h n k := by kernel_rfl
theorem l167 : zL P 167 = true := by kernel_rfl
noncomputable def eF167 : EntF P 8 := wL zG mixed 167 l167 F167 F167_eq
noncomputable abbrev fr170 (s0 s1 s2 s3 s4 s5 s6 s7 s8 s9 s10 s11 s12 s13 s14 s15 s16 s17 s18 s19 s20 s21 s22 s23 s24 s25 s26 s27 : Value) : Fr := (.nD (.nD (.nD (.nD (.nD .lF s15 .lF) s7 (.nD .lF s23 .lF)) s3 (.nD (.nD .lF s19 .lF) s11 (.nD .lF s27 .lF))) s1 (.nD (.nD (.nD .lF s17 .lF) s9 (.nD .lF s25 .lF)) s5 (.nD (.nD .lF s21 .lF) s13 .lF))) s0 (.nD (.nD (.nD (.nD .lF s16 .lF) s8 (.nD .lF s24 .lF)) s4 (.nD (.nD .lF s20 .lF) s12 .lF)) s2 (.nD (.nD (.nD .lF s18 .lF) s10 (.nD .lF s26 .lF)) s6 (.nD (.nD .lF s22 .lF) s14 .lF))))
noncomputable def hint170 : yR := fun kind _ i => match kind with
  | 0 => bif Nat.beq i 1000002 then [.val, .val, .val, .val, .val, (.int .i64), .val, .val, .val, .val, .val, .val, .val, .val, .val, .val, .val, .val, .val, .val, .val, .val, .val, .val, .val, .val, .val, .val] else []
  | 1 => bif Nat.beq i 0 then [.val, .val, .val, .val, .val, .val, .val, .val, .val, .val, .val, .val, .val, .val, .val, .val, .val, .val, .val, .val, .val, .val, .val, .val, .val, .val, .val, .val] else bif Nat.beq i 1 then [.val, .val, .val, .val, .val, (.int .i64), .val, .val, .val, .val, .val, .val, .val, .val, .val, .val, .val, .val, .val, .val, .val, .val, .val, .val, .val, .val, .val, .val] else []
  | 2 => bif Nat.beq i 0 then [.val, .val, .val, .val, .val, (.int .i64), .val, .val, .val, .val, .val, .val, .val, .val, .val, .val, .val, .val, .val, .val, .val, .val, .val, .val, .val, .val, .val, .val] else bif Nat.beq i 5 then [.val, .val, .val, .val, .val, (.int .i64), .val, .val, .val, .val, .val, .val, .val, .val, .val, .val, .val, .val, .val, .val, .val, .val, .val, .val, .val, .val, .val, .val] else []
  | 4 => bif Nat.beq i 0 then [.any, .any] else []
  | _ => []
noncomputable def F170 (L : Lo) (lp : LP) (p0 p1 : Value) (df : Bool) (u : Option zF) (h : zE) (n : Nat) (k : KO) : Bool :=
 lp 1000002 ⟨170, none, df⟩ (fr170 p0 p1 undef undef (.int .i64 0) (.int .i64 0) undef undef undef undef undef undef undef undef undef undef undef undef undef undef undef undef undef undef undef undef undef undef) (W.mk [] u h n) (endA noK (blkA 0 (fun t1 w2 =>
 zA (zB t1 0) fun s3 =>
 zA (zB t1 1) fun s4 =>
 zA (zB t1 2) fun s5 =>
 zA (zB t1 3) fun s6 =>
 zA (zB t1 4) fun s7 =>
 zA (zB t1 5) fun s8 =>
 zA (zB t1 6) fun s9 =>
 zA (zB t1 7) fun s10 =>
 zA (zB t1 8) fun s11 =>
 zA (zB t1 9) fun s12 =>
 zA (zB t1 10) fun s13 =>
 zA (zB t1 11) fun s14 =>
 zA (zB t1 12) fun s15 =>
 zA (zB t1 13) fun s16 =>
 zA (zB t1 14) fun s17 =>
 zA (zB t1 15) fun s18 =>
 zA (zB t1 16) fun s19 =>
 zA (zB t1 17) fun s20 =>
 zA (zB t1 18) fun s21 =>
 zA (zB t1 19) fun s22 =>
 zA (zB t1 20) fun s23 =>
 zA (zB t1 21) fun s24 =>
 zA (zB t1 22) fun s25 =>
 zA (zB t1 23) fun s26 =>
 zA (zB t1 24) fun s27 =>
 zA (zB t1 25) fun s28 =>
 zA (zB t1 26) fun s29 =>
 zA (zB t1 27) fun s30 =>
 onW w2 fun d31 u32 h33 n34 =>
 zD P L 170 k .ret (fr170 s3 s4 s5 s6 (.int .i64 (-1)) s8 s9 s10 s11 s12 s13 s14 s15 s16 s17 s18 s19 s20 s21 s22 s23 s24 s25 s26 s27 s28 s29 s30) (W.mk d31 u32 h33 n34)) (zD P L 170 k)))
theorem F170_eq (L : Lo) (lp : LP) (p0 p1 : Value) (df : Bool) (u : Option zF) (h : zE) (n : Nat) (k : KO) : zY P hint170 L lp 170 [p0, p1] df u h n k = F170 L lp p0 p1 df u h n k := by kernel_rfl
noncomputable def B170_1000002 (L : Lo) (lp : LP) (rd : Option Nat) (df : Bool) (t : Fr) (w : W) (ka : KX) : Bool :=
 zA (zB t 0) fun s35 =>
 zA (zB t 1) fun s36 =>
 zA (zB t 2) fun s37 =>
 zA (zB t 3) fun s38 =>
 zA (zB t 4) fun s39 =>
 rtI .i64 (zB t 5) fun s40 =>
 zA (zB t 6) fun s41 =>
 zA (zB t 7) fun s42 =>
 zA (zB t 8) fun s43 =>
 zA (zB t 9) fun s44 =>
 zA (zB t 10) fun s45 =>
 zA (zB t 11) fun s46 =>
 zA (zB t 12) fun s47 =>
 zA (zB t 13) fun s48 =>
 zA (zB t 14) fun s49 =>
 zA (zB t 15) fun s50 =>
 zA (zB t 16) fun s51 =>
 zA (zB t 17) fun s52 =>
 zA (zB t 18) fun s53 =>
 zA (zB t 19) fun s54 =>
 zA (zB t 20) fun s55 =>
 zA (zB t 21) fun s56 =>
 zA (zB t 22) fun s57 =>
 zA (zB t 23) fun s58 =>
 zA (zB t 24) fun s59 =>
 zA (zB t 25) fun s60 =>
 zA (zB t 26) fun s61 =>
 zA (zB t 27) fun s62 =>
 onW w fun d63 u64 h65 n66 =>
 opt (wZ s35) fun v67 =>
 opt (zC P 149 0 v67) fun v68 =>
 opt (zC P 33 2 v68) fun v69 =>
 opt (zP P 30 h65 v69) fun v70 =>
 opt (zU P .len [30] [v70] h65) fun v71 =>
 rtI .i64 v71 fun a72 =>
 fb (wE s40 a72) fun a73 =>
 br a73 (
 blkJ (fun k74 =>
 opt (wZ s35) fun v75 =>
 opt (zC P 149 0 v75) fun v76 =>
 opt (zC P 33 2 v76) fun v77 =>
 opt (zP P 30 h65 v77) fun v78 =>
 opt (zQ P 30 v78 (.int .i64 s40)) fun v79 =>
 opt (zC P 75 0 v79) fun v80 =>
 opt (zP P 9 h65 v80) fun v81 =>
 zK yO P .eql 9 false v81 s36 fun a82 =>
 br a82 (
 ka .ret (fr170 s35 s36 s37 s38 (.int .i64 s40) (.int .i64 s40) (.int .i64 s40) s35 v67 v68 v69 v70 (.int .i64 a72) (.bool a73) s49 s50 s35 v75 v76 v77 v78 (.int .i64 s40) v79 v80 v81 s36 (.bool a82) (.int .i64 s40)) (W.mk d63 u64 h65 n66)) (
 k74 (fr170 s35 s36 s37 s38 s39 (.int .i64 s40) (.int .i64 s40) s35 v67 v68 v69 v70 (.int .i64 a72) (.bool a73) s49 s50 s35 v75 v76 v77 v78 (.int .i64 s40) v79 v80 v81 s36 (.bool a82) s62) (W.mk d63 u64 h65 n66))) (fun t83 w84 =>
 zA (zB t83 0) fun s85 =>
 zA (zB t83 1) fun s86 =>
 zA (zB t83 2) fun s87 =>
 zA (zB t83 3) fun s88 =>
 zA (zB t83 4) fun s89 =>
 rtI .i64 (zB t83 5) fun s90 =>
 zA (zB t83 6) fun s91 =>
 zA (zB t83 7) fun s92 =>
 zA (zB t83 8) fun s93 =>
 zA (zB t83 9) fun s94 =>
 zA (zB t83 10) fun s95 =>
 zA (zB t83 11) fun s96 =>
 zA (zB t83 12) fun s97 =>
 zA (zB t83 13) fun s98 =>
 zA (zB t83 14) fun s99 =>
 zA (zB t83 15) fun s100 =>
 zA (zB t83 16) fun s101 =>
 zA (zB t83 17) fun s102 =>
 zA (zB t83 18) fun s103 =>
 zA (zB t83 19) fun s104 =>
 zA (zB t83 20) fun s105 =>
 zA (zB t83 21) fun s106 =>
 zA (zB t83 22) fun s107 =>
 zA (zB t83 23) fun s108 =>
 zA (zB t83 24) fun s109 =>
 zA (zB t83 25) fun s110 =>
 zA (zB t83 26) fun s111 =>
 zA (zB t83 27) fun s112 =>
 onW w84 fun d113 u114 h115 n116 =>
 fi (yK .i64 (wV s90 1)) fun a117 =>
 lp 1000002 ⟨170, rd, df⟩ (fr170 s85 s86 s87 s88 s89 (.int .i64 a117) s91 s92 s93 s94 s95 s96 s97 s98 (.int .i64 s90) (.int .i64 a117) s101 s102 s103 s104 s105 s106 s107 s108 s109 s110 s111 s112) (W.mk d113 u114 h115 n116) ka)) (
 ka (.exit 0) (fr170 s35 s36 s37 s38 s39 (.int .i64 s40) (.int .i64 s40) s35 v67 v68 v69 v70 (.int .i64 a72) (.bool a73) s49 s50 s51 s52 s53 s54 s55 s56 s57 s58 s59 s60 s61 s62) (W.mk d63 u64 h65 n66))
theorem B170_1000002_eq (L : Lo) (lp : LP) (rd : Option Nat) (df : Bool) (t : Fr) (w : W) (ka : KX) : wU P hint170 L lp (unL (zJ P 170 1000002)) ⟨170, rd, df⟩ t w ka = B170_1000002 L lp rd df t w ka := by kernel_rfl
theorem l170 : zL P 170 = true := by kernel_rfl
theorem lp170_1000002 : yW (zJ P 170 1000002) = true := by kernel_rfl
noncomputable def eF170 : EntF P 8 := wL zG mixed 170 l170 F170 F170_eq
noncomputable def eL170_1000002 : EntL P 8 := entL zG mixed 170 l170 1000002 lp170_1000002 B170_1000002 B170_1000002_eq
noncomputable abbrev fr176 (s0 s1 s2 s3 s4 s5 s6 s7 s8 s9 s10 s11 s12 s13 s14 s15 s16 s17 s18 s19 s20 s21 s22 s23 s24 s25 s26 s27 : Value) : Fr := (.nD (.nD (.nD (.nD (.nD .lF s15 .lF) s7 (.nD .lF s23 .lF)) s3 (.nD (.nD .lF s19 .lF) s11 (.nD .lF s27 .lF))) s1 (.nD (.nD (.nD .lF s17 .lF) s9 (.nD .lF s25 .lF)) s5 (.nD (.nD .lF s21 .lF) s13 .lF))) s0 (.nD (.nD (.nD (.nD .lF s16 .lF) s8 (.nD .lF s24 .lF)) s4 (.nD (.nD .lF s20 .lF) s12 .lF)) s2 (.nD (.nD (.nD .lF s18 .lF) s10 (.nD .lF s26 .lF)) s6 (.nD (.nD .lF s22 .lF) s14 .lF))))
noncomputable def hint176 : yR := fun kind _ i => match kind with
  | 2 => bif Nat.beq i 2 then [.val, (.int .i64), .val, .val, .val, .val, .val, .val, .val, .val, .val, .val, .val, .val, .val, .val, .val, .val, .val, .val, .val, .val, .val, .val, .val, .val, .val, .val] else []
  | 4 => bif Nat.beq i 0 then [.any, (.int .i64)] else []
  | _ => []
noncomputable def F176 (L : Lo) (lp : LP) (p0 p1 : Value) (df : Bool) (u : Option zF) (h : zE) (n : Nat) (k : KO) : Bool :=
 rtI .i64 p1 fun ap1 =>
 fb (wE ap1 0) fun a1 =>
 grd (nt a1) (fun k2 =>
 k2 h n (.int .i64 ap1)) (fun h3 n4 v5 =>
 grd (nt a1) (fun k6 =>
 k6 h3 n4 p0) (fun h7 n8 v9 =>
 grd (nt a1) (fun k10 =>
 opt (wZ v9) fun v14 =>
 k10 h7 n8 v14) (fun h11 n12 v13 =>
 grd (nt a1) (fun k15 =>
 opt (zC P 149 0 v13) fun v19 =>
 k15 h11 n12 v19) (fun h16 n17 v18 =>
 grd (nt a1) (fun k20 =>
 opt (zC P 33 3 v18) fun v24 =>
 k20 h16 n17 v24) (fun h21 n22 v23 =>
 grd (nt a1) (fun k25 =>
 opt (zP P 31 h21 v23) fun v29 =>
 k25 h21 n22 v29) (fun h26 n27 v28 =>
 grd (nt a1) (fun k30 =>
 opt (zU P .len [31] [v28] h26) fun v34 =>
 rtI .i64 v34 fun a35 =>
 k30 h26 n27 (.int .i64 a35)) (fun h31 n32 v33 =>
 grd (nt a1) (fun k36 =>
 zK igeB P .geq 3 false v5 v33 fun a40 =>
 k36 h31 n32 (.bool a40)) (fun h37 n38 v39 =>
 rtB (sel a1 (.bool true) v39) fun a41 =>
 br a41 (
 zD P L 176 k .ret (fr176 p0 (.int .i64 ap1) undef undef (.slice none 0 0) (.int .i64 ap1) (.bool a1) (.bool a1) v5 v9 v13 v18 v23 v28 v33 v39 (.bool a41) undef undef undef undef undef undef undef undef undef undef undef) (W.mk [] u h37 n38)) (
 opt (wZ p0) fun v42 =>
 opt (zC P 149 0 v42) fun v43 =>
 opt (zC P 33 3 v43) fun v44 =>
 opt (zP P 31 h37 v44) fun v45 =>
 opt (zQ P 31 v45 (.int .i64 ap1)) fun v46 =>
 opt (zC P 80 4 v46) fun v47 =>
 opt (zP P 23 h37 v47) fun v48 =>
 yH L 145 [p0, v48] h37 n38 (fun c52 h53 n54 =>
 zD P L 176 k (.panic c52) (fr176 p0 (.int .i64 ap1) undef undef (.slice none 0 0) (.int .i64 ap1) (.bool a1) (.bool a1) v5 v9 v13 v18 v23 v28 v33 v39 (.bool a41) p0 p0 v42 v43 v44 v45 (.int .i64 ap1) v46 v47 v48 undef) (W.mk [] u h53 n54)) fun a49 h50 n51 =>
 zD P L 176 k .ret (fr176 p0 (.int .i64 ap1) undef undef a49 (.int .i64 ap1) (.bool a1) (.bool a1) v5 v9 v13 v18 v23 v28 v33 v39 (.bool a41) p0 p0 v42 v43 v44 v45 (.int .i64 ap1) v46 v47 v48 a49) (W.mk [] u h50 n51))) h31 n32) h26 n27) h21 n22) h16 n17) h11 n12) h7 n8) h3 n4) h n
theorem F176_eq (L : Lo) (lp : LP) (p0 p1 : Value) (df : Bool) (u : Option zF) (h : zE) (n : Nat) (k : KO) : zY P hint176 L lp 176 [p0, p1] df u h n k = F176 L lp p0 p1 df u h n k := by kernel_rfl
theorem l176 : zL P 176 = true := by kernel_rfl
noncomputable def eF176 : EntF P 8 := wL zG mixed 176 l176 F176 F176_eq
noncomputable abbrev fr187 (s0 s1 s2 s3 s4 s5 : Value) : Fr := (.nD (.nD (.nD .lF s3 .lF) s1 (.nD .lF s5 .lF)) s0 (.nD (.nD .lF s4 .lF) s2 .lF))
noncomputable def hint187 : yR := fun kind _ i => match kind with
  | 4 => bif Nat.beq i 0 then [.any] else []
  | _ => []
noncomputable def F187 (L : Lo) (lp : LP) (p0 : Value) (df : Bool) (u : Option zF) (h : zE) (n : Nat) (k : KO) : Bool :=
 yC P 23 11 [(0, (.string (ByteArray.mk #[109, 97, 99, 104, 105, 110, 101]))), (1, (.string (ByteArray.mk #[114, 101, 103]))), (2, (.string (ByteArray.mk #[97, 116]))), (3, (.string (ByteArray.mk #[99, 108, 97, 115, 115]))), (4, (.string (ByteArray.mk #[111, 112]))), (5, (.string (ByteArray.mk #[116, 105, 101]))), (6, (.string (ByteArray.mk #[99, 108, 111, 98]))), (7, (.string (ByteArray.mk #[97, 114, 103, 115]))), (8, (.string (ByteArray.mk #[114, 101, 115, 117, 108, 116]))), (9, (.string (ByteArray.mk #[115, 97, 118, 101, 100]))), (10, (.string (ByteArray.mk #[115, 108, 111, 116, 115])))] h n fun h1 n2 v3 =>
 xR L 152 [v3, p0] h1 n2 (fun c7 h8 n9 =>
 zD P L 187 k (.panic c7) (fr187 p0 undef (.bool false) v3 p0 undef) (W.mk [] u h8 n9)) fun a4 h5 n6 =>
 zD P L 187 k .ret (fr187 p0 undef (.bool a4) v3 p0 (.bool a4)) (W.mk [] u h5 n6)
theorem F187_eq (L : Lo) (lp : LP) (p0 : Value) (df : Bool) (u : Option zF) (h : zE) (n : Nat) (k : KO) : zY P hint187 L lp 187 [p0] df u h n k = F187 L lp p0 df u h n k := by kernel_rfl
theorem l187 : zL P 187 = true := by kernel_rfl
noncomputable def eF187 : EntF P 8 := xL zG mixed 187 l187 F187 F187_eq
noncomputable abbrev fr188 (s0 s1 s2 s3 s4 s5 : Value) : Fr := (.nD (.nD (.nD .lF s3 .lF) s1 (.nD .lF s5 .lF)) s0 (.nD (.nD .lF s4 .lF) s2 .lF))
noncomputable def hint188 : yR := fun kind _ i => match kind with
  | 4 => bif Nat.beq i 0 then [.any] else []
  | _ => []
noncomputable def F188 (L : Lo) (lp : LP) (p0 p1 : Value) (df : Bool) (u : Option zF) (h : zE) (n : Nat) (k : KO) : Bool :=
 opt (zP P 29 h p1) fun v1 =>
 xR L 189 [v1, (.int .i64 1), p0] h n (fun c5 h6 n7 =>
 zD P L 188 k (.panic c5) (fr188 p0 p1 undef v1 p0 undef) (W.mk [] u h6 n7)) fun a2 h3 n4 =>
 zD P L 188 k .ret (fr188 p0 p1 undef v1 p0 (.bool a2)) (W.mk [] u h3 n4)
theorem F188_eq (L : Lo) (lp : LP) (p0 p1 : Value) (df : Bool) (u : Option zF) (h : zE) (n : Nat) (k : KO) : zY P hint188 L lp 188 [p0, p1] df u h n k = F188 L lp p0 p1 df u h n k := by kernel_rfl
theorem l188 : zL P 188 = true := by kernel_rfl
noncomputable def eF188 : EntF P 8 := wL zG mixed 188 l188 F188 F188_eq
noncomputable abbrev fr189 (s0 s1 s2 s3 s4 s5 s6 s7 s8 s9 s10 s11 s12 s13 s14 s15 s16 s17 s18 s19 s20 s21 s22 s23 s24 s25 s26 s27 s28 s29 s30 s31 s32 : Value) : Fr := (.nD (.nD (.nD (.nD (.nD (.nD .lF s31 .lF) s15 .lF) s7 (.nD .lF s23 .lF)) s3 (.nD (.nD .lF s19 .lF) s11 (.nD .lF s27 .lF))) s1 (.nD (.nD (.nD .lF s17 .lF) s9 (.nD .lF s25 .lF)) s5 (.nD (.nD .lF s21 .lF) s13 (.nD .lF s29 .lF)))) s0 (.nD (.nD (.nD (.nD (.nD .lF s32 .lF) s16 .lF) s8 (.nD .lF s24 .lF)) s4 (.nD (.nD .lF s20 .lF) s12 (.nD .lF s28 .lF))) s2 (.nD (.nD (.nD .lF s18 .lF) s10 (.nD .lF s26 .lF)) s6 (.nD (.nD .lF s22 .lF) s14 (.nD .lF s30 .lF)))))
noncomputable def hint189 : yR := fun kind _ i => match kind with
  | 0 => bif Nat.beq i 1000004 then [.val, (.int .i64), .val, .val, .val, .val, .val, .val, .val, .val, .val, .val, (.int .i64), (.int .i64), .val, .val, .val, .val, .val, .val, .val, .val, .val, .val, .val, .val, .val, .val, .val, .val, .val, .val, .val] else []
  | 1 => bif Nat.beq i 0 then [.val, .val, .val, .val, .val, .val, .val, .val, .val, .val, .val, .val, .val, .val, .val, .val, .val, .val, .val, .val, .val, .val, .val, .val, .val, .val, .val, .val, .val, .val, .val, .val, .val] else bif Nat.beq i 1 then [.val, (.int .i64), .val, .val, .val, .val, .val, .val, .val, .val, .val, .val, (.int .i64), (.int .i64), .val, .val, .val, .val, .val, .val, .val, .val, .val, .val, .val, .val, .val, .val, .val, .val, .val, .val, .val] else []
  | 2 => bif Nat.beq i 0 then [.val, (.int .i64), .val, .val, .val, .val, .val, .val, .val, .val, .val, .val, (.int .i64), (.int .i64), .val, .val, .val, .val, .val, .val, .val, .val, .val, .val, .val, .val, .val, .val, .val, .val, .val, .val, .val] else bif Nat.beq i 2 then [.val, (.int .i64), .val, .val, .val, .val, .val, .val, .val, .val, .val, .val, .val, .val, .val, .val, .val, .val, .val, .val, .val, .val, .val, .val, .val, .val, .val, .val, .val, .val, .val, .val, .val] else bif Nat.beq i 7 then [.val, (.int .i64), .val, .val, .val, .val, .val, .val, .val, .val, .val, .val, (.int .i64), (.int .i64), .val, .val, .val, .val, .val, .val, .val, .val, .val, .val, .val, .val, .val, .val, .val, .val, .val, .val, .val] else []
  | 4 => bif Nat.beq i 0 then [.any, (.int .i64), .any] else []
  | _ => []
noncomputable def F189 (L : Lo) (lp : LP) (p0 p1 p2 : Value) (df : Bool) (u : Option zF) (h : zE) (n : Nat) (k : KO) : Bool :=
 rtI .i64 p1 fun ap1 =>
 fb (wE 7 ap1) fun a1 =>
 br a1 (
 zD P L 189 k .ret (fr189 p0 (.int .i64 ap1) p2 undef undef undef (.bool true) undef undef (.int .i64 ap1) (.bool a1) undef undef undef undef undef undef undef undef undef undef undef undef undef undef undef undef undef undef undef undef undef undef) (W.mk [] u h n)) (
 opt (zU P .len [29] [p0] h) fun v2 =>
 rtI .i64 v2 fun a3 =>
 lp 1000004 ⟨189, none, df⟩ (fr189 p0 (.int .i64 ap1) p2 undef undef undef (.bool false) undef undef (.int .i64 ap1) (.bool a1) p0 (.int .i64 a3) (.int .i64 0) undef undef undef undef undef undef undef undef undef undef undef undef undef undef undef undef undef undef undef) (W.mk [] u h n) (endA noK (blkA 0 (fun t4 w5 =>
 zA (zB t4 0) fun s6 =>
 zA (zB t4 1) fun s7 =>
 zA (zB t4 2) fun s8 =>
 zA (zB t4 3) fun s9 =>
 zA (zB t4 4) fun s10 =>
 zA (zB t4 5) fun s11 =>
 zA (zB t4 6) fun s12 =>
 zA (zB t4 7) fun s13 =>
 zA (zB t4 8) fun s14 =>
 zA (zB t4 9) fun s15 =>
 zA (zB t4 10) fun s16 =>
 zA (zB t4 11) fun s17 =>
 zA (zB t4 12) fun s18 =>
 zA (zB t4 13) fun s19 =>
 zA (zB t4 14) fun s20 =>
 zA (zB t4 15) fun s21 =>
 zA (zB t4 16) fun s22 =>
 zA (zB t4 17) fun s23 =>
 zA (zB t4 18) fun s24 =>
 zA (zB t4 19) fun s25 =>
 zA (zB t4 20) fun s26 =>
 zA (zB t4 21) fun s27 =>
 zA (zB t4 22) fun s28 =>
 zA (zB t4 23) fun s29 =>
 zA (zB t4 24) fun s30 =>
 zA (zB t4 25) fun s31 =>
 zA (zB t4 26) fun s32 =>
 zA (zB t4 27) fun s33 =>
 zA (zB t4 28) fun s34 =>
 zA (zB t4 29) fun s35 =>
 zA (zB t4 30) fun s36 =>
 zA (zB t4 31) fun s37 =>
 zA (zB t4 32) fun s38 =>
 onW w5 fun d39 u40 h41 n42 =>
 zD P L 189 k .ret (fr189 s6 s7 s8 s9 s10 s11 (.bool true) s13 s14 s15 s16 s17 s18 s19 s20 s21 s22 s23 s24 s25 s26 s27 s28 s29 s30 s31 s32 s33 s34 s35 s36 s37 s38) (W.mk d39 u40 h41 n42)) (zD P L 189 k))))
theorem F189_eq (L : Lo) (lp : LP) (p0 p1 p2 : Value) (df : Bool) (u : Option zF) (h : zE) (n : Nat) (k : KO) : zY P hint189 L lp 189 [p0, p1, p2] df u h n k = F189 L lp p0 p1 p2 df u h n k := by kernel_rfl
noncomputable def B189_1000004 (L : Lo) (lp : LP) (rd : Option Nat) (df : Bool) (t : Fr) (w : W) (ka : KX) : Bool :=
 zA (zB t 0) fun s43 =>
 rtI .i64 (zB t 1) fun s44 =>
 zA (zB t 2) fun s45 =>
 zA (zB t 3) fun s46 =>
 zA (zB t 4) fun s47 =>
 zA (zB t 5) fun s48 =>
 zA (zB t 6) fun s49 =>
 zA (zB t 7) fun s50 =>
 zA (zB t 8) fun s51 =>
 zA (zB t 9) fun s52 =>
 zA (zB t 10) fun s53 =>
 zA (zB t 11) fun s54 =>
 rtI .i64 (zB t 12) fun s55 =>
 rtI .i64 (zB t 13) fun s56 =>
 zA (zB t 14) fun s57 =>
 zA (zB t 15) fun s58 =>
 zA (zB t 16) fun s59 =>
 zA (zB t 17) fun s60 =>
 zA (zB t 18) fun s61 =>
 zA (zB t 19) fun s62 =>
 zA (zB t 20) fun s63 =>
 zA (zB t 21) fun s64 =>
 zA (zB t 22) fun s65 =>
 zA (zB t 23) fun s66 =>
 zA (zB t 24) fun s67 =>
 zA (zB t 25) fun s68 =>
 zA (zB t 26) fun s69 =>
 zA (zB t 27) fun s70 =>
 zA (zB t 28) fun s71 =>
 zA (zB t 29) fun s72 =>
 zA (zB t 30) fun s73 =>
 zA (zB t 31) fun s74 =>
 zA (zB t 32) fun s75 =>
 onW w fun d76 u77 h78 n79 =>
 fb (wE s56 s55) fun a80 =>
 br a80 (
 blkJ (fun k81 =>
 opt (zQ P 29 s54 (.int .i64 s56)) fun v82 =>
 opt (zP P 127 h78 v82) fun v83 =>
 eAlloc P 127 h78 n79 fun h84 n85 v86 =>
 xG P 127 v86 v83 h84 n85 fun h87 n88 v89 =>
 opt (zP P 127 h87 v86) fun v90 =>
 opt (aBuild P 203 [(0, v90), (1, (.int .i64 s44))]) fun v91 =>
 invokeB L s45 [v91] h87 n88 (fun c95 h96 n97 =>
 ka (.panic c95) (fr189 s43 (.int .i64 s44) s45 s46 s47 s48 s49 s50 v86 s52 s53 s54 (.int .i64 s55) (.int .i64 s56) (.bool a80) v82 v83 s45 v90 (.int .i64 s44) v91 s64 s65 s66 s67 s68 s69 s70 s71 s72 s73 s74 s75) (W.mk d76 u77 h96 n97)) fun a92 h93 n94 =>
 opt (aUn .not (.bool a92)) fun v98 =>
 rtB v98 fun a99 =>
 grd (nt a99) (fun k100 =>
 opt (zC P 127 3 v86) fun v104 =>
 k100 h93 n94 v104) (fun h101 n102 v103 =>
 grd (nt a99) (fun k105 =>
 opt (zP P 29 h101 v103) fun v109 =>
 k105 h101 n102 v109) (fun h106 n107 v108 =>
 grd (nt a99) (fun k110 =>
 k110 h106 n107 (.int .i64 s44)) (fun h111 n112 v113 =>
 grd (nt a99) (fun k114 =>
 xF wV P .add 3 true v113 (.int .i64 1) fun v118 =>
 k114 h111 n112 v118) (fun h115 n116 v117 =>
 grd (nt a99) (fun k119 =>
 k119 h115 n116 s45) (fun h120 n121 v122 =>
 grd (nt a99) (fun k123 =>
 xR L 189 [v108, v117, v122] h120 n121 (fun c130 h131 n132 =>
 ka (.panic c130) (fr189 s43 (.int .i64 s44) s45 s46 s47 s48 s49 s50 v86 s52 s53 s54 (.int .i64 s55) (.int .i64 s56) (.bool a80) v82 v83 s45 v90 (.int .i64 s44) v91 (.bool a92) (.bool a99) (.bool a99) v103 v108 v113 v117 v122 s72 s73 s74 s75) (W.mk d76 u77 h131 n132)) fun a127 h128 n129 =>
 k123 h128 n129 (.bool a127)) (fun h124 n125 v126 =>
 grd (nt a99) (fun k133 =>
 opt (aUn .not v126) fun v137 =>
 rtB v137 fun a138 =>
 k133 h124 n125 (.bool a138)) (fun h134 n135 v136 =>
 rtB (sel a99 (.bool true) v136) fun a139 =>
 br a139 (
 ka .ret (fr189 s43 (.int .i64 s44) s45 s46 s47 s48 (.bool false) s50 v86 s52 s53 s54 (.int .i64 s55) (.int .i64 s56) (.bool a80) v82 v83 s45 v90 (.int .i64 s44) v91 (.bool a92) (.bool a99) (.bool a99) v103 v108 v113 v117 v122 v126 v136 (.bool a139) s75) (W.mk d76 u77 h134 n135)) (
 k81 (fr189 s43 (.int .i64 s44) s45 s46 s47 s48 s49 s50 v86 s52 s53 s54 (.int .i64 s55) (.int .i64 s56) (.bool a80) v82 v83 s45 v90 (.int .i64 s44) v91 (.bool a92) (.bool a99) (.bool a99) v103 v108 v113 v117 v122 v126 v136 (.bool a139) s75) (W.mk d76 u77 h134 n135))) h124 n125) h120 n121) h115 n116) h111 n112) h106 n107) h101 n102) h93 n94) (fun t140 w141 =>
 zA (zB t140 0) fun s142 =>
 rtI .i64 (zB t140 1) fun s143 =>
 zA (zB t140 2) fun s144 =>
 zA (zB t140 3) fun s145 =>
 zA (zB t140 4) fun s146 =>
 zA (zB t140 5) fun s147 =>
 zA (zB t140 6) fun s148 =>
 zA (zB t140 7) fun s149 =>
 zA (zB t140 8) fun s150 =>
 zA (zB t140 9) fun s151 =>
 zA (zB t140 10) fun s152 =>
 zA (zB t140 11) fun s153 =>
 rtI .i64 (zB t140 12) fun s154 =>
 rtI .i64 (zB t140 13) fun s155 =>
 zA (zB t140 14) fun s156 =>
 zA (zB t140 15) fun s157 =>
 zA (zB t140 16) fun s158 =>
 zA (zB t140 17) fun s159 =>
 zA (zB t140 18) fun s160 =>
 zA (zB t140 19) fun s161 =>
 zA (zB t140 20) fun s162 =>
 zA (zB t140 21) fun s163 =>
 zA (zB t140 22) fun s164 =>
 zA (zB t140 23) fun s165 =>
 zA (zB t140 24) fun s166 =>
 zA (zB t140 25) fun s167 =>
 zA (zB t140 26) fun s168 =>
 zA (zB t140 27) fun s169 =>
 zA (zB t140 28) fun s170 =>
 zA (zB t140 29) fun s171 =>
 zA (zB t140 30) fun s172 =>
 zA (zB t140 31) fun s173 =>
 zA (zB t140 32) fun s174 =>
 onW w141 fun d175 u176 h177 n178 =>
 fi (yK .i64 (wV s155 1)) fun a179 =>
 lp 1000004 ⟨189, rd, df⟩ (fr189 s142 (.int .i64 s143) s144 s145 s146 s147 s148 s149 s150 s151 s152 s153 (.int .i64 s154) (.int .i64 a179) s156 s157 s158 s159 s160 s161 s162 s163 s164 s165 s166 s167 s168 s169 s170 s171 s172 s173 (.int .i64 a179)) (W.mk d175 u176 h177 n178) ka)) (
 ka (.exit 0) (fr189 s43 (.int .i64 s44) s45 s46 s47 s48 s49 s50 s51 s52 s53 s54 (.int .i64 s55) (.int .i64 s56) (.bool a80) s58 s59 s60 s61 s62 s63 s64 s65 s66 s67 s68 s69 s70 s71 s72 s73 s74 s75) (W.mk d76 u77 h78 n79))
theorem B189_1000004_eq (L : Lo) (lp : LP) (rd : Option Nat) (df : Bool) (t : Fr) (w : W) (ka : KX) : wU P hint189 L lp (unL (zJ P 189 1000004)) ⟨189, rd, df⟩ t w ka = B189_1000004 L lp rd df t w ka := by kernel_rfl
theorem l189 : zL P 189 = true := by kernel_rfl
theorem lp189_1000004 : yW (zJ P 189 1000004) = true := by kernel_rfl
noncomputable def eF189 : EntF P 8 := entF3 zG mixed 189 l189 F189 F189_eq
noncomputable def eL189_1000004 : EntL P 8 := entL zG mixed 189 l189 1000004 lp189_1000004 B189_1000004 B189_1000004_eq
noncomputable abbrev fr34 (s0 s1 s2 s3 s4 s5 s6 s7 s8 s9 s10 s11 s12 s13 s14 s15 s16 s17 s18 s19 s20 s21 s22 s23 s24 s25 s26 s27 s28 : Value) : Fr := (.nD (.nD (.nD (.nD (.nD .lF s15 .lF) s7 (.nD .lF s23 .lF)) s3 (.nD (.nD .lF s19 .lF) s11 (.nD .lF s27 .lF))) s1 (.nD (.nD (.nD .lF s17 .lF) s9 (.nD .lF s25 .lF)) s5 (.nD (.nD .lF s21 .lF) s13 .lF))) s0 (.nD (.nD (.nD (.nD .lF s16 .lF) s8 (.nD .lF s24 .lF)) s4 (.nD (.nD .lF s20 .lF) s12 (.nD .lF s28 .lF))) s2 (.nD (.nD (.nD .lF s18 .lF) s10 (.nD .lF s26 .lF)) s6 (.nD (.nD .lF s22 .lF) s14 .lF))))
noncomputable def hint34 : yR := fun kind _ i => match kind with
  | 2 => bif Nat.beq i 3 then [.val, .val, .val, .val, .val, .val, .val, .val, .val, .val, .val, .val, .val, .val, .val, .val, .val, .val, .val, .val, .val, .val, .val, .val, .val, .val, .val, .val, .val] else []
  | 4 => bif Nat.beq i 0 then [.any] else []
  | _ => []
noncomputable def F34 (L : Lo) (lp : LP) (p0 : Value) (df : Bool) (u : Option zF) (h : zE) (n : Nat) (k : KO) : Bool :=
 xR L 40 [p0] h n (fun c4 h5 n6 =>
 zD P L 34 k (.panic c4) (fr34 p0 undef (.string (ByteArray.mk #[])) undef p0 undef undef undef undef undef undef undef undef undef undef undef undef undef undef undef undef undef undef undef undef undef undef undef undef) (W.mk [] u h5 n6)) fun a1 h2 n3 =>
 opt (aUn .not (.bool a1)) fun v7 =>
 rtB v7 fun a8 =>
 br a8 (
 yH L 37 [p0, (.int .i64 3)] h2 n3 (fun c12 h13 n14 =>
 zD P L 34 k (.panic c12) (fr34 p0 undef (.string (ByteArray.mk #[])) (.bool a1) p0 (.bool a1) (.bool a1) (.bool a8) p0 undef undef undef undef undef undef undef undef undef undef undef undef undef undef undef undef undef undef undef undef) (W.mk [] u h13 n14)) fun a9 h10 n11 =>
 zD P L 34 k .ret (fr34 p0 undef (.string (ByteArray.mk #[])) (.bool a1) p0 (.bool a1) (.bool a1) (.bool a8) p0 a9 undef undef undef undef undef undef undef undef undef undef undef undef undef undef undef undef undef undef undef) (W.mk [] u h10 n11)) (
 opt (wZ p0) fun v15 =>
 opt (zC P 68 1 v15) fun v16 =>
 opt (zP P 3 h2 v16) fun v17 =>
 rtI .i64 v17 fun a18 =>
 fi (yK .i64 (wV a18 1)) fun a19 =>
 opt (wZ p0) fun v20 =>
 opt (zC P 68 1 v20) fun v21 =>
 xG P 3 v21 (.int .i64 a19) h2 n3 fun h22 n23 v24 =>
 opt (wZ p0) fun v25 =>
 opt (zC P 68 0 v25) fun v26 =>
 opt (zP P 63 h22 v26) fun v27 =>
 opt (wZ p0) fun v28 =>
 opt (zC P 68 1 v28) fun v29 =>
 opt (zP P 3 h22 v29) fun v30 =>
 rtI .i64 v30 fun a31 =>
 fi (yK .i64 (isub a31 1)) fun a32 =>
 opt (zQ P 63 v27 (.int .i64 a32)) fun v33 =>
 opt (zC P 83 1 v33) fun v34 =>
 opt (zP P 9 h22 v34) fun v35 =>
 gt (lks [(W.mk [] u h22 n23)] []) (
 zD P L 34 k .ret (fr34 p0 undef v35 (.bool a1) p0 (.bool a1) (.bool a1) (.bool a8) undef undef p0 v15 v16 (.int .i64 a18) (.int .i64 a19) v20 v21 p0 v25 v26 v27 p0 v28 v29 (.int .i64 a31) (.int .i64 a32) v33 v34 v35) (W.mk [] u h22 n23)))
theorem F34_eq (L : Lo) (lp : LP) (p0 : Value) (df : Bool) (u : Option zF) (h : zE) (n : Nat) (k : KO) : zY P hint34 L lp 34 [p0] df u h n k = F34 L lp p0 df u h n k := by kernel_rfl
theorem l34 : zL P 34 = true := by kernel_rfl
noncomputable def eF34 : EntF P 8 := xL zG mixed 34 l34 F34 F34_eq
noncomputable abbrev fr40 (s0 s1 s2 s3 s4 s5 s6 s7 s8 s9 s10 s11 s12 s13 s14 s15 s16 s17 s18 s19 s20 s21 s22 s23 : Value) : Fr := (.nD (.nD (.nD (.nD (.nD .lF s15 .lF) s7 (.nD .lF s23 .lF)) s3 (.nD (.nD .lF s19 .lF) s11 .lF)) s1 (.nD (.nD (.nD .lF s17 .lF) s9 .lF) s5 (.nD (.nD .lF s21 .lF) s13 .lF))) s0 (.nD (.nD (.nD (.nD .lF s16 .lF) s8 .lF) s4 (.nD (.nD .lF s20 .lF) s12 .lF)) s2 (.nD (.nD (.nD .lF s18 .lF) s10 .lF) s6 (.nD (.nD .lF s22 .lF) s14 .lF))))
noncomputable def hint40 : yR := fun kind _ i => match kind with
  | 4 => bif Nat.beq i 0 then [.any] else []
  | _ => []
noncomputable def F40 (L : Lo) (lp : LP) (p0 : Value) (df : Bool) (u : Option zF) (h : zE) (n : Nat) (k : KO) : Bool :=
 yH L 41 [p0] h n (fun c4 h5 n6 =>
 zD P L 40 k (.panic c4) (fr40 p0 undef (.bool false) undef undef p0 undef undef undef undef undef undef undef undef undef undef undef undef undef undef undef undef undef undef) (W.mk [] u h5 n6)) fun a1 h2 n3 =>
 eAlloc P 83 h2 n3 fun h7 n8 v9 =>
 xG P 83 v9 a1 h7 n8 fun h10 n11 v12 =>
 opt (zC P 83 1 v9) fun v13 =>
 opt (zP P 9 h10 v13) fun v14 =>
 xR L 89 [v14] h10 n11 (fun c18 h19 n20 =>
 zD P L 40 k (.panic c18) (fr40 p0 undef (.bool false) v9 undef p0 a1 v13 v14 undef undef undef undef undef undef undef undef undef undef undef undef undef undef undef) (W.mk [] u h19 n20)) fun a15 h16 n17 =>
 opt (wZ p0) fun v21 =>
 opt (zC P 68 2 v21) fun v22 =>
 opt (zP P 3 h16 v22) fun v23 =>
 rtI .i64 v23 fun a24 =>
 fb (yO a24 0) fun a25 =>
 grd a25 (fun k26 =>
 opt (zC P 83 0 v9) fun v30 =>
 k26 h16 n17 v30) (fun h27 n28 v29 =>
 grd a25 (fun k31 =>
 opt (zP P 3 h27 v29) fun v35 =>
 rtI .i64 v35 fun a36 =>
 k31 h27 n28 (.int .i64 a36)) (fun h32 n33 v34 =>
 grd a25 (fun k37 =>
 zK yO P .eql 3 true v34 (.int .i64 1) fun a41 =>
 k37 h32 n33 (.bool a41)) (fun h38 n39 v40 =>
 rtB (sel a25 v40 (.bool false)) fun a42 =>
 grd a42 (fun k43 =>
 k43 h38 n39 (.bool a15)) (fun h44 n45 v46 =>
 grd a42 (fun k47 =>
 opt (aUn .not v46) fun v51 =>
 rtB v51 fun a52 =>
 k47 h44 n45 (.bool a52)) (fun h48 n49 v50 =>
 rtB (sel a42 v50 (.bool false)) fun a53 =>
 zD P L 40 k .ret (fr40 p0 undef (.bool a53) v9 (.bool a15) p0 a1 v13 v14 (.bool a15) p0 v21 v22 (.int .i64 a24) (.bool a25) (.bool a25) v29 v34 v40 (.bool a42) (.bool a42) v46 v50 (.bool a53)) (W.mk [] u h48 n49)) h44 n45) h38 n39) h32 n33) h27 n28) h16 n17
theorem F40_eq (L : Lo) (lp : LP) (p0 : Value) (df : Bool) (u : Option zF) (h : zE) (n : Nat) (k : KO) : zY P hint40 L lp 40 [p0] df u h n k = F40 L lp p0 df u h n k := by kernel_rfl
theorem l40 : zL P 40 = true := by kernel_rfl
noncomputable def eF40 : EntF P 8 := xL zG mixed 40 l40 F40 F40_eq
noncomputable abbrev fr47 (s0 s1 s2 s3 s4 s5 s6 s7 s8 s9 s10 s11 s12 s13 s14 s15 : Value) : Fr := (.nD (.nD (.nD (.nD (.nD .lF s15 .lF) s7 .lF) s3 (.nD .lF s11 .lF)) s1 (.nD (.nD .lF s9 .lF) s5 (.nD .lF s13 .lF))) s0 (.nD (.nD (.nD .lF s8 .lF) s4 (.nD .lF s12 .lF)) s2 (.nD (.nD .lF s10 .lF) s6 (.nD .lF s14 .lF))))
noncomputable def hint47 : yR := fun kind _ i => match kind with
  | 2 => bif Nat.beq i 2 then [.val, .val, .val, .val, .val, .val, .val, .val, .val, .val, .val, .val, .val, .val, .val, .val] else []
  | 4 => bif Nat.beq i 0 then [.any] else []
  | _ => []
noncomputable def F47 (L : Lo) (lp : LP) (p0 : Value) (df : Bool) (u : Option zF) (h : zE) (n : Nat) (k : KO) : Bool :=
 eBox 77 p0 h n fun h1 n2 v3 =>
 opt (zC P 77 1 v3) fun v4 =>
 opt (zP P 9 h1 v4) fun v5 =>
 zK yO P .eql 9 true v5 (.string (ByteArray.mk #[])) fun a6 =>
 br a6 (
 opt (zC P 77 0 v3) fun v7 =>
 opt (zP P 9 h1 v7) fun v8 =>
 xF wV P .add 9 true (.string (ByteArray.mk #[32])) v8 fun v9 =>
 zD P L 47 k .ret (fr47 p0 v3 v9 v4 v5 (.bool a6) v7 v8 v9 undef undef undef undef undef undef undef) (W.mk [] u h1 n2)) (
 opt (zC P 77 0 v3) fun v10 =>
 opt (zP P 9 h1 v10) fun v11 =>
 xF wV P .add 9 true (.string (ByteArray.mk #[32])) v11 fun v12 =>
 xF wV P .add 9 true v12 (.string (ByteArray.mk #[58])) fun v13 =>
 opt (zC P 77 1 v3) fun v14 =>
 opt (zP P 9 h1 v14) fun v15 =>
 xF wV P .add 9 false v13 v15 fun v16 =>
 zD P L 47 k .ret (fr47 p0 v3 v16 v4 v5 (.bool a6) undef undef undef v10 v11 v12 v13 v14 v15 v16) (W.mk [] u h1 n2))
theorem F47_eq (L : Lo) (lp : LP) (p0 : Value) (df : Bool) (u : Option zF) (h : zE) (n : Nat) (k : KO) : zY P hint47 L lp 47 [p0] df u h n k = F47 L lp p0 df u h n k := by kernel_rfl
theorem l47 : zL P 47 = true := by kernel_rfl
noncomputable def eF47 : EntF P 8 := xL zG mixed 47 l47 F47 F47_eq
noncomputable abbrev fr49 (s0 s1 s2 s3 s4 s5 s6 s7 s8 s9 s10 s11 s12 s13 s14 s15 s16 s17 s18 s19 s20 s21 s22 s23 s24 s25 s26 s27 s28 s29 s30 s31 s32 s33 s34 s35 s36 s37 : Value) : Fr := (.nD (.nD (.nD (.nD (.nD (.nD .lF s31 .lF) s15 .lF) s7 (.nD .lF s23 .lF)) s3 (.nD (.nD (.nD .lF s35 .lF) s19 .lF) s11 (.nD .lF s27 .lF))) s1 (.nD (.nD (.nD (.nD .lF s33 .lF) s17 .lF) s9 (.nD .lF s25 .lF)) s5 (.nD (.nD (.nD .lF s37 .lF) s21 .lF) s13 (.nD .lF s29 .lF)))) s0 (.nD (.nD (.nD (.nD (.nD .lF s32 .lF) s16 .lF) s8 (.nD .lF s24 .lF)) s4 (.nD (.nD (.nD .lF s36 .lF) s20 .lF) s12 (.nD .lF s28 .lF))) s2 (.nD (.nD (.nD (.nD .lF s34 .lF) s18 .lF) s10 (.nD .lF s26 .lF)) s6 (.nD (.nD .lF s22 .lF) s14 (.nD .lF s30 .lF)))))
noncomputable def hint49 : yR := fun kind _ i => match kind with
  | 0 => bif Nat.beq i 1000005 then [.val, .val, .val, .bool, (.int .i64), .val, .val, .val, .val, .val, .val, .val, .val, .val, .val, .val, .val, .val, .val, .val, .val, .val, .val, .val, .val, .val, .val, .val, .val, .val, .val, .val, .val, .val, .val, .val, .val, .val] else []
  | 1 => bif Nat.beq i 0 then [.val, .val, .val, .bool, .val, .val, .val, .val, .val, .val, .val, .val, .val, .val, .val, .val, .val, .val, .val, .val, .val, .val, .val, .val, .val, .val, .val, .val, .val, .val, .val, .val, .val, .val, .val, .val, .val, .val] else bif Nat.beq i 1 then [.val, .val, .val, .bool, (.int .i64), .val, .val, .val, .val, .val, .val, .val, .val, .val, .val, .val, .val, .val, .val, .val, .val, .val, .val, .val, .val, .val, .val, .val, .val, .val, .val, .val, .val, .val, .val, .val, .val, .val] else []
  | 2 => bif Nat.beq i 0 then [.val, .val, .val, .bool, (.int .i64), .val, .val, .val, .val, .val, .val, .val, .val, .val, .val, .val, .val, .val, .val, .val, .val, .val, .val, .val, .val, .val, .val, .val, .val, .val, .val, .val, .val, .val, .val, .val, .val, .val] else bif Nat.beq i 2 then [.val, .val, .val, .val, .val, .val, .val, .val, .val, .val, .val, .val, .val, .val, .val, .val, .val, .val, .val, .val, .val, .val, .val, .val, .val, .val, .val, .val, .val, .val, .val, .val, .val, .val, .val, .val, .val, .val] else bif Nat.beq i 10 then [.val, .val, .val, .bool, (.int .i64), .val, .val, .val, .val, .val, .val, .val, .val, .val, .val, .val, .val, .val, .val, .val, .val, .val, .val, .val, .val, .val, .val, .val, .val, .val, .val, .val, .val, .val, .val, .val, .val, .val] else []
  | 4 => bif Nat.beq i 0 then [.any] else []
  | _ => []
noncomputable def F49 (L : Lo) (lp : LP) (p0 : Value) (df : Bool) (u : Option zF) (h : zE) (n : Nat) (k : KO) : Bool :=
 zK yO P .eql 9 true p0 (.string (ByteArray.mk #[])) fun a1 =>
 grd (nt a1) (fun k2 =>
 k2 h n p0) (fun h3 n4 v5 =>
 grd (nt a1) (fun k6 =>
 opt (zU P .len [9] [v5] h3) fun v10 =>
 rtI .i64 v10 fun a11 =>
 k6 h3 n4 (.int .i64 a11)) (fun h7 n8 v9 =>
 grd (nt a1) (fun k12 =>
 zK igtB P .gtr 3 true v9 (.int .i64 20) fun a16 =>
 k12 h7 n8 (.bool a16)) (fun h13 n14 v15 =>
 rtB (sel a1 (.bool true) v15) fun a17 =>
 br a17 (
 zD P L 49 k .ret (fr49 p0 undef (.bool false) undef undef undef undef p0 (.bool a1) (.bool a1) v5 v9 v15 (.bool a17) undef undef undef undef undef undef undef undef undef undef undef undef undef undef undef undef undef undef undef undef undef undef undef undef) (W.mk [] u h13 n14)) (
 opt (aIndex P 9 p0 (.int .i64 0)) fun v18 =>
 rtI .u8 v18 fun a19 =>
 xR L 87 [(.int .u8 a19)] h13 n14 (fun c23 h24 n25 =>
 zD P L 49 k (.panic c23) (fr49 p0 undef (.bool false) undef undef undef undef p0 (.bool a1) (.bool a1) v5 v9 v15 (.bool a17) p0 (.int .u8 a19) undef undef undef undef undef undef undef undef undef undef undef undef undef undef undef undef undef undef undef undef undef undef) (W.mk [] u h24 n25)) fun a20 h21 n22 =>
 lp 1000005 ⟨49, none, df⟩ (fr49 p0 undef (.bool false) (.bool a20) (.int .i64 0) undef undef p0 (.bool a1) (.bool a1) v5 v9 v15 (.bool a17) p0 (.int .u8 a19) (.bool a20) undef undef undef undef undef undef undef undef undef undef undef undef undef undef undef undef undef undef undef undef undef) (W.mk [] u h21 n22) (endA noK (blkA 0 (fun t26 w27 =>
 zA (zB t26 0) fun s28 =>
 zA (zB t26 1) fun s29 =>
 zA (zB t26 2) fun s30 =>
 rtB (zB t26 3) fun s31 =>
 zA (zB t26 4) fun s32 =>
 zA (zB t26 5) fun s33 =>
 zA (zB t26 6) fun s34 =>
 zA (zB t26 7) fun s35 =>
 zA (zB t26 8) fun s36 =>
 zA (zB t26 9) fun s37 =>
 zA (zB t26 10) fun s38 =>
 zA (zB t26 11) fun s39 =>
 zA (zB t26 12) fun s40 =>
 zA (zB t26 13) fun s41 =>
 zA (zB t26 14) fun s42 =>
 zA (zB t26 15) fun s43 =>
 zA (zB t26 16) fun s44 =>
 zA (zB t26 17) fun s45 =>
 zA (zB t26 18) fun s46 =>
 zA (zB t26 19) fun s47 =>
 zA (zB t26 20) fun s48 =>
 zA (zB t26 21) fun s49 =>
 zA (zB t26 22) fun s50 =>
 zA (zB t26 23) fun s51 =>
 zA (zB t26 24) fun s52 =>
 zA (zB t26 25) fun s53 =>
 zA (zB t26 26) fun s54 =>
 zA (zB t26 27) fun s55 =>
 zA (zB t26 28) fun s56 =>
 zA (zB t26 29) fun s57 =>
 zA (zB t26 30) fun s58 =>
 zA (zB t26 31) fun s59 =>
 zA (zB t26 32) fun s60 =>
 zA (zB t26 33) fun s61 =>
 zA (zB t26 34) fun s62 =>
 zA (zB t26 35) fun s63 =>
 zA (zB t26 36) fun s64 =>
 zA (zB t26 37) fun s65 =>
 onW w27 fun d66 u67 h68 n69 =>
 zD P L 49 k .ret (fr49 s28 s29 (.bool s31) (.bool s31) s32 s33 s34 s35 s36 s37 s38 s39 s40 s41 s42 s43 s44 s45 s46 s47 s48 s49 s50 s51 s52 s53 s54 s55 s56 s57 s58 s59 s60 s61 s62 s63 s64 (.bool s31)) (W.mk d66 u67 h68 n69)) (zD P L 49 k))))) h7 n8) h3 n4) h n
theorem F49_eq (L : Lo) (lp : LP) (p0 : Value) (df : Bool) (u : Option zF) (h : zE) (n : Nat) (k : KO) : zY P hint49 L lp 49 [p0] df u h n k = F49 L lp p0 df u h n k := by kernel_rfl
noncomputable def B49_1000005 (L : Lo) (lp : LP) (rd : Option Nat) (df : Bool) (t : Fr) (w : W) (ka : KX) : Bool :=
 zA (zB t 0) fun s70 =>
 zA (zB t 1) fun s71 =>
 zA (zB t 2) fun s72 =>
 rtB (zB t 3) fun s73 =>
 rtI .i64 (zB t 4) fun s74 =>
 zA (zB t 5) fun s75 =>
 zA (zB t 6) fun s76 =>
 zA (zB t 7) fun s77 =>
 zA (zB t 8) fun s78 =>
 zA (zB t 9) fun s79 =>
 zA (zB t 10) fun s80 =>
 zA (zB t 11) fun s81 =>
 zA (zB t 12) fun s82 =>
 zA (zB t 13) fun s83 =>
 zA (zB t 14) fun s84 =>
 zA (zB t 15) fun s85 =>
 zA (zB t 16) fun s86 =>
 zA (zB t 17) fun s87 =>
 zA (zB t 18) fun s88 =>
 zA (zB t 19) fun s89 =>
 zA (zB t 20) fun s90 =>
 zA (zB t 21) fun s91 =>
 zA (zB t 22) fun s92 =>
 zA (zB t 23) fun s93 =>
 zA (zB t 24) fun s94 =>
 zA (zB t 25) fun s95 =>
 zA (zB t 26) fun s96 =>
 zA (zB t 27) fun s97 =>
 zA (zB t 28) fun s98 =>
 zA (zB t 29) fun s99 =>
 zA (zB t 30) fun s100 =>
 zA (zB t 31) fun s101 =>
 zA (zB t 32) fun s102 =>
 zA (zB t 33) fun s103 =>
 zA (zB t 34) fun s104 =>
 zA (zB t 35) fun s105 =>
 zA (zB t 36) fun s106 =>
 zA (zB t 37) fun s107 =>
 onW w fun d108 u109 h110 n111 =>
 opt (zU P .len [9] [s70] h110) fun v112 =>
 rtI .i64 v112 fun a113 =>
 fb (wE s74 a113) fun a114 =>
 br a114 (
 blkJ (fun k115 =>
 opt (aIndex P 9 s70 (.int .i64 s74)) fun v116 =>
 rtI .u8 v116 fun a117 =>
 xR L 87 [(.int .u8 a117)] h110 n111 (fun c121 h122 n123 =>
 ka (.panic c121) (fr49 s70 s71 s72 (.bool s73) (.int .i64 s74) s75 s76 s77 s78 s79 s80 s81 s82 s83 s84 s85 s86 (.int .i64 s74) s70 (.int .i64 a113) (.bool a114) s91 s92 s70 (.int .i64 s74) (.int .u8 a117) s96 s97 s98 s99 s100 s101 s102 s103 s104 s105 s106 s107) (W.mk d108 u109 h122 n123)) fun a118 h119 n120 =>
 opt (aIndex P 9 s70 (.int .i64 s74)) fun v124 =>
 rtI .u8 v124 fun a125 =>
 xR L 88 [(.int .u8 a125)] h119 n120 (fun c129 h130 n131 =>
 ka (.panic c129) (fr49 s70 s71 s72 (.bool s73) (.int .i64 s74) (.bool a118) s76 s77 s78 s79 s80 s81 s82 s83 s84 s85 s86 (.int .i64 s74) s70 (.int .i64 a113) (.bool a114) s91 s92 s70 (.int .i64 s74) (.int .u8 a117) (.bool a118) s70 (.int .i64 s74) (.int .u8 a125) s100 s101 s102 s103 s104 s105 s106 s107) (W.mk d108 u109 h130 n131)) fun a126 h127 n128 =>
 opt (aUn .not (.bool a118)) fun v132 =>
 rtB v132 fun a133 =>
 grd a133 (fun k134 =>
 k134 h127 n128 (.bool a126)) (fun h135 n136 v137 =>
 grd a133 (fun k138 =>
 opt (aUn .not v137) fun v142 =>
 rtB v142 fun a143 =>
 k138 h135 n136 (.bool a143)) (fun h139 n140 v141 =>
 rtB (sel a133 v141 (.bool false)) fun a144 =>
 br a144 (
 ka .ret (fr49 s70 s71 (.bool false) (.bool s73) (.int .i64 s74) (.bool a118) (.bool a126) s77 s78 s79 s80 s81 s82 s83 s84 s85 s86 (.int .i64 s74) s70 (.int .i64 a113) (.bool a114) s91 s92 s70 (.int .i64 s74) (.int .u8 a117) (.bool a118) s70 (.int .i64 s74) (.int .u8 a125) (.bool a126) (.bool a118) (.bool a133) (.bool a133) v137 v141 (.bool a144) s107) (W.mk d108 u109 h139 n140)) (
 k115 (fr49 s70 s71 s72 (.bool s73) (.int .i64 s74) (.bool a118) (.bool a126) s77 s78 s79 s80 s81 s82 s83 s84 s85 s86 (.int .i64 s74) s70 (.int .i64 a113) (.bool a114) s91 s92 s70 (.int .i64 s74) (.int .u8 a117) (.bool a118) s70 (.int .i64 s74) (.int .u8 a125) (.bool a126) (.bool a118) (.bool a133) (.bool a133) v137 v141 (.bool a144) s107) (W.mk d108 u109 h139 n140))) h135 n136) h127 n128) (fun t145 w146 =>
 zA (zB t145 0) fun s147 =>
 zA (zB t145 1) fun s148 =>
 zA (zB t145 2) fun s149 =>
 rtB (zB t145 3) fun s150 =>
 rtI .i64 (zB t145 4) fun s151 =>
 zA (zB t145 5) fun s152 =>
 zA (zB t145 6) fun s153 =>
 zA (zB t145 7) fun s154 =>
 zA (zB t145 8) fun s155 =>
 zA (zB t145 9) fun s156 =>
 zA (zB t145 10) fun s157 =>
 zA (zB t145 11) fun s158 =>
 zA (zB t145 12) fun s159 =>
 zA (zB t145 13) fun s160 =>
 zA (zB t145 14) fun s161 =>
 zA (zB t145 15) fun s162 =>
 zA (zB t145 16) fun s163 =>
 zA (zB t145 17) fun s164 =>
 zA (zB t145 18) fun s165 =>
 zA (zB t145 19) fun s166 =>
 zA (zB t145 20) fun s167 =>
 zA (zB t145 21) fun s168 =>
 zA (zB t145 22) fun s169 =>
 zA (zB t145 23) fun s170 =>
 zA (zB t145 24) fun s171 =>
 zA (zB t145 25) fun s172 =>
 zA (zB t145 26) fun s173 =>
 zA (zB t145 27) fun s174 =>
 zA (zB t145 28) fun s175 =>
 zA (zB t145 29) fun s176 =>
 zA (zB t145 30) fun s177 =>
 zA (zB t145 31) fun s178 =>
 zA (zB t145 32) fun s179 =>
 zA (zB t145 33) fun s180 =>
 zA (zB t145 34) fun s181 =>
 zA (zB t145 35) fun s182 =>
 zA (zB t145 36) fun s183 =>
 zA (zB t145 37) fun s184 =>
 onW w146 fun d185 u186 h187 n188 =>
 fi (yK .i64 (wV s151 1)) fun a189 =>
 lp 1000005 ⟨49, rd, df⟩ (fr49 s147 s148 s149 (.bool s150) (.int .i64 a189) s152 s153 s154 s155 s156 s157 s158 s159 s160 s161 s162 s163 s164 s165 s166 s167 (.int .i64 s151) (.int .i64 a189) s170 s171 s172 s173 s174 s175 s176 s177 s178 s179 s180 s181 s182 s183 s184) (W.mk d185 u186 h187 n188) ka)) (
 ka (.exit 0) (fr49 s70 s71 s72 (.bool s73) (.int .i64 s74) s75 s76 s77 s78 s79 s80 s81 s82 s83 s84 s85 s86 (.int .i64 s74) s70 (.int .i64 a113) (.bool a114) s91 s92 s93 s94 s95 s96 s97 s98 s99 s100 s101 s102 s103 s104 s105 s106 s107) (W.mk d108 u109 h110 n111))
theorem B49_1000005_eq (L : Lo) (lp : LP) (rd : Option Nat) (df : Bool) (t : Fr) (w : W) (ka : KX) : wU P hint49 L lp (unL (zJ P 49 1000005)) ⟨49, rd, df⟩ t w ka = B49_1000005 L lp rd df t w ka := by kernel_rfl
theorem l49 : zL P 49 = true := by kernel_rfl
theorem lp49_1000005 : yW (zJ P 49 1000005) = true := by kernel_rfl
noncomputable def eF49 : EntF P 8 := xL zG mixed 49 l49 F49 F49_eq
noncomputable def eL49_1000005 : EntL P 8 := entL zG mixed 49 l49 1000005 lp49_1000005 B49_1000005 B49_1000005_eq
noncomputable abbrev fr80 (s0 s1 s2 s3 s4 s5 : Value) : Fr := (.nD (.nD (.nD .lF s3 .lF) s1 (.nD .lF s5 .lF)) s0 (.nD (.nD .lF s4 .lF) s2 .lF))
noncomputable def hint80 : yR := fun kind _ i => match kind with
  | _ => []
noncomputable def F80 (L : Lo) (lp : LP) (df : Bool) (u : Option zF) (h : zE) (n : Nat) (k : KO) : Bool :=
 yC P 23 12 [(0, (.string (ByteArray.mk #[97, 100, 100]))), (1, (.string (ByteArray.mk #[115, 117, 98]))), (2, (.string (ByteArray.mk #[109, 117, 108]))), (3, (.string (ByteArray.mk #[97, 110, 100]))), (4, (.string (ByteArray.mk #[111, 114]))), (5, (.string (ByteArray.mk #[120, 111, 114]))), (6, (.string (ByteArray.mk #[115, 104, 108]))), (7, (.string (ByteArray.mk #[115, 104, 114]))), (8, (.string (ByteArray.mk #[100, 105, 118]))), (9, (.string (ByteArray.mk #[114, 101, 109]))), (10, (.string (ByteArray.mk #[108, 116]))), (11, (.string (ByteArray.mk #[101, 113])))] h n fun h1 n2 v3 =>
 yH L 78 [v3] h1 n2 (fun c7 h8 n9 =>
 zD P L 80 k (.panic c7) (fr80 (.slice none 0 0) v3 undef undef undef undef) (W.mk [] u h8 n9)) fun a4 h5 n6 =>
 yH L 79 [] h5 n6 (fun c13 h14 n15 =>
 zD P L 80 k (.panic c13) (fr80 (.slice none 0 0) v3 a4 undef undef undef) (W.mk [] u h14 n15)) fun a10 h11 n12 =>
 yC P 31 1 [(0, a10)] h11 n12 fun h16 n17 v18 =>
 eAppend P [31, 31] [a4, v18] h16 n17 fun h19 n20 v21 =>
 zD P L 80 k .ret (fr80 v21 v3 a4 a10 v18 v21) (W.mk [] u h19 n20)
theorem F80_eq (L : Lo) (lp : LP) (df : Bool) (u : Option zF) (h : zE) (n : Nat) (k : KO) : zY P hint80 L lp 80 [] df u h n k = F80 L lp  df u h n k := by kernel_rfl
theorem l80 : zL P 80 = true := by kernel_rfl
noncomputable def eF80 : EntF P 8 := entF0 zG mixed 80 l80 F80 F80_eq
noncomputable abbrev fr87 (s0 s1 s2 s3 s4 s5 s6 s7 s8 s9 s10 s11 s12 s13 s14 s15 s16 s17 s18 s19 s20 : Value) : Fr := (.nD (.nD (.nD (.nD (.nD .lF s15 .lF) s7 .lF) s3 (.nD (.nD .lF s19 .lF) s11 .lF)) s1 (.nD (.nD (.nD .lF s17 .lF) s9 .lF) s5 (.nD .lF s13 .lF))) s0 (.nD (.nD (.nD (.nD .lF s16 .lF) s8 .lF) s4 (.nD (.nD .lF s20 .lF) s12 .lF)) s2 (.nD (.nD (.nD .lF s18 .lF) s10 .lF) s6 (.nD .lF s14 .lF))))
noncomputable def hint87 : yR := fun kind _ i => match kind with
  | 4 => bif Nat.beq i 0 then [(.int .u8)] else []
  | _ => []
noncomputable def F87 (L : Lo) (lp : LP) (p0 : Value) (df : Bool) (u : Option zF) (h : zE) (n : Nat) (k : KO) : Bool :=
 rtI .u8 p0 fun ap0 =>
 fb (ileB 97 ap0) fun a1 =>
 grd a1 (fun k2 =>
 k2 h n (.int .u8 ap0)) (fun h3 n4 v5 =>
 grd a1 (fun k6 =>
 zK ileB P .leq 5 true v5 (.int .u8 122) fun a10 =>
 k6 h3 n4 (.bool a10)) (fun h7 n8 v9 =>
 rtB (sel a1 v9 (.bool false)) fun a11 =>
 grd (nt a11) (fun k12 =>
 k12 h7 n8 (.int .u8 ap0)) (fun h13 n14 v15 =>
 grd (nt a11) (fun k16 =>
 zK igeB P .geq 5 true v15 (.int .u8 65) fun a20 =>
 k16 h13 n14 (.bool a20)) (fun h17 n18 v19 =>
 grd (nt a11) (fun k21 =>
 k21 h17 n18 v19) (fun h22 n23 v24 =>
 grd (gv v24) (fun k25 =>
 k25 h22 n23 (.int .u8 ap0)) (fun h26 n27 v28 =>
 grd (gv v24) (fun k29 =>
 zK ileB P .leq 5 true v28 (.int .u8 90) fun a33 =>
 k29 h26 n27 (.bool a33)) (fun h30 n31 v32 =>
 grd (nt a11) (fun k34 =>
 zW v24 (fun b38 =>
 rtB (sel b38 v32 (.bool false)) fun a39 =>
 k34 h30 n31 (.bool a39)) false) (fun h35 n36 v37 =>
 rtB (sel a11 (.bool true) v37) fun a40 =>
 grd (nt a40) (fun k41 =>
 k41 h35 n36 (.int .u8 ap0)) (fun h42 n43 v44 =>
 grd (nt a40) (fun k45 =>
 zK yO P .eql 5 true v44 (.int .u8 95) fun a49 =>
 k45 h42 n43 (.bool a49)) (fun h46 n47 v48 =>
 rtB (sel a40 (.bool true) v48) fun a50 =>
 zD P L 87 k .ret (fr87 (.int .u8 ap0) undef (.bool a50) (.int .u8 ap0) (.bool a1) (.bool a1) v5 v9 (.bool a11) (.bool a11) v15 v19 v24 v28 v32 v37 (.bool a40) (.bool a40) v44 v48 (.bool a50)) (W.mk [] u h46 n47)) h42 n43) h35 n36) h30 n31) h26 n27) h22 n23) h17 n18) h13 n14) h7 n8) h3 n4) h n
theorem F87_eq (L : Lo) (lp : LP) (p0 : Value) (df : Bool) (u : Option zF) (h : zE) (n : Nat) (k : KO) : zY P hint87 L lp 87 [p0] df u h n k = F87 L lp p0 df u h n k := by kernel_rfl
theorem l87 : zL P 87 = true := by kernel_rfl
noncomputable def eF87 : EntF P 8 := xL zG mixed 87 l87 F87 F87_eq
noncomputable abbrev fr94 (s0 s1 s2 s3 s4 s5 s6 s7 s8 s9 s10 : Value) : Fr := (.nD (.nD (.nD (.nD .lF s7 .lF) s3 .lF) s1 (.nD (.nD .lF s9 .lF) s5 .lF)) s0 (.nD (.nD (.nD .lF s8 .lF) s4 .lF) s2 (.nD (.nD .lF s10 .lF) s6 .lF)))
noncomputable def hint94 : yR := fun kind _ i => match kind with
  | 4 => bif Nat.beq i 0 then [.any, .any] else []
  | _ => []
noncomputable def F94 (L : Lo) (lp : LP) (p0 p1 : Value) (df : Bool) (u : Option zF) (h : zE) (n : Nat) (k : KO) : Bool :=
 opt (wZ p0) fun v1 =>
 opt (zC P 149 1 v1) fun v2 =>
 opt (zP P 23 h v2) fun v3 =>
 callI L .i64 144 [v3, p1] h n (fun c7 h8 n9 =>
 zD P L 94 k (.panic c7) (fr94 p0 p1 undef undef (.int .i64 0) p0 v1 v2 v3 p1 undef) (W.mk [] u h8 n9)) fun a4 h5 n6 =>
 zD P L 94 k .ret (fr94 p0 p1 undef undef (.int .i64 a4) p0 v1 v2 v3 p1 (.int .i64 a4)) (W.mk [] u h5 n6)
theorem F94_eq (L : Lo) (lp : LP) (p0 p1 : Value) (df : Bool) (u : Option zF) (h : zE) (n : Nat) (k : KO) : zY P hint94 L lp 94 [p0, p1] df u h n k = F94 L lp p0 p1 df u h n k := by kernel_rfl
theorem l94 : zL P 94 = true := by kernel_rfl
noncomputable def eF94 : EntF P 8 := wL zG mixed 94 l94 F94 F94_eq
noncomputable abbrev fr96 (s0 s1 s2 s3 s4 s5 s6 s7 s8 s9 s10 s11 s12 s13 s14 s15 s16 s17 s18 s19 s20 s21 s22 s23 s24 s25 s26 s27 s28 : Value) : Fr := (.nD (.nD (.nD (.nD (.nD .lF s15 .lF) s7 (.nD .lF s23 .lF)) s3 (.nD (.nD .lF s19 .lF) s11 (.nD .lF s27 .lF))) s1 (.nD (.nD (.nD .lF s17 .lF) s9 (.nD .lF s25 .lF)) s5 (.nD (.nD .lF s21 .lF) s13 .lF))) s0 (.nD (.nD (.nD (.nD .lF s16 .lF) s8 (.nD .lF s24 .lF)) s4 (.nD (.nD .lF s20 .lF) s12 (.nD .lF s28 .lF))) s2 (.nD (.nD (.nD .lF s18 .lF) s10 (.nD .lF s26 .lF)) s6 (.nD (.nD .lF s22 .lF) s14 .lF))))
noncomputable def hint96 : yR := fun kind _ i => match kind with
  | 4 => bif Nat.beq i 0 then [.any, (.int .i64), (.int .i64)] else []
  | _ => []
noncomputable def F96 (L : Lo) (lp : LP) (p0 p1 p2 : Value) (df : Bool) (u : Option zF) (h : zE) (n : Nat) (k : KO) : Bool :=
 rtI .i64 p1 fun ap1 =>
 rtI .i64 p2 fun ap2 =>
 fb (ileB 0 ap1) fun a1 =>
 grd a1 (fun k2 =>
 k2 h n (.int .i64 ap1)) (fun h3 n4 v5 =>
 grd a1 (fun k6 =>
 k6 h3 n4 p0) (fun h7 n8 v9 =>
 grd a1 (fun k10 =>
 opt (wZ v9) fun v14 =>
 k10 h7 n8 v14) (fun h11 n12 v13 =>
 grd a1 (fun k15 =>
 opt (zC P 149 3 v13) fun v19 =>
 k15 h11 n12 v19) (fun h16 n17 v18 =>
 grd a1 (fun k20 =>
 opt (zP P 147 h16 v18) fun v24 =>
 k20 h16 n17 v24) (fun h21 n22 v23 =>
 grd a1 (fun k25 =>
 opt (zU P .len [147] [v23] h21) fun v29 =>
 rtI .i64 v29 fun a30 =>
 k25 h21 n22 (.int .i64 a30)) (fun h26 n27 v28 =>
 grd a1 (fun k31 =>
 zK wE P .lss 3 false v5 v28 fun a35 =>
 k31 h26 n27 (.bool a35)) (fun h32 n33 v34 =>
 rtB (sel a1 v34 (.bool false)) fun a36 =>
 grd a36 (fun k37 =>
 k37 h32 n33 p0) (fun h38 n39 v40 =>
 grd a36 (fun k41 =>
 opt (wZ v40) fun v45 =>
 k41 h38 n39 v45) (fun h42 n43 v44 =>
 grd a36 (fun k46 =>
 opt (zC P 149 3 v44) fun v50 =>
 k46 h42 n43 v50) (fun h47 n48 v49 =>
 grd a36 (fun k51 =>
 opt (zP P 147 h47 v49) fun v55 =>
 k51 h47 n48 v55) (fun h52 n53 v54 =>
 grd a36 (fun k56 =>
 k56 h52 n53 (.int .i64 ap1)) (fun h57 n58 v59 =>
 grd a36 (fun k60 =>
 opt (zQ P 147 v54 v59) fun v64 =>
 k60 h57 n58 v64) (fun h61 n62 v63 =>
 grd a36 (fun k65 =>
 opt (zP P 40 h61 v63) fun v69 =>
 k65 h61 n62 v69) (fun h66 n67 v68 =>
 grd a36 (fun k70 =>
 k70 h66 n67 (.int .i64 ap2)) (fun h71 n72 v73 =>
 grd a36 (fun k74 =>
 xR L 146 [v68, v73] h71 n72 (fun c81 h82 n83 =>
 zD P L 96 k (.panic c81) (fr96 p0 (.int .i64 ap1) (.int .i64 ap2) undef undef undef (.bool false) (.int .i64 ap1) (.bool a1) (.bool a1) v5 v9 v13 v18 v23 v28 v34 (.bool a36) (.bool a36) v40 v44 v49 v54 v59 v63 v68 v73 undef undef) (W.mk [] u h82 n83)) fun a78 h79 n80 =>
 k74 h79 n80 (.bool a78)) (fun h75 n76 v77 =>
 rtB (sel a36 v77 (.bool false)) fun a84 =>
 zD P L 96 k .ret (fr96 p0 (.int .i64 ap1) (.int .i64 ap2) undef undef undef (.bool a84) (.int .i64 ap1) (.bool a1) (.bool a1) v5 v9 v13 v18 v23 v28 v34 (.bool a36) (.bool a36) v40 v44 v49 v54 v59 v63 v68 v73 v77 (.bool a84)) (W.mk [] u h75 n76)) h71 n72) h66 n67) h61 n62) h57 n58) h52 n53) h47 n48) h42 n43) h38 n39) h32 n33) h26 n27) h21 n22) h16 n17) h11 n12) h7 n8) h3 n4) h n
theorem F96_eq (L : Lo) (lp : LP) (p0 p1 p2 : Value) (df : Bool) (u : Option zF) (h : zE) (n : Nat) (k : KO) : zY P hint96 L lp 96 [p0, p1, p2] df u h n k = F96 L lp p0 p1 p2 df u h n k := by kernel_rfl
theorem l96 : zL P 96 = true := by kernel_rfl
noncomputable def eF96 : EntF P 8 := entF3 zG mixed 96 l96 F96 F96_eq
noncomputable abbrev fr102 (s0 s1 s2 s3 s4 s5 s6 s7 s8 s9 s10 s11 s12 s13 s14 s15 s16 s17 s18 s19 : Value) : Fr := (.nD (.nD (.nD (.nD (.nD .lF s15 .lF) s7 .lF) s3 (.nD (.nD .lF s19 .lF) s11 .lF)) s1 (.nD (.nD (.nD .lF s17 .lF) s9 .lF) s5 (.nD .lF s13 .lF))) s0 (.nD (.nD (.nD (.nD .lF s16 .lF) s8 .lF) s4 (.nD .lF s12 .lF)) s2 (.nD (.nD (.nD .lF s18 .lF) s10 .lF) s6 (.nD .lF s14 .lF))))
noncomputable def hint102 : yR := fun kind _ i => match kind with
  | 4 => bif Nat.beq i 0 then [.any] else []
  | _ => []
noncomputable def F102 (L : Lo) (lp : LP) (p0 : Value) (df : Bool) (u : Option zF) (h : zE) (n : Nat) (k : KO) : Bool :=
 eBox 77 p0 h n fun h1 n2 v3 =>
 opt (zC P 77 0 v3) fun v4 =>
 opt (zP P 9 h1 v4) fun v5 =>
 xR L 99 [v5] h1 n2 (fun c9 h10 n11 =>
 zD P L 102 k (.panic c9) (fr102 p0 v3 (.bool false) undef undef v4 v5 undef undef undef undef undef undef undef undef undef undef undef undef undef) (W.mk [] u h10 n11)) fun a6 h7 n8 =>
 opt (zC P 77 1 v3) fun v12 =>
 opt (zP P 9 h7 v12) fun v13 =>
 zK yO P .eql 9 true v13 (.string (ByteArray.mk #[])) fun a14 =>
 grd (nt a14) (fun k15 =>
 opt (zC P 77 1 v3) fun v19 =>
 k15 h7 n8 v19) (fun h16 n17 v18 =>
 grd (nt a14) (fun k20 =>
 opt (zP P 9 h16 v18) fun v24 =>
 k20 h16 n17 v24) (fun h21 n22 v23 =>
 grd (nt a14) (fun k25 =>
 xR L 99 [v23] h21 n22 (fun c32 h33 n34 =>
 zD P L 102 k (.panic c32) (fr102 p0 v3 (.bool false) (.bool a6) undef v4 v5 (.bool a6) v12 v13 (.bool a14) (.bool a14) v18 v23 undef undef undef undef undef undef) (W.mk [] u h33 n34)) fun a29 h30 n31 =>
 k25 h30 n31 (.bool a29)) (fun h26 n27 v28 =>
 rtB (sel a14 (.bool true) v28) fun a35 =>
 grd a6 (fun k36 =>
 k36 h26 n27 (.bool a35)) (fun h37 n38 v39 =>
 rtB (sel a6 v39 (.bool false)) fun a40 =>
 zD P L 102 k .ret (fr102 p0 v3 (.bool a40) (.bool a6) (.bool a35) v4 v5 (.bool a6) v12 v13 (.bool a14) (.bool a14) v18 v23 v28 (.bool a35) (.bool a6) (.bool a6) v39 (.bool a40)) (W.mk [] u h37 n38)) h26 n27) h21 n22) h16 n17) h7 n8
theorem F102_eq (L : Lo) (lp : LP) (p0 : Value) (df : Bool) (u : Option zF) (h : zE) (n : Nat) (k : KO) : zY P hint102 L lp 102 [p0] df u h n k = F102 L lp p0 df u h n k := by kernel_rfl
theorem l102 : zL P 102 = true := by kernel_rfl
noncomputable def eF102 : EntF P 8 := xL zG mixed 102 l102 F102 F102_eq
noncomputable abbrev fr103 (s0 s1 s2 s3 s4 s5 s6 s7 s8 : Value) : Fr := (.nD (.nD (.nD (.nD .lF s7 .lF) s3 .lF) s1 (.nD .lF s5 .lF)) s0 (.nD (.nD (.nD .lF s8 .lF) s4 .lF) s2 (.nD .lF s6 .lF)))
noncomputable def hint103 : yR := fun kind _ i => match kind with
  | 4 => bif Nat.beq i 0 then [(.int .i64)] else []
  | _ => []
noncomputable def F103 (L : Lo) (lp : LP) (p0 : Value) (df : Bool) (u : Option zF) (h : zE) (n : Nat) (k : KO) : Bool :=
 rtI .i64 p0 fun ap0 =>
 fb (ileB 0 ap0) fun a1 =>
 grd a1 (fun k2 =>
 k2 h n (.int .i64 ap0)) (fun h3 n4 v5 =>
 grd a1 (fun k6 =>
 zK ileB P .leq 3 true v5 (.int .i64 999999) fun a10 =>
 k6 h3 n4 (.bool a10)) (fun h7 n8 v9 =>
 rtB (sel a1 v9 (.bool false)) fun a11 =>
 zD P L 103 k .ret (fr103 (.int .i64 ap0) undef (.bool a11) (.int .i64 ap0) (.bool a1) (.bool a1) v5 v9 (.bool a11)) (W.mk [] u h7 n8)) h3 n4) h n
theorem F103_eq (L : Lo) (lp : LP) (p0 : Value) (df : Bool) (u : Option zF) (h : zE) (n : Nat) (k : KO) : zY P hint103 L lp 103 [p0] df u h n k = F103 L lp p0 df u h n k := by kernel_rfl
theorem l103 : zL P 103 = true := by kernel_rfl
noncomputable def eF103 : EntF P 8 := xL zG mixed 103 l103 F103 F103_eq
noncomputable abbrev fr104 (s0 s1 s2 s3 s4 s5 s6 s7 s8 s9 s10 s11 s12 : Value) : Fr := (.nD (.nD (.nD (.nD .lF s7 .lF) s3 (.nD .lF s11 .lF)) s1 (.nD (.nD .lF s9 .lF) s5 .lF)) s0 (.nD (.nD (.nD .lF s8 .lF) s4 (.nD .lF s12 .lF)) s2 (.nD (.nD .lF s10 .lF) s6 .lF)))
noncomputable def hint104 : yR := fun kind _ i => match kind with
  | 0 => bif Nat.beq i 1000003 then [(.int .i64), .val, .val, .val, (.int .i64), .val, .val, .val, .val, .val, .val, .val, .val] else []
  | 1 => bif Nat.beq i 0 then [.val, .val, .val, .val, .val, .val, .val, .val, .val, .val, .val, .val, .val] else bif Nat.beq i 1 then [(.int .i64), .val, .val, .val, (.int .i64), .val, .val, .val, .val, .val, .val, .val, .val] else []
  | 2 => bif Nat.beq i 0 then [(.int .i64), .val, .val, .val, (.int .i64), .val, .val, .val, .val, .val, .val, .val, .val] else []
  | 4 => bif Nat.beq i 0 then [(.int .i64)] else []
  | _ => []
noncomputable def F104 (L : Lo) (lp : LP) (p0 : Value) (df : Bool) (u : Option zF) (h : zE) (n : Nat) (k : KO) : Bool :=
 rtI .i64 p0 fun ap0 =>
 lp 1000003 ⟨104, none, df⟩ (fr104 (.int .i64 ap0) undef (.string (ByteArray.mk #[])) (.string (ByteArray.mk #[])) (.int .i64 0) undef undef undef undef undef undef undef undef) (W.mk [] u h n) (endA noK (blkA 0 (fun t1 w2 =>
 zA (zB t1 0) fun s3 =>
 zA (zB t1 1) fun s4 =>
 zA (zB t1 2) fun s5 =>
 zA (zB t1 3) fun s6 =>
 zA (zB t1 4) fun s7 =>
 zA (zB t1 5) fun s8 =>
 zA (zB t1 6) fun s9 =>
 zA (zB t1 7) fun s10 =>
 zA (zB t1 8) fun s11 =>
 zA (zB t1 9) fun s12 =>
 zA (zB t1 10) fun s13 =>
 zA (zB t1 11) fun s14 =>
 zA (zB t1 12) fun s15 =>
 onW w2 fun d16 u17 h18 n19 =>
 zD P L 104 k .ret (fr104 s3 s4 s6 s6 s7 s8 s9 s10 s11 s12 s13 s14 s6) (W.mk d16 u17 h18 n19)) (zD P L 104 k)))
theorem F104_eq (L : Lo) (lp : LP) (p0 : Value) (df : Bool) (u : Option zF) (h : zE) (n : Nat) (k : KO) : zY P hint104 L lp 104 [p0] df u h n k = F104 L lp p0 df u h n k := by kernel_rfl
noncomputable def B104_1000003 (L : Lo) (lp : LP) (rd : Option Nat) (df : Bool) (t : Fr) (w : W) (ka : KX) : Bool :=
 rtI .i64 (zB t 0) fun s20 =>
 zA (zB t 1) fun s21 =>
 zA (zB t 2) fun s22 =>
 zA (zB t 3) fun s23 =>
 rtI .i64 (zB t 4) fun s24 =>
 zA (zB t 5) fun s25 =>
 zA (zB t 6) fun s26 =>
 zA (zB t 7) fun s27 =>
 zA (zB t 8) fun s28 =>
 zA (zB t 9) fun s29 =>
 zA (zB t 10) fun s30 =>
 zA (zB t 11) fun s31 =>
 zA (zB t 12) fun s32 =>
 onW w fun d33 u34 h35 n36 =>
 fb (wE s24 s20) fun a37 =>
 br a37 (
 blkJ (fun k38 =>
 xF wV P .add 9 true s23 (.string (ByteArray.mk #[32, 32])) fun v39 =>
 k38 (fr104 (.int .i64 s20) s21 s22 v39 (.int .i64 s24) (.int .i64 s24) (.int .i64 s20) (.bool a37) s28 s29 s23 v39 s32) (W.mk d33 u34 h35 n36)) (fun t40 w41 =>
 rtI .i64 (zB t40 0) fun s42 =>
 zA (zB t40 1) fun s43 =>
 zA (zB t40 2) fun s44 =>
 zA (zB t40 3) fun s45 =>
 rtI .i64 (zB t40 4) fun s46 =>
 zA (zB t40 5) fun s47 =>
 zA (zB t40 6) fun s48 =>
 zA (zB t40 7) fun s49 =>
 zA (zB t40 8) fun s50 =>
 zA (zB t40 9) fun s51 =>
 zA (zB t40 10) fun s52 =>
 zA (zB t40 11) fun s53 =>
 zA (zB t40 12) fun s54 =>
 onW w41 fun d55 u56 h57 n58 =>
 fi (yK .i64 (wV s46 1)) fun a59 =>
 lp 1000003 ⟨104, rd, df⟩ (fr104 (.int .i64 s42) s43 s44 s45 (.int .i64 a59) s47 s48 s49 (.int .i64 s46) (.int .i64 a59) s52 s53 s54) (W.mk d55 u56 h57 n58) ka)) (
 ka (.exit 0) (fr104 (.int .i64 s20) s21 s22 s23 (.int .i64 s24) (.int .i64 s24) (.int .i64 s20) (.bool a37) s28 s29 s30 s31 s32) (W.mk d33 u34 h35 n36))
theorem B104_1000003_eq (L : Lo) (lp : LP) (rd : Option Nat) (df : Bool) (t : Fr) (w : W) (ka : KX) : wU P hint104 L lp (unL (zJ P 104 1000003)) ⟨104, rd, df⟩ t w ka = B104_1000003 L lp rd df t w ka := by kernel_rfl
theorem l104 : zL P 104 = true := by kernel_rfl
theorem lp104_1000003 : yW (zJ P 104 1000003) = true := by kernel_rfl
noncomputable def eF104 : EntF P 8 := xL zG mixed 104 l104 F104 F104_eq
noncomputable def eL104_1000003 : EntL P 8 := entL zG mixed 104 l104 1000003 lp104_1000003 B104_1000003 B104_1000003_eq
noncomputable abbrev fr134 (s0 s1 s2 s3 s4 s5 s6 s7 s8 s9 s10 s11 s12 s13 s14 : Value) : Fr := (.nD (.nD (.nD (.nD .lF s7 .lF) s3 (.nD .lF s11 .lF)) s1 (.nD (.nD .lF s9 .lF) s5 (.nD .lF s13 .lF))) s0 (.nD (.nD (.nD .lF s8 .lF) s4 (.nD .lF s12 .lF)) s2 (.nD (.nD .lF s10 .lF) s6 (.nD .lF s14 .lF))))
noncomputable def hint134 : yR := fun kind _ i => match kind with
  | 4 => bif Nat.beq i 0 then [.any, (.int .i64)] else []
  | _ => []
noncomputable def F134 (L : Lo) (lp : LP) (p0 p1 : Value) (df : Bool) (u : Option zF) (h : zE) (n : Nat) (k : KO) : Bool :=
 rtI .i64 p1 fun ap1 =>
 opt (wZ p0) fun v1 =>
 opt (zC P 171 0 v1) fun v2 =>
 opt (zP P 4 h v2) fun v3 =>
 rtB v3 fun a4 =>
 grd (nt a4) (fun k5 =>
 k5 h n (.int .i64 ap1)) (fun h6 n7 v8 =>
 grd (nt a4) (fun k9 =>
 zK igtB P .gtr 3 true v8 (.int .i64 200) fun a13 =>
 k9 h6 n7 (.bool a13)) (fun h10 n11 v12 =>
 rtB (sel a4 (.bool true) v12) fun a14 =>
 opt (wZ p0) fun v15 =>
 opt (zC P 171 0 v15) fun v16 =>
 xG P 4 v16 (.bool a14) h10 n11 fun h17 n18 v19 =>
 zD P L 134 k .ret (fr134 p0 (.int .i64 ap1) undef undef p0 p0 v1 v2 (.bool a4) (.bool a4) v8 v12 (.bool a14) v15 v16) (W.mk [] u h17 n18)) h6 n7) h n
theorem F134_eq (L : Lo) (lp : LP) (p0 p1 : Value) (df : Bool) (u : Option zF) (h : zE) (n : Nat) (k : KO) : zY P hint134 L lp 134 [p0, p1] df u h n k = F134 L lp p0 p1 df u h n k := by kernel_rfl
theorem l134 : zL P 134 = true := by kernel_rfl
noncomputable def eF134 : EntF P 8 := wL zG mixed 134 l134 F134 F134_eq
noncomputable abbrev fr137 (s0 s1 s2 s3 s4 s5 s6 s7 s8 s9 s10 s11 s12 s13 s14 s15 s16 s17 s18 s19 s20 s21 s22 s23 s24 s25 s26 s27 : Value) : Fr := (.nD (.nD (.nD (.nD (.nD .lF s15 .lF) s7 (.nD .lF s23 .lF)) s3 (.nD (.nD .lF s19 .lF) s11 (.nD .lF s27 .lF))) s1 (.nD (.nD (.nD .lF s17 .lF) s9 (.nD .lF s25 .lF)) s5 (.nD (.nD .lF s21 .lF) s13 .lF))) s0 (.nD (.nD (.nD (.nD .lF s16 .lF) s8 (.nD .lF s24 .lF)) s4 (.nD (.nD .lF s20 .lF) s12 .lF)) s2 (.nD (.nD (.nD .lF s18 .lF) s10 (.nD .lF s26 .lF)) s6 (.nD (.nD .lF s22 .lF) s14 .lF))))
noncomputable def hint137 : yR := fun kind _ i => match kind with
  | 0 => bif Nat.beq i 1000001 then [.val, .val, .val, .val, .val, .val, .val, (.int .i64), (.int .i64), .val, .val, .val, .val, .val, .val, .val, .val, .val, .val, .val, .val, .val, .val, .val, .val, .val, .val, .val] else []
  | 1 => bif Nat.beq i 0 then [.val, .val, .val, .val, .val, .val, .val, .val, .val, .val, .val, .val, .val, .val, .val, .val, .val, .val, .val, .val, .val, .val, .val, .val, .val, .val, .val, .val] else bif Nat.beq i 1 then [.val, .val, .val, .val, .val, .val, .val, (.int .i64), (.int .i64), .val, .val, .val, .val, .val, .val, .val, .val, .val, .val, .val, .val, .val, .val, .val, .val, .val, .val, .val] else []
  | 2 => bif Nat.beq i 0 then [.val, .val, .val, .val, .val, .val, .val, (.int .i64), (.int .i64), .val, .val, .val, .val, .val, .val, .val, .val, .val, .val, .val, .val, .val, .val, .val, .val, .val, .val, .val] else []
  | 4 => bif Nat.beq i 0 then [.any, .any] else []
  | _ => []
noncomputable def F137 (L : Lo) (lp : LP) (p0 p1 : Value) (df : Bool) (u : Option zF) (h : zE) (n : Nat) (k : KO) : Bool :=
 opt (zU P .len [40] [p1] h) fun v1 =>
 rtI .i64 v1 fun a2 =>
 lp 1000001 ⟨137, none, df⟩ (fr137 p0 p1 undef undef undef undef p1 (.int .i64 a2) (.int .i64 0) undef undef undef undef undef undef undef undef undef undef undef undef undef undef undef undef undef undef undef) (W.mk [] u h n) (endA noK (blkA 0 (fun t3 w4 =>
 zA (zB t3 0) fun s5 =>
 zA (zB t3 1) fun s6 =>
 zA (zB t3 2) fun s7 =>
 zA (zB t3 3) fun s8 =>
 zA (zB t3 4) fun s9 =>
 zA (zB t3 5) fun s10 =>
 zA (zB t3 6) fun s11 =>
 zA (zB t3 7) fun s12 =>
 zA (zB t3 8) fun s13 =>
 zA (zB t3 9) fun s14 =>
 zA (zB t3 10) fun s15 =>
 zA (zB t3 11) fun s16 =>
 zA (zB t3 12) fun s17 =>
 zA (zB t3 13) fun s18 =>
 zA (zB t3 14) fun s19 =>
 zA (zB t3 15) fun s20 =>
 zA (zB t3 16) fun s21 =>
 zA (zB t3 17) fun s22 =>
 zA (zB t3 18) fun s23 =>
 zA (zB t3 19) fun s24 =>
 zA (zB t3 20) fun s25 =>
 zA (zB t3 21) fun s26 =>
 zA (zB t3 22) fun s27 =>
 zA (zB t3 23) fun s28 =>
 zA (zB t3 24) fun s29 =>
 zA (zB t3 25) fun s30 =>
 zA (zB t3 26) fun s31 =>
 zA (zB t3 27) fun s32 =>
 onW w4 fun d33 u34 h35 n36 =>
 zD P L 137 k .ret (fr137 s5 s6 s7 s8 s9 s10 s11 s12 s13 s14 s15 s16 s17 s18 s19 s20 s21 s22 s23 s24 s25 s26 s27 s28 s29 s30 s31 s32) (W.mk d33 u34 h35 n36)) (zD P L 137 k)))
theorem F137_eq (L : Lo) (lp : LP) (p0 p1 : Value) (df : Bool) (u : Option zF) (h : zE) (n : Nat) (k : KO) : zY P hint137 L lp 137 [p0, p1] df u h n k = F137 L lp p0 p1 df u h n k := by kernel_rfl
noncomputable def B137_1000001 (L : Lo) (lp : LP) (rd : Option Nat) (df : Bool) (t : Fr) (w : W) (ka : KX) : Bool :=
 zA (zB t 0) fun s37 =>
 zA (zB t 1) fun s38 =>
 zA (zB t 2) fun s39 =>
 zA (zB t 3) fun s40 =>
 zA (zB t 4) fun s41 =>
 zA (zB t 5) fun s42 =>
 zA (zB t 6) fun s43 =>
 rtI .i64 (zB t 7) fun s44 =>
 rtI .i64 (zB t 8) fun s45 =>
 zA (zB t 9) fun s46 =>
 zA (zB t 10) fun s47 =>
 zA (zB t 11) fun s48 =>
 zA (zB t 12) fun s49 =>
 zA (zB t 13) fun s50 =>
 zA (zB t 14) fun s51 =>
 zA (zB t 15) fun s52 =>
 zA (zB t 16) fun s53 =>
 zA (zB t 17) fun s54 =>
 zA (zB t 18) fun s55 =>
 zA (zB t 19) fun s56 =>
 zA (zB t 20) fun s57 =>
 zA (zB t 21) fun s58 =>
 zA (zB t 22) fun s59 =>
 zA (zB t 23) fun s60 =>
 zA (zB t 24) fun s61 =>
 zA (zB t 25) fun s62 =>
 zA (zB t 26) fun s63 =>
 zA (zB t 27) fun s64 =>
 onW w fun d65 u66 h67 n68 =>
 fb (wE s45 s44) fun a69 =>
 br a69 (
 blkJ (fun k70 =>
 opt (zQ P 40 s43 (.int .i64 s45)) fun v71 =>
 opt (zP P 3 h67 v71) fun v72 =>
 rtI .i64 v72 fun a73 =>
 opt (wZ s37) fun v74 =>
 opt (zC P 171 0 v74) fun v75 =>
 opt (zP P 4 h67 v75) fun v76 =>
 rtB v76 fun a77 =>
 grd (nt a77) (fun k78 =>
 k78 h67 n68 (.int .i64 a73)) (fun h79 n80 v81 =>
 grd (nt a77) (fun k82 =>
 zK wE P .lss 3 true v81 (.int .i64 0) fun a86 =>
 k82 h79 n80 (.bool a86)) (fun h83 n84 v85 =>
 rtB (sel a77 (.bool true) v85) fun a87 =>
 grd (nt a87) (fun k88 =>
 k88 h83 n84 (.int .i64 a73)) (fun h89 n90 v91 =>
 grd (nt a87) (fun k92 =>
 zK igtB P .gtr 3 true v91 (.int .i64 999999) fun a96 =>
 k92 h89 n90 (.bool a96)) (fun h93 n94 v95 =>
 rtB (sel a87 (.bool true) v95) fun a97 =>
 opt (wZ s37) fun v98 =>
 opt (zC P 171 0 v98) fun v99 =>
 xG P 4 v99 (.bool a97) h93 n94 fun h100 n101 v102 =>
 k70 (fr137 s37 s38 s39 s40 s41 (.int .i64 a73) s43 (.int .i64 s44) (.int .i64 s45) (.bool a69) v71 (.int .i64 a73) s37 s37 v74 v75 (.bool a77) (.bool a77) v81 v85 (.bool a87) (.bool a87) v91 v95 (.bool a97) v98 v99 s64) (W.mk d65 u66 h100 n101)) h89 n90) h83 n84) h79 n80) h67 n68) (fun t103 w104 =>
 zA (zB t103 0) fun s105 =>
 zA (zB t103 1) fun s106 =>
 zA (zB t103 2) fun s107 =>
 zA (zB t103 3) fun s108 =>
 zA (zB t103 4) fun s109 =>
 zA (zB t103 5) fun s110 =>
 zA (zB t103 6) fun s111 =>
 rtI .i64 (zB t103 7) fun s112 =>
 rtI .i64 (zB t103 8) fun s113 =>
 zA (zB t103 9) fun s114 =>
 zA (zB t103 10) fun s115 =>
 zA (zB t103 11) fun s116 =>
 zA (zB t103 12) fun s117 =>
 zA (zB t103 13) fun s118 =>
 zA (zB t103 14) fun s119 =>
 zA (zB t103 15) fun s120 =>
 zA (zB t103 16) fun s121 =>
 zA (zB t103 17) fun s122 =>
 zA (zB t103 18) fun s123 =>
 zA (zB t103 19) fun s124 =>
 zA (zB t103 20) fun s125 =>
 zA (zB t103 21) fun s126 =>
 zA (zB t103 22) fun s127 =>
 zA (zB t103 23) fun s128 =>
 zA (zB t103 24) fun s129 =>
 zA (zB t103 25) fun s130 =>
 zA (zB t103 26) fun s131 =>
 zA (zB t103 27) fun s132 =>
 onW w104 fun d133 u134 h135 n136 =>
 fi (yK .i64 (wV s113 1)) fun a137 =>
 lp 1000001 ⟨137, rd, df⟩ (fr137 s105 s106 s107 s108 s109 s110 s111 (.int .i64 s112) (.int .i64 a137) s114 s115 s116 s117 s118 s119 s120 s121 s122 s123 s124 s125 s126 s127 s128 s129 s130 s131 (.int .i64 a137)) (W.mk d133 u134 h135 n136) ka)) (
 ka (.exit 0) (fr137 s37 s38 s39 s40 s41 s42 s43 (.int .i64 s44) (.int .i64 s45) (.bool a69) s47 s48 s49 s50 s51 s52 s53 s54 s55 s56 s57 s58 s59 s60 s61 s62 s63 s64) (W.mk d65 u66 h67 n68))
theorem B137_1000001_eq (L : Lo) (lp : LP) (rd : Option Nat) (df : Bool) (t : Fr) (w : W) (ka : KX) : wU P hint137 L lp (unL (zJ P 137 1000001)) ⟨137, rd, df⟩ t w ka = B137_1000001 L lp rd df t w ka := by kernel_rfl
theorem l137 : zL P 137 = true := by kernel_rfl
theorem lp137_1000001 : yW (zJ P 137 1000001) = true := by kernel_rfl
noncomputable def eF137 : EntF P 8 := wL zG mixed 137 l137 F137 F137_eq
noncomputable def eL137_1000001 : EntL P 8 := entL zG mixed 137 l137 1000001 lp137_1000001 B137_1000001 B137_1000001_eq
noncomputable abbrev fr145 (s0 s1 s2 s3 s4 s5 s6 s7 s8 s9 s10 s11 s12 s13 s14 s15 s16 s17 s18 s19 s20 s21 s22 s23 s24 s25 s26 : Value) : Fr := (.nD (.nD (.nD (.nD (.nD .lF s15 .lF) s7 (.nD .lF s23 .lF)) s3 (.nD (.nD .lF s19 .lF) s11 .lF)) s1 (.nD (.nD (.nD .lF s17 .lF) s9 (.nD .lF s25 .lF)) s5 (.nD (.nD .lF s21 .lF) s13 .lF))) s0 (.nD (.nD (.nD (.nD .lF s16 .lF) s8 (.nD .lF s24 .lF)) s4 (.nD (.nD .lF s20 .lF) s12 .lF)) s2 (.nD (.nD (.nD .lF s18 .lF) s10 (.nD .lF s26 .lF)) s6 (.nD (.nD .lF s22 .lF) s14 .lF))))
noncomputable def hint145 : yR := fun kind _ i => match kind with
  | 0 => bif Nat.beq i 1000003 then [.val, .val, .val, .val, .val, .val, (.int .i64), .val, .val, .val, .val, .val, .val, .val, .val, .val, .val, .val, .val, .val, .val, .val, .val, .val, .val, .val, .val] else []
  | 1 => bif Nat.beq i 0 then [.val, .val, .val, .val, .val, .val, .val, .val, .val, .val, .val, .val, .val, .val, .val, .val, .val, .val, .val, .val, .val, .val, .val, .val, .val, .val, .val] else bif Nat.beq i 1 then [.val, .val, .val, .val, .val, .val, (.int .i64), .val, .val, .val, .val, .val, .val, .val, .val, .val, .val, .val, .val, .val, .val, .val, .val, .val, .val, .val, .val] else []
  | 2 => bif Nat.beq i 0 then [.val, .val, .val, .val, .val, .val, (.int .i64), .val, .val, .val, .val, .val, .val, .val, .val, .val, .val, .val, .val, .val, .val, .val, .val, .val, .val, .val, .val] else bif Nat.beq i 7 then [.val, .val, .val, .val, .val, .val, (.int .i64), .val, .val, .val, .val, .val, .val, .val, .val, .val, .val, .val, .val, .val, .val, .val, .val, .val, .val, .val, .val] else []
  | 4 => bif Nat.beq i 0 then [.any, .any] else []
  | _ => []
noncomputable def F145 (L : Lo) (lp : LP) (p0 p1 : Value) (df : Bool) (u : Option zF) (h : zE) (n : Nat) (k : KO) : Bool :=
 lp 1000003 ⟨145, none, df⟩ (fr145 p0 p1 undef undef (.slice none 0 0) (.slice none 0 0) (.int .i64 0) undef undef undef undef undef undef undef undef undef undef undef undef undef undef undef undef undef undef undef undef) (W.mk [] u h n) (endA noK (blkA 0 (fun t1 w2 =>
 zA (zB t1 0) fun s3 =>
 zA (zB t1 1) fun s4 =>
 zA (zB t1 2) fun s5 =>
 zA (zB t1 3) fun s6 =>
 zA (zB t1 4) fun s7 =>
 zA (zB t1 5) fun s8 =>
 zA (zB t1 6) fun s9 =>
 zA (zB t1 7) fun s10 =>
 zA (zB t1 8) fun s11 =>
 zA (zB t1 9) fun s12 =>
 zA (zB t1 10) fun s13 =>
 zA (zB t1 11) fun s14 =>
 zA (zB t1 12) fun s15 =>
 zA (zB t1 13) fun s16 =>
 zA (zB t1 14) fun s17 =>
 zA (zB t1 15) fun s18 =>
 zA (zB t1 16) fun s19 =>
 zA (zB t1 17) fun s20 =>
 zA (zB t1 18) fun s21 =>
 zA (zB t1 19) fun s22 =>
 zA (zB t1 20) fun s23 =>
 zA (zB t1 21) fun s24 =>
 zA (zB t1 22) fun s25 =>
 zA (zB t1 23) fun s26 =>
 zA (zB t1 24) fun s27 =>
 zA (zB t1 25) fun s28 =>
 zA (zB t1 26) fun s29 =>
 onW w2 fun d30 u31 h32 n33 =>
 zD P L 145 k .ret (fr145 s3 s4 s5 s6 s8 s8 s9 s10 s11 s12 s13 s14 s15 s16 s17 s18 s19 s20 s21 s22 s23 s24 s25 s26 s27 s28 s8) (W.mk d30 u31 h32 n33)) (zD P L 145 k)))
theorem F145_eq (L : Lo) (lp : LP) (p0 p1 : Value) (df : Bool) (u : Option zF) (h : zE) (n : Nat) (k : KO) : zY P hint145 L lp 145 [p0, p1] df u h n k = F145 L lp p0 p1 df u h n k := by kernel_rfl
noncomputable def B145_1000003 (L : Lo) (lp : LP) (rd : Option Nat) (df : Bool) (t : Fr) (w : W) (ka : KX) : Bool :=
 zA (zB t 0) fun s34 =>
 zA (zB t 1) fun s35 =>
 zA (zB t 2) fun s36 =>
 zA (zB t 3) fun s37 =>
 zA (zB t 4) fun s38 =>
 zA (zB t 5) fun s39 =>
 rtI .i64 (zB t 6) fun s40 =>
 zA (zB t 7) fun s41 =>
 zA (zB t 8) fun s42 =>
 zA (zB t 9) fun s43 =>
 zA (zB t 10) fun s44 =>
 zA (zB t 11) fun s45 =>
 zA (zB t 12) fun s46 =>
 zA (zB t 13) fun s47 =>
 zA (zB t 14) fun s48 =>
 zA (zB t 15) fun s49 =>
 zA (zB t 16) fun s50 =>
 zA (zB t 17) fun s51 =>
 zA (zB t 18) fun s52 =>
 zA (zB t 19) fun s53 =>
 zA (zB t 20) fun s54 =>
 zA (zB t 21) fun s55 =>
 zA (zB t 22) fun s56 =>
 zA (zB t 23) fun s57 =>
 zA (zB t 24) fun s58 =>
 zA (zB t 25) fun s59 =>
 zA (zB t 26) fun s60 =>
 onW w fun d61 u62 h63 n64 =>
 opt (zU P .len [23] [s35] h63) fun v65 =>
 rtI .i64 v65 fun a66 =>
 fb (wE s40 a66) fun a67 =>
 br a67 (
 blkJ (fun k68 =>
 opt (zQ P 23 s35 (.int .i64 s40)) fun v69 =>
 opt (zP P 9 h63 v69) fun v70 =>
 callI L .i64 94 [s34, v70] h63 n64 (fun c74 h75 n76 =>
 ka (.panic c74) (fr145 s34 s35 s36 s37 s38 s39 (.int .i64 s40) s41 (.int .i64 s40) s35 (.int .i64 a66) (.bool a67) s46 s47 s34 s35 (.int .i64 s40) v69 v70 s53 s54 s55 s56 s57 s58 s59 s60) (W.mk d61 u62 h75 n76)) fun a71 h72 n73 =>
 fb (ileB 0 a71) fun a77 =>
 brJ a77 (fun k78 =>
 yC P 40 1 [(0, (.int .i64 a71))] h72 n73 fun h80 n81 v82 =>
 eAppend P [40, 40] [s39, v82] h80 n81 fun h83 n84 v85 =>
 k78 (fr145 s34 s35 s36 s37 s38 v85 (.int .i64 s40) (.int .i64 a71) (.int .i64 s40) s35 (.int .i64 a66) (.bool a67) s46 s47 s34 s35 (.int .i64 s40) v69 v70 (.int .i64 a71) (.int .i64 a71) (.bool a77) s39 (.int .i64 a71) v82 v85 s60) (W.mk d61 u62 h83 n84)) (fun k79 =>
 k79 (fr145 s34 s35 s36 s37 s38 s39 (.int .i64 s40) (.int .i64 a71) (.int .i64 s40) s35 (.int .i64 a66) (.bool a67) s46 s47 s34 s35 (.int .i64 s40) v69 v70 (.int .i64 a71) (.int .i64 a71) (.bool a77) s56 s57 s58 s59 s60) (W.mk d61 u62 h72 n73)) (fun t86 w87 =>
 zA (zB t86 0) fun s88 =>
 zA (zB t86 1) fun s89 =>
 zA (zB t86 2) fun s90 =>
 zA (zB t86 3) fun s91 =>
 zA (zB t86 4) fun s92 =>
 zA (zB t86 5) fun s93 =>
 rtI .i64 (zB t86 6) fun s94 =>
 zA (zB t86 7) fun s95 =>
 zA (zB t86 8) fun s96 =>
 zA (zB t86 9) fun s97 =>
 zA (zB t86 10) fun s98 =>
 zA (zB t86 11) fun s99 =>
 zA (zB t86 12) fun s100 =>
 zA (zB t86 13) fun s101 =>
 zA (zB t86 14) fun s102 =>
 zA (zB t86 15) fun s103 =>
 zA (zB t86 16) fun s104 =>
 zA (zB t86 17) fun s105 =>
 zA (zB t86 18) fun s106 =>
 zA (zB t86 19) fun s107 =>
 zA (zB t86 20) fun s108 =>
 zA (zB t86 21) fun s109 =>
 zA (zB t86 22) fun s110 =>
 zA (zB t86 23) fun s111 =>
 zA (zB t86 24) fun s112 =>
 zA (zB t86 25) fun s113 =>
 zA (zB t86 26) fun s114 =>
 onW w87 fun d115 u116 h117 n118 =>
 k68 (fr145 s88 s89 s90 s91 s92 s93 (.int .i64 s94) s95 s96 s97 s98 s99 s100 s101 s102 s103 s104 s105 s106 s107 s108 s109 s110 s111 s112 s113 s114) (W.mk d115 u116 h117 n118))) (fun t119 w120 =>
 zA (zB t119 0) fun s121 =>
 zA (zB t119 1) fun s122 =>
 zA (zB t119 2) fun s123 =>
 zA (zB t119 3) fun s124 =>
 zA (zB t119 4) fun s125 =>
 zA (zB t119 5) fun s126 =>
 rtI .i64 (zB t119 6) fun s127 =>
 zA (zB t119 7) fun s128 =>
 zA (zB t119 8) fun s129 =>
 zA (zB t119 9) fun s130 =>
 zA (zB t119 10) fun s131 =>
 zA (zB t119 11) fun s132 =>
 zA (zB t119 12) fun s133 =>
 zA (zB t119 13) fun s134 =>
 zA (zB t119 14) fun s135 =>
 zA (zB t119 15) fun s136 =>
 zA (zB t119 16) fun s137 =>
 zA (zB t119 17) fun s138 =>
 zA (zB t119 18) fun s139 =>
 zA (zB t119 19) fun s140 =>
 zA (zB t119 20) fun s141 =>
 zA (zB t119 21) fun s142 =>
 zA (zB t119 22) fun s143 =>
 zA (zB t119 23) fun s144 =>
 zA (zB t119 24) fun s145 =>
 zA (zB t119 25) fun s146 =>
 zA (zB t119 26) fun s147 =>
 onW w120 fun d148 u149 h150 n151 =>
 fi (yK .i64 (wV s127 1)) fun a152 =>
 lp 1000003 ⟨145, rd, df⟩ (fr145 s121 s122 s123 s124 s125 s126 (.int .i64 a152) s128 s129 s130 s131 s132 (.int .i64 s127) (.int .i64 a152) s135 s136 s137 s138 s139 s140 s141 s142 s143 s144 s145 s146 s147) (W.mk d148 u149 h150 n151) ka)) (
 ka (.exit 0) (fr145 s34 s35 s36 s37 s38 s39 (.int .i64 s40) s41 (.int .i64 s40) s35 (.int .i64 a66) (.bool a67) s46 s47 s48 s49 s50 s51 s52 s53 s54 s55 s56 s57 s58 s59 s60) (W.mk d61 u62 h63 n64))
theorem B145_1000003_eq (L : Lo) (lp : LP) (rd : Option Nat) (df : Bool) (t : Fr) (w : W) (ka : KX) : wU P hint145 L lp (unL (zJ P 145 1000003)) ⟨145, rd, df⟩ t w ka = B145_1000003 L lp rd df t w ka := by kernel_rfl
theorem l145 : zL P 145 = true := by kernel_rfl
theorem lp145_1000003 : yW (zJ P 145 1000003) = true := by kernel_rfl
noncomputable def eF145 : EntF P 8 := wL zG mixed 145 l145 F145 F145_eq
noncomputable def eL145_1000003 : EntL P 8 := entL zG mixed 145 l145 1000003 lp145_1000003 B145_1000003 B145_1000003_eq
noncomputable abbrev wS (s0 s1 s2 s3 s4 s5 s6 s7 s8 s9 s10 s11 s12 s13 s14 s15 s16 s17 s18 : Value) : Fr := (.nD (.nD (.nD (.nD (.nD .lF s15 .lF) s7 .lF) s3 (.nD .lF s11 .lF)) s1 (.nD (.nD (.nD .lF s17 .lF) s9 .lF) s5 (.nD .lF s13 .lF))) s0 (.nD (.nD (.nD (.nD .lF s16 .lF) s8 .lF) s4 (.nD .lF s12 .lF)) s2 (.nD (.nD (.nD .lF s18 .lF) s10 .lF) s6 (.nD .lF s14 .lF))))
noncomputable def hint171 : yR := fun kind _ i => match kind with
  | 1 => bif Nat.beq i 0 then [.val, .val, .val, .val, .val, .val, .val, .val, .val, .val, .val, .val, .val, .val, .val, .val, .val, .val, .val] else []
  | 2 => bif Nat.beq i 3 then [.val, .val, .val, .val, .bool, .val, .val, .val, .val, .val, .val, .val, .val, .val, .val, .val, .val, .val, .val] else bif Nat.beq i 4 then [.val, .val, .val, .val, .bool, .val, .val, .val, .val, .val, .val, .val, .val, .val, .val, .val, .val, .val, .val] else bif Nat.beq i 5 then [.val, .val, .val, .val, .bool, .val, .val, .val, .val, .val, .val, .val, .val, .val, .val, .val, .val, .val, .val] else bif Nat.beq i 6 then [.val, .val, .val, .val, .bool, .val, .val, .val, .val, .val, .val, .val, .val, .val, .val, .val, .val, .val, .val] else bif Nat.beq i 7 then [.val, .val, .val, .val, .bool, .val, .val, .val, .val, .val, .val, .val, .val, .val, .val, .val, .val, .val, .val] else bif Nat.beq i 8 then [.val, .val, .val, .val, .bool, .val, .val, .val, .val, .val, .val, .val, .val, .val, .val, .val, .val, .val, .val] else bif Nat.beq i 9 then [.val, .val, .val, .val, .bool, .val, .val, .val, .val, .val, .val, .val, .val, .val, .val, .val, .val, .val, .val] else bif Nat.beq i 10 then [.val, .val, .val, .val, .bool, .val, .val, .val, .val, .val, .val, .val, .val, .val, .val, .val, .val, .val, .val] else bif Nat.beq i 11 then [.val, .val, .val, .val, .bool, .val, .val, .val, .val, .val, .val, .val, .val, .val, .val, .val, .val, .val, .val] else bif Nat.beq i 12 then [.val, .val, .val, .val, .bool, .val, .val, .val, .val, .val, .val, .val, .val, .val, .val, .val, .val, .val, .val] else bif Nat.beq i 13 then [.val, .val, .val, .val, .bool, .val, .val, .val, .val, .val, .val, .val, .val, .val, .val, .val, .val, .val, .val] else bif Nat.beq i 14 then [.val, .val, .val, .val, .val, .val, .val, .val, .val, .val, .val, .val, .val, .val, .val, .val, .val, .val, .val] else bif Nat.beq i 16 then [.val, .val, .val, .val, .val, .val, .val, .val, .val, .val, .val, .val, .val, .val, .val, .val, .val, .val, .val] else []
  | 4 => bif Nat.beq i 0 then [.any] else []
  | _ => []
noncomputable def F171 (L : Lo) (lp : LP) (p0 : Value) (df : Bool) (u : Option zF) (h : zE) (n : Nat) (k : KO) : Bool :=
 blkJ (fun k1 =>
 zK yO P .eql 9 true p0 (.string (ByteArray.mk #[97, 100, 100])) fun a2 =>
 brJ a2 (fun k3 =>
 k3 (wS p0 undef (.int .i64 0) p0 (.bool a2) (.bool a2) undef undef undef undef undef undef undef undef undef undef undef undef undef) (W.mk [] u h n)) (fun k4 =>
 zK yO P .eql 9 true p0 (.string (ByteArray.mk #[115, 117, 98])) fun a5 =>
 brJ a5 (fun k6 =>
 k6 (wS p0 undef (.int .i64 0) p0 (.bool a5) (.bool a2) (.bool a5) undef undef undef undef undef undef undef undef undef undef undef undef) (W.mk [] u h n)) (fun k7 =>
 zK yO P .eql 9 true p0 (.string (ByteArray.mk #[109, 117, 108])) fun a8 =>
 brJ a8 (fun k9 =>
 k9 (wS p0 undef (.int .i64 0) p0 (.bool a8) (.bool a2) (.bool a5) (.bool a8) undef undef undef undef undef undef undef undef undef undef undef) (W.mk [] u h n)) (fun k10 =>
 zK yO P .eql 9 true p0 (.string (ByteArray.mk #[97, 110, 100])) fun a11 =>
 brJ a11 (fun k12 =>
 k12 (wS p0 undef (.int .i64 0) p0 (.bool a11) (.bool a2) (.bool a5) (.bool a8) (.bool a11) undef undef undef undef undef undef undef undef undef undef) (W.mk [] u h n)) (fun k13 =>
 zK yO P .eql 9 true p0 (.string (ByteArray.mk #[111, 114])) fun a14 =>
 brJ a14 (fun k15 =>
 k15 (wS p0 undef (.int .i64 0) p0 (.bool a14) (.bool a2) (.bool a5) (.bool a8) (.bool a11) (.bool a14) undef undef undef undef undef undef undef undef undef) (W.mk [] u h n)) (fun k16 =>
 zK yO P .eql 9 true p0 (.string (ByteArray.mk #[120, 111, 114])) fun a17 =>
 brJ a17 (fun k18 =>
 k18 (wS p0 undef (.int .i64 0) p0 (.bool a17) (.bool a2) (.bool a5) (.bool a8) (.bool a11) (.bool a14) (.bool a17) undef undef undef undef undef undef undef undef) (W.mk [] u h n)) (fun k19 =>
 zK yO P .eql 9 true p0 (.string (ByteArray.mk #[115, 104, 108])) fun a20 =>
 brJ a20 (fun k21 =>
 k21 (wS p0 undef (.int .i64 0) p0 (.bool a20) (.bool a2) (.bool a5) (.bool a8) (.bool a11) (.bool a14) (.bool a17) (.bool a20) undef undef undef undef undef undef undef) (W.mk [] u h n)) (fun k22 =>
 zK yO P .eql 9 true p0 (.string (ByteArray.mk #[115, 104, 114])) fun a23 =>
 brJ a23 (fun k24 =>
 k24 (wS p0 undef (.int .i64 0) p0 (.bool a23) (.bool a2) (.bool a5) (.bool a8) (.bool a11) (.bool a14) (.bool a17) (.bool a20) (.bool a23) undef undef undef undef undef undef) (W.mk [] u h n)) (fun k25 =>
 zK yO P .eql 9 true p0 (.string (ByteArray.mk #[100, 105, 118])) fun a26 =>
 brJ a26 (fun k27 =>
 k27 (wS p0 undef (.int .i64 0) p0 (.bool a26) (.bool a2) (.bool a5) (.bool a8) (.bool a11) (.bool a14) (.bool a17) (.bool a20) (.bool a23) (.bool a26) undef undef undef undef undef) (W.mk [] u h n)) (fun k28 =>
 zK yO P .eql 9 true p0 (.string (ByteArray.mk #[114, 101, 109])) fun a29 =>
 brJ a29 (fun k30 =>
 k30 (wS p0 undef (.int .i64 0) p0 (.bool a29) (.bool a2) (.bool a5) (.bool a8) (.bool a11) (.bool a14) (.bool a17) (.bool a20) (.bool a23) (.bool a26) (.bool a29) undef undef undef undef) (W.mk [] u h n)) (fun k31 =>
 zK yO P .eql 9 true p0 (.string (ByteArray.mk #[108, 116])) fun a32 =>
 brJ a32 (fun k33 =>
 k33 (wS p0 undef (.int .i64 0) p0 (.bool a32) (.bool a2) (.bool a5) (.bool a8) (.bool a11) (.bool a14) (.bool a17) (.bool a20) (.bool a23) (.bool a26) (.bool a29) (.bool a32) undef undef undef) (W.mk [] u h n)) (fun k34 =>
 zK yO P .eql 9 true p0 (.string (ByteArray.mk #[101, 113])) fun a35 =>
 k34 (wS p0 undef (.int .i64 0) p0 (.bool a35) (.bool a2) (.bool a5) (.bool a8) (.bool a11) (.bool a14) (.bool a17) (.bool a20) (.bool a23) (.bool a26) (.bool a29) (.bool a32) (.bool a35) undef undef) (W.mk [] u h n)) (fun t36 w37 =>
 zA (zB t36 0) fun s38 =>
 zA (zB t36 1) fun s39 =>
 zA (zB t36 2) fun s40 =>
 zA (zB t36 3) fun s41 =>
 rtB (zB t36 4) fun s42 =>
 zA (zB t36 5) fun s43 =>
 zA (zB t36 6) fun s44 =>
 zA (zB t36 7) fun s45 =>
 zA (zB t36 8) fun s46 =>
 zA (zB t36 9) fun s47 =>
 zA (zB t36 10) fun s48 =>
 zA (zB t36 11) fun s49 =>
 zA (zB t36 12) fun s50 =>
 zA (zB t36 13) fun s51 =>
 zA (zB t36 14) fun s52 =>
 zA (zB t36 15) fun s53 =>
 zA (zB t36 16) fun s54 =>
 zA (zB t36 17) fun s55 =>
 zA (zB t36 18) fun s56 =>
 onW w37 fun d57 u58 h59 n60 =>
 k31 (wS s38 s39 s40 s41 (.bool s42) s43 s44 s45 s46 s47 s48 s49 s50 s51 s52 s53 s54 s55 s56) (W.mk d57 u58 h59 n60))) (fun t61 w62 =>
 zA (zB t61 0) fun s63 =>
 zA (zB t61 1) fun s64 =>
 zA (zB t61 2) fun s65 =>
 zA (zB t61 3) fun s66 =>
 rtB (zB t61 4) fun s67 =>
 zA (zB t61 5) fun s68 =>
 zA (zB t61 6) fun s69 =>
 zA (zB t61 7) fun s70 =>
 zA (zB t61 8) fun s71 =>
 zA (zB t61 9) fun s72 =>
 zA (zB t61 10) fun s73 =>
 zA (zB t61 11) fun s74 =>
 zA (zB t61 12) fun s75 =>
 zA (zB t61 13) fun s76 =>
 zA (zB t61 14) fun s77 =>
 zA (zB t61 15) fun s78 =>
 zA (zB t61 16) fun s79 =>
 zA (zB t61 17) fun s80 =>
 zA (zB t61 18) fun s81 =>
 onW w62 fun d82 u83 h84 n85 =>
 k28 (wS s63 s64 s65 s66 (.bool s67) s68 s69 s70 s71 s72 s73 s74 s75 s76 s77 s78 s79 s80 s81) (W.mk d82 u83 h84 n85))) (fun t86 w87 =>
 zA (zB t86 0) fun s88 =>
 zA (zB t86 1) fun s89 =>
 zA (zB t86 2) fun s90 =>
 zA (zB t86 3) fun s91 =>
 rtB (zB t86 4) fun s92 =>
 zA (zB t86 5) fun s93 =>
 zA (zB t86 6) fun s94 =>
 zA (zB t86 7) fun s95 =>
 zA (zB t86 8) fun s96 =>
 zA (zB t86 9) fun s97 =>
 zA (zB t86 10) fun s98 =>
 zA (zB t86 11) fun s99 =>
 zA (zB t86 12) fun s100 =>
 zA (zB t86 13) fun s101 =>
 zA (zB t86 14) fun s102 =>
 zA (zB t86 15) fun s103 =>
 zA (zB t86 16) fun s104 =>
 zA (zB t86 17) fun s105 =>
 zA (zB t86 18) fun s106 =>
 onW w87 fun d107 u108 h109 n110 =>
 k25 (wS s88 s89 s90 s91 (.bool s92) s93 s94 s95 s96 s97 s98 s99 s100 s101 s102 s103 s104 s105 s106) (W.mk d107 u108 h109 n110))) (fun t111 w112 =>
 zA (zB t111 0) fun s113 =>
 zA (zB t111 1) fun s114 =>
 zA (zB t111 2) fun s115 =>
 zA (zB t111 3) fun s116 =>
 rtB (zB t111 4) fun s117 =>
 zA (zB t111 5) fun s118 =>
 zA (zB t111 6) fun s119 =>
 zA (zB t111 7) fun s120 =>
 zA (zB t111 8) fun s121 =>
 zA (zB t111 9) fun s122 =>
 zA (zB t111 10) fun s123 =>
 zA (zB t111 11) fun s124 =>
 zA (zB t111 12) fun s125 =>
 zA (zB t111 13) fun s126 =>
 zA (zB t111 14) fun s127 =>
 zA (zB t111 15) fun s128 =>
 zA (zB t111 16) fun s129 =>
 zA (zB t111 17) fun s130 =>
 zA (zB t111 18) fun s131 =>
 onW w112 fun d132 u133 h134 n135 =>
 k22 (wS s113 s114 s115 s116 (.bool s117) s118 s119 s120 s121 s122 s123 s124 s125 s126 s127 s128 s129 s130 s131) (W.mk d132 u133 h134 n135))) (fun t136 w137 =>
 zA (zB t136 0) fun s138 =>
 zA (zB t136 1) fun s139 =>
 zA (zB t136 2) fun s140 =>
 zA (zB t136 3) fun s141 =>
 rtB (zB t136 4) fun s142 =>
 zA (zB t136 5) fun s143 =>
 zA (zB t136 6) fun s144 =>
 zA (zB t136 7) fun s145 =>
 zA (zB t136 8) fun s146 =>
 zA (zB t136 9) fun s147 =>
 zA (zB t136 10) fun s148 =>
 zA (zB t136 11) fun s149 =>
 zA (zB t136 12) fun s150 =>
 zA (zB t136 13) fun s151 =>
 zA (zB t136 14) fun s152 =>
 zA (zB t136 15) fun s153 =>
 zA (zB t136 16) fun s154 =>
 zA (zB t136 17) fun s155 =>
 zA (zB t136 18) fun s156 =>
 onW w137 fun d157 u158 h159 n160 =>
 k19 (wS s138 s139 s140 s141 (.bool s142) s143 s144 s145 s146 s147 s148 s149 s150 s151 s152 s153 s154 s155 s156) (W.mk d157 u158 h159 n160))) (fun t161 w162 =>
 zA (zB t161 0) fun s163 =>
 zA (zB t161 1) fun s164 =>
 zA (zB t161 2) fun s165 =>
 zA (zB t161 3) fun s166 =>
 rtB (zB t161 4) fun s167 =>
 zA (zB t161 5) fun s168 =>
 zA (zB t161 6) fun s169 =>
 zA (zB t161 7) fun s170 =>
 zA (zB t161 8) fun s171 =>
 zA (zB t161 9) fun s172 =>
 zA (zB t161 10) fun s173 =>
 zA (zB t161 11) fun s174 =>
 zA (zB t161 12) fun s175 =>
 zA (zB t161 13) fun s176 =>
 zA (zB t161 14) fun s177 =>
 zA (zB t161 15) fun s178 =>
 zA (zB t161 16) fun s179 =>
 zA (zB t161 17) fun s180 =>
 zA (zB t161 18) fun s181 =>
 onW w162 fun d182 u183 h184 n185 =>
 k16 (wS s163 s164 s165 s166 (.bool s167) s168 s169 s170 s171 s172 s173 s174 s175 s176 s177 s178 s179 s180 s181) (W.mk d182 u183 h184 n185))) (fun t186 w187 =>
 zA (zB t186 0) fun s188 =>
 zA (zB t186 1) fun s189 =>
 zA (zB t186 2) fun s190 =>
 zA (zB t186 3) fun s191 =>
 rtB (zB t186 4) fun s192 =>
 zA (zB t186 5) fun s193 =>
 zA (zB t186 6) fun s194 =>
 zA (zB t186 7) fun s195 =>
 zA (zB t186 8) fun s196 =>
 zA (zB t186 9) fun s197 =>
 zA (zB t186 10) fun s198 =>
 zA (zB t186 11) fun s199 =>
 zA (zB t186 12) fun s200 =>
 zA (zB t186 13) fun s201 =>
 zA (zB t186 14) fun s202 =>
 zA (zB t186 15) fun s203 =>
 zA (zB t186 16) fun s204 =>
 zA (zB t186 17) fun s205 =>
 zA (zB t186 18) fun s206 =>
 onW w187 fun d207 u208 h209 n210 =>
 k13 (wS s188 s189 s190 s191 (.bool s192) s193 s194 s195 s196 s197 s198 s199 s200 s201 s202 s203 s204 s205 s206) (W.mk d207 u208 h209 n210))) (fun t211 w212 =>
 zA (zB t211 0) fun s213 =>
 zA (zB t211 1) fun s214 =>
 zA (zB t211 2) fun s215 =>
 zA (zB t211 3) fun s216 =>
 rtB (zB t211 4) fun s217 =>
 zA (zB t211 5) fun s218 =>
 zA (zB t211 6) fun s219 =>
 zA (zB t211 7) fun s220 =>
 zA (zB t211 8) fun s221 =>
 zA (zB t211 9) fun s222 =>
 zA (zB t211 10) fun s223 =>
 zA (zB t211 11) fun s224 =>
 zA (zB t211 12) fun s225 =>
 zA (zB t211 13) fun s226 =>
 zA (zB t211 14) fun s227 =>
 zA (zB t211 15) fun s228 =>
 zA (zB t211 16) fun s229 =>
 zA (zB t211 17) fun s230 =>
 zA (zB t211 18) fun s231 =>
 onW w212 fun d232 u233 h234 n235 =>
 k10 (wS s213 s214 s215 s216 (.bool s217) s218 s219 s220 s221 s222 s223 s224 s225 s226 s227 s228 s229 s230 s231) (W.mk d232 u233 h234 n235))) (fun t236 w237 =>
 zA (zB t236 0) fun s238 =>
 zA (zB t236 1) fun s239 =>
 zA (zB t236 2) fun s240 =>
 zA (zB t236 3) fun s241 =>
 rtB (zB t236 4) fun s242 =>
 zA (zB t236 5) fun s243 =>
 zA (zB t236 6) fun s244 =>
 zA (zB t236 7) fun s245 =>
 zA (zB t236 8) fun s246 =>
 zA (zB t236 9) fun s247 =>
 zA (zB t236 10) fun s248 =>
 zA (zB t236 11) fun s249 =>
 zA (zB t236 12) fun s250 =>
 zA (zB t236 13) fun s251 =>
 zA (zB t236 14) fun s252 =>
 zA (zB t236 15) fun s253 =>
 zA (zB t236 16) fun s254 =>
 zA (zB t236 17) fun s255 =>
 zA (zB t236 18) fun s256 =>
 onW w237 fun d257 u258 h259 n260 =>
 k7 (wS s238 s239 s240 s241 (.bool s242) s243 s244 s245 s246 s247 s248 s249 s250 s251 s252 s253 s254 s255 s256) (W.mk d257 u258 h259 n260))) (fun t261 w262 =>
 zA (zB t261 0) fun s263 =>
 zA (zB t261 1) fun s264 =>
 zA (zB t261 2) fun s265 =>
 zA (zB t261 3) fun s266 =>
 rtB (zB t261 4) fun s267 =>
 zA (zB t261 5) fun s268 =>
 zA (zB t261 6) fun s269 =>
 zA (zB t261 7) fun s270 =>
 zA (zB t261 8) fun s271 =>
 zA (zB t261 9) fun s272 =>
 zA (zB t261 10) fun s273 =>
 zA (zB t261 11) fun s274 =>
 zA (zB t261 12) fun s275 =>
 zA (zB t261 13) fun s276 =>
 zA (zB t261 14) fun s277 =>
 zA (zB t261 15) fun s278 =>
 zA (zB t261 16) fun s279 =>
 zA (zB t261 17) fun s280 =>
 zA (zB t261 18) fun s281 =>
 onW w262 fun d282 u283 h284 n285 =>
 k4 (wS s263 s264 s265 s266 (.bool s267) s268 s269 s270 s271 s272 s273 s274 s275 s276 s277 s278 s279 s280 s281) (W.mk d282 u283 h284 n285))) (fun t286 w287 =>
 zA (zB t286 0) fun s288 =>
 zA (zB t286 1) fun s289 =>
 zA (zB t286 2) fun s290 =>
 zA (zB t286 3) fun s291 =>
 rtB (zB t286 4) fun s292 =>
 zA (zB t286 5) fun s293 =>
 zA (zB t286 6) fun s294 =>
 zA (zB t286 7) fun s295 =>
 zA (zB t286 8) fun s296 =>
 zA (zB t286 9) fun s297 =>
 zA (zB t286 10) fun s298 =>
 zA (zB t286 11) fun s299 =>
 zA (zB t286 12) fun s300 =>
 zA (zB t286 13) fun s301 =>
 zA (zB t286 14) fun s302 =>
 zA (zB t286 15) fun s303 =>
 zA (zB t286 16) fun s304 =>
 zA (zB t286 17) fun s305 =>
 zA (zB t286 18) fun s306 =>
 onW w287 fun d307 u308 h309 n310 =>
 br s292 (
 zD P L 171 k .ret (wS s288 s289 (.int .i64 2) s291 (.bool s292) s293 s294 s295 s296 s297 s298 s299 s300 s301 s302 s303 s304 s305 s306) (W.mk d307 u308 h309 n310)) (
 zK yO P .eql 9 true s291 (.string (ByteArray.mk #[110, 111, 116])) fun a311 =>
 br a311 (
 zD P L 171 k .ret (wS s288 s289 (.int .i64 1) s291 (.bool s292) s293 s294 s295 s296 s297 s298 s299 s300 s301 s302 s303 s304 (.bool a311) (.bool a311)) (W.mk d307 u308 h309 n310)) (
 k1 (wS s288 s289 s290 s291 (.bool s292) s293 s294 s295 s296 s297 s298 s299 s300 s301 s302 s303 s304 (.bool a311) (.bool a311)) (W.mk d307 u308 h309 n310))))) (fun t312 w313 =>
 zA (zB t312 0) fun s314 =>
 zA (zB t312 1) fun s315 =>
 zA (zB t312 2) fun s316 =>
 zA (zB t312 3) fun s317 =>
 zA (zB t312 4) fun s318 =>
 zA (zB t312 5) fun s319 =>
 zA (zB t312 6) fun s320 =>
 zA (zB t312 7) fun s321 =>
 zA (zB t312 8) fun s322 =>
 zA (zB t312 9) fun s323 =>
 zA (zB t312 10) fun s324 =>
 zA (zB t312 11) fun s325 =>
 zA (zB t312 12) fun s326 =>
 zA (zB t312 13) fun s327 =>
 zA (zB t312 14) fun s328 =>
 zA (zB t312 15) fun s329 =>
 zA (zB t312 16) fun s330 =>
 zA (zB t312 17) fun s331 =>
 zA (zB t312 18) fun s332 =>
 onW w313 fun d333 u334 h335 n336 =>
 zD P L 171 k .ret (wS s314 s315 (.int .i64 0) s317 s318 s319 s320 s321 s322 s323 s324 s325 s326 s327 s328 s329 s330 s331 s332) (W.mk d333 u334 h335 n336))
theorem F171_eq (L : Lo) (lp : LP) (p0 : Value) (df : Bool) (u : Option zF) (h : zE) (n : Nat) (k : KO) : zY P hint171 L lp 171 [p0] df u h n k = F171 L lp p0 df u h n k := by kernel_rfl
theorem l171 : zL P 171 = true := by kernel_rfl
noncomputable def eF171 : EntF P 8 := xL zG mixed 171 l171 F171 F171_eq
noncomputable def tF : Tr (Option (EntF P 8)) := (.nD (.nD (.nD (.nD (.nD (.nD .lF none (.nD .lF (some eF95) .lF)) none (.nD (.nD (.nD .lF (some eF143) .lF) (some eF79) .lF) (some eF47) (.nD (.nD .lF (some eF175) .lF) (some eF111) .lF))) none (.nD (.nD .lF (some eF39) (.nD (.nD .lF (some eF167) .lF) (some eF103) .lF)) none (.nD (.nD .lF (some eF87) .lF) none .lF))) none (.nD (.nD (.nD .lF none (.nD .lF (some eF99) .lF)) none (.nD (.nD (.nD .lF (some eF147) .lF) (some eF83) .lF) none .lF)) none (.nD (.nD (.nD (.nD .lF (some eF139) .lF) (some eF75) .lF) none (.nD (.nD .lF (some eF171) .lF) none .lF)) none (.nD (.nD .lF (some eF91) .lF) none (.nD (.nD .lF (some eF187) .lF) none .lF))))) none (.nD (.nD (.nD (.nD .lF (some eF33) .lF) none (.nD (.nD (.nD .lF (some eF145) .lF) none .lF) (some eF49) .lF)) none (.nD (.nD (.nD (.nD .lF (some eF137) .lF) none .lF) (some eF41) .lF) none (.nD (.nD .lF (some eF89) .lF) none .lF))) none (.nD (.nD (.nD .lF none (.nD (.nD .lF (some eF165) .lF) (some eF101) .lF)) none (.nD (.nD (.nD .lF (some eF149) .lF) none .lF) (some eF53) .lF)) none (.nD (.nD (.nD .lF (some eF77) .lF) none (.nD (.nD .lF (some eF173) .lF) none .lF)) none (.nD .lF none (.nD (.nD .lF (some eF189) .lF) none .lF)))))) none (.nD (.nD (.nD (.nD (.nD (.nD .lF none (.nD .lF (some eF192) .lF)) none (.nD .lF (some eF96) .lF)) none (.nD (.nD (.nD .lF (some eF144) .lF) (some eF80) .lF) (some eF48) (.nD (.nD .lF (some eF176) .lF) none .lF))) none (.nD (.nD (.nD (.nD .lF (some eF136) .lF) none .lF) (some eF40) (.nD .lF (some eF104) .lF)) none (.nD (.nD (.nD .lF (some eF152) .lF) (some eF88) .lF) none .lF))) none (.nD (.nD (.nD (.nD (.nD .lF (some eF132) .lF) none .lF) (some eF36) (.nD (.nD .lF (some eF164) .lF) none .lF)) none .lF) (some eF12) (.nD (.nD (.nD (.nD .lF (some eF140) .lF) (some eF76) .lF) none (.nD (.nD .lF (some eF172) .lF) none .lF)) none (.nD (.nD .lF (some eF92) .lF) none (.nD (.nD .lF (some eF188) .lF) none .lF))))) none (.nD (.nD (.nD (.nD .lF (some eF34) .lF) none (.nD (.nD (.nD .lF (some eF146) .lF) none .lF) none (.nD (.nD .lF (some eF178) .lF) none .lF))) (some eF10) (.nD (.nD .lF (some eF42) (.nD (.nD .lF (some eF170) .lF) none .lF)) none (.nD .lF (some eF58) .lF))) none (.nD (.nD (.nD (.nD (.nD .lF (some eF134) .lF) none .lF) (some eF38) (.nD (.nD .lF (some eF166) .lF) (some eF102) .lF)) none (.nD (.nD .lF (some eF86) .lF) none .lF)) none (.nD (.nD (.nD .lF (some eF78) .lF) (some eF46) (.nD .lF (some eF110) .lF)) none (.nD (.nD .lF (some eF94) .lF) none .lF))))))
noncomputable def tL : Tr (List (EntL P 8)) := (.nD (.nD (.nD (.nD (.nD .lF [] (.nD .lF [] (.nD (.nD .lF [eL175_1000004] .lF) [] .lF))) [] .lF) [] (.nD .lF [] (.nD .lF [] (.nD (.nD .lF [eL91_1000002, eL91_1000008] .lF) [] .lF)))) [] (.nD (.nD (.nD .lF [] (.nD (.nD (.nD .lF [eL145_1000003] .lF) [] .lF) [eL49_1000005] .lF)) [] (.nD (.nD (.nD (.nD .lF [eL137_1000001] .lF) [] .lF) [] .lF) [] .lF)) [] (.nD (.nD (.nD .lF [] (.nD .lF [eL101_1000004] .lF)) [] (.nD (.nD (.nD .lF [eL149_1000003] .lF) [] .lF) [] .lF)) [] (.nD .lF [] (.nD .lF [] (.nD (.nD .lF [eL189_1000004] .lF) [] .lF)))))) [] (.nD (.nD (.nD (.nD .lF [] (.nD (.nD (.nD .lF [eL144_1000002] .lF) [] .lF) [] .lF)) [] (.nD (.nD .lF [] (.nD .lF [eL104_1000003] .lF)) [] .lF)) [] (.nD (.nD (.nD (.nD (.nD .lF [eL132_1000002] .lF) [] .lF) [] .lF) [] .lF) [] (.nD (.nD (.nD .lF [eL76_1000003] .lF) [] (.nD (.nD .lF [eL172_1000002] .lF) [] .lF)) [] .lF))) [] (.nD (.nD (.nD .lF [] (.nD (.nD (.nD .lF [eL146_1000002] .lF) [] .lF) [] (.nD (.nD .lF [eL178_1000002] .lF) [] .lF))) [] (.nD (.nD .lF [] (.nD (.nD .lF [eL170_1000002] .lF) [] .lF)) [] (.nD .lF [eL58_1000004] .lF))) [] (.nD (.nD (.nD .lF [eL38_1000002] .lF) [] .lF) [] (.nD (.nD (.nD .lF [eL78_1000003] .lF) [eL46_1000003] .lF) [] .lF)))))
open Go.Ex Go.RowKit
def tabs : List (Nat × List Value) := [(1, powL)]
theorem tabs_ok : tabsOK 8 tabs = true := by kernel_rfl
noncomputable def two0 : Two := runYH P hkLib tF tL 1000000
theorem two0_ok : Sound P 8 two0.lo := (runYH_ok zG mixed hkLib_ok tF tL 1000000).1
def nm0 : List UInt8 := [120, 56, 54]
def tx0 : List UInt8 := [109, 97, 99, 104, 105, 110, 101, 32, 120, 56, 54, 32, 123, 10, 32, 32, 114, 101, 103, 32, 114, 97, 120, 32, 54, 52, 32, 123, 10, 32, 32, 32, 32, 114, 101, 103, 32, 101, 97, 120, 32, 51, 50, 32, 97, 116, 32, 48, 32, 123, 10, 32, 32, 32, 32, 32, 32, 114, 101, 103, 32, 97, 120, 32, 49, 54, 32, 97, 116, 32, 48, 32, 123, 10, 32, 32, 32, 32, 32, 32, 32, 32, 114, 101, 103, 32, 97, 108, 32, 56, 32, 97, 116, 32, 48, 10, 32, 32, 32, 32, 32, 32, 32, 32, 114, 101, 103, 32, 97, 104, 32, 56, 32, 97, 116, 32, 56, 10, 32, 32, 32, 32, 32, 32, 125, 10, 32, 32, 32, 32, 125, 10, 32, 32, 125, 10, 32, 32, 114, 101, 103, 32, 114, 99, 120, 32, 54, 52, 32, 123, 10, 32, 32, 32, 32, 114, 101, 103, 32, 101, 99, 120, 32, 51, 50, 32, 97, 116, 32, 48, 32, 123, 10, 32, 32, 32, 32, 32, 32, 114, 101, 103, 32, 99, 120, 32, 49, 54, 32, 97, 116, 32, 48, 32, 123, 10, 32, 32, 32, 32, 32, 32, 32, 32, 114, 101, 103, 32, 99, 108, 32, 56, 32, 97, 116, 32, 48, 10, 32, 32, 32, 32, 32, 32, 32, 32, 114, 101, 103, 32, 99, 104, 32, 56, 32, 97, 116, 32, 56, 10, 32, 32, 32, 32, 32, 32, 125, 10, 32, 32, 32, 32, 125, 10, 32, 32, 125, 10, 32, 32, 114, 101, 103, 32, 114, 100, 120, 32, 54, 52, 32, 123, 10, 32, 32, 32, 32, 114, 101, 103, 32, 101, 100, 120, 32, 51, 50, 32, 97, 116, 32, 48, 32, 123, 10, 32, 32, 32, 32, 32, 32, 114, 101, 103, 32, 100, 120, 32, 49, 54, 32, 97, 116, 32, 48, 32, 123, 10, 32, 32, 32, 32, 32, 32, 32, 32, 114, 101, 103, 32, 100, 108, 32, 56, 32, 97, 116, 32, 48, 10, 32, 32, 32, 32, 32, 32, 32, 32, 114, 101, 103, 32, 100, 104, 32, 56, 32, 97, 116, 32, 56, 10, 32, 32, 32, 32, 32, 32, 125, 10, 32, 32, 32, 32, 125, 10, 32, 32, 125, 10, 32, 32, 114, 101, 103, 32, 114, 98, 120, 32, 54, 52, 32, 123, 10, 32, 32, 32, 32, 114, 101, 103, 32, 101, 98, 120, 32, 51, 50, 32, 97, 116, 32, 48, 32, 123, 10, 32, 32, 32, 32, 32, 32, 114, 101, 103, 32, 98, 120, 32, 49, 54, 32, 97, 116, 32, 48, 32, 123, 10, 32, 32, 32, 32, 32, 32, 32, 32, 114, 101, 103, 32, 98, 108, 32, 56, 32, 97, 116, 32, 48, 10, 32, 32, 32, 32, 32, 32, 32, 32, 114, 101, 103, 32, 98, 104, 32, 56, 32, 97, 116, 32, 56, 10, 32, 32, 32, 32, 32, 32, 125, 10, 32, 32, 32, 32, 125, 10, 32, 32, 125, 10, 32, 32, 114, 101, 103, 32, 114, 115, 105, 32, 54, 52, 32, 123, 10, 32, 32, 32, 32, 114, 101, 103, 32, 101, 115, 105, 32, 51, 50, 32, 97, 116, 32, 48, 32, 123, 10, 32, 32, 32, 32, 32, 32, 114, 101, 103, 32, 115, 105, 32, 49, 54, 32, 97, 116, 32, 48, 32, 123, 10, 32, 32, 32, 32, 32, 32, 32, 32, 114, 101, 103, 32, 115, 105, 108, 32, 56, 32, 97, 116, 32, 48, 10, 32, 32, 32, 32, 32, 32, 125, 10, 32, 32, 32, 32, 125, 10, 32, 32, 125, 10, 32, 32, 114, 101, 103, 32, 114, 100, 105, 32, 54, 52, 32, 123, 10, 32, 32, 32, 32, 114, 101, 103, 32, 101, 100, 105, 32, 51, 50, 32, 97, 116, 32, 48, 32, 123, 10, 32, 32, 32, 32, 32, 32, 114, 101, 103, 32, 100, 105, 32, 49, 54, 32, 97, 116, 32, 48, 32, 123, 10, 32, 32, 32, 32, 32, 32, 32, 32, 114, 101, 103, 32, 100, 105, 108, 32, 56, 32, 97, 116, 32, 48, 10, 32, 32, 32, 32, 32, 32, 125, 10, 32, 32, 32, 32, 125, 10, 32, 32, 125, 10, 32, 32, 114, 101, 103, 32, 114, 98, 112, 32, 54, 52, 32, 123, 10, 32, 32, 32, 32, 114, 101, 103, 32, 101, 98, 112, 32, 51, 50, 32, 97, 116, 32, 48, 32, 123, 10, 32, 32, 32, 32, 32, 32, 114, 101, 103, 32, 98, 112, 32, 49, 54, 32, 97, 116, 32, 48, 32, 123, 10, 32, 32, 32, 32, 32, 32, 32, 32, 114, 101, 103, 32, 98, 112, 108, 32, 56, 32, 97, 116, 32, 48, 10, 32, 32, 32, 32, 32, 32, 125, 10, 32, 32, 32, 32, 125, 10, 32, 32, 125, 10, 32, 32, 114, 101, 103, 32, 114, 56, 32, 54, 52, 32, 123, 10, 32, 32, 32, 32, 114, 101, 103, 32, 114, 56, 100, 32, 51, 50, 32, 97, 116, 32, 48, 32, 123, 10, 32, 32, 32, 32, 32, 32, 114, 101, 103, 32, 114, 56, 119, 32, 49, 54, 32, 97, 116, 32, 48, 32, 123, 10, 32, 32, 32, 32, 32, 32, 32, 32, 114, 101, 103, 32, 114, 56, 98, 32, 56, 32, 97, 116, 32, 48, 10, 32, 32, 32, 32, 32, 32, 125, 10, 32, 32, 32, 32, 125, 10, 32, 32, 125, 10, 32, 32, 114, 101, 103, 32, 114, 57, 32, 54, 52, 32, 123, 10, 32, 32, 32, 32, 114, 101, 103, 32, 114, 57, 100, 32, 51, 50, 32, 97, 116, 32, 48, 32, 123, 10, 32, 32, 32, 32, 32, 32, 114, 101, 103, 32, 114, 57, 119, 32, 49, 54, 32, 97, 116, 32, 48, 32, 123, 10, 32, 32, 32, 32, 32, 32, 32, 32, 114, 101, 103, 32, 114, 57, 98, 32, 56, 32, 97, 116, 32, 48, 10, 32, 32, 32, 32, 32, 32, 125, 10, 32, 32, 32, 32, 125, 10, 32, 32, 125, 10, 32, 32, 114, 101, 103, 32, 114, 49, 48, 32, 54, 52, 32, 123, 10, 32, 32, 32, 32, 114, 101, 103, 32, 114, 49, 48, 100, 32, 51, 50, 32, 97, 116, 32, 48, 32, 123, 10, 32, 32, 32, 32, 32, 32, 114, 101, 103, 32, 114, 49, 48, 119, 32, 49, 54, 32, 97, 116, 32, 48, 32, 123, 10, 32, 32, 32, 32, 32, 32, 32, 32, 114, 101, 103, 32, 114, 49, 48, 98, 32, 56, 32, 97, 116, 32, 48, 10, 32, 32, 32, 32, 32, 32, 125, 10, 32, 32, 32, 32, 125, 10, 32, 32, 125, 10, 32, 32, 114, 101, 103, 32, 114, 49, 49, 32, 54, 52, 32, 123, 10, 32, 32, 32, 32, 114, 101, 103, 32, 114, 49, 49, 100, 32, 51, 50, 32, 97, 116, 32, 48, 32, 123, 10, 32, 32, 32, 32, 32, 32, 114, 101, 103, 32, 114, 49, 49, 119, 32, 49, 54, 32, 97, 116, 32, 48, 32, 123, 10, 32, 32, 32, 32, 32, 32, 32, 32, 114, 101, 103, 32, 114, 49, 49, 98, 32, 56, 32, 97, 116, 32, 48, 10, 32, 32, 32, 32, 32, 32, 125, 10, 32, 32, 32, 32, 125, 10, 32, 32, 125, 10, 32, 32, 114, 101, 103, 32, 114, 49, 50, 32, 54, 52, 32, 123, 10, 32, 32, 32, 32, 114, 101, 103, 32, 114, 49, 50, 100, 32, 51, 50, 32, 97, 116, 32, 48, 32, 123, 10, 32, 32, 32, 32, 32, 32, 114, 101, 103, 32, 114, 49, 50, 119, 32, 49, 54, 32, 97, 116, 32, 48, 32, 123, 10, 32, 32, 32, 32, 32, 32, 32, 32, 114, 101, 103, 32, 114, 49, 50, 98, 32, 56, 32, 97, 116, 32, 48, 10, 32, 32, 32, 32, 32, 32, 125, 10, 32, 32, 32, 32, 125, 10, 32, 32, 125, 10, 32, 32, 114, 101, 103, 32, 114, 49, 51, 32, 54, 52, 32, 123, 10, 32, 32, 32, 32, 114, 101, 103, 32, 114, 49, 51, 100, 32, 51, 50, 32, 97, 116, 32, 48, 32, 123, 10, 32, 32, 32, 32, 32, 32, 114, 101, 103, 32, 114, 49, 51, 119, 32, 49, 54, 32, 97, 116, 32, 48, 32, 123, 10, 32, 32, 32, 32, 32, 32, 32, 32, 114, 101, 103, 32, 114, 49, 51, 98, 32, 56, 32, 97, 116, 32, 48, 10, 32, 32, 32, 32, 32, 32, 125, 10, 32, 32, 32, 32, 125, 10, 32, 32, 125, 10, 32, 32, 114, 101, 103, 32, 114, 49, 52, 32, 54, 52, 32, 123, 10, 32, 32, 32, 32, 114, 101, 103, 32, 114, 49, 52, 100, 32, 51, 50, 32, 97, 116, 32, 48, 32, 123, 10, 32, 32, 32, 32, 32, 32, 114, 101, 103, 32, 114, 49, 52, 119, 32, 49, 54, 32, 97, 116, 32, 48, 32, 123, 10, 32, 32, 32, 32, 32, 32, 32, 32, 114, 101, 103, 32, 114, 49, 52, 98, 32, 56, 32, 97, 116, 32, 48, 10, 32, 32, 32, 32, 32, 32, 125, 10, 32, 32, 32, 32, 125, 10, 32, 32, 125, 10, 32, 32, 114, 101, 103, 32, 114, 49, 53, 32, 54, 52, 32, 123, 10, 32, 32, 32, 32, 114, 101, 103, 32, 114, 49, 53, 100, 32, 51, 50, 32, 97, 116, 32, 48, 32, 123, 10, 32, 32, 32, 32, 32, 32, 114, 101, 103, 32, 114, 49, 53, 119, 32, 49, 54, 32, 97, 116, 32, 48, 32, 123, 10, 32, 32, 32, 32, 32, 32, 32, 32, 114, 101, 103, 32, 114, 49, 53, 98, 32, 56, 32, 97, 116, 32, 48, 10, 32, 32, 32, 32, 32, 32, 125, 10, 32, 32, 32, 32, 125, 10, 32, 32, 125, 10, 32, 32, 99, 108, 97, 115, 115, 32, 103, 32, 61, 32, 114, 97, 120, 32, 114, 99, 120, 32, 114, 100, 120, 32, 114, 98, 120, 32, 114, 115, 105, 32, 114, 100, 105, 32, 114, 98, 112, 32, 114, 56, 32, 114, 57, 32, 114, 49, 48, 32, 114, 49, 49, 32, 114, 49, 50, 32, 114, 49, 51, 32, 114, 49, 52, 32, 114, 49, 53, 10, 32, 32, 99, 108, 97, 115, 115, 32, 100, 32, 61, 32, 101, 97, 120, 32, 101, 99, 120, 32, 101, 100, 120, 32, 101, 98, 120, 32, 101, 115, 105, 32, 101, 100, 105, 32, 101, 98, 112, 32, 114, 56, 100, 32, 114, 57, 100, 32, 114, 49, 48, 100, 32, 114, 49, 49, 100, 32, 114, 49, 50, 100, 32, 114, 49, 51, 100, 32, 114, 49, 52, 100, 32, 114, 49, 53, 100, 10, 32, 32, 99, 108, 97, 115, 115, 32, 98, 32, 61, 32, 97, 108, 32, 97, 104, 32, 99, 108, 32, 99, 104, 32, 100, 108, 32, 100, 104, 32, 98, 108, 32, 98, 104, 10, 32, 32, 111, 112, 32, 97, 100, 100, 32, 103, 32, 61, 32, 103, 32, 103, 32, 116, 105, 101, 32, 48, 10, 32, 32, 111, 112, 32, 115, 117, 98, 32, 103, 32, 61, 32, 103, 32, 103, 32, 116, 105, 101, 32, 48, 10, 32, 32, 111, 112, 32, 109, 117, 108, 32, 103, 32, 61, 32, 103, 32, 103, 32, 116, 105, 101, 32, 48, 10, 32, 32, 111, 112, 32, 97, 110, 100, 32, 103, 32, 61, 32, 103, 32, 103, 32, 116, 105, 101, 32, 48, 10, 32, 32, 111, 112, 32, 111, 114, 32, 103, 32, 61, 32, 103, 32, 103, 32, 116, 105, 101, 32, 48, 10, 32, 32, 111, 112, 32, 120, 111, 114, 32, 103, 32, 61, 32, 103, 32, 103, 32, 116, 105, 101, 32, 48, 10, 32, 32, 111, 112, 32, 115, 104, 108, 32, 103, 32, 61, 32, 103, 32, 103, 58, 114, 99, 120, 32, 116, 105, 101, 32, 48, 10, 32, 32, 111, 112, 32, 115, 104, 114, 32, 103, 32, 61, 32, 103, 32, 103, 58, 114, 99, 120, 32, 116, 105, 101, 32, 48, 10, 32, 32, 111, 112, 32, 100, 105, 118, 32, 103, 58, 114, 97, 120, 32, 61, 32, 103, 58, 114, 97, 120, 32, 103, 32, 116, 105, 101, 32, 48, 32, 99, 108, 111, 98, 32, 114, 100, 120, 10, 32, 32, 111, 112, 32, 114, 101, 109, 32, 103, 58, 114, 100, 120, 32, 61, 32, 103, 58, 114, 100, 120, 32, 103, 32, 116, 105, 101, 32, 48, 32, 99, 108, 111, 98, 32, 114, 97, 120, 10, 32, 32, 111, 112, 32, 108, 116, 32, 103, 32, 61, 32, 103, 32, 103, 10, 32, 32, 111, 112, 32, 101, 113, 32, 103, 32, 61, 32, 103, 32, 103, 10, 32, 32, 111, 112, 32, 110, 111, 116, 32, 103, 32, 61, 32, 103, 10, 32, 32, 97, 114, 103, 115, 32, 114, 100, 105, 32, 114, 115, 105, 32, 114, 100, 120, 32, 114, 99, 120, 32, 114, 56, 32, 114, 57, 10, 32, 32, 114, 101, 115, 117, 108, 116, 32, 114, 97, 120, 10, 32, 32, 115, 97, 118, 101, 100, 32, 114, 98, 120, 32, 114, 98, 112, 32, 114, 49, 50, 32, 114, 49, 51, 32, 114, 49, 52, 32, 114, 49, 53, 10, 32, 32, 115, 108, 111, 116, 115, 32, 49, 48, 48, 48, 10, 125, 10]
def nm1 : List UInt8 := [97, 114, 109]
def tx1 : List UInt8 := [109, 97, 99, 104, 105, 110, 101, 32, 97, 114, 109, 32, 123, 10, 32, 32, 114, 101, 103, 32, 120, 48, 32, 54, 52, 32, 123, 10, 32, 32, 32, 32, 114, 101, 103, 32, 119, 48, 32, 51, 50, 32, 97, 116, 32, 48, 10, 32, 32, 125, 10, 32, 32, 114, 101, 103, 32, 120, 49, 32, 54, 52, 32, 123, 10, 32, 32, 32, 32, 114, 101, 103, 32, 119, 49, 32, 51, 50, 32, 97, 116, 32, 48, 10, 32, 32, 125, 10, 32, 32, 114, 101, 103, 32, 120, 50, 32, 54, 52, 32, 123, 10, 32, 32, 32, 32, 114, 101, 103, 32, 119, 50, 32, 51, 50, 32, 97, 116, 32, 48, 10, 32, 32, 125, 10, 32, 32, 114, 101, 103, 32, 120, 51, 32, 54, 52, 32, 123, 10, 32, 32, 32, 32, 114, 101, 103, 32, 119, 51, 32, 51, 50, 32, 97, 116, 32, 48, 10, 32, 32, 125, 10, 32, 32, 114, 101, 103, 32, 120, 52, 32, 54, 52, 32, 123, 10, 32, 32, 32, 32, 114, 101, 103, 32, 119, 52, 32, 51, 50, 32, 97, 116, 32, 48, 10, 32, 32, 125, 10, 32, 32, 114, 101, 103, 32, 120, 53, 32, 54, 52, 32, 123, 10, 32, 32, 32, 32, 114, 101, 103, 32, 119, 53, 32, 51, 50, 32, 97, 116, 32, 48, 10, 32, 32, 125, 10, 32, 32, 114, 101, 103, 32, 120, 54, 32, 54, 52, 32, 123, 10, 32, 32, 32, 32, 114, 101, 103, 32, 119, 54, 32, 51, 50, 32, 97, 116, 32, 48, 10, 32, 32, 125, 10, 32, 32, 114, 101, 103, 32, 120, 55, 32, 54, 52, 32, 123, 10, 32, 32, 32, 32, 114, 101, 103, 32, 119, 55, 32, 51, 50, 32, 97, 116, 32, 48, 10, 32, 32, 125, 10, 32, 32, 114, 101, 103, 32, 120, 56, 32, 54, 52, 32, 123, 10, 32, 32, 32, 32, 114, 101, 103, 32, 119, 56, 32, 51, 50, 32, 97, 116, 32, 48, 10, 32, 32, 125, 10, 32, 32, 114, 101, 103, 32, 120, 57, 32, 54, 52, 32, 123, 10, 32, 32, 32, 32, 114, 101, 103, 32, 119, 57, 32, 51, 50, 32, 97, 116, 32, 48, 10, 32, 32, 125, 10, 32, 32, 114, 101, 103, 32, 120, 49, 48, 32, 54, 52, 32, 123, 10, 32, 32, 32, 32, 114, 101, 103, 32, 119, 49, 48, 32, 51, 50, 32, 97, 116, 32, 48, 10, 32, 32, 125, 10, 32, 32, 114, 101, 103, 32, 120, 49, 49, 32, 54, 52, 32, 123, 10, 32, 32, 32, 32, 114, 101, 103, 32, 119, 49, 49, 32, 51, 50, 32, 97, 116, 32, 48, 10, 32, 32, 125, 10, 32, 32, 114, 101, 103, 32, 120, 49, 50, 32, 54, 52, 32, 123, 10, 32, 32, 32, 32, 114, 101, 103, 32, 119, 49, 50, 32, 51, 50, 32, 97, 116, 32, 48, 10, 32, 32, 125, 10, 32, 32, 114, 101, 103, 32, 120, 49, 51, 32, 54, 52, 32, 123, 10, 32, 32, 32, 32, 114, 101, 103, 32, 119, 49, 51, 32, 51, 50, 32, 97, 116, 32, 48, 10, 32, 32, 125, 10, 32, 32, 114, 101, 103, 32, 120, 49, 52, 32, 54, 52, 32, 123, 10, 32, 32, 32, 32, 114, 101, 103, 32, 119, 49, 52, 32, 51, 50, 32, 97, 116, 32, 48, 10, 32, 32, 125, 10, 32, 32, 114, 101, 103, 32, 120, 49, 53, 32, 54, 52, 32, 123, 10, 32, 32, 32, 32, 114, 101, 103, 32, 119, 49, 53, 32, 51, 50, 32, 97, 116, 32, 48, 10, 32, 32, 125, 10, 32, 32, 114, 101, 103, 32, 120, 49, 54, 32, 54, 52, 32, 123, 10, 32, 32, 32, 32, 114, 101, 103, 32, 119, 49, 54, 32, 51, 50, 32, 97, 116, 32, 48, 10, 32, 32, 125, 10, 32, 32, 114, 101, 103, 32, 120, 49, 55, 32, 54, 52, 32, 123, 10, 32, 32, 32, 32, 114, 101, 103, 32, 119, 49, 55, 32, 51, 50, 32, 97, 116, 32, 48, 10, 32, 32, 125, 10, 32, 32, 114, 101, 103, 32, 120, 49, 56, 32, 54, 52, 32, 123, 10, 32, 32, 32, 32, 114, 101, 103, 32, 119, 49, 56, 32, 51, 50, 32, 97, 116, 32, 48, 10, 32, 32, 125, 10, 32, 32, 114, 101, 103, 32, 120, 49, 57, 32, 54, 52, 32, 123, 10, 32, 32, 32, 32, 114, 101, 103, 32, 119, 49, 57, 32, 51, 50, 32, 97, 116, 32, 48, 10, 32, 32, 125, 10, 32, 32, 114, 101, 103, 32, 120, 50, 48, 32, 54, 52, 32, 123, 10, 32, 32, 32, 32, 114, 101, 103, 32, 119, 50, 48, 32, 51, 50, 32, 97, 116, 32, 48, 10, 32, 32, 125, 10, 32, 32, 114, 101, 103, 32, 120, 50, 49, 32, 54, 52, 32, 123, 10, 32, 32, 32, 32, 114, 101, 103, 32, 119, 50, 49, 32, 51, 50, 32, 97, 116, 32, 48, 10, 32, 32, 125, 10, 32, 32, 114, 101, 103, 32, 120, 50, 50, 32, 54, 52, 32, 123, 10, 32, 32, 32, 32, 114, 101, 103, 32, 119, 50, 50, 32, 51, 50, 32, 97, 116, 32, 48, 10, 32, 32, 125, 10, 32, 32, 114, 101, 103, 32, 120, 50, 51, 32, 54, 52, 32, 123, 10, 32, 32, 32, 32, 114, 101, 103, 32, 119, 50, 51, 32, 51, 50, 32, 97, 116, 32, 48, 10, 32, 32, 125, 10, 32, 32, 114, 101, 103, 32, 120, 50, 52, 32, 54, 52, 32, 123, 10, 32, 32, 32, 32, 114, 101, 103, 32, 119, 50, 52, 32, 51, 50, 32, 97, 116, 32, 48, 10, 32, 32, 125, 10, 32, 32, 114, 101, 103, 32, 120, 50, 53, 32, 54, 52, 32, 123, 10, 32, 32, 32, 32, 114, 101, 103, 32, 119, 50, 53, 32, 51, 50, 32, 97, 116, 32, 48, 10, 32, 32, 125, 10, 32, 32, 114, 101, 103, 32, 120, 50, 54, 32, 54, 52, 32, 123, 10, 32, 32, 32, 32, 114, 101, 103, 32, 119, 50, 54, 32, 51, 50, 32, 97, 116, 32, 48, 10, 32, 32, 125, 10, 32, 32, 114, 101, 103, 32, 120, 50, 55, 32, 54, 52, 32, 123, 10, 32, 32, 32, 32, 114, 101, 103, 32, 119, 50, 55, 32, 51, 50, 32, 97, 116, 32, 48, 10, 32, 32, 125, 10, 32, 32, 114, 101, 103, 32, 120, 50, 56, 32, 54, 52, 32, 123, 10, 32, 32, 32, 32, 114, 101, 103, 32, 119, 50, 56, 32, 51, 50, 32, 97, 116, 32, 48, 10, 32, 32, 125, 10, 32, 32, 114, 101, 103, 32, 120, 50, 57, 32, 54, 52, 32, 123, 10, 32, 32, 32, 32, 114, 101, 103, 32, 119, 50, 57, 32, 51, 50, 32, 97, 116, 32, 48, 10, 32, 32, 125, 10, 32, 32, 99, 108, 97, 115, 115, 32, 103, 32, 61, 32, 120, 48, 32, 120, 49, 32, 120, 50, 32, 120, 51, 32, 120, 52, 32, 120, 53, 32, 120, 54, 32, 120, 55, 32, 120, 56, 32, 120, 57, 32, 120, 49, 48, 32, 120, 49, 49, 32, 120, 49, 50, 32, 120, 49, 51, 32, 120, 49, 52, 32, 120, 49, 53, 32, 120, 49, 54, 32, 120, 49, 55, 32, 120, 49, 56, 32, 120, 49, 57, 32, 120, 50, 48, 32, 120, 50, 49, 32, 120, 50, 50, 32, 120, 50, 51, 32, 120, 50, 52, 32, 120, 50, 53, 32, 120, 50, 54, 32, 120, 50, 55, 32, 120, 50, 56, 10, 32, 32, 99, 108, 97, 115, 115, 32, 104, 32, 61, 32, 119, 48, 32, 119, 49, 32, 119, 50, 32, 119, 51, 32, 119, 52, 32, 119, 53, 32, 119, 54, 32, 119, 55, 32, 119, 56, 32, 119, 57, 32, 119, 49, 48, 32, 119, 49, 49, 32, 119, 49, 50, 32, 119, 49, 51, 32, 119, 49, 52, 32, 119, 49, 53, 32, 119, 49, 54, 32, 119, 49, 55, 32, 119, 49, 56, 32, 119, 49, 57, 32, 119, 50, 48, 32, 119, 50, 49, 32, 119, 50, 50, 32, 119, 50, 51, 32, 119, 50, 52, 32, 119, 50, 53, 32, 119, 50, 54, 32, 119, 50, 55, 32, 119, 50, 56, 10, 32, 32, 111, 112, 32, 97, 100, 100, 32, 103, 32, 61, 32, 103, 32, 103, 10, 32, 32, 111, 112, 32, 115, 117, 98, 32, 103, 32, 61, 32, 103, 32, 103, 10, 32, 32, 111, 112, 32, 109, 117, 108, 32, 103, 32, 61, 32, 103, 32, 103, 10, 32, 32, 111, 112, 32, 97, 110, 100, 32, 103, 32, 61, 32, 103, 32, 103, 10, 32, 32, 111, 112, 32, 111, 114, 32, 103, 32, 61, 32, 103, 32, 103, 10, 32, 32, 111, 112, 32, 120, 111, 114, 32, 103, 32, 61, 32, 103, 32, 103, 10, 32, 32, 111, 112, 32, 115, 104, 108, 32, 103, 32, 61, 32, 103, 32, 103, 10, 32, 32, 111, 112, 32, 115, 104, 114, 32, 103, 32, 61, 32, 103, 32, 103, 10, 32, 32, 111, 112, 32, 100, 105, 118, 32, 103, 32, 61, 32, 103, 32, 103, 10, 32, 32, 111, 112, 32, 114, 101, 109, 32, 103, 32, 61, 32, 103, 32, 103, 10, 32, 32, 111, 112, 32, 108, 116, 32, 103, 32, 61, 32, 103, 32, 103, 10, 32, 32, 111, 112, 32, 101, 113, 32, 103, 32, 61, 32, 103, 32, 103, 10, 32, 32, 111, 112, 32, 110, 111, 116, 32, 103, 32, 61, 32, 103, 10, 32, 32, 97, 114, 103, 115, 32, 120, 48, 32, 120, 49, 32, 120, 50, 32, 120, 51, 32, 120, 52, 32, 120, 53, 32, 120, 54, 32, 120, 55, 10, 32, 32, 114, 101, 115, 117, 108, 116, 32, 120, 48, 10, 32, 32, 115, 97, 118, 101, 100, 32, 120, 49, 57, 32, 120, 50, 48, 32, 120, 50, 49, 32, 120, 50, 50, 32, 120, 50, 51, 32, 120, 50, 52, 32, 120, 50, 53, 32, 120, 50, 54, 32, 120, 50, 55, 32, 120, 50, 56, 10, 32, 32, 115, 108, 111, 116, 115, 32, 49, 48, 48, 48, 10, 125, 10]
def nm2 : List UInt8 := [114, 105, 115, 99, 118]
def tx2 : List UInt8 := [109, 97, 99, 104, 105, 110, 101, 32, 114, 105, 115, 99, 118, 32, 123, 10, 32, 32, 114, 101, 103, 32, 97, 48, 32, 54, 52, 10, 32, 32, 114, 101, 103, 32, 97, 49, 32, 54, 52, 10, 32, 32, 114, 101, 103, 32, 97, 50, 32, 54, 52, 10, 32, 32, 114, 101, 103, 32, 97, 51, 32, 54, 52, 10, 32, 32, 114, 101, 103, 32, 97, 52, 32, 54, 52, 10, 32, 32, 114, 101, 103, 32, 97, 53, 32, 54, 52, 10, 32, 32, 114, 101, 103, 32, 97, 54, 32, 54, 52, 10, 32, 32, 114, 101, 103, 32, 97, 55, 32, 54, 52, 10, 32, 32, 114, 101, 103, 32, 116, 48, 32, 54, 52, 10, 32, 32, 114, 101, 103, 32, 116, 49, 32, 54, 52, 10, 32, 32, 114, 101, 103, 32, 116, 50, 32, 54, 52, 10, 32, 32, 114, 101, 103, 32, 116, 51, 32, 54, 52, 10, 32, 32, 114, 101, 103, 32, 116, 52, 32, 54, 52, 10, 32, 32, 114, 101, 103, 32, 116, 53, 32, 54, 52, 10, 32, 32, 114, 101, 103, 32, 116, 54, 32, 54, 52, 10, 32, 32, 114, 101, 103, 32, 115, 48, 32, 54, 52, 10, 32, 32, 114, 101, 103, 32, 115, 49, 32, 54, 52, 10, 32, 32, 114, 101, 103, 32, 115, 50, 32, 54, 52, 10, 32, 32, 114, 101, 103, 32, 115, 51, 32, 54, 52, 10, 32, 32, 114, 101, 103, 32, 115, 52, 32, 54, 52, 10, 32, 32, 114, 101, 103, 32, 115, 53, 32, 54, 52, 10, 32, 32, 114, 101, 103, 32, 115, 54, 32, 54, 52, 10, 32, 32, 114, 101, 103, 32, 115, 55, 32, 54, 52, 10, 32, 32, 114, 101, 103, 32, 115, 56, 32, 54, 52, 10, 32, 32, 114, 101, 103, 32, 115, 57, 32, 54, 52, 10, 32, 32, 114, 101, 103, 32, 115, 49, 48, 32, 54, 52, 10, 32, 32, 114, 101, 103, 32, 115, 49, 49, 32, 54, 52, 10, 32, 32, 99, 108, 97, 115, 115, 32, 103, 32, 61, 32, 97, 48, 32, 97, 49, 32, 97, 50, 32, 97, 51, 32, 97, 52, 32, 97, 53, 32, 97, 54, 32, 97, 55, 32, 116, 48, 32, 116, 49, 32, 116, 50, 32, 116, 51, 32, 116, 52, 32, 116, 53, 32, 116, 54, 32, 115, 48, 32, 115, 49, 32, 115, 50, 32, 115, 51, 32, 115, 52, 32, 115, 53, 32, 115, 54, 32, 115, 55, 32, 115, 56, 32, 115, 57, 32, 115, 49, 48, 32, 115, 49, 49, 10, 32, 32, 111, 112, 32, 97, 100, 100, 32, 103, 32, 61, 32, 103, 32, 103, 10, 32, 32, 111, 112, 32, 115, 117, 98, 32, 103, 32, 61, 32, 103, 32, 103, 10, 32, 32, 111, 112, 32, 109, 117, 108, 32, 103, 32, 61, 32, 103, 32, 103, 10, 32, 32, 111, 112, 32, 97, 110, 100, 32, 103, 32, 61, 32, 103, 32, 103, 10, 32, 32, 111, 112, 32, 111, 114, 32, 103, 32, 61, 32, 103, 32, 103, 10, 32, 32, 111, 112, 32, 120, 111, 114, 32, 103, 32, 61, 32, 103, 32, 103, 10, 32, 32, 111, 112, 32, 115, 104, 108, 32, 103, 32, 61, 32, 103, 32, 103, 10, 32, 32, 111, 112, 32, 115, 104, 114, 32, 103, 32, 61, 32, 103, 32, 103, 10, 32, 32, 111, 112, 32, 100, 105, 118, 32, 103, 32, 61, 32, 103, 32, 103, 10, 32, 32, 111, 112, 32, 114, 101, 109, 32, 103, 32, 61, 32, 103, 32, 103, 10, 32, 32, 111, 112, 32, 108, 116, 32, 103, 32, 61, 32, 103, 32, 103, 10, 32, 32, 111, 112, 32, 101, 113, 32, 103, 32, 61, 32, 103, 32, 103, 10, 32, 32, 111, 112, 32, 110, 111, 116, 32, 103, 32, 61, 32, 103, 10, 32, 32, 97, 114, 103, 115, 32, 97, 48, 32, 97, 49, 32, 97, 50, 32, 97, 51, 32, 97, 52, 32, 97, 53, 32, 97, 54, 32, 97, 55, 10, 32, 32, 114, 101, 115, 117, 108, 116, 32, 97, 48, 10, 32, 32, 115, 97, 118, 101, 100, 32, 115, 48, 32, 115, 49, 32, 115, 50, 32, 115, 51, 32, 115, 52, 32, 115, 53, 32, 115, 54, 32, 115, 55, 32, 115, 56, 32, 115, 57, 32, 115, 49, 48, 32, 115, 49, 49, 10, 32, 32, 115, 108, 111, 116, 115, 32, 49, 48, 48, 48, 10, 125, 10]
theorem alive_run : two0.lo.call 9 [] false none (vH tabs) 8 (finS (.bool true)) = true := by kernel_rfl
end Go.Proofs.YtapnnpoljobanaaGreatDoor
