/- What the law leans on: an executor of the model that is sound, deduction over it, and the walks through the code (part 4 of 6). Conditions: those that each theorem states. -/
import Derived.Test.YtapnnpoljobanaaGreatDoorVirLimitsx3
import Derived.Lib.AtoiAllCases

set_option linter.unusedVariables false
set_option linter.unusedSimpArgs false
namespace Go.Proofs.YtapnnpoljobanaaGreatDoor
open Go.Ex
set_option maxRecDepth 1000000
noncomputable abbrev ud : Value := undef
abbrev vi (x : Int) : Value := .int .i64 x
abbrev vb (x : Bool) : Value := .bool x
noncomputable abbrev kp (L : Lo) (f : FuncId) (k : KO) (t : Fr) (d : List Deferred) (u : Option zX) : KC := fun c h n => zO P L f k (.panic c) t (W.mk d u h n)
noncomputable abbrev kb (k : KX) (t : Fr) (d : List Deferred) (u : Option zX) : KC := fun c h n => k (.panic c) t (W.mk d u h n)
noncomputable abbrev hq (l : List (Nat × Nat × List Ty)) : pD := fun k _ i => List.rec [] (fun e _ ih => Bool.rec ih (Bool.rec ih e.2.2 (Nat.beq e.2.1 i)) (Nat.beq e.1 k)) l
noncomputable abbrev hq0 : pD := hq []
abbrev TY0 := Lo → LP → Bool → Option zX → zG → Nat → KO → Bool
abbrev EY0 (f : FuncId) (g : pD) (F : TY0) : Prop := ∀ L lp  df u h n k, yCall P g L lp f [] df u h n k = F L lp  df u h n k
abbrev TY1 := Lo → LP → Value → Bool → Option zX → zG → Nat → KO → Bool
abbrev EY1 (f : FuncId) (g : pD) (F : TY1) : Prop := ∀ L lp p0 df u h n k, yCall P g L lp f [p0] df u h n k = F L lp p0 df u h n k
abbrev TY2 := Lo → LP → Value → Value → Bool → Option zX → zG → Nat → KO → Bool
abbrev EY2 (f : FuncId) (g : pD) (F : TY2) : Prop := ∀ L lp p0 p1 df u h n k, yCall P g L lp f [p0, p1] df u h n k = F L lp p0 p1 df u h n k
abbrev TY3 := Lo → LP → Value → Value → Value → Bool → Option zX → zG → Nat → KO → Bool
abbrev EY3 (f : FuncId) (g : pD) (F : TY3) : Prop := ∀ L lp p0 p1 p2 df u h n k, yCall P g L lp f [p0, p1, p2] df u h n k = F L lp p0 p1 p2 df u h n k
abbrev TYB := Lo → LP → Option Nat → Bool → Fr → W → KX → Bool
abbrev EYB (f : FuncId) (i : Nat) (g : pD) (B : TYB) : Prop := ∀ L lp rd df t w ka, yLoop P g L lp (unL (xC P f i)) ⟨f, rd, df⟩ t w ka = B L lp rd df t w ka
noncomputable abbrev gf1 (s0 : Value) : Fr := .nD .lF s0 .lF
noncomputable abbrev gf2 (s0 s1 : Value) : Fr := .nD (gf1 s1) s0 .lF
noncomputable abbrev gf3 (s0 s1 s2 : Value) : Fr := .nD (gf1 s1) s0 (gf1 s2)
noncomputable abbrev gf4 (s0 s1 s2 s3 : Value) : Fr := .nD (gf2 s1 s3) s0 (gf1 s2)
noncomputable abbrev gf5 (s0 s1 s2 s3 s4 : Value) : Fr := .nD (gf2 s1 s3) s0 (gf2 s2 s4)
noncomputable abbrev gf6 (s0 s1 s2 s3 s4 s5 : Value) : Fr := .nD (gf3 s1 s3 s5) s0 (gf2 s2 s4)
noncomputable abbrev gf7 (s0 s1 s2 s3 s4 s5 s6 : Value) : Fr := .nD (gf3 s1 s3 s5) s0 (gf3 s2 s4 s6)
noncomputable abbrev gf8 (s0 s1 s2 s3 s4 s5 s6 s7 : Value) : Fr := .nD (gf4 s1 s3 s5 s7) s0 (gf3 s2 s4 s6)
noncomputable abbrev gf9 (s0 s1 s2 s3 s4 s5 s6 s7 s8 : Value) : Fr := .nD (gf4 s1 s3 s5 s7) s0 (gf4 s2 s4 s6 s8)
noncomputable abbrev gf10 (s0 s1 s2 s3 s4 s5 s6 s7 s8 s9 : Value) : Fr := .nD (gf5 s1 s3 s5 s7 s9) s0 (gf4 s2 s4 s6 s8)
noncomputable abbrev gf11 (s0 s1 s2 s3 s4 s5 s6 s7 s8 s9 s10 : Value) : Fr := .nD (gf5 s1 s3 s5 s7 s9) s0 (gf5 s2 s4 s6 s8 s10)
noncomputable abbrev gf12 (s0 s1 s2 s3 s4 s5 s6 s7 s8 s9 s10 s11 : Value) : Fr := .nD (gf6 s1 s3 s5 s7 s9 s11) s0 (gf5 s2 s4 s6 s8 s10)
noncomputable abbrev gf13 (s0 s1 s2 s3 s4 s5 s6 s7 s8 s9 s10 s11 s12 : Value) : Fr := .nD (gf6 s1 s3 s5 s7 s9 s11) s0 (gf6 s2 s4 s6 s8 s10 s12)
noncomputable abbrev gf14 (s0 s1 s2 s3 s4 s5 s6 s7 s8 s9 s10 s11 s12 s13 : Value) : Fr := .nD (gf7 s1 s3 s5 s7 s9 s11 s13) s0 (gf6 s2 s4 s6 s8 s10 s12)
noncomputable abbrev gf15 (s0 s1 s2 s3 s4 s5 s6 s7 s8 s9 s10 s11 s12 s13 s14 : Value) : Fr := .nD (gf7 s1 s3 s5 s7 s9 s11 s13) s0 (gf7 s2 s4 s6 s8 s10 s12 s14)
noncomputable abbrev gf16 (s0 s1 s2 s3 s4 s5 s6 s7 s8 s9 s10 s11 s12 s13 s14 s15 : Value) : Fr := .nD (gf8 s1 s3 s5 s7 s9 s11 s13 s15) s0 (gf7 s2 s4 s6 s8 s10 s12 s14)
noncomputable abbrev gf17 (s0 s1 s2 s3 s4 s5 s6 s7 s8 s9 s10 s11 s12 s13 s14 s15 s16 : Value) : Fr := .nD (gf8 s1 s3 s5 s7 s9 s11 s13 s15) s0 (gf8 s2 s4 s6 s8 s10 s12 s14 s16)
noncomputable abbrev gf18 (s0 s1 s2 s3 s4 s5 s6 s7 s8 s9 s10 s11 s12 s13 s14 s15 s16 s17 : Value) : Fr := .nD (gf9 s1 s3 s5 s7 s9 s11 s13 s15 s17) s0 (gf8 s2 s4 s6 s8 s10 s12 s14 s16)
noncomputable abbrev gf19 (s0 s1 s2 s3 s4 s5 s6 s7 s8 s9 s10 s11 s12 s13 s14 s15 s16 s17 s18 : Value) : Fr := .nD (gf9 s1 s3 s5 s7 s9 s11 s13 s15 s17) s0 (gf9 s2 s4 s6 s8 s10 s12 s14 s16 s18)
noncomputable abbrev gf20 (s0 s1 s2 s3 s4 s5 s6 s7 s8 s9 s10 s11 s12 s13 s14 s15 s16 s17 s18 s19 : Value) : Fr := .nD (gf10 s1 s3 s5 s7 s9 s11 s13 s15 s17 s19) s0 (gf9 s2 s4 s6 s8 s10 s12 s14 s16 s18)
noncomputable abbrev gf21 (s0 s1 s2 s3 s4 s5 s6 s7 s8 s9 s10 s11 s12 s13 s14 s15 s16 s17 s18 s19 s20 : Value) : Fr := .nD (gf10 s1 s3 s5 s7 s9 s11 s13 s15 s17 s19) s0 (gf10 s2 s4 s6 s8 s10 s12 s14 s16 s18 s20)
noncomputable abbrev gf22 (s0 s1 s2 s3 s4 s5 s6 s7 s8 s9 s10 s11 s12 s13 s14 s15 s16 s17 s18 s19 s20 s21 : Value) : Fr := .nD (gf11 s1 s3 s5 s7 s9 s11 s13 s15 s17 s19 s21) s0 (gf10 s2 s4 s6 s8 s10 s12 s14 s16 s18 s20)
noncomputable abbrev gf23 (s0 s1 s2 s3 s4 s5 s6 s7 s8 s9 s10 s11 s12 s13 s14 s15 s16 s17 s18 s19 s20 s21 s22 : Value) : Fr := .nD (gf11 s1 s3 s5 s7 s9 s11 s13 s15 s17 s19 s21) s0 (gf11 s2 s4 s6 s8 s10 s12 s14 s16 s18 s20 s22)
noncomputable abbrev gf24 (s0 s1 s2 s3 s4 s5 s6 s7 s8 s9 s10 s11 s12 s13 s14 s15 s16 s17 s18 s19 s20 s21 s22 s23 : Value) : Fr := .nD (gf12 s1 s3 s5 s7 s9 s11 s13 s15 s17 s19 s21 s23) s0 (gf11 s2 s4 s6 s8 s10 s12 s14 s16 s18 s20 s22)
noncomputable abbrev gf25 (s0 s1 s2 s3 s4 s5 s6 s7 s8 s9 s10 s11 s12 s13 s14 s15 s16 s17 s18 s19 s20 s21 s22 s23 s24 : Value) : Fr := .nD (gf12 s1 s3 s5 s7 s9 s11 s13 s15 s17 s19 s21 s23) s0 (gf12 s2 s4 s6 s8 s10 s12 s14 s16 s18 s20 s22 s24)
noncomputable abbrev gf26 (s0 s1 s2 s3 s4 s5 s6 s7 s8 s9 s10 s11 s12 s13 s14 s15 s16 s17 s18 s19 s20 s21 s22 s23 s24 s25 : Value) : Fr := .nD (gf13 s1 s3 s5 s7 s9 s11 s13 s15 s17 s19 s21 s23 s25) s0 (gf12 s2 s4 s6 s8 s10 s12 s14 s16 s18 s20 s22 s24)
noncomputable abbrev gf27 (s0 s1 s2 s3 s4 s5 s6 s7 s8 s9 s10 s11 s12 s13 s14 s15 s16 s17 s18 s19 s20 s21 s22 s23 s24 s25 s26 : Value) : Fr := .nD (gf13 s1 s3 s5 s7 s9 s11 s13 s15 s17 s19 s21 s23 s25) s0 (gf13 s2 s4 s6 s8 s10 s12 s14 s16 s18 s20 s22 s24 s26)
noncomputable abbrev gf28 (s0 s1 s2 s3 s4 s5 s6 s7 s8 s9 s10 s11 s12 s13 s14 s15 s16 s17 s18 s19 s20 s21 s22 s23 s24 s25 s26 s27 : Value) : Fr := .nD (gf14 s1 s3 s5 s7 s9 s11 s13 s15 s17 s19 s21 s23 s25 s27) s0 (gf13 s2 s4 s6 s8 s10 s12 s14 s16 s18 s20 s22 s24 s26)
noncomputable abbrev gf30 (s0 s1 s2 s3 s4 s5 s6 s7 s8 s9 s10 s11 s12 s13 s14 s15 s16 s17 s18 s19 s20 s21 s22 s23 s24 s25 s26 s27 s28 s29 : Value) : Fr := .nD (gf15 s1 s3 s5 s7 s9 s11 s13 s15 s17 s19 s21 s23 s25 s27 s29) s0 (gf14 s2 s4 s6 s8 s10 s12 s14 s16 s18 s20 s22 s24 s26 s28)
noncomputable abbrev gf31 (s0 s1 s2 s3 s4 s5 s6 s7 s8 s9 s10 s11 s12 s13 s14 s15 s16 s17 s18 s19 s20 s21 s22 s23 s24 s25 s26 s27 s28 s29 s30 : Value) : Fr := .nD (gf15 s1 s3 s5 s7 s9 s11 s13 s15 s17 s19 s21 s23 s25 s27 s29) s0 (gf15 s2 s4 s6 s8 s10 s12 s14 s16 s18 s20 s22 s24 s26 s28 s30)
noncomputable abbrev gf32 (s0 s1 s2 s3 s4 s5 s6 s7 s8 s9 s10 s11 s12 s13 s14 s15 s16 s17 s18 s19 s20 s21 s22 s23 s24 s25 s26 s27 s28 s29 s30 s31 : Value) : Fr := .nD (gf16 s1 s3 s5 s7 s9 s11 s13 s15 s17 s19 s21 s23 s25 s27 s29 s31) s0 (gf15 s2 s4 s6 s8 s10 s12 s14 s16 s18 s20 s22 s24 s26 s28 s30)
noncomputable abbrev gf33 (s0 s1 s2 s3 s4 s5 s6 s7 s8 s9 s10 s11 s12 s13 s14 s15 s16 s17 s18 s19 s20 s21 s22 s23 s24 s25 s26 s27 s28 s29 s30 s31 s32 : Value) : Fr := .nD (gf16 s1 s3 s5 s7 s9 s11 s13 s15 s17 s19 s21 s23 s25 s27 s29 s31) s0 (gf16 s2 s4 s6 s8 s10 s12 s14 s16 s18 s20 s22 s24 s26 s28 s30 s32)
noncomputable abbrev gf35 (s0 s1 s2 s3 s4 s5 s6 s7 s8 s9 s10 s11 s12 s13 s14 s15 s16 s17 s18 s19 s20 s21 s22 s23 s24 s25 s26 s27 s28 s29 s30 s31 s32 s33 s34 : Value) : Fr := .nD (gf17 s1 s3 s5 s7 s9 s11 s13 s15 s17 s19 s21 s23 s25 s27 s29 s31 s33) s0 (gf17 s2 s4 s6 s8 s10 s12 s14 s16 s18 s20 s22 s24 s26 s28 s30 s32 s34)
noncomputable abbrev gf36 (s0 s1 s2 s3 s4 s5 s6 s7 s8 s9 s10 s11 s12 s13 s14 s15 s16 s17 s18 s19 s20 s21 s22 s23 s24 s25 s26 s27 s28 s29 s30 s31 s32 s33 s34 s35 : Value) : Fr := .nD (gf18 s1 s3 s5 s7 s9 s11 s13 s15 s17 s19 s21 s23 s25 s27 s29 s31 s33 s35) s0 (gf17 s2 s4 s6 s8 s10 s12 s14 s16 s18 s20 s22 s24 s26 s28 s30 s32 s34)
noncomputable abbrev gf37 (s0 s1 s2 s3 s4 s5 s6 s7 s8 s9 s10 s11 s12 s13 s14 s15 s16 s17 s18 s19 s20 s21 s22 s23 s24 s25 s26 s27 s28 s29 s30 s31 s32 s33 s34 s35 s36 : Value) : Fr := .nD (gf18 s1 s3 s5 s7 s9 s11 s13 s15 s17 s19 s21 s23 s25 s27 s29 s31 s33 s35) s0 (gf18 s2 s4 s6 s8 s10 s12 s14 s16 s18 s20 s22 s24 s26 s28 s30 s32 s34 s36)
noncomputable abbrev gf39 (s0 s1 s2 s3 s4 s5 s6 s7 s8 s9 s10 s11 s12 s13 s14 s15 s16 s17 s18 s19 s20 s21 s22 s23 s24 s25 s26 s27 s28 s29 s30 s31 s32 s33 s34 s35 s36 s37 s38 : Value) : Fr := .nD (gf19 s1 s3 s5 s7 s9 s11 s13 s15 s17 s19 s21 s23 s25 s27 s29 s31 s33 s35 s37) s0 (gf19 s2 s4 s6 s8 s10 s12 s14 s16 s18 s20 s22 s24 s26 s28 s30 s32 s34 s36 s38)
noncomputable abbrev gf40 (s0 s1 s2 s3 s4 s5 s6 s7 s8 s9 s10 s11 s12 s13 s14 s15 s16 s17 s18 s19 s20 s21 s22 s23 s24 s25 s26 s27 s28 s29 s30 s31 s32 s33 s34 s35 s36 s37 s38 s39 : Value) : Fr := .nD (gf20 s1 s3 s5 s7 s9 s11 s13 s15 s17 s19 s21 s23 s25 s27 s29 s31 s33 s35 s37 s39) s0 (gf19 s2 s4 s6 s8 s10 s12 s14 s16 s18 s20 s22 s24 s26 s28 s30 s32 s34 s36 s38)
noncomputable abbrev gf41 (s0 s1 s2 s3 s4 s5 s6 s7 s8 s9 s10 s11 s12 s13 s14 s15 s16 s17 s18 s19 s20 s21 s22 s23 s24 s25 s26 s27 s28 s29 s30 s31 s32 s33 s34 s35 s36 s37 s38 s39 s40 : Value) : Fr := .nD (gf20 s1 s3 s5 s7 s9 s11 s13 s15 s17 s19 s21 s23 s25 s27 s29 s31 s33 s35 s37 s39) s0 (gf20 s2 s4 s6 s8 s10 s12 s14 s16 s18 s20 s22 s24 s26 s28 s30 s32 s34 s36 s38 s40)
noncomputable abbrev gf45 (s0 s1 s2 s3 s4 s5 s6 s7 s8 s9 s10 s11 s12 s13 s14 s15 s16 s17 s18 s19 s20 s21 s22 s23 s24 s25 s26 s27 s28 s29 s30 s31 s32 s33 s34 s35 s36 s37 s38 s39 s40 s41 s42 s43 s44 : Value) : Fr := .nD (gf22 s1 s3 s5 s7 s9 s11 s13 s15 s17 s19 s21 s23 s25 s27 s29 s31 s33 s35 s37 s39 s41 s43) s0 (gf22 s2 s4 s6 s8 s10 s12 s14 s16 s18 s20 s22 s24 s26 s28 s30 s32 s34 s36 s38 s40 s42 s44)
noncomputable abbrev gf47 (s0 s1 s2 s3 s4 s5 s6 s7 s8 s9 s10 s11 s12 s13 s14 s15 s16 s17 s18 s19 s20 s21 s22 s23 s24 s25 s26 s27 s28 s29 s30 s31 s32 s33 s34 s35 s36 s37 s38 s39 s40 s41 s42 s43 s44 s45 s46 : Value) : Fr := .nD (gf23 s1 s3 s5 s7 s9 s11 s13 s15 s17 s19 s21 s23 s25 s27 s29 s31 s33 s35 s37 s39 s41 s43 s45) s0 (gf23 s2 s4 s6 s8 s10 s12 s14 s16 s18 s20 s22 s24 s26 s28 s30 s32 s34 s36 s38 s40 s42 s44 s46)
noncomputable abbrev gf48 (s0 s1 s2 s3 s4 s5 s6 s7 s8 s9 s10 s11 s12 s13 s14 s15 s16 s17 s18 s19 s20 s21 s22 s23 s24 s25 s26 s27 s28 s29 s30 s31 s32 s33 s34 s35 s36 s37 s38 s39 s40 s41 s42 s43 s44 s45 s46 s47 : Value) : Fr := .nD (gf24 s1 s3 s5 s7 s9 s11 s13 s15 s17 s19 s21 s23 s25 s27 s29 s31 s33 s35 s37 s39 s41 s43 s45 s47) s0 (gf23 s2 s4 s6 s8 s10 s12 s14 s16 s18 s20 s22 s24 s26 s28 s30 s32 s34 s36 s38 s40 s42 s44 s46)
noncomputable abbrev gf49 (s0 s1 s2 s3 s4 s5 s6 s7 s8 s9 s10 s11 s12 s13 s14 s15 s16 s17 s18 s19 s20 s21 s22 s23 s24 s25 s26 s27 s28 s29 s30 s31 s32 s33 s34 s35 s36 s37 s38 s39 s40 s41 s42 s43 s44 s45 s46 s47 s48 : Value) : Fr := .nD (gf24 s1 s3 s5 s7 s9 s11 s13 s15 s17 s19 s21 s23 s25 s27 s29 s31 s33 s35 s37 s39 s41 s43 s45 s47) s0 (gf24 s2 s4 s6 s8 s10 s12 s14 s16 s18 s20 s22 s24 s26 s28 s30 s32 s34 s36 s38 s40 s42 s44 s46 s48)
noncomputable abbrev gf50 (s0 s1 s2 s3 s4 s5 s6 s7 s8 s9 s10 s11 s12 s13 s14 s15 s16 s17 s18 s19 s20 s21 s22 s23 s24 s25 s26 s27 s28 s29 s30 s31 s32 s33 s34 s35 s36 s37 s38 s39 s40 s41 s42 s43 s44 s45 s46 s47 s48 s49 : Value) : Fr := .nD (gf25 s1 s3 s5 s7 s9 s11 s13 s15 s17 s19 s21 s23 s25 s27 s29 s31 s33 s35 s37 s39 s41 s43 s45 s47 s49) s0 (gf24 s2 s4 s6 s8 s10 s12 s14 s16 s18 s20 s22 s24 s26 s28 s30 s32 s34 s36 s38 s40 s42 s44 s46 s48)
noncomputable abbrev gf51 (s0 s1 s2 s3 s4 s5 s6 s7 s8 s9 s10 s11 s12 s13 s14 s15 s16 s17 s18 s19 s20 s21 s22 s23 s24 s25 s26 s27 s28 s29 s30 s31 s32 s33 s34 s35 s36 s37 s38 s39 s40 s41 s42 s43 s44 s45 s46 s47 s48 s49 s50 : Value) : Fr := .nD (gf25 s1 s3 s5 s7 s9 s11 s13 s15 s17 s19 s21 s23 s25 s27 s29 s31 s33 s35 s37 s39 s41 s43 s45 s47 s49) s0 (gf25 s2 s4 s6 s8 s10 s12 s14 s16 s18 s20 s22 s24 s26 s28 s30 s32 s34 s36 s38 s40 s42 s44 s46 s48 s50)
noncomputable abbrev gf52 (s0 s1 s2 s3 s4 s5 s6 s7 s8 s9 s10 s11 s12 s13 s14 s15 s16 s17 s18 s19 s20 s21 s22 s23 s24 s25 s26 s27 s28 s29 s30 s31 s32 s33 s34 s35 s36 s37 s38 s39 s40 s41 s42 s43 s44 s45 s46 s47 s48 s49 s50 s51 : Value) : Fr := .nD (gf26 s1 s3 s5 s7 s9 s11 s13 s15 s17 s19 s21 s23 s25 s27 s29 s31 s33 s35 s37 s39 s41 s43 s45 s47 s49 s51) s0 (gf25 s2 s4 s6 s8 s10 s12 s14 s16 s18 s20 s22 s24 s26 s28 s30 s32 s34 s36 s38 s40 s42 s44 s46 s48 s50)
noncomputable abbrev gf54 (s0 s1 s2 s3 s4 s5 s6 s7 s8 s9 s10 s11 s12 s13 s14 s15 s16 s17 s18 s19 s20 s21 s22 s23 s24 s25 s26 s27 s28 s29 s30 s31 s32 s33 s34 s35 s36 s37 s38 s39 s40 s41 s42 s43 s44 s45 s46 s47 s48 s49 s50 s51 s52 s53 : Value) : Fr := .nD (gf27 s1 s3 s5 s7 s9 s11 s13 s15 s17 s19 s21 s23 s25 s27 s29 s31 s33 s35 s37 s39 s41 s43 s45 s47 s49 s51 s53) s0 (gf26 s2 s4 s6 s8 s10 s12 s14 s16 s18 s20 s22 s24 s26 s28 s30 s32 s34 s36 s38 s40 s42 s44 s46 s48 s50 s52)
noncomputable abbrev gf56 (s0 s1 s2 s3 s4 s5 s6 s7 s8 s9 s10 s11 s12 s13 s14 s15 s16 s17 s18 s19 s20 s21 s22 s23 s24 s25 s26 s27 s28 s29 s30 s31 s32 s33 s34 s35 s36 s37 s38 s39 s40 s41 s42 s43 s44 s45 s46 s47 s48 s49 s50 s51 s52 s53 s54 s55 : Value) : Fr := .nD (gf28 s1 s3 s5 s7 s9 s11 s13 s15 s17 s19 s21 s23 s25 s27 s29 s31 s33 s35 s37 s39 s41 s43 s45 s47 s49 s51 s53 s55) s0 (gf27 s2 s4 s6 s8 s10 s12 s14 s16 s18 s20 s22 s24 s26 s28 s30 s32 s34 s36 s38 s40 s42 s44 s46 s48 s50 s52 s54)
noncomputable abbrev gf61 (s0 s1 s2 s3 s4 s5 s6 s7 s8 s9 s10 s11 s12 s13 s14 s15 s16 s17 s18 s19 s20 s21 s22 s23 s24 s25 s26 s27 s28 s29 s30 s31 s32 s33 s34 s35 s36 s37 s38 s39 s40 s41 s42 s43 s44 s45 s46 s47 s48 s49 s50 s51 s52 s53 s54 s55 s56 s57 s58 s59 s60 : Value) : Fr := .nD (gf30 s1 s3 s5 s7 s9 s11 s13 s15 s17 s19 s21 s23 s25 s27 s29 s31 s33 s35 s37 s39 s41 s43 s45 s47 s49 s51 s53 s55 s57 s59) s0 (gf30 s2 s4 s6 s8 s10 s12 s14 s16 s18 s20 s22 s24 s26 s28 s30 s32 s34 s36 s38 s40 s42 s44 s46 s48 s50 s52 s54 s56 s58 s60)
noncomputable abbrev gf62 (s0 s1 s2 s3 s4 s5 s6 s7 s8 s9 s10 s11 s12 s13 s14 s15 s16 s17 s18 s19 s20 s21 s22 s23 s24 s25 s26 s27 s28 s29 s30 s31 s32 s33 s34 s35 s36 s37 s38 s39 s40 s41 s42 s43 s44 s45 s46 s47 s48 s49 s50 s51 s52 s53 s54 s55 s56 s57 s58 s59 s60 s61 : Value) : Fr := .nD (gf31 s1 s3 s5 s7 s9 s11 s13 s15 s17 s19 s21 s23 s25 s27 s29 s31 s33 s35 s37 s39 s41 s43 s45 s47 s49 s51 s53 s55 s57 s59 s61) s0 (gf30 s2 s4 s6 s8 s10 s12 s14 s16 s18 s20 s22 s24 s26 s28 s30 s32 s34 s36 s38 s40 s42 s44 s46 s48 s50 s52 s54 s56 s58 s60)
noncomputable abbrev gf66 (s0 s1 s2 s3 s4 s5 s6 s7 s8 s9 s10 s11 s12 s13 s14 s15 s16 s17 s18 s19 s20 s21 s22 s23 s24 s25 s26 s27 s28 s29 s30 s31 s32 s33 s34 s35 s36 s37 s38 s39 s40 s41 s42 s43 s44 s45 s46 s47 s48 s49 s50 s51 s52 s53 s54 s55 s56 s57 s58 s59 s60 s61 s62 s63 s64 s65 : Value) : Fr := .nD (gf33 s1 s3 s5 s7 s9 s11 s13 s15 s17 s19 s21 s23 s25 s27 s29 s31 s33 s35 s37 s39 s41 s43 s45 s47 s49 s51 s53 s55 s57 s59 s61 s63 s65) s0 (gf32 s2 s4 s6 s8 s10 s12 s14 s16 s18 s20 s22 s24 s26 s28 s30 s32 s34 s36 s38 s40 s42 s44 s46 s48 s50 s52 s54 s56 s58 s60 s62 s64)
noncomputable abbrev gf74 (s0 s1 s2 s3 s4 s5 s6 s7 s8 s9 s10 s11 s12 s13 s14 s15 s16 s17 s18 s19 s20 s21 s22 s23 s24 s25 s26 s27 s28 s29 s30 s31 s32 s33 s34 s35 s36 s37 s38 s39 s40 s41 s42 s43 s44 s45 s46 s47 s48 s49 s50 s51 s52 s53 s54 s55 s56 s57 s58 s59 s60 s61 s62 s63 s64 s65 s66 s67 s68 s69 s70 s71 s72 s73 : Value) : Fr := .nD (gf37 s1 s3 s5 s7 s9 s11 s13 s15 s17 s19 s21 s23 s25 s27 s29 s31 s33 s35 s37 s39 s41 s43 s45 s47 s49 s51 s53 s55 s57 s59 s61 s63 s65 s67 s69 s71 s73) s0 (gf36 s2 s4 s6 s8 s10 s12 s14 s16 s18 s20 s22 s24 s26 s28 s30 s32 s34 s36 s38 s40 s42 s44 s46 s48 s50 s52 s54 s56 s58 s60 s62 s64 s66 s68 s70 s72)
noncomputable abbrev gf83 (s0 s1 s2 s3 s4 s5 s6 s7 s8 s9 s10 s11 s12 s13 s14 s15 s16 s17 s18 s19 s20 s21 s22 s23 s24 s25 s26 s27 s28 s29 s30 s31 s32 s33 s34 s35 s36 s37 s38 s39 s40 s41 s42 s43 s44 s45 s46 s47 s48 s49 s50 s51 s52 s53 s54 s55 s56 s57 s58 s59 s60 s61 s62 s63 s64 s65 s66 s67 s68 s69 s70 s71 s72 s73 s74 s75 s76 s77 s78 s79 s80 s81 s82 : Value) : Fr := .nD (gf41 s1 s3 s5 s7 s9 s11 s13 s15 s17 s19 s21 s23 s25 s27 s29 s31 s33 s35 s37 s39 s41 s43 s45 s47 s49 s51 s53 s55 s57 s59 s61 s63 s65 s67 s69 s71 s73 s75 s77 s79 s81) s0 (gf41 s2 s4 s6 s8 s10 s12 s14 s16 s18 s20 s22 s24 s26 s28 s30 s32 s34 s36 s38 s40 s42 s44 s46 s48 s50 s52 s54 s56 s58 s60 s62 s64 s66 s68 s70 s72 s74 s76 s78 s80 s82)
noncomputable abbrev gf91 (s0 s1 s2 s3 s4 s5 s6 s7 s8 s9 s10 s11 s12 s13 s14 s15 s16 s17 s18 s19 s20 s21 s22 s23 s24 s25 s26 s27 s28 s29 s30 s31 s32 s33 s34 s35 s36 s37 s38 s39 s40 s41 s42 s43 s44 s45 s46 s47 s48 s49 s50 s51 s52 s53 s54 s55 s56 s57 s58 s59 s60 s61 s62 s63 s64 s65 s66 s67 s68 s69 s70 s71 s72 s73 s74 s75 s76 s77 s78 s79 s80 s81 s82 s83 s84 s85 s86 s87 s88 s89 s90 : Value) : Fr := .nD (gf45 s1 s3 s5 s7 s9 s11 s13 s15 s17 s19 s21 s23 s25 s27 s29 s31 s33 s35 s37 s39 s41 s43 s45 s47 s49 s51 s53 s55 s57 s59 s61 s63 s65 s67 s69 s71 s73 s75 s77 s79 s81 s83 s85 s87 s89) s0 (gf45 s2 s4 s6 s8 s10 s12 s14 s16 s18 s20 s22 s24 s26 s28 s30 s32 s34 s36 s38 s40 s42 s44 s46 s48 s50 s52 s54 s56 s58 s60 s62 s64 s66 s68 s70 s72 s74 s76 s78 s80 s82 s84 s86 s88 s90)
noncomputable abbrev gf97 (s0 s1 s2 s3 s4 s5 s6 s7 s8 s9 s10 s11 s12 s13 s14 s15 s16 s17 s18 s19 s20 s21 s22 s23 s24 s25 s26 s27 s28 s29 s30 s31 s32 s33 s34 s35 s36 s37 s38 s39 s40 s41 s42 s43 s44 s45 s46 s47 s48 s49 s50 s51 s52 s53 s54 s55 s56 s57 s58 s59 s60 s61 s62 s63 s64 s65 s66 s67 s68 s69 s70 s71 s72 s73 s74 s75 s76 s77 s78 s79 s80 s81 s82 s83 s84 s85 s86 s87 s88 s89 s90 s91 s92 s93 s94 s95 s96 : Value) : Fr := .nD (gf48 s1 s3 s5 s7 s9 s11 s13 s15 s17 s19 s21 s23 s25 s27 s29 s31 s33 s35 s37 s39 s41 s43 s45 s47 s49 s51 s53 s55 s57 s59 s61 s63 s65 s67 s69 s71 s73 s75 s77 s79 s81 s83 s85 s87 s89 s91 s93 s95) s0 (gf48 s2 s4 s6 s8 s10 s12 s14 s16 s18 s20 s22 s24 s26 s28 s30 s32 s34 s36 s38 s40 s42 s44 s46 s48 s50 s52 s54 s56 s58 s60 s62 s64 s66 s68 s70 s72 s74 s76 s78 s80 s82 s84 s86 s88 s90 s92 s94 s96)
noncomputable abbrev gf98 (s0 s1 s2 s3 s4 s5 s6 s7 s8 s9 s10 s11 s12 s13 s14 s15 s16 s17 s18 s19 s20 s21 s22 s23 s24 s25 s26 s27 s28 s29 s30 s31 s32 s33 s34 s35 s36 s37 s38 s39 s40 s41 s42 s43 s44 s45 s46 s47 s48 s49 s50 s51 s52 s53 s54 s55 s56 s57 s58 s59 s60 s61 s62 s63 s64 s65 s66 s67 s68 s69 s70 s71 s72 s73 s74 s75 s76 s77 s78 s79 s80 s81 s82 s83 s84 s85 s86 s87 s88 s89 s90 s91 s92 s93 s94 s95 s96 s97 : Value) : Fr := .nD (gf49 s1 s3 s5 s7 s9 s11 s13 s15 s17 s19 s21 s23 s25 s27 s29 s31 s33 s35 s37 s39 s41 s43 s45 s47 s49 s51 s53 s55 s57 s59 s61 s63 s65 s67 s69 s71 s73 s75 s77 s79 s81 s83 s85 s87 s89 s91 s93 s95 s97) s0 (gf48 s2 s4 s6 s8 s10 s12 s14 s16 s18 s20 s22 s24 s26 s28 s30 s32 s34 s36 s38 s40 s42 s44 s46 s48 s50 s52 s54 s56 s58 s60 s62 s64 s66 s68 s70 s72 s74 s76 s78 s80 s82 s84 s86 s88 s90 s92 s94 s96)
noncomputable abbrev gf102 (s0 s1 s2 s3 s4 s5 s6 s7 s8 s9 s10 s11 s12 s13 s14 s15 s16 s17 s18 s19 s20 s21 s22 s23 s24 s25 s26 s27 s28 s29 s30 s31 s32 s33 s34 s35 s36 s37 s38 s39 s40 s41 s42 s43 s44 s45 s46 s47 s48 s49 s50 s51 s52 s53 s54 s55 s56 s57 s58 s59 s60 s61 s62 s63 s64 s65 s66 s67 s68 s69 s70 s71 s72 s73 s74 s75 s76 s77 s78 s79 s80 s81 s82 s83 s84 s85 s86 s87 s88 s89 s90 s91 s92 s93 s94 s95 s96 s97 s98 s99 s100 s101 : Value) : Fr := .nD (gf51 s1 s3 s5 s7 s9 s11 s13 s15 s17 s19 s21 s23 s25 s27 s29 s31 s33 s35 s37 s39 s41 s43 s45 s47 s49 s51 s53 s55 s57 s59 s61 s63 s65 s67 s69 s71 s73 s75 s77 s79 s81 s83 s85 s87 s89 s91 s93 s95 s97 s99 s101) s0 (gf50 s2 s4 s6 s8 s10 s12 s14 s16 s18 s20 s22 s24 s26 s28 s30 s32 s34 s36 s38 s40 s42 s44 s46 s48 s50 s52 s54 s56 s58 s60 s62 s64 s66 s68 s70 s72 s74 s76 s78 s80 s82 s84 s86 s88 s90 s92 s94 s96 s98 s100)
noncomputable abbrev gf196 (s0 s1 s2 s3 s4 s5 s6 s7 s8 s9 s10 s11 s12 s13 s14 s15 s16 s17 s18 s19 s20 s21 s22 s23 s24 s25 s26 s27 s28 s29 s30 s31 s32 s33 s34 s35 s36 s37 s38 s39 s40 s41 s42 s43 s44 s45 s46 s47 s48 s49 s50 s51 s52 s53 s54 s55 s56 s57 s58 s59 s60 s61 s62 s63 s64 s65 s66 s67 s68 s69 s70 s71 s72 s73 s74 s75 s76 s77 s78 s79 s80 s81 s82 s83 s84 s85 s86 s87 s88 s89 s90 s91 s92 s93 s94 s95 s96 s97 s98 s99 s100 s101 s102 s103 s104 s105 s106 s107 s108 s109 s110 s111 s112 s113 s114 s115 s116 s117 s118 s119 s120 s121 s122 s123 s124 s125 s126 s127 s128 s129 s130 s131 s132 s133 s134 s135 s136 s137 s138 s139 s140 s141 s142 s143 s144 s145 s146 s147 s148 s149 s150 s151 s152 s153 s154 s155 s156 s157 s158 s159 s160 s161 s162 s163 s164 s165 s166 s167 s168 s169 s170 s171 s172 s173 s174 s175 s176 s177 s178 s179 s180 s181 s182 s183 s184 s185 s186 s187 s188 s189 s190 s191 s192 s193 s194 s195 : Value) : Fr := .nD (gf98 s1 s3 s5 s7 s9 s11 s13 s15 s17 s19 s21 s23 s25 s27 s29 s31 s33 s35 s37 s39 s41 s43 s45 s47 s49 s51 s53 s55 s57 s59 s61 s63 s65 s67 s69 s71 s73 s75 s77 s79 s81 s83 s85 s87 s89 s91 s93 s95 s97 s99 s101 s103 s105 s107 s109 s111 s113 s115 s117 s119 s121 s123 s125 s127 s129 s131 s133 s135 s137 s139 s141 s143 s145 s147 s149 s151 s153 s155 s157 s159 s161 s163 s165 s167 s169 s171 s173 s175 s177 s179 s181 s183 s185 s187 s189 s191 s193 s195) s0 (gf97 s2 s4 s6 s8 s10 s12 s14 s16 s18 s20 s22 s24 s26 s28 s30 s32 s34 s36 s38 s40 s42 s44 s46 s48 s50 s52 s54 s56 s58 s60 s62 s64 s66 s68 s70 s72 s74 s76 s78 s80 s82 s84 s86 s88 s90 s92 s94 s96 s98 s100 s102 s104 s106 s108 s110 s112 s114 s116 s118 s120 s122 s124 s126 s128 s130 s132 s134 s136 s138 s140 s142 s144 s146 s148 s150 s152 s154 s156 s158 s160 s162 s164 s166 s168 s170 s172 s174 s176 s178 s180 s182 s184 s186 s188 s190 s192 s194)
noncomputable abbrev go5 : Fr := gf5 ud ud ud ud ud
noncomputable abbrev go9 : Fr := gf9 ud ud ud ud ud ud ud ud ud
noncomputable abbrev go11 : Fr := gf11 ud ud ud ud ud ud ud ud ud ud ud
noncomputable abbrev go14 : Fr := gf14 ud ud ud ud ud ud ud ud ud ud ud ud ud ud
noncomputable abbrev go21 : Fr := gf21 ud ud ud ud ud ud ud ud ud ud ud ud ud ud ud ud ud ud ud ud ud
noncomputable abbrev go22 : Fr := gf22 ud ud ud ud ud ud ud ud ud ud ud ud ud ud ud ud ud ud ud ud ud ud
noncomputable abbrev go26 : Fr := gf26 ud ud ud ud ud ud ud ud ud ud ud ud ud ud ud ud ud ud ud ud ud ud ud ud ud ud
noncomputable abbrev go37 : Fr := gf37 ud ud ud ud ud ud ud ud ud ud ud ud ud ud ud ud ud ud ud ud ud ud ud ud ud ud ud ud ud ud ud ud ud ud ud ud ud
noncomputable abbrev go74 : Fr := gf74 ud ud ud ud ud ud ud ud ud ud ud ud ud ud ud ud ud ud ud ud ud ud ud ud ud ud ud ud ud ud ud ud ud ud ud ud ud ud ud ud ud ud ud ud ud ud ud ud ud ud ud ud ud ud ud ud ud ud ud ud ud ud ud ud ud ud ud ud ud ud ud ud ud ud
noncomputable abbrev fo110 (s2 : Value) : Fr := gf21 ud ud s2 ud ud ud ud ud ud ud ud ud ud ud ud ud ud ud ud ud ud
noncomputable abbrev hint110 : pD := hq [(4, 0, [(.int .u8)])]
noncomputable def F110 : TY1 := fun L lp p0 df u h n k =>
 rtI .u8 p0 fun ap0 =>
 fb (rU 97 ap0) fun a1 =>
 grd a1 (fun k2 =>
 k2 h n (.int .u8 ap0)) (fun h3 n4 v5 =>
 grd a1 (fun k6 =>
 yD rU P .leq 5 true v5 (.int .u8 122) fun Aa =>
 k6 h3 n4 (.bool Aa)) (fun h7 n8 v9 =>
 rtB (sel a1 v9 (.bool false)) fun AB =>
 grd (nt AB) (fun Ac =>
 Ac h7 n8 (.int .u8 ap0)) (fun AJ AK Ad =>
 grd (nt AB) (fun Ae =>
 yD igeB P .geq 5 true Ad (.int .u8 65) fun Af =>
 Ae AJ AK (.bool Af)) (fun AL AM Ag =>
 grd (nt AB) (fun Ah =>
 Ah AL AM Ag) (fun AN AO AD =>
 grd (gv AD) (fun Ai =>
 Ai AN AO (.int .u8 ap0)) (fun AP AQ Aj =>
 grd (gv AD) (fun Ak =>
 yD rU P .leq 5 true Aj (.int .u8 90) fun Al =>
 Ak AP AQ (.bool Al)) (fun AR AS Am =>
 grd (nt AB) (fun An =>
 xL AD (fun Ao =>
 rtB (sel Ao Am (.bool false)) fun Ap =>
 An AR AS (.bool Ap)) false) (fun AT AU Aq =>
 rtB (sel AB (.bool true) Aq) fun AE =>
 grd (nt AE) (fun Ar =>
 Ar AT AU (.int .u8 ap0)) (fun AV AW As =>
 grd (nt AE) (fun At =>
 yD xZ P .eql 5 true As (.int .u8 95) fun Au =>
 At AV AW (.bool Au)) (fun Av Aw Ax =>
 rtB (sel AE (.bool true) Ax) fun Ay =>
 zO P L 110 k .ret (fo110 (.bool Ay)) (W.mk [] u Av Aw)) AV AW) AT AU) AR AS) AP AQ) AN AO) AL AM) AJ AK) h7 n8) h3 n4) h n
theorem F110_eq : EY1 110 hint110 F110 := fun _ _ _ _ _ _ _ _ => by kernel_rfl
theorem l110 : xD P 110 = true := by kernel_rfl
theorem r110 : wF P 110 = some [.tmp 2] := by kernel_rfl
noncomputable abbrev fo111 (s2 : Value) : Fr := gf9 ud ud s2 ud ud ud ud ud ud
noncomputable abbrev hint111 : pD := hq [(4, 0, [(.int .u8)])]
noncomputable def F111 : TY1 := fun L lp p0 df u h n k =>
 rtI .u8 p0 fun ap0 =>
 fb (rU 48 ap0) fun a1 =>
 grd a1 (fun k2 =>
 k2 h n (.int .u8 ap0)) (fun h3 n4 v5 =>
 grd a1 (fun k6 =>
 yD rU P .leq 5 true v5 (.int .u8 57) fun AH =>
 k6 h3 n4 (.bool AH)) (fun h7 n8 v9 =>
 rtB (sel a1 v9 (.bool false)) fun AL =>
 zO P L 111 k .ret (fo111 (.bool AL)) (W.mk [] u h7 n8)) h3 n4) h n
theorem F111_eq : EY1 111 hint111 F111 := fun _ _ _ _ _ _ _ _ => by kernel_rfl
theorem l111 : xD P 111 = true := by kernel_rfl
theorem r111 : wF P 111 = some [.tmp 2] := by kernel_rfl
noncomputable abbrev fo58 (s2 : Value) : Fr := gf35 ud ud s2 ud ud ud ud ud ud ud ud ud ud ud ud ud ud ud ud ud ud ud ud ud ud ud ud ud ud ud ud ud ud ud ud
noncomputable abbrev fj58_0 (t : Fr) (s0 s2 s3 s18 s19 s20 s21 s22 s23 s24 s25 s26 s27 s28 s29 s30 s34 : Value) : Fr := gf35 s0 (zA t 1) s2 s3 (zA t 4) (zA t 5) (zA t 6) (zA t 7) (zA t 8) (zA t 9) (zA t 10) (zA t 11) (zA t 12) (zA t 13) (zA t 14) (zA t 15) (zA t 16) (zA t 17) s18 s19 s20 s21 s22 s23 s24 s25 s26 s27 s28 s29 s30 (zA t 31) (zA t 32) (zA t 33) s34
noncomputable abbrev hint58 : pD := hq [(0, 1000004, [.val, .any, .any, .any, .any, .any, .any, .any, .any, .any, .any, .any, .any, .any, .any, .any, .any, .any, (.int .i64), (.int .i64)]), (1, 1, [.val, .any, .any, .any, .any, .any, .any, .any, .any, .any, .any, .any, .any, .any, .any, .any, .any, .any, (.int .i64), (.int .i64)]), (2, 0, [.val, .any, .any, .any, .any, .any, .any, .any, .any, .any, .any, .any, .any, .any, .any, .any, .any, .any, (.int .i64), (.int .i64)]), (2, 2, [.val]), (2, 7, [.val, .any, .any, .any, .any, .any, .any, .any, .any, .any, .any, .any, .any, .any, .any, .any, .any, .any, (.int .i64), (.int .i64)])]
noncomputable def F58 : TY1 := fun L lp p0 df u h n k =>
 yD xZ P .eql 9 true p0 (.string (ByteArray.mk #[])) fun a1 =>
 grd (nt a1) (fun k2 =>
 k2 h n p0) (fun h3 n4 v5 =>
 grd (nt a1) (fun k6 =>
 opt (yG P .len [9] [v5] h3) fun Ab =>
 rtI .i64 Ab fun Ac =>
 k6 h3 n4 (.int .i64 Ac)) (fun h7 n8 v9 =>
 grd (nt a1) (fun Ad =>
 yD igtB P .gtr 3 true v9 (.int .i64 20) fun Ae =>
 Ad h7 n8 (.bool Ae)) (fun AK AL AM =>
 rtB (sel a1 (.bool true) AM) fun AB =>
 grd (nt AB) (fun Af =>
 Af AK AL p0) (fun AN AO AP =>
 grd (nt AB) (fun Ag =>
 opt (pM P 9 AP (.int .i64 0)) fun Ah =>
 rtI .u8 Ah fun Aj =>
 Ag AN AO (.int .u8 Aj)) (fun AQ AR AS =>
 grd (nt AB) (fun Ak =>
 sO L 110 [AS] AQ AR (kp L 58 k (fo58 (.bool false)) [] u) fun Ao Ap Aq =>
 Ak Ap Aq (.bool Ao)) (fun AT AU AV =>
 grd (nt AB) (fun Ar =>
 opt (aUn .not AV) fun As =>
 rtB As fun At =>
 Ar AT AU (.bool At)) (fun AE AW AX =>
 rtB (sel AB (.bool true) AX) fun AY =>
 br AY (
 zO P L 58 k .ret (fo58 (.bool false)) (W.mk [] u AE AW)) (
 opt (yG P .len [9] [p0] AE) fun Au =>
 rtI .i64 Au fun Av =>
 lp 1000004 ⟨58, none, df⟩ (gf35 p0 ud (vb false) ud p0 (vb a1) (vb a1) v5 v9 AM (vb AB) (vb AB) AP AS AV AX (vb AY) p0 (vi Av) (vi 0) ud ud ud ud ud ud ud ud ud ud ud ud ud ud ud) (W.mk [] u AE AW) (endA noK (blkA 0 (fun AA Aw =>
 onW Aw fun Ax Ay Az A0 =>
 zO P L 58 k .ret (fj58_0 AA (zA AA 0) (vb true) (zA AA 3) (zA AA 18) (zA AA 19) (zA AA 20) (zA AA 21) (zA AA 22) (zA AA 23) (zA AA 24) (zA AA 25) (zA AA 26) (zA AA 27) (zA AA 28) (zA AA 29) (zA AA 30) (zA AA 34)) (W.mk Ax Ay Az A0)) (zO P L 58 k))))) AT AU) AQ AR) AN AO) AK AL) h7 n8) h3 n4) h n
theorem F58_eq : EY1 58 hint58 F58 := fun _ _ _ _ _ _ _ _ => by kernel_rfl
noncomputable def B58_1000004 : TYB := fun L lp rd df t w ka =>
 zL (zA t 0) fun AD =>
 rtI .i64 (zA t 18) fun AF =>
 rtI .i64 (zA t 19) fun AA =>
 onW w fun AH AI AR AS =>
 fb (wO AA AF) fun AG =>
 br AG (
 blkJ (fun Ag =>
 opt (pM P 9 AD (.int .i64 AA)) fun Ah =>
 rtI .u8 Ah fun AJ =>
 sO L 110 [(.int .u8 AJ)] AR AS (kb ka (fj58_0 t AD (zA t 2) (vi AA) (vi AF) (vi AA) (vb AG) (vi AA) AD (vi AA) (.int .u8 AJ) (zA t 25) (zA t 26) (zA t 27) (zA t 28) (zA t 29) (zA t 30) (zA t 34)) AH AI) fun AK AT AU =>
 opt (aUn .not (.bool AK)) fun Al =>
 rtB Al fun AC =>
 grd AC (fun Am =>
 Am AT AU AD) (fun AV AW AL =>
 grd AC (fun An =>
 An AV AW (.int .i64 AA)) (fun AX AY AM =>
 grd AC (fun Ao =>
 opt (pM P 9 AL AM) fun Ap =>
 rtI .u8 Ap fun Aq =>
 Ao AX AY (.int .u8 Aq)) (fun AZ Aa AN =>
 grd AC (fun Ar =>
 sO L 111 [AN] AZ Aa (kb ka (fj58_0 t AD (zA t 2) (vi AA) (vi AF) (vi AA) (vb AG) (vi AA) AD (vi AA) (.int .u8 AJ) (vb AK) (vb AC) (vb AC) AL AM AN (zA t 34)) AH AI) fun Av Aw Ax =>
 Ar Aw Ax (.bool Av)) (fun Ab Ac AO =>
 grd AC (fun Ay =>
 opt (aUn .not AO) fun Az =>
 rtB Az fun A0 =>
 Ay Ab Ac (.bool A0)) (fun Ad Ae AP =>
 rtB (sel AC AP (.bool false)) fun AQ =>
 br AQ (
 ka .ret (gf35 AD (zA t 1) (vb false) (vi AA) (zA t 4) (zA t 5) (zA t 6) (zA t 7) (zA t 8) (zA t 9) (zA t 10) (zA t 11) (zA t 12) (zA t 13) (zA t 14) (zA t 15) (zA t 16) (zA t 17) (vi AF) (vi AA) (vb AG) (vi AA) AD (vi AA) (.int .u8 AJ) (vb AK) (vb AC) (vb AC) AL AM AN AO AP (vb AQ) (zA t 34)) (W.mk AH AI Ad Ae)) (
 Ag (gf35 AD (zA t 1) (zA t 2) (vi AA) (zA t 4) (zA t 5) (zA t 6) (zA t 7) (zA t 8) (zA t 9) (zA t 10) (zA t 11) (zA t 12) (zA t 13) (zA t 14) (zA t 15) (zA t 16) (zA t 17) (vi AF) (vi AA) (vb AG) (vi AA) AD (vi AA) (.int .u8 AJ) (vb AK) (vb AC) (vb AC) AL AM AN AO AP (vb AQ) (zA t 34)) (W.mk AH AI Ad Ae))) Ab Ac) AZ Aa) AX AY) AV AW) AT AU) (fun AB A1 =>
 zL (zA AB 0) fun A2 =>
 rtI .i64 (zA AB 18) fun A3 =>
 rtI .i64 (zA AB 19) fun A4 =>
 onW A1 fun A5 A6 A7 A8 =>
 fi (wW .i64 (pC A4 1)) fun Af =>
 lp 1000004 ⟨58, rd, df⟩ (fj58_0 AB A2 (zA AB 2) (zA AB 3) (vi A3) (vi Af) (zA AB 20) (zA AB 21) (zA AB 22) (zA AB 23) (zA AB 24) (zA AB 25) (zA AB 26) (zA AB 27) (zA AB 28) (zA AB 29) (zA AB 30) (vi Af)) (W.mk A5 A6 A7 A8) ka)) (
 ka (.exit 0) (fj58_0 t AD (zA t 2) (zA t 3) (vi AF) (vi AA) (vb AG) (zA t 21) (zA t 22) (zA t 23) (zA t 24) (zA t 25) (zA t 26) (zA t 27) (zA t 28) (zA t 29) (zA t 30) (zA t 34)) (W.mk AH AI AR AS))
theorem B58_1000004_eq : EYB 58 1000004 hint58 B58_1000004 := fun _ _ _ _ _ _ _ => by kernel_rfl
theorem l58 : xD P 58 = true := by kernel_rfl
theorem r58 : wF P 58 = some [.tmp 2] := by kernel_rfl
theorem lp58_1000004 : uM (xC P 58 1000004) = true := by kernel_rfl
noncomputable abbrev fj178_0 (t : Fr) (s0 s1 s4 s7 s8 s9 s18 : Value) : Fr := gf19 s0 s1 (zA t 2) (zA t 3) s4 (zA t 5) (zA t 6) s7 s8 s9 (zA t 10) (zA t 11) (zA t 12) (zA t 13) (zA t 14) (zA t 15) (zA t 16) (zA t 17) s18
noncomputable abbrev hint178 : pD := hq [(0, 1000002, [.val, .val, .any, .any, .any, .any, .any, (.int .i64), (.int .i64)]), (1, 1, [.val, .val, .any, .any, .any, .any, .any, (.int .i64), (.int .i64)]), (2, 0, [.val, .val, .any, .any, .any, .any, .any, (.int .i64), (.int .i64)]), (2, 5, [.val, .val, .any, .any, .any, .any, .any, (.int .i64), (.int .i64)])]
noncomputable def F178 : TY2 := fun L lp p0 p1 df u h n k =>
 opt (yG P .len [23] [p0] h) fun v1 =>
 rtI .i64 v1 fun a2 =>
 lp 1000002 ⟨178, none, df⟩ (gf19 p0 p1 ud ud (vi 0) ud p0 (vi a2) (vi 0) ud ud ud ud ud ud ud ud ud ud) (W.mk [] u h n) (endA noK (blkA 0 (fun t3 w4 =>
 onW w4 fun d5 u6 h7 n8 =>
 zO P L 178 k .ret (fj178_0 t3 (zA t3 0) (zA t3 1) (.int .i64 (-1)) (zA t3 7) (zA t3 8) (zA t3 9) (zA t3 18)) (W.mk d5 u6 h7 n8)) (zO P L 178 k)))
theorem F178_eq : EY2 178 hint178 F178 := fun _ _ _ _ _ _ _ _ _ => by kernel_rfl
noncomputable def B178_1000002 : TYB := fun L lp rd df t w ka =>
 zL (zA t 0) fun s9 =>
 zL (zA t 1) fun AD =>
 rtI .i64 (zA t 7) fun AE =>
 rtI .i64 (zA t 8) fun AA =>
 onW w fun AH AI AF AJ =>
 fb (wO AA AE) fun AG =>
 br AG (
 blkJ (fun AO =>
 opt (zU P 23 s9 (.int .i64 AA)) fun AK =>
 opt (zF P 9 AF AK) fun AL =>
 yD xZ P .eql 9 false AD AL fun AM =>
 br AM (
 ka .ret (gf19 s9 AD (zA t 2) (zA t 3) (vi AA) (vi AA) (zA t 6) (vi AE) (vi AA) (vb AG) (vi AA) AD s9 (vi AA) AK AL (vb AM) (vi AA) (zA t 18)) (W.mk AH AI AF AJ)) (
 AO (gf19 s9 AD (zA t 2) (zA t 3) (zA t 4) (vi AA) (zA t 6) (vi AE) (vi AA) (vb AG) (vi AA) AD s9 (vi AA) AK AL (vb AM) (zA t 17) (zA t 18)) (W.mk AH AI AF AJ))) (fun AB AP =>
 zL (zA AB 0) fun AQ =>
 zL (zA AB 1) fun AR =>
 rtI .i64 (zA AB 7) fun AS =>
 rtI .i64 (zA AB 8) fun AT =>
 onW AP fun AU AV AW AX =>
 fi (wW .i64 (pC AT 1)) fun AN =>
 lp 1000002 ⟨178, rd, df⟩ (fj178_0 AB AQ AR (zA AB 4) (vi AS) (vi AN) (zA AB 9) (vi AN)) (W.mk AU AV AW AX) ka)) (
 ka (.exit 0) (fj178_0 t s9 AD (zA t 4) (vi AE) (vi AA) (vb AG) (zA t 18)) (W.mk AH AI AF AJ))
theorem B178_1000002_eq : EYB 178 1000002 hint178 B178_1000002 := fun _ _ _ _ _ _ _ => by kernel_rfl
theorem l178 : xD P 178 = true := by kernel_rfl
theorem r178 : wF P 178 = some [.tmp 4] := by kernel_rfl
theorem lp178_1000002 : uM (xC P 178 1000002) = true := by kernel_rfl
noncomputable abbrev fo152 (s4 : Value) : Fr := gf9 ud ud ud ud s4 ud ud ud ud
noncomputable def F152 : TY2 := fun L lp p0 p1 df u h n k =>
 qS L .i64 178 [p0, p1] h n (kp L 152 k (fo152 (.bool false)) [] u) fun a1 h2 n3 =>
 fb (rU 0 a1) fun a7 =>
 zO P L 152 k .ret (fo152 (.bool a7)) (W.mk [] u h2 n3)
theorem F152_eq : EY2 152 hq0 F152 := fun _ _ _ _ _ _ _ _ _ => by kernel_rfl
theorem l152 : xD P 152 = true := by kernel_rfl
theorem r152 : wF P 152 = some [.tmp 4] := by kernel_rfl
noncomputable abbrev hint120 : pD := hq [(4, 0, [.bool, (.int .i64)])]
noncomputable def F120 : TY2 := fun L lp p0 p1 df u h n k =>
 rtB p0 fun ap0 =>
 rtI .i64 p1 fun ap1 =>
 opt (aUn .not (.bool ap0)) fun v1 =>
 rtB v1 fun a2 =>
 brJ a2 (fun k3 =>
 opt (vR P 191 [(0, (.int .i64 ap1))]) fun v5 =>
 opt (qMakeIface P 191 v5) fun v6 =>
 ePanic v6 h n fun c7 h8 n9 =>
 zO P L 120 k (.panic c7) go9 (W.mk [] u h8 n9)) (fun k4 =>
 k4 (gf9 (vb ap0) (vi ap1) ud ud (vb ap0) (vb a2) ud ud ud) (W.mk [] u h n)) (fun AA AJ =>
 onW AJ fun AK AL AM AN =>
 zO P L 120 k .ret (gf9 (zA AA 0) (zA AA 1) (zA AA 2) (zA AA 3) (zA AA 4) (zA AA 5) (zA AA 6) (zA AA 7) (zA AA 8)) (W.mk AK AL AM AN))
theorem F120_eq : EY2 120 hint120 F120 := fun _ _ _ _ _ _ _ _ _ => by kernel_rfl
theorem l120 : xD P 120 = true := by kernel_rfl
theorem r120 : wF P 120 = some [] := by kernel_rfl
noncomputable abbrev fo154 (s2 : Value) : Fr := gf8 ud ud s2 ud ud ud ud ud
noncomputable def F154 : TY1 := fun L lp p0 df u h n k =>
 opt (qQ p0) fun v1 =>
 opt (zB P 189 0 v1) fun v2 =>
 opt (zF P 23 h v2) fun v3 =>
 opt (yG P .len [23] [v3] h) fun v4 =>
 rtI .i64 v4 fun a5 =>
 zO P L 154 k .ret (fo154 (.int .i64 a5)) (W.mk [] u h n)
theorem F154_eq : EY1 154 hq0 F154 := fun _ _ _ _ _ _ _ _ => by kernel_rfl
theorem l154 : xD P 154 = true := by kernel_rfl
theorem r154 : wF P 154 = some [.tmp 2] := by kernel_rfl
noncomputable abbrev fo156 (s4 : Value) : Fr := gf19 ud ud ud ud s4 ud ud ud ud ud ud ud ud ud ud ud ud ud ud
noncomputable abbrev hint156 : pD := hq [(2, 2, [.val, (.int .i64)]), (4, 0, [.any, (.int .i64)])]
noncomputable def F156 : TY2 := fun L lp p0 p1 df u h n k =>
 rtI .i64 p1 fun ap1 =>
 opt (qQ p0) fun v1 =>
 opt (zB P 189 0 v1) fun v2 =>
 opt (zF P 23 h v2) fun v3 =>
 opt (yG P .len [23] [v3] h) fun v4 =>
 rtI .i64 v4 fun a5 =>
 fb (rU a5 ap1) fun a6 =>
 br a6 (
 zO P L 156 k .ret (fo156 (.string (ByteArray.mk #[]))) (W.mk [] u h n)) (
 opt (qQ p0) fun v7 =>
 opt (zB P 189 0 v7) fun v8 =>
 opt (zF P 23 h v8) fun v9 =>
 opt (zU P 23 v9 (.int .i64 ap1)) fun AJ =>
 opt (zF P 9 h AJ) fun AK =>
 zO P L 156 k .ret (fo156 AK) (W.mk [] u h n))
theorem F156_eq : EY2 156 hint156 F156 := fun _ _ _ _ _ _ _ _ _ => by kernel_rfl
theorem l156 : xD P 156 = true := by kernel_rfl
theorem r156 : wF P 156 = some [.tmp 4] := by kernel_rfl
noncomputable abbrev fo153 (s2 : Value) : Fr := gf26 ud ud s2 ud ud ud ud ud ud ud ud ud ud ud ud ud ud ud ud ud ud ud ud ud ud ud
noncomputable def F153 : TY1 := fun L lp p0 df u h n k =>
 opt (qQ p0) fun v1 =>
 opt (zB P 189 0 v1) fun v2 =>
 opt (zF P 23 h v2) fun v3 =>
 opt (yG P .len [23] [v3] h) fun v4 =>
 rtI .i64 v4 fun a5 =>
 fb (wO 0 a5) fun a6 =>
 yY L 120 [(.bool a6), (.int .i64 3)] h n (fun AH AI AJ =>
 zO P L 153 k (.panic AH) (fo153 (.string (ByteArray.mk #[]))) (W.mk [] u AI AJ)) fun a7 h8 n9 =>
 opt (qQ p0) fun AL =>
 opt (zB P 189 0 AL) fun AM =>
 opt (zF P 23 h8 AM) fun AN =>
 opt (zU P 23 AN (.int .i64 0)) fun AO =>
 opt (zF P 9 h8 AO) fun AP =>
 opt (qQ p0) fun AQ =>
 opt (zB P 189 0 AQ) fun AR =>
 opt (zF P 23 h8 AR) fun AS =>
 opt (rD P h8 23 AS (some (.int .i64 1)) none none) fun AT =>
 opt (qQ p0) fun AU =>
 opt (zB P 189 0 AU) fun AV =>
 zW P 23 AV AT h8 n9 fun AW AX AZ =>
 zO P L 153 k .ret (fo153 AP) (W.mk [] u AW AX)
theorem F153_eq : EY1 153 hq0 F153 := fun _ _ _ _ _ _ _ _ => by kernel_rfl
theorem l153 : xD P 153 = true := by kernel_rfl
theorem r153 : wF P 153 = some [.tmp 2] := by kernel_rfl
noncomputable def F116 : TY2 := fun L lp p0 p1 df u h n k =>
 yY L 153 [p0] h n (kp L 116 k go9 [] u) fun a1 h2 n3 =>
 yD xZ P .eql 9 false a1 p1 fun a7 =>
 yY L 120 [(.bool a7), (.int .i64 3)] h2 n3 (kp L 116 k go9 [] u) fun a8 h9 AL =>
 zO P L 116 k .ret go9 (W.mk [] u h9 AL)
theorem F116_eq : EY2 116 hq0 F116 := fun _ _ _ _ _ _ _ _ _ => by kernel_rfl
theorem l116 : xD P 116 = true := by kernel_rfl
theorem r116 : wF P 116 = some [] := by kernel_rfl
noncomputable abbrev fo117 (s2 : Value) : Fr := gf10 ud ud s2 ud ud ud ud ud ud ud
noncomputable def F117 : TY1 := fun L lp p0 df u h n k =>
 yY L 153 [p0] h n (fun c4 h5 n6 =>
 zO P L 117 k (.panic c4) (fo117 (.string (ByteArray.mk #[]))) (W.mk [] u h5 n6)) fun a1 h2 n3 =>
 sO L 58 [a1] h2 n3 (fun AG AH AI =>
 zO P L 117 k (.panic AG) (fo117 (.string (ByteArray.mk #[]))) (W.mk [] u AH AI)) fun a7 h8 n9 =>
 yY L 120 [(.bool a7), (.int .i64 3)] h8 n9 (fun AM AN AO =>
 zO P L 117 k (.panic AM) (fo117 (.string (ByteArray.mk #[]))) (W.mk [] u AN AO)) fun AR AP AQ =>
 zO P L 117 k .ret (fo117 a1) (W.mk [] u AP AQ)
theorem F117_eq : EY1 117 hq0 F117 := fun _ _ _ _ _ _ _ _ => by kernel_rfl
theorem l117 : xD P 117 = true := by kernel_rfl
theorem r117 : wF P 117 = some [.tmp 2] := by kernel_rfl
noncomputable abbrev fo155 (s2 : Value) : Fr := gf23 ud ud s2 ud ud ud ud ud ud ud ud ud ud ud ud ud ud ud ud ud ud ud ud
noncomputable def F155 : TY1 := fun L lp p0 df u h n k =>
 yY L 153 [p0] h n (kp L 155 k (fo155 (.int .i64 0)) [] u) fun a1 h2 n3 =>
 yY L 179 [a1] h2 n3 (kp L 155 k (fo155 (.int .i64 0)) [] u) fun a7 h8 n9 =>
 opt (yN 0 a7) fun AU =>
 rtI .i64 AU fun AF =>
 opt (yN 1 a7) fun AV =>
 yD xZ P .eql 99 true AV .nilIface fun AA =>
 grd AA (fun AW =>
 AW h8 n9 (.int .i64 AF)) (fun AG AH AX =>
 grd AA (fun AY =>
 yY L 81 [AX] AG AH (kp L 155 k (fo155 (.int .i64 0)) [] u) fun Ac Ad Ae =>
 AY Ad Ae Ac) (fun AI AJ Af =>
 grd AA (fun Ag =>
 Ag AI AJ a1) (fun AK AL Ah =>
 grd AA (fun Ai =>
 yD xZ P .eql 9 false Af Ah fun Aj =>
 Ai AK AL (.bool Aj)) (fun Ak Al Am =>
 rtB (sel AA Am (.bool false)) fun An =>
 yY L 120 [(.bool An), (.int .i64 3)] Ak Al (kp L 155 k (fo155 (.int .i64 0)) [] u) fun At Ar As =>
 zO P L 155 k .ret (fo155 (.int .i64 AF)) (W.mk [] u Ar As)) AK AL) AI AJ) AG AH) h8 n9
theorem F155_eq : EY1 155 hq0 F155 := fun _ _ _ _ _ _ _ _ => by kernel_rfl
theorem l155 : xD P 155 = true := by kernel_rfl
theorem r155 : wF P 155 = some [.tmp 2] := by kernel_rfl
noncomputable abbrev fo122 (s2 : Value) : Fr := gf14 ud ud s2 ud ud ud ud ud ud ud ud ud ud ud
noncomputable def F122 : TY1 := fun L lp p0 df u h n k =>
 qS L .i64 155 [p0] h n (kp L 122 k (fo122 (.int .i64 0)) [] u) fun a1 h2 n3 =>
 fb (rU 0 a1) fun a7 =>
 grd a7 (fun k8 =>
 k8 h2 n3 (.int .i64 a1)) (fun h9 AF AK =>
 grd a7 (fun AL =>
 yD rU P .leq 3 true AK (.int .i64 99999) fun AM =>
 AL h9 AF (.bool AM)) (fun AN AO AP =>
 rtB (sel a7 AP (.bool false)) fun AQ =>
 yY L 120 [(.bool AQ), (.int .i64 3)] AN AO (kp L 122 k (fo122 (.int .i64 0)) [] u) fun AW AU AV =>
 zO P L 122 k .ret (fo122 (.int .i64 a1)) (W.mk [] u AU AV)) h9 AF) h2 n3
theorem F122_eq : EY1 122 hq0 F122 := fun _ _ _ _ _ _ _ _ => by kernel_rfl
theorem l122 : xD P 122 = true := by kernel_rfl
theorem r122 : wF P 122 = some [.tmp 2] := by kernel_rfl
noncomputable def F118 : TY1 := fun L lp p0 df u h n k =>
 opt (qQ p0) fun v1 =>
 opt (zB P 189 0 v1) fun v2 =>
 opt (zF P 23 h v2) fun v3 =>
 opt (yG P .len [23] [v3] h) fun v4 =>
 rtI .i64 v4 fun a5 =>
 fb (xZ a5 0) fun a6 =>
 yY L 120 [(.bool a6), (.int .i64 3)] h n (kp L 118 k go9 [] u) fun a7 h8 n9 =>
 zO P L 118 k .ret go9 (W.mk [] u h8 n9)
theorem F118_eq : EY1 118 hq0 F118 := fun _ _ _ _ _ _ _ _ => by kernel_rfl
theorem l118 : xD P 118 = true := by kernel_rfl
theorem r118 : wF P 118 = some [] := by kernel_rfl
noncomputable abbrev fo114 (s2 : Value) : Fr := gf6 ud ud s2 ud ud ud
noncomputable def F114 : TY1 := fun L lp p0 df u h n k =>
 zN P 23 4 [(0, (.string (ByteArray.mk #[99, 111, 110, 115, 116]))), (1, (.string (ByteArray.mk #[99, 111, 112, 121]))), (2, (.string (ByteArray.mk #[108, 111, 97, 100]))), (3, (.string (ByteArray.mk #[99, 97, 108, 108])))] h n fun h1 n2 v3 =>
 sO L 152 [v3, p0] h1 n2 (kp L 114 k (fo114 (.bool false)) [] u) fun a4 h5 n6 =>
 zO P L 114 k .ret (fo114 (.bool a4)) (W.mk [] u h5 n6)
theorem F114_eq : EY1 114 hq0 F114 := fun _ _ _ _ _ _ _ _ => by kernel_rfl
theorem l114 : xD P 114 = true := by kernel_rfl
theorem r114 : wF P 114 = some [.tmp 2] := by kernel_rfl
noncomputable abbrev fj59_0 (t : Fr) (s2 s5 s6 s7 s8 s17 : Value) : Fr := gf18 (zA t 0) (zA t 1) s2 (zA t 3) (zA t 4) s5 s6 s7 s8 (zA t 9) (zA t 10) (zA t 11) (zA t 12) (zA t 13) (zA t 14) (zA t 15) (zA t 16) s17
noncomputable abbrev hint59 : pD := hq [(0, 1000002, [.any, .any, .any, .any, .any, .val, (.int .i64), (.int .i64)]), (1, 1, [.any, .any, .any, .any, .any, .val, (.int .i64), (.int .i64)]), (2, 0, [.any, .any, .any, .any, .any, .val, (.int .i64), (.int .i64)]), (2, 5, [.any, .any, .any, .any, .any, .val, (.int .i64), (.int .i64)])]
noncomputable def F59 : TY1 := fun L lp p0 df u h n k =>
 opt (yG P .len [40] [p0] h) fun v1 =>
 rtI .i64 v1 fun a2 =>
 lp 1000002 ⟨59, none, df⟩ (gf18 p0 ud (vb false) ud ud p0 (vi a2) (vi 0) ud ud ud ud ud ud ud ud ud ud) (W.mk [] u h n) (endA noK (blkA 0 (fun t3 w4 =>
 onW w4 fun d5 u6 h7 n8 =>
 zO P L 59 k .ret (fj59_0 t3 (vb true) (zA t3 5) (zA t3 6) (zA t3 7) (zA t3 8) (zA t3 17)) (W.mk d5 u6 h7 n8)) (zO P L 59 k)))
theorem F59_eq : EY1 59 hint59 F59 := fun _ _ _ _ _ _ _ _ => by kernel_rfl
noncomputable def B59_1000002 : TYB := fun L lp rd df t w ka =>
 zL (zA t 5) fun s9 =>
 rtI .i64 (zA t 6) fun AF =>
 rtI .i64 (zA t 7) fun AD =>
 onW w fun AI AJ AG AK =>
 fb (wO AD AF) fun AH =>
 br AH (
 blkJ (fun AU =>
 opt (zU P 40 s9 (.int .i64 AD)) fun AL =>
 opt (zF P 3 AG AL) fun AV =>
 rtI .i64 AV fun AA =>
 fb (wO AA 0) fun AB =>
 grd (nt AB) (fun AW =>
 AW AG AK (.int .i64 AA)) (fun AP AQ AM =>
 grd (nt AB) (fun AX =>
 yD igtB P .gtr 3 true AM (.int .i64 99999) fun AY =>
 AX AP AQ (.bool AY)) (fun AR AS AN =>
 rtB (sel AB (.bool true) AN) fun AO =>
 br AO (
 ka .ret (gf18 (zA t 0) (zA t 1) (vb false) (zA t 3) (vi AA) s9 (vi AF) (vi AD) (vb AH) AL (vi AA) (vi AA) (vb AB) (vb AB) AM AN (vb AO) (zA t 17)) (W.mk AI AJ AR AS)) (
 AU (gf18 (zA t 0) (zA t 1) (zA t 2) (zA t 3) (vi AA) s9 (vi AF) (vi AD) (vb AH) AL (vi AA) (vi AA) (vb AB) (vb AB) AM AN (vb AO) (zA t 17)) (W.mk AI AJ AR AS))) AP AQ) AG AK) (fun AC AZ =>
 zL (zA AC 5) fun Aa =>
 rtI .i64 (zA AC 6) fun Ab =>
 rtI .i64 (zA AC 7) fun Ac =>
 onW AZ fun Ad Ae Af Ag =>
 fi (wW .i64 (pC Ac 1)) fun AT =>
 lp 1000002 ⟨59, rd, df⟩ (fj59_0 AC (zA AC 2) Aa (vi Ab) (vi AT) (zA AC 8) (vi AT)) (W.mk Ad Ae Af Ag) ka)) (
 ka (.exit 0) (fj59_0 t (zA t 2) s9 (vi AF) (vi AD) (vb AH) (zA t 17)) (W.mk AI AJ AG AK))
theorem B59_1000002_eq : EYB 59 1000002 hint59 B59_1000002 := fun _ _ _ _ _ _ _ => by kernel_rfl
theorem l59 : xD P 59 = true := by kernel_rfl
theorem r59 : wF P 59 = some [.tmp 2] := by kernel_rfl
theorem lp59_1000002 : uM (xC P 59 1000002) = true := by kernel_rfl
noncomputable abbrev fj55_0 (t : Fr) (s2 s3 s6 s7 s8 s9 s17 s18 : Value) : Fr := gf19 (zA t 0) (zA t 1) s2 s3 (zA t 4) (zA t 5) s6 s7 s8 s9 (zA t 10) (zA t 11) (zA t 12) (zA t 13) (zA t 14) (zA t 15) (zA t 16) s17 s18
noncomputable abbrev hint55 : pD := hq [(0, 1000003, [.any, .any, .any, .val, .any, .any, .val, (.int .i64), (.int .i64)]), (1, 0, [.any, .any, .any, .val]), (1, 1, [.any, .any, .any, .val, .any, .any, .val, (.int .i64), (.int .i64)]), (2, 0, [.any, .any, .any, .val, .any, .any, .val, (.int .i64), (.int .i64)])]
noncomputable def F55 : TY1 := fun L lp p0 df u h n k =>
 opt (yG P .len [40] [p0] h) fun v1 =>
 rtI .i64 v1 fun a2 =>
 lp 1000003 ⟨55, none, df⟩ (gf19 p0 ud (.slice none 0 0) (.slice none 0 0) ud ud p0 (vi a2) (vi 0) ud ud ud ud ud ud ud ud ud ud) (W.mk [] u h n) (endA noK (blkA 0 (fun t3 w4 =>
 zL (zA t3 3) fun s5 =>
 onW w4 fun d6 u7 h8 n9 =>
 zO P L 55 k .ret (fj55_0 t3 s5 s5 (zA t3 6) (zA t3 7) (zA t3 8) (zA t3 9) (zA t3 17) s5) (W.mk d6 u7 h8 n9)) (zO P L 55 k)))
theorem F55_eq : EY1 55 hint55 F55 := fun _ _ _ _ _ _ _ _ => by kernel_rfl
noncomputable def B55_1000003 : TYB := fun L lp rd df t w ka =>
 zL (zA t 3) fun AC =>
 zL (zA t 6) fun AE =>
 rtI .i64 (zA t 7) fun AF =>
 rtI .i64 (zA t 8) fun AD =>
 onW w fun AH AI AJ AL =>
 fb (wO AD AF) fun AG =>
 br AG (
 blkJ (fun AQ =>
 opt (zU P 40 AE (.int .i64 AD)) fun AK =>
 opt (zF P 3 AJ AK) fun AR =>
 rtI .i64 AR fun AB =>
 yY L 81 [(.int .i64 AB)] AJ AL (kb ka (gf19 (zA t 0) (zA t 1) (zA t 2) AC (zA t 4) (vi AB) AE (vi AF) (vi AD) (vb AG) AK (vi AB) AC (vi AB) (zA t 14) (zA t 15) (zA t 16) (zA t 17) (zA t 18)) AH AI) fun AM AV AW =>
 zN P 23 1 [(0, AM)] AV AW fun AX AY AN =>
 xV P [23, 23] [AC, AN] AX AY fun AZ Aa AO =>
 AQ (gf19 (zA t 0) (zA t 1) (zA t 2) AO (zA t 4) (vi AB) AE (vi AF) (vi AD) (vb AG) AK (vi AB) AC (vi AB) AM AN AO (zA t 17) (zA t 18)) (W.mk AH AI AZ Aa)) (fun AA Ab =>
 zL (zA AA 3) fun Ac =>
 zL (zA AA 6) fun Ad =>
 rtI .i64 (zA AA 7) fun Ae =>
 rtI .i64 (zA AA 8) fun Af =>
 onW Ab fun Ag Ah Ai Aj =>
 fi (wW .i64 (pC Af 1)) fun AP =>
 lp 1000003 ⟨55, rd, df⟩ (fj55_0 AA (zA AA 2) Ac Ad (vi Ae) (vi AP) (zA AA 9) (vi AP) (zA AA 18)) (W.mk Ag Ah Ai Aj) ka)) (
 ka (.exit 0) (fj55_0 t (zA t 2) AC AE (vi AF) (vi AD) (vb AG) (zA t 17) (zA t 18)) (W.mk AH AI AJ AL))
theorem B55_1000003_eq : EYB 55 1000003 hint55 B55_1000003 := fun _ _ _ _ _ _ _ => by kernel_rfl
theorem l55 : xD P 55 = true := by kernel_rfl
theorem r55 : wF P 55 = some [.tmp 2] := by kernel_rfl
theorem lp55_1000003 : uM (xC P 55 1000003) = true := by kernel_rfl
noncomputable abbrev fo112 (s2 : Value) : Fr := gf47 ud ud s2 ud ud ud ud ud ud ud ud ud ud ud ud ud ud ud ud ud ud ud ud ud ud ud ud ud ud ud ud ud ud ud ud ud ud ud ud ud ud ud ud ud ud ud ud
noncomputable def F112 : TY1 := fun L lp p0 df u h n k =>
 eBox p0 h n fun h1 n2 v3 =>
 opt (zB P 50 0 v3) fun v4 =>
 opt (zF P 3 h1 v4) fun v5 =>
 rtI .i64 v5 fun a6 =>
 fb (xZ a6 0) fun a7 =>
 grd a7 (fun k8 =>
 opt (zB P 50 1 v3) fun BB =>
 k8 h1 n2 BB) (fun h9 AU BC =>
 grd a7 (fun BD =>
 opt (zF P 3 h9 BC) fun BE =>
 rtI .i64 BE fun BF =>
 BD h9 AU (.int .i64 BF)) (fun AV AW BG =>
 grd a7 (fun BH =>
 yD xZ P .eql 3 true BG (.int .i64 0) fun BI =>
 BH AV AW (.bool BI)) (fun AX AY BJ =>
 rtB (sel a7 BJ (.bool false)) fun AD =>
 grd AD (fun BK =>
 opt (zB P 50 2 v3) fun BL =>
 BK AX AY BL) (fun AL AZ BM =>
 grd AD (fun BN =>
 opt (zF P 3 AL BM) fun BO =>
 rtI .i64 BO fun BP =>
 BN AL AZ (.int .i64 BP)) (fun Aa Ab BQ =>
 grd AD (fun BR =>
 yD xZ P .eql 3 true BQ (.int .i64 0) fun BS =>
 BR Aa Ab (.bool BS)) (fun Ac Ad BT =>
 rtB (sel AD BT (.bool false)) fun AE =>
 grd AE (fun BU =>
 opt (zB P 50 3 v3) fun BV =>
 BU Ac Ad BV) (fun AM Ae BW =>
 grd AE (fun BX =>
 opt (zF P 3 AM BW) fun BY =>
 rtI .i64 BY fun BZ =>
 BX AM Ae (.int .i64 BZ)) (fun Af Ag Ba =>
 grd AE (fun Bb =>
 yD xZ P .eql 3 true Ba (.int .i64 0) fun Bc =>
 Bb Af Ag (.bool Bc)) (fun Ah Ai Bd =>
 rtB (sel AE Bd (.bool false)) fun AF =>
 grd AF (fun Be =>
 opt (zB P 50 4 v3) fun Bf =>
 Be Ah Ai Bf) (fun AN Aj Bg =>
 grd AF (fun Bh =>
 opt (zF P 3 AN Bg) fun Bi =>
 rtI .i64 Bi fun Bj =>
 Bh AN Aj (.int .i64 Bj)) (fun Ak Al Bk =>
 grd AF (fun Bl =>
 yD xZ P .eql 3 true Bk (.int .i64 0) fun Bm =>
 Bl Ak Al (.bool Bm)) (fun Am An Bn =>
 rtB (sel AF Bn (.bool false)) fun AG =>
 grd AG (fun Bo =>
 opt (zB P 50 5 v3) fun Bp =>
 Bo Am An Bp) (fun AO Ao Bq =>
 grd AG (fun Br =>
 opt (zF P 9 AO Bq) fun Bs =>
 Br AO Ao Bs) (fun Ap Aq Bt =>
 grd AG (fun Bu =>
 yD xZ P .eql 9 true Bt (.string (ByteArray.mk #[])) fun Bv =>
 Bu Ap Aq (.bool Bv)) (fun Ar As Bw =>
 rtB (sel AG Bw (.bool false)) fun AB =>
 grd AB (fun Bx =>
 opt (zB P 50 6 v3) fun By =>
 Bx Ar As By) (fun AP At Bz =>
 grd AB (fun B0 =>
 opt (zF P 40 AP Bz) fun B1 =>
 B0 AP At B1) (fun AQ Au B2 =>
 grd AB (fun B3 =>
 opt (yG P .len [40] [B2] AQ) fun B4 =>
 rtI .i64 B4 fun B5 =>
 B3 AQ Au (.int .i64 B5)) (fun Av Aw B6 =>
 grd AB (fun B7 =>
 yD xZ P .eql 3 true B6 (.int .i64 0) fun B8 =>
 B7 Av Aw (.bool B8)) (fun Ax Ay B9 =>
 rtB (sel AB B9 (.bool false)) fun AH =>
 grd AH (fun CA =>
 opt (zB P 50 7 v3) fun CB =>
 CA Ax Ay CB) (fun AR Az CC =>
 grd AH (fun CD =>
 opt (zF P 3 AR CC) fun CE =>
 rtI .i64 CE fun CF =>
 CD AR Az (.int .i64 CF)) (fun A0 A1 CG =>
 grd AH (fun CH =>
 yD xZ P .eql 3 true CG (.int .i64 0) fun CI =>
 CH A0 A1 (.bool CI)) (fun A2 A3 CJ =>
 rtB (sel AH CJ (.bool false)) fun AI =>
 grd AI (fun CK =>
 opt (zB P 50 8 v3) fun CL =>
 CK A2 A3 CL) (fun AS A4 CM =>
 grd AI (fun CN =>
 opt (zF P 3 AS CM) fun CO =>
 rtI .i64 CO fun CP =>
 CN AS A4 (.int .i64 CP)) (fun A5 A6 CQ =>
 grd AI (fun CR =>
 yD xZ P .eql 3 true CQ (.int .i64 0) fun CS =>
 CR A5 A6 (.bool CS)) (fun CT CU CV =>
 rtB (sel AI CV (.bool false)) fun CW =>
 zO P L 112 k .ret (fo112 (.bool CW)) (W.mk [] u CT CU)) A5 A6) AS A4) A2 A3) A0 A1) AR Az) Ax Ay) Av Aw) AQ Au) AP At) Ar As) Ap Aq) AO Ao) Am An) Ak Al) AN Aj) Ah Ai) Af Ag) AM Ae) Ac Ad) Aa Ab) AL AZ) AX AY) AV AW) h9 AU) h1 n2
theorem F112_eq : EY1 112 hq0 F112 := fun _ _ _ _ _ _ _ _ => by kernel_rfl
theorem l112 : xD P 112 = true := by kernel_rfl
theorem r112 : wF P 112 = some [.tmp 2] := by kernel_rfl
noncomputable abbrev fj113_2 (t : Fr) (s1 s2 s7 s12 s17 s18 s19 s23 s24 s25 s26 s27 s28 s29 s30 s31 s32 s33 s34 s35 s36 s37 : Value) : Fr := gf39 (zA t 0) s1 s2 (zA t 3) (zA t 4) (zA t 5) (zA t 6) s7 (zA t 8) (zA t 9) (zA t 10) (zA t 11) s12 (zA t 13) (zA t 14) (zA t 15) (zA t 16) s17 s18 s19 (zA t 20) (zA t 21) (zA t 22) s23 s24 s25 s26 s27 s28 s29 s30 s31 s32 s33 s34 s35 s36 s37 (zA t 38)
noncomputable abbrev fj113_0 (t : Fr) (s1 s2 s7 s12 s15 s16 s17 s18 s20 s21 s22 s38 : Value) : Fr := gf39 (zA t 0) s1 s2 (zA t 3) (zA t 4) (zA t 5) (zA t 6) s7 (zA t 8) (zA t 9) (zA t 10) (zA t 11) s12 (zA t 13) (zA t 14) s15 s16 s17 s18 (zA t 19) s20 s21 s22 (zA t 23) (zA t 24) (zA t 25) (zA t 26) (zA t 27) (zA t 28) (zA t 29) (zA t 30) (zA t 31) (zA t 32) (zA t 33) (zA t 34) (zA t 35) (zA t 36) (zA t 37) s38
noncomputable abbrev fj113_1 (t : Fr) (s1 s2 : Value) : Fr := fj113_0 t s1 s2 (zA t 7) (zA t 12) (zA t 15) (zA t 16) (zA t 17) (zA t 18) (zA t 20) (zA t 21) (zA t 22) (zA t 38)
noncomputable abbrev hint113 : pD := hq [(1, 0, [.any, .val, .val]), (2, 5, [.any, .val, .val]), (2, 7, [.any, .val, .val, .any, .any, .any, .any, (.int .i64), .any, .any, .any, .any, .bool]), (2, 8, [.any, .val, .val]), (2, 10, [.any, .val, .val, .any, .any, .any, .any, (.int .i64), .any, .any, .any, .any, .any, .any, .any, .any, .any, .bool]), (2, 11, [.any, .val, .val]), (2, 13, [.any, .val, .val]), (2, 15, [.any, .val, .val]), (2, 17, [.any, .val, .val]), (2, 19, [.any, .val, .val])]
noncomputable def F113 : TY1 := fun L lp p0 df u h n k =>
 eBox p0 h n fun h1 n2 v3 =>
 tH P 50 h1 n2 fun h4 n5 v6 =>
 opt (zB P 50 0 v3) fun v7 =>
 opt (zF P 3 h4 v7) fun v8 =>
 rtI .i64 v8 fun a9 =>
 opt (zB P 50 0 v3) fun AV =>
 zW P 3 AV (.int .i64 0) h4 n5 fun Aa Ab Ct =>
 blkJ (fun BD =>
 fb (xZ a9 1) fun AJ =>
 brJ AJ (fun BE =>
 opt (zB P 50 1 v3) fun Ap =>
 zW P 3 Ap (.int .i64 0) Aa Ab fun BF BG Cu =>
 opt (zB P 50 4 v3) fun Aq =>
 zW P 3 Aq (.int .i64 0) BF BG fun BH BI Cv =>
 BE (gf39 p0 v3 v6 (vi a9) v7 (vi a9) AV (vi a9) (vb AJ) (vb AJ) Ap Aq ud ud ud ud ud ud ud ud ud ud ud ud ud ud ud ud ud ud ud ud ud ud ud ud ud ud ud) (W.mk [] u BH BI)) (fun BJ =>
 fb (xZ a9 2) fun AW =>
 brJ AW (fun BK =>
 BK (gf39 p0 v3 v6 (vi a9) v7 (vi a9) AV (vi a9) (vb AJ) (vb AJ) ud ud (vb AW) (vb AW) ud ud ud ud ud ud ud ud ud ud ud ud ud ud ud ud ud ud ud ud ud ud ud ud ud) (W.mk [] u Aa Ab)) (fun BL =>
 fb (xZ a9 4) fun Ar =>
 BL (gf39 p0 v3 v6 (vi a9) v7 (vi a9) AV (vi a9) (vb AJ) (vb AJ) ud ud (vb Ar) (vb AW) (vb Ar) ud ud ud ud ud ud ud ud ud ud ud ud ud ud ud ud ud ud ud ud ud ud ud ud) (W.mk [] u Aa Ab)) (fun AB BM =>
 zL (zA AB 1) fun AR =>
 zL (zA AB 2) fun Ac =>
 rtI .i64 (zA AB 7) fun AS =>
 rtB (zA AB 12) fun AX =>
 onW BM fun Ad Ae Af Ag =>
 brJ AX (fun BN =>
 opt (zB P 50 1 AR) fun As =>
 zW P 3 As (.int .i64 0) Af Ag fun BO BP Cw =>
 opt (zB P 50 2 AR) fun At =>
 zW P 3 At (.int .i64 0) BO BP fun BQ BR Cx =>
 BN (fj113_0 AB AR Ac (vi AS) (vb AX) As At (zA AB 17) (zA AB 18) (zA AB 20) (zA AB 21) (zA AB 22) (zA AB 38)) (W.mk Ad Ae BQ BR)) (fun BS =>
 fb (xZ AS 3) fun AY =>
 brJ AY (fun BT =>
 BT (fj113_0 AB AR Ac (vi AS) (vb AX) (zA AB 15) (zA AB 16) (vb AY) (vb AY) (zA AB 20) (zA AB 21) (zA AB 22) (zA AB 38)) (W.mk Ad Ae Af Ag)) (fun BU =>
 fb (xZ AS 6) fun Au =>
 BU (fj113_2 AB AR Ac (vi AS) (vb AX) (vb Au) (vb AY) (vb Au) (zA AB 23) (zA AB 24) (zA AB 25) (zA AB 26) (zA AB 27) (zA AB 28) (zA AB 29) (zA AB 30) (zA AB 31) (zA AB 32) (zA AB 33) (zA AB 34) (zA AB 35) (zA AB 36) (zA AB 37)) (W.mk Ad Ae Af Ag)) (fun AA BV =>
 zL (zA AA 1) fun AC =>
 zL (zA AA 2) fun AM =>
 rtI .i64 (zA AA 7) fun AG =>
 rtB (zA AA 17) fun AK =>
 onW BV fun AN AO AP AQ =>
 brJ AK (fun BW =>
 opt (zB P 50 1 AC) fun Av =>
 zW P 3 Av (.int .i64 0) AP AQ fun BX BY Cy =>
 opt (zB P 50 5 AC) fun Aw =>
 zW P 9 Aw (.string (ByteArray.mk #[])) BX BY fun BZ Ba Cz =>
 opt (zB P 50 6 AC) fun Ax =>
 zW P 40 Ax (.slice none 0 0) BZ Ba fun Bb Bc C0 =>
 BW (fj113_0 AA AC AM (vi AG) (zA AA 12) (zA AA 15) (zA AA 16) (vb AK) (zA AA 18) Av Aw Ax (zA AA 38)) (W.mk AN AO Bb Bc)) (fun Bd =>
 fb (xZ AG 5) fun AF =>
 brJ AF (fun Be =>
 opt (zB P 50 2 AC) fun Ay =>
 zW P 3 Ay (.int .i64 0) AP AQ fun Bf Bg C1 =>
 opt (zB P 50 3 AC) fun Az =>
 zW P 3 Az (.int .i64 0) Bf Bg fun Bh Bi C2 =>
 Be (fj113_2 AA AC AM (vi AG) (zA AA 12) (vb AK) (zA AA 18) (zA AA 19) (vb AF) (vb AF) Ay Az (zA AA 27) (zA AA 28) (zA AA 29) (zA AA 30) (zA AA 31) (zA AA 32) (zA AA 33) (zA AA 34) (zA AA 35) (zA AA 36) (zA AA 37)) (W.mk AN AO Bh Bi)) (fun Bj =>
 fb (xZ AG 7) fun AH =>
 brJ AH (fun Bk =>
 opt (zB P 50 2 AC) fun A0 =>
 zW P 3 A0 (.int .i64 0) AP AQ fun Bl Bm C3 =>
 opt (zB P 50 7 AC) fun A1 =>
 zW P 3 A1 (.int .i64 0) Bl Bm fun Bn Bo C4 =>
 opt (zB P 50 8 AC) fun A2 =>
 zW P 3 A2 (.int .i64 0) Bn Bo fun Bp Bq C5 =>
 Bk (fj113_2 AA AC AM (vi AG) (zA AA 12) (vb AK) (zA AA 18) (zA AA 19) (vb AF) (vb AF) (zA AA 25) (zA AA 26) (vb AH) (vb AH) A0 A1 A2 (zA AA 32) (zA AA 33) (zA AA 34) (zA AA 35) (zA AA 36) (zA AA 37)) (W.mk AN AO Bp Bq)) (fun Br =>
 fb (xZ AG 8) fun AL =>
 brJ AL (fun Bs =>
 opt (zB P 50 7 AC) fun A3 =>
 zW P 3 A3 (.int .i64 0) AP AQ fun Bt Bu C6 =>
 Bs (fj113_2 AA AC AM (vi AG) (zA AA 12) (vb AK) (zA AA 18) (zA AA 19) (vb AF) (vb AF) (zA AA 25) (zA AA 26) (vb AH) (vb AH) (zA AA 29) (zA AA 30) (zA AA 31) (vb AL) (vb AL) A3 (zA AA 35) (zA AA 36) (zA AA 37)) (W.mk AN AO Bt Bu)) (fun Bv =>
 fb (xZ AG 9) fun AT =>
 brJ AT (fun Bw =>
 opt (zB P 50 2 AC) fun A4 =>
 zW P 3 A4 (.int .i64 0) AP AQ fun Bx By C7 =>
 Bw (fj113_2 AA AC AM (vi AG) (zA AA 12) (vb AK) (zA AA 18) (zA AA 19) (vb AF) (vb AF) (zA AA 25) (zA AA 26) (vb AH) (vb AH) (zA AA 29) (zA AA 30) (zA AA 31) (vb AL) (vb AL) (zA AA 34) (vb AT) (vb AT) A4) (W.mk AN AO Bx By)) (fun Bz =>
 Bz (fj113_2 AA AC AM (vi AG) (zA AA 12) (vb AK) (zA AA 18) (zA AA 19) (vb AF) (vb AF) (zA AA 25) (zA AA 26) (vb AH) (vb AH) (zA AA 29) (zA AA 30) (zA AA 31) (vb AL) (vb AL) (zA AA 34) (vb AT) (vb AT) (zA AA 37)) (W.mk AN AO AP AQ)) (fun Ah B0 =>
 zL (zA Ah 1) fun B1 =>
 zL (zA Ah 2) fun B2 =>
 onW B0 fun B3 B4 B5 B6 =>
 Bv (fj113_1 Ah B1 B2) (W.mk B3 B4 B5 B6))) (fun Ai B7 =>
 zL (zA Ai 1) fun B8 =>
 zL (zA Ai 2) fun B9 =>
 onW B7 fun CA CB CC CD =>
 Br (fj113_1 Ai B8 B9) (W.mk CA CB CC CD))) (fun Aj CE =>
 zL (zA Aj 1) fun CF =>
 zL (zA Aj 2) fun CG =>
 onW CE fun CH CI CJ CK =>
 Bj (fj113_1 Aj CF CG) (W.mk CH CI CJ CK))) (fun Ak CL =>
 zL (zA Ak 1) fun CM =>
 zL (zA Ak 2) fun CN =>
 onW CL fun CO CP CQ CR =>
 Bd (fj113_1 Ak CM CN) (W.mk CO CP CQ CR))) (fun Al CS =>
 zL (zA Al 1) fun CT =>
 zL (zA Al 2) fun CU =>
 onW CS fun CV CW CX CY =>
 BS (fj113_1 Al CT CU) (W.mk CV CW CX CY)))) (fun Am CZ =>
 zL (zA Am 1) fun Ca =>
 zL (zA Am 2) fun Cb =>
 onW CZ fun Cc Cd Ce Cf =>
 BJ (fj113_1 Am Ca Cb) (W.mk Cc Cd Ce Cf)))) (fun An Cg =>
 zL (zA An 1) fun Ch =>
 zL (zA An 2) fun Ci =>
 onW Cg fun Cj Ck Cl Cm =>
 BD (fj113_1 An Ch Ci) (W.mk Cj Ck Cl Cm))) (fun AE Cn =>
 zL (zA AE 1) fun A5 =>
 zL (zA AE 2) fun A6 =>
 onW Cn fun Co Cp A7 Cq =>
 opt (zF P 50 A7 A5) fun A8 =>
 zW P 50 A6 A8 A7 Cq fun Cr Cs C8 =>
 zO P L 113 k .ret (fj113_0 AE A5 A6 (zA AE 7) (zA AE 12) (zA AE 15) (zA AE 16) (zA AE 17) (zA AE 18) (zA AE 20) (zA AE 21) (zA AE 22) A8) (W.mk Co Cp Cr Cs))
theorem F113_eq : EY1 113 hint113 F113 := fun _ _ _ _ _ _ _ _ => by kernel_rfl
theorem l113 : xD P 113 = true := by kernel_rfl
theorem r113 : wF P 113 = some [.cell 2 50] := by kernel_rfl
noncomputable def F52 : TY3 := fun L lp p0 p1 p2 df u h n k =>
 yY L 54 [p1, (.string (ByteArray.mk #[32]))] h n (kp L 52 k go11 [] u) fun a1 h2 n3 =>
 qP pC P .add 9 false p0 a1 fun v7 =>
 qP pC P .add 9 true v7 (.string (ByteArray.mk #[10])) fun v8 =>
 yY L 53 [p2, v8] h2 n3 (kp L 52 k go11 [] u) fun a9 AL AM =>
 zO P L 52 k .ret go11 (W.mk [] u AL AM)
theorem F52_eq : EY3 52 hq0 F52 := fun _ _ _ _ _ _ _ _ _ _ => by kernel_rfl
theorem l52 : xD P 52 = true := by kernel_rfl
theorem r52 : wF P 52 = some [] := by kernel_rfl
noncomputable abbrev fo53 (s4 s5 : Value) : Fr := gf19 ud ud ud ud s4 s5 ud ud ud ud ud ud ud ud ud ud ud ud ud
noncomputable def F53 : TY2 := fun L lp p0 p1 df u h n k =>
 yY L 108 [p0] h n (kp L 53 k (fo53 (.int .i64 0) .nilIface) [] u) fun a1 h2 n3 =>
 opt (qQ p0) fun v7 =>
 opt (zB P 97 1 v7) fun v8 =>
 opt (zF P 95 h2 v8) fun v9 =>
 xV P [95, 9] [v9, p1] h2 n3 fun AJ AK AL =>
 opt (qQ p0) fun AM =>
 opt (zB P 97 1 AM) fun AN =>
 zW P 95 AN AL AJ AK fun AB AO AS =>
 opt (yG P .len [9] [p1] AB) fun AP =>
 rtI .i64 AP fun AQ =>
 zO P L 53 k .ret (fo53 (.int .i64 AQ) .nilIface) (W.mk [] u AB AO)
theorem F53_eq : EY2 53 hq0 F53 := fun _ _ _ _ _ _ _ _ _ => by kernel_rfl
theorem l53 : xD P 53 = true := by kernel_rfl
theorem r53 : wF P 53 = some [.tmp 4, .tmp 5] := by kernel_rfl
noncomputable abbrev fo162 (s4 : Value) : Fr := gf40 ud ud ud ud s4 ud ud ud ud ud ud ud ud ud ud ud ud ud ud ud ud ud ud ud ud ud ud ud ud ud ud ud ud ud ud ud ud ud ud ud
noncomputable abbrev fj162_0 (t : Fr) (s4 s7 s9 s29 s30 s31 s32 s33 s34 s35 s36 s37 s38 s39 : Value) : Fr := gf40 (zA t 0) (zA t 1) (zA t 2) (zA t 3) s4 (zA t 5) (zA t 6) s7 (zA t 8) s9 (zA t 10) (zA t 11) (zA t 12) (zA t 13) (zA t 14) (zA t 15) (zA t 16) (zA t 17) (zA t 18) (zA t 19) (zA t 20) (zA t 21) (zA t 22) (zA t 23) (zA t 24) (zA t 25) (zA t 26) (zA t 27) (zA t 28) s29 s30 s31 s32 s33 s34 s35 s36 s37 s38 s39
noncomputable abbrev hint162 : pD := hq [(0, 1000005, [.any, .any, .any, .any, .any, .any, .any, .val, .any, .any, .any, .any, .any, .any, .any, .any, .any, .any, .any, .any, .any, .any, .any, .any, .any, .any, .any, .any, .any, .val, (.int .i64), (.int .i64)]), (1, 0, [.any, .any, .any, .any, .any, .any, .any, .val]), (1, 1, [.any, .any, .any, .any, .any, .any, .any, .val, .any, .any, .any, .any, .any, .any, .any, .any, .any, .any, .any, .any, .any, .any, .any, .any, .any, .any, .any, .any, .any, .val, (.int .i64), (.int .i64)]), (2, 0, [.any, .any, .any, .any, .any, .any, .any, .val, .any, .any, .any, .any, .any, .any, .any, .any, .any, .any, .any, .any, .any, .any, .any, .any, .any, .any, .any, .any, .any, .val, (.int .i64), (.int .i64)])]
noncomputable def F162 : TY2 := fun L lp p0 p1 df u h n k =>
 yY L 181 [p0, p1] h n (kp L 162 k (fo162 (.pointer none)) [] u) fun a1 h2 n3 =>
 opt (yN 0 a1) fun v7 =>
 opt (yN 1 a1) fun v8 =>
 rtB v8 fun a9 =>
 grd a9 (fun AX =>
 AX h2 n3 v7) (fun AJ AK AL =>
 grd a9 (fun AY =>
 yD ineB P .neq 9 true AL (.string (ByteArray.mk #[])) fun AZ =>
 AY AJ AK (.bool AZ)) (fun Aa Ab AM =>
 rtB (sel a9 AM (.bool false)) fun AN =>
 yY L 120 [(.bool AN), (.int .i64 3)] Aa Ab (kp L 162 k (fo162 (.pointer none)) [] u) fun Af Ag Ah =>
 yY L 182 [v7, (.string (ByteArray.mk #[32]))] Ag Ah (kp L 162 k (fo162 (.pointer none)) [] u) fun AO Al Am =>
 opt (vR P 189 [(0, AO)]) fun AP =>
 eBox AP Al Am fun AF An AE =>
 opt (qQ AE) fun AQ =>
 opt (zB P 189 0 AQ) fun AR =>
 opt (zF P 23 AF AR) fun AS =>
 opt (yG P .len [23] [AS] AF) fun Ao =>
 rtI .i64 Ao fun Ap =>
 lp 1000005 ⟨162, none, df⟩ (gf40 p0 p1 ud ud (.pointer none) v7 (vb a9) AE ud ud a1 p0 p1 a1 v7 (vb a9) (vb a9) (vb a9) AL AM (vb AN) Af v7 AO AP AE AE AQ AR AS (vi Ap) (vi 0) ud ud ud ud ud ud ud ud) (W.mk [] u AF An) (endA noK (blkA 0 (fun AA Aq =>
 zL (zA AA 7) fun AG =>
 onW Aq fun Ar As At Au =>
 zO P L 162 k .ret (fj162_0 AA AG AG (zA AA 9) (zA AA 29) (zA AA 30) (zA AA 31) (zA AA 32) (zA AA 33) (zA AA 34) (zA AA 35) (zA AA 36) (zA AA 37) (zA AA 38) AG) (W.mk Ar As At Au)) (zO P L 162 k)))) AJ AK) h2 n3
theorem F162_eq : EY2 162 hint162 F162 := fun _ _ _ _ _ _ _ _ _ => by kernel_rfl
noncomputable def B162_1000005 : TYB := fun L lp rd df t w ka =>
 zL (zA t 7) fun AG =>
 zL (zA t 29) fun AD =>
 rtI .i64 (zA t 30) fun AE =>
 rtI .i64 (zA t 31) fun AC =>
 onW w fun AH AI AJ AM =>
 fb (wO AC AE) fun AF =>
 br AF (
 blkJ (fun AO =>
 opt (zU P 23 AD (.int .i64 AC)) fun AK =>
 opt (zF P 9 AJ AK) fun AB =>
 yD ineB P .neq 9 true AB (.string (ByteArray.mk #[])) fun AL =>
 yY L 120 [(.bool AL), (.int .i64 3)] AJ AM (kb ka (fj162_0 t (zA t 4) AG AB AD (vi AE) (vi AC) (vb AF) AK AB AB (vb AL) (zA t 37) (zA t 38) (zA t 39)) AH AI) fun AS AT AU =>
 AO (fj162_0 t (zA t 4) AG AB AD (vi AE) (vi AC) (vb AF) AK AB AB (vb AL) AS (zA t 38) (zA t 39)) (W.mk AH AI AT AU)) (fun AA AV =>
 zL (zA AA 7) fun AW =>
 zL (zA AA 29) fun AX =>
 rtI .i64 (zA AA 30) fun AY =>
 rtI .i64 (zA AA 31) fun AZ =>
 onW AV fun Aa Ab Ac Ad =>
 fi (wW .i64 (pC AZ 1)) fun AN =>
 lp 1000005 ⟨162, rd, df⟩ (fj162_0 AA (zA AA 4) AW (zA AA 9) AX (vi AY) (vi AN) (zA AA 32) (zA AA 33) (zA AA 34) (zA AA 35) (zA AA 36) (zA AA 37) (vi AN) (zA AA 39)) (W.mk Aa Ab Ac Ad) ka)) (
 ka (.exit 0) (fj162_0 t (zA t 4) AG (zA t 9) AD (vi AE) (vi AC) (vb AF) (zA t 33) (zA t 34) (zA t 35) (zA t 36) (zA t 37) (zA t 38) (zA t 39)) (W.mk AH AI AJ AM))
theorem B162_1000005_eq : EYB 162 1000005 hint162 B162_1000005 := fun _ _ _ _ _ _ _ => by kernel_rfl
theorem l162 : xD P 162 = true := by kernel_rfl
theorem r162 : wF P 162 = some [.tmp 4] := by kernel_rfl
theorem lp162_1000005 : uM (xC P 162 1000005) = true := by kernel_rfl
noncomputable abbrev fj119_0 (t : Fr) (s0 s1 s4 s5 s6 s7 s8 s14 : Value) : Fr := gf15 s0 s1 (zA t 2) (zA t 3) s4 s5 s6 s7 s8 (zA t 9) (zA t 10) (zA t 11) (zA t 12) (zA t 13) s14
noncomputable abbrev hint119 : pD := hq [(0, 1000002, [.val, .val, .any, .any, .any, .val]), (1, 0, [.any, .any, .any, .any, .any, .val]), (1, 1, [.val, .val, .any, .any, .any, .val]), (2, 0, [.val, .val, .any, .any, .any, .val])]
noncomputable def F119 : TY2 := fun L lp p0 p1 df u h n k =>
 lp 1000002 ⟨119, none, df⟩ (gf15 p0 p1 ud ud (.slice none 0 0) (.slice none 0 0) ud ud ud ud ud ud ud ud ud) (W.mk [] u h n) (endA noK (blkA 0 (fun t1 w2 =>
 zL (zA t1 5) fun s3 =>
 onW w2 fun d4 u5 h6 n7 =>
 zO P L 119 k .ret (fj119_0 t1 (zA t1 0) (zA t1 1) s3 s3 (zA t1 6) (zA t1 7) (zA t1 8) s3) (W.mk d4 u5 h6 n7)) (zO P L 119 k)))
theorem F119_eq : EY2 119 hint119 F119 := fun _ _ _ _ _ _ _ _ _ => by kernel_rfl
noncomputable def B119_1000002 : TYB := fun L lp rd df t w ka =>
 zL (zA t 0) fun s8 =>
 zL (zA t 1) fun s9 =>
 zL (zA t 5) fun AD =>
 onW w fun AE AF AN AO =>
 qS L .i64 154 [s8] AN AO (kb ka (fj119_0 t s8 s9 (zA t 4) AD s8 (zA t 7) (zA t 8) (zA t 14)) AE AF) fun AG AI AJ =>
 fb (wO 0 AG) fun AH =>
 br AH (
 blkJ (fun AS =>
 vC L s9 [] AI AJ (kb ka (gf15 s8 s9 (zA t 2) (zA t 3) (zA t 4) AD s8 (vi AG) (vb AH) AD s9 (zA t 11) (zA t 12) (zA t 13) (zA t 14)) AE AF) fun AK AW AX =>
 zN P 23 1 [(0, AK)] AW AX fun AY AZ AL =>
 xV P [23, 23] [AD, AL] AY AZ fun Aa Ab AM =>
 AS (gf15 s8 s9 (zA t 2) (zA t 3) (zA t 4) AM s8 (vi AG) (vb AH) AD s9 AK AL AM (zA t 14)) (W.mk AE AF Aa Ab)) (fun AB Ac =>
 zL (zA AB 0) fun Ad =>
 zL (zA AB 1) fun Ae =>
 zL (zA AB 5) fun Af =>
 onW Ac fun Ag Ah Ai Aj =>
 lp 1000002 ⟨119, rd, df⟩ (fj119_0 AB Ad Ae (zA AB 4) Af (zA AB 6) (zA AB 7) (zA AB 8) (zA AB 14)) (W.mk Ag Ah Ai Aj) ka)) (
 ka (.exit 0) (fj119_0 t s8 s9 (zA t 4) AD s8 (vi AG) (vb AH) (zA t 14)) (W.mk AE AF AI AJ))
theorem B119_1000002_eq : EYB 119 1000002 hint119 B119_1000002 := fun _ _ _ _ _ _ _ => by kernel_rfl
theorem l119 : xD P 119 = true := by kernel_rfl
theorem r119 : wF P 119 = some [.tmp 4] := by kernel_rfl
theorem lp119_1000002 : uM (xC P 119 1000002) = true := by kernel_rfl
noncomputable abbrev fj121_0 (t : Fr) (s0 s1 s4 s5 s6 s7 s8 s14 : Value) : Fr := gf15 s0 s1 (zA t 2) (zA t 3) s4 s5 s6 s7 s8 (zA t 9) (zA t 10) (zA t 11) (zA t 12) (zA t 13) s14
noncomputable abbrev hint121 : pD := hq [(0, 1000002, [.val, .val, .any, .any, .any, .val]), (1, 0, [.any, .any, .any, .any, .any, .val]), (1, 1, [.val, .val, .any, .any, .any, .val]), (2, 0, [.val, .val, .any, .any, .any, .val])]
noncomputable def F121 : TY2 := fun L lp p0 p1 df u h n k =>
 lp 1000002 ⟨121, none, df⟩ (gf15 p0 p1 ud ud (.slice none 0 0) (.slice none 0 0) ud ud ud ud ud ud ud ud ud) (W.mk [] u h n) (endA noK (blkA 0 (fun t1 w2 =>
 zL (zA t1 5) fun s3 =>
 onW w2 fun d4 u5 h6 n7 =>
 zO P L 121 k .ret (fj121_0 t1 (zA t1 0) (zA t1 1) s3 s3 (zA t1 6) (zA t1 7) (zA t1 8) s3) (W.mk d4 u5 h6 n7)) (zO P L 121 k)))
theorem F121_eq : EY2 121 hint121 F121 := fun _ _ _ _ _ _ _ _ _ => by kernel_rfl
noncomputable def B121_1000002 : TYB := fun L lp rd df t w ka =>
 zL (zA t 0) fun s8 =>
 zL (zA t 1) fun s9 =>
 zL (zA t 5) fun AD =>
 onW w fun AE AF AN AO =>
 qS L .i64 154 [s8] AN AO (kb ka (fj121_0 t s8 s9 (zA t 4) AD s8 (zA t 7) (zA t 8) (zA t 14)) AE AF) fun AG AI AJ =>
 fb (wO 0 AG) fun AH =>
 br AH (
 blkJ (fun AS =>
 invokeI L .i64 s9 [] AI AJ (kb ka (gf15 s8 s9 (zA t 2) (zA t 3) (zA t 4) AD s8 (vi AG) (vb AH) AD s9 (zA t 11) (zA t 12) (zA t 13) (zA t 14)) AE AF) fun AK AW AX =>
 zN P 40 1 [(0, (.int .i64 AK))] AW AX fun AY AZ AL =>
 xV P [40, 40] [AD, AL] AY AZ fun Aa Ab AM =>
 AS (gf15 s8 s9 (zA t 2) (zA t 3) (zA t 4) AM s8 (vi AG) (vb AH) AD s9 (vi AK) AL AM (zA t 14)) (W.mk AE AF Aa Ab)) (fun AB Ac =>
 zL (zA AB 0) fun Ad =>
 zL (zA AB 1) fun Ae =>
 zL (zA AB 5) fun Af =>
 onW Ac fun Ag Ah Ai Aj =>
 lp 1000002 ⟨121, rd, df⟩ (fj121_0 AB Ad Ae (zA AB 4) Af (zA AB 6) (zA AB 7) (zA AB 8) (zA AB 14)) (W.mk Ag Ah Ai Aj) ka)) (
 ka (.exit 0) (fj121_0 t s8 s9 (zA t 4) AD s8 (vi AG) (vb AH) (zA t 14)) (W.mk AE AF AI AJ))
theorem B121_1000002_eq : EYB 121 1000002 hint121 B121_1000002 := fun _ _ _ _ _ _ _ => by kernel_rfl
theorem l121 : xD P 121 = true := by kernel_rfl
theorem r121 : wF P 121 = some [.tmp 4] := by kernel_rfl
theorem lp121_1000002 : uM (xC P 121 1000002) = true := by kernel_rfl
noncomputable def F158 : TY2 := fun L lp p0 p1 df u h n k =>
 yY L 117 [p1] h n (kp L 158 k go26 [] u) fun a1 h2 n3 =>
 opt (qQ p0) fun v7 =>
 opt (zB P 50 0 v7) fun v8 =>
 zW P 3 v8 (.int .i64 6) h2 n3 fun h9 AK Ak =>
 opt (qQ p0) fun AL =>
 opt (zB P 50 5 AL) fun AM =>
 zW P 9 AM a1 h9 AK fun AN AO Al =>
 letV (.func (.func 122) (Array.mk [p1]) (Array.mk [])) fun AP =>
 yY L 121 [p1, AP] AN AO (kp L 158 k go26 [] u) fun AT AU AV =>
 opt (qQ p0) fun AW =>
 opt (zB P 50 6 AW) fun AX =>
 zW P 40 AX AT AU AV fun AA AY Am =>
 opt (qQ p0) fun AZ =>
 opt (zB P 50 6 AZ) fun Aa =>
 opt (zF P 40 AA Aa) fun Ab =>
 opt (yG P .len [40] [Ab] AA) fun Ac =>
 rtI .i64 Ac fun Ad =>
 fb (rU Ad 16) fun Ae =>
 yY L 120 [(.bool Ae), (.int .i64 2)] AA AY (kp L 158 k go26 [] u) fun An Ai Aj =>
 zO P L 158 k .ret go26 (W.mk [] u Ai Aj)
theorem F158_eq : EY2 158 hq0 F158 := fun _ _ _ _ _ _ _ _ _ => by kernel_rfl
theorem l158 : xD P 158 = true := by kernel_rfl
theorem r158 : wF P 158 = some [] := by kernel_rfl
noncomputable abbrev fo157 (s2 : Value) : Fr := gf54 ud ud s2 ud ud ud ud ud ud ud ud ud ud ud ud ud ud ud ud ud ud ud ud ud ud ud ud ud ud ud ud ud ud ud ud ud ud ud ud ud ud ud ud ud ud ud ud ud ud ud ud ud ud ud
noncomputable abbrev fj157_0 (t : Fr) (s2 s3 s53 : Value) : Fr := gf54 (zA t 0) (zA t 1) s2 s3 (zA t 4) (zA t 5) (zA t 6) (zA t 7) (zA t 8) (zA t 9) (zA t 10) (zA t 11) (zA t 12) (zA t 13) (zA t 14) (zA t 15) (zA t 16) (zA t 17) (zA t 18) (zA t 19) (zA t 20) (zA t 21) (zA t 22) (zA t 23) (zA t 24) (zA t 25) (zA t 26) (zA t 27) (zA t 28) (zA t 29) (zA t 30) (zA t 31) (zA t 32) (zA t 33) (zA t 34) (zA t 35) (zA t 36) (zA t 37) (zA t 38) (zA t 39) (zA t 40) (zA t 41) (zA t 42) (zA t 43) (zA t 44) (zA t 45) (zA t 46) (zA t 47) (zA t 48) (zA t 49) (zA t 50) (zA t 51) (zA t 52) s53
noncomputable abbrev hint157 : pD := hq [(1, 0, [.any, .any, .val, .val]), (2, 10, [.any, .any, .val, .val]), (2, 12, [.any, .any, .val, .val]), (2, 14, [.any, .any, .val, .val]), (2, 16, [.any, .any, .val, .val])]
noncomputable def F157 : TY1 := fun L lp p0 df u h n k =>
 tH P 50 h n fun h1 n2 v3 =>
 qS L .i64 122 [p0] h1 n2 (kp L 157 k (fo157 v3) [] u) fun a4 h5 n6 =>
 opt (vR P 50 [(1, (.int .i64 a4))]) fun AH =>
 tH P 50 h5 n6 fun A0 A1 AB =>
 zW P 50 AB AH A0 A1 fun A2 A3 Cn =>
 yY L 116 [p0, (.string (ByteArray.mk #[61]))] A2 A3 (kp L 157 k (fo157 v3) [] u) fun AI A7 A8 =>
 yY L 117 [p0] A7 A8 (kp L 157 k (fo157 v3) [] u) fun AA AJ AK =>
 blkJ (fun BC =>
 yD xZ P .eql 9 true AA (.string (ByteArray.mk #[99, 111, 110, 115, 116])) fun AD =>
 brJ AD (fun BD =>
 qS L .i64 155 [p0] AJ AK (kp L 157 k (fo157 v3) [] u) fun AT BH BI =>
 opt (zB P 50 0 AB) fun AU =>
 zW P 3 AU (.int .i64 1) BH BI fun BJ BK Co =>
 opt (zB P 50 4 AB) fun AV =>
 zW P 3 AV (.int .i64 AT) BJ BK fun BL BM Cp =>
 BD (gf54 p0 ud v3 AB AA p0 (vi a4) AH p0 AI p0 AA AA ud ud ud ud ud ud ud ud ud ud ud ud ud ud ud ud ud ud (vb AD) (vb AD) p0 (vi AT) AU AV ud ud ud ud ud ud ud ud ud ud ud ud ud ud ud ud ud) (W.mk [] u BL BM)) (fun BN =>
 yD xZ P .eql 9 true AA (.string (ByteArray.mk #[99, 111, 112, 121])) fun AE =>
 brJ AE (fun BO =>
 qS L .i64 122 [p0] AJ AK (kp L 157 k (fo157 v3) [] u) fun AW BS BT =>
 opt (zB P 50 0 AB) fun AX =>
 zW P 3 AX (.int .i64 2) BS BT fun BU BV Cq =>
 opt (zB P 50 2 AB) fun AY =>
 zW P 3 AY (.int .i64 AW) BU BV fun BW BX Cr =>
 BO (gf54 p0 ud v3 AB AA p0 (vi a4) AH p0 AI p0 AA AA ud ud ud ud ud ud ud ud ud ud ud ud ud ud ud ud ud ud (vb AD) (vb AD) ud ud ud ud (vb AE) (vb AE) p0 (vi AW) AX AY ud ud ud ud ud ud ud ud ud ud ud) (W.mk [] u BW BX)) (fun BY =>
 yD xZ P .eql 9 true AA (.string (ByteArray.mk #[108, 111, 97, 100])) fun AF =>
 brJ AF (fun BZ =>
 qS L .i64 122 [p0] AJ AK (kp L 157 k (fo157 v3) [] u) fun AZ Bd Be =>
 opt (zB P 50 0 AB) fun Aa =>
 zW P 3 Aa (.int .i64 4) Bd Be fun Bf Bg Cs =>
 opt (zB P 50 2 AB) fun Ab =>
 zW P 3 Ab (.int .i64 AZ) Bf Bg fun Bh Bi Ct =>
 BZ (gf54 p0 ud v3 AB AA p0 (vi a4) AH p0 AI p0 AA AA ud ud ud ud ud ud ud ud ud ud ud ud ud ud ud ud ud ud (vb AD) (vb AD) ud ud ud ud (vb AE) (vb AE) ud ud ud ud (vb AF) (vb AF) p0 (vi AZ) Aa Ab ud ud ud ud ud) (W.mk [] u Bh Bi)) (fun Bj =>
 yD xZ P .eql 9 true AA (.string (ByteArray.mk #[99, 97, 108, 108])) fun AL =>
 brJ AL (fun Bk =>
 yY L 158 [AB, p0] AJ AK (kp L 157 k (fo157 v3) [] u) fun Bo Bp Bq =>
 Bk (gf54 p0 ud v3 AB AA p0 (vi a4) AH p0 AI p0 AA AA ud ud ud ud ud ud ud ud ud ud ud ud ud ud ud ud ud ud (vb AD) (vb AD) ud ud ud ud (vb AE) (vb AE) ud ud ud ud (vb AF) (vb AF) ud ud ud ud (vb AL) (vb AL) p0 Bo ud) (W.mk [] u Bp Bq)) (fun Br =>
 opt (zB P 50 0 AB) fun Ac =>
 zW P 3 Ac (.int .i64 3) AJ AK fun Bs Bt Cu =>
 opt (zB P 50 5 AB) fun Ad =>
 zW P 9 Ad AA Bs Bt fun Bu Bv Cv =>
 letV (.func (.func 122) (Array.mk [p0]) (Array.mk [])) fun Ae =>
 yY L 121 [p0, Ae] Bu Bv (kp L 157 k (fo157 v3) [] u) fun Af Bz B0 =>
 opt (zB P 50 6 AB) fun Ag =>
 zW P 40 Ag Af Bz B0 fun AQ B1 Cw =>
 opt (zB P 50 6 AB) fun Ah =>
 opt (zF P 40 AQ Ah) fun Ai =>
 opt (yG P .len [40] [Ai] AQ) fun B2 =>
 rtI .i64 B2 fun Aj =>
 fb (rU 1 Aj) fun Ak =>
 yY L 120 [(.bool Ak), (.int .i64 3)] AQ B1 (kp L 157 k (fo157 v3) [] u) fun B6 AR B7 =>
 opt (zB P 50 6 AB) fun Al =>
 opt (zF P 40 AR Al) fun Am =>
 opt (yG P .len [40] [Am] AR) fun B8 =>
 rtI .i64 B8 fun An =>
 fb (rU An 2) fun Ao =>
 yY L 120 [(.bool Ao), (.int .i64 3)] AR B7 (kp L 157 k (fo157 v3) [] u) fun CC CD CE =>
 Br (gf54 p0 ud v3 AB AA p0 (vi a4) AH p0 AI p0 AA AA AA Ac Ad p0 p0 Ae Af Ag Ah Ai (vi Aj) (vb Ak) B6 Al Am (vi An) (vb Ao) CC (vb AD) (vb AD) ud ud ud ud (vb AE) (vb AE) ud ud ud ud (vb AF) (vb AF) ud ud ud ud (vb AL) (vb AL) ud ud ud) (W.mk [] u CD CE)) (fun AM CF =>
 zL (zA AM 2) fun CG =>
 zL (zA AM 3) fun CH =>
 onW CF fun CI CJ CK CL =>
 Bj (fj157_0 AM CG CH (zA AM 53)) (W.mk CI CJ CK CL))) (fun AN CM =>
 zL (zA AN 2) fun CN =>
 zL (zA AN 3) fun CO =>
 onW CM fun CP CQ CR CS =>
 BY (fj157_0 AN CN CO (zA AN 53)) (W.mk CP CQ CR CS))) (fun AO CT =>
 zL (zA AO 2) fun CU =>
 zL (zA AO 3) fun CV =>
 onW CT fun CW CX CY CZ =>
 BN (fj157_0 AO CU CV (zA AO 53)) (W.mk CW CX CY CZ))) (fun AP Ca =>
 zL (zA AP 2) fun Cb =>
 zL (zA AP 3) fun Cc =>
 onW Ca fun Cd Ce Cf Cg =>
 BC (fj157_0 AP Cb Cc (zA AP 53)) (W.mk Cd Ce Cf Cg))) (fun AS Ch =>
 zL (zA AS 2) fun Ap =>
 zL (zA AS 3) fun Aq =>
 onW Ch fun Ci Cj Ar Ck =>
 opt (zF P 50 Ar Aq) fun As =>
 zW P 50 Ap As Ar Ck fun Cl Cm Cx =>
 zO P L 157 k .ret (fj157_0 AS Ap Aq As) (W.mk Ci Cj Cl Cm))
theorem F157_eq : EY1 157 hint157 F157 := fun _ _ _ _ _ _ _ _ => by kernel_rfl
theorem l157 : xD P 157 = true := by kernel_rfl
theorem r157 : wF P 157 = some [.cell 2 50] := by kernel_rfl
noncomputable abbrev fo123 (s2 : Value) : Fr := gf52 ud ud s2 ud ud ud ud ud ud ud ud ud ud ud ud ud ud ud ud ud ud ud ud ud ud ud ud ud ud ud ud ud ud ud ud ud ud ud ud ud ud ud ud ud ud ud ud ud ud ud ud ud
noncomputable abbrev fj123_0 (t : Fr) (s2 s3 s51 : Value) : Fr := gf52 (zA t 0) (zA t 1) s2 s3 (zA t 4) (zA t 5) (zA t 6) (zA t 7) (zA t 8) (zA t 9) (zA t 10) (zA t 11) (zA t 12) (zA t 13) (zA t 14) (zA t 15) (zA t 16) (zA t 17) (zA t 18) (zA t 19) (zA t 20) (zA t 21) (zA t 22) (zA t 23) (zA t 24) (zA t 25) (zA t 26) (zA t 27) (zA t 28) (zA t 29) (zA t 30) (zA t 31) (zA t 32) (zA t 33) (zA t 34) (zA t 35) (zA t 36) (zA t 37) (zA t 38) (zA t 39) (zA t 40) (zA t 41) (zA t 42) (zA t 43) (zA t 44) (zA t 45) (zA t 46) (zA t 47) (zA t 48) (zA t 49) (zA t 50) s51
noncomputable abbrev hint123 : pD := hq [(1, 0, [.any, .any, .val, .val]), (2, 2, [.val, .any, .val]), (2, 7, [.any, .any, .val, .val]), (2, 10, [.any, .any, .val, .val]), (2, 13, [.any, .any, .val, .val]), (2, 17, [.any, .any, .val, .val]), (2, 19, [.any, .any, .val, .val])]
noncomputable def F123 : TY1 := fun L lp p0 df u h n k =>
 tH P 50 h n fun h1 n2 v3 =>
 yY L 156 [p0, (.int .i64 1)] h1 n2 (kp L 123 k (fo123 v3) [] u) fun a4 h5 n6 =>
 yD xZ P .eql 9 true a4 (.string (ByteArray.mk #[61])) fun AH =>
 br AH (
 yY L 157 [p0] h5 n6 (kp L 123 k (fo123 v3) [] u) fun A0 A1 A2 =>
 zW P 50 v3 A0 A1 A2 fun A3 A4 DB =>
 zO P L 123 k .ret (fo123 v3) (W.mk [] u A3 A4)) (
 opt (vR P 50 []) fun AI =>
 tH P 50 h5 n6 fun A5 A6 AB =>
 zW P 50 AB AI A5 A6 fun A7 A8 DC =>
 yY L 153 [p0] A7 A8 (kp L 123 k (fo123 v3) [] u) fun AD AK AL =>
 blkJ (fun BC =>
 yD xZ P .eql 9 true AD (.string (ByteArray.mk #[115, 116, 111, 114, 101])) fun AC =>
 brJ AC (fun BD =>
 qS L .i64 122 [p0] AK AL (kp L 123 k (fo123 v3) [] u) fun AV BH BI =>
 opt (zB P 50 0 AB) fun AW =>
 zW P 3 AW (.int .i64 5) BH BI fun BJ BK DD =>
 opt (zB P 50 2 AB) fun AX =>
 zW P 3 AX (.int .i64 AV) BJ BK fun BL BM DE =>
 qS L .i64 122 [p0] BL BM (kp L 123 k (fo123 v3) [] u) fun AY BQ BR =>
 opt (zB P 50 3 AB) fun AZ =>
 zW P 3 AZ (.int .i64 AY) BQ BR fun BS BT DF =>
 BD (gf52 p0 ud v3 AB p0 a4 (vb AH) ud ud AI p0 AD ud (vb AC) (vb AC) p0 (vi AV) AW AX p0 (vi AY) AZ ud ud ud ud ud ud ud ud ud ud ud ud ud ud ud ud ud ud ud ud ud ud ud ud ud ud ud ud ud ud) (W.mk [] u BS BT)) (fun BU =>
 yD xZ P .eql 9 true AD (.string (ByteArray.mk #[99, 97, 108, 108])) fun AE =>
 brJ AE (fun BV =>
 opt (zB P 50 1 AB) fun Aa =>
 zW P 3 Aa (.int .i64 (-1)) AK AL fun BW BX DG =>
 yY L 158 [AB, p0] BW BX (kp L 123 k (fo123 v3) [] u) fun Bb Bc Bd =>
 BV (gf52 p0 ud v3 AB p0 a4 (vb AH) ud ud AI p0 AD ud (vb AC) (vb AC) ud ud ud ud ud ud ud (vb AE) (vb AE) Aa p0 Bb ud ud ud ud ud ud ud ud ud ud ud ud ud ud ud ud ud ud ud ud ud ud ud ud ud) (W.mk [] u Bc Bd)) (fun Be =>
 yD xZ P .eql 9 true AD (.string (ByteArray.mk #[98, 114])) fun AF =>
 brJ AF (fun Bf =>
 qS L .i64 122 [p0] AK AL (kp L 123 k (fo123 v3) [] u) fun Ab Bj Bk =>
 opt (zB P 50 0 AB) fun Ac =>
 zW P 3 Ac (.int .i64 7) Bj Bk fun Bl Bm DH =>
 opt (zB P 50 2 AB) fun Ad =>
 zW P 3 Ad (.int .i64 Ab) Bl Bm fun Bn Bo DI =>
 qS L .i64 122 [p0] Bn Bo (kp L 123 k (fo123 v3) [] u) fun Ae Bs Bt =>
 opt (zB P 50 7 AB) fun Af =>
 zW P 3 Af (.int .i64 Ae) Bs Bt fun Bu Bv DJ =>
 qS L .i64 122 [p0] Bu Bv (kp L 123 k (fo123 v3) [] u) fun Ag Bz B0 =>
 opt (zB P 50 8 AB) fun Ah =>
 zW P 3 Ah (.int .i64 Ag) Bz B0 fun B1 B2 DK =>
 Bf (gf52 p0 ud v3 AB p0 a4 (vb AH) ud ud AI p0 AD ud (vb AC) (vb AC) ud ud ud ud ud ud ud (vb AE) (vb AE) ud ud ud (vb AF) (vb AF) p0 (vi Ab) Ac Ad p0 (vi Ae) Af p0 (vi Ag) Ah ud ud ud ud ud ud ud ud ud ud ud ud ud) (W.mk [] u B1 B2)) (fun B3 =>
 yD xZ P .eql 9 true AD (.string (ByteArray.mk #[106, 117, 109, 112])) fun AJ =>
 brJ AJ (fun B4 =>
 qS L .i64 122 [p0] AK AL (kp L 123 k (fo123 v3) [] u) fun Ai B8 B9 =>
 opt (zB P 50 0 AB) fun Aj =>
 zW P 3 Aj (.int .i64 8) B8 B9 fun CA CB DL =>
 opt (zB P 50 7 AB) fun Ak =>
 zW P 3 Ak (.int .i64 Ai) CA CB fun CC CD DM =>
 B4 (gf52 p0 ud v3 AB p0 a4 (vb AH) ud ud AI p0 AD ud (vb AC) (vb AC) ud ud ud ud ud ud ud (vb AE) (vb AE) ud ud ud (vb AF) (vb AF) ud ud ud ud ud ud ud ud ud ud (vb AJ) (vb AJ) p0 (vi Ai) Aj Ak ud ud ud ud ud ud ud) (W.mk [] u CC CD)) (fun CE =>
 yD xZ P .eql 9 true AD (.string (ByteArray.mk #[114, 101, 116])) fun AM =>
 brJ AM (fun CF =>
 qS L .i64 122 [p0] AK AL (kp L 123 k (fo123 v3) [] u) fun Al CJ CK =>
 opt (zB P 50 0 AB) fun Am =>
 zW P 3 Am (.int .i64 9) CJ CK fun CL CM DN =>
 opt (zB P 50 2 AB) fun An =>
 zW P 3 An (.int .i64 Al) CL CM fun CN CO DO =>
 CF (gf52 p0 ud v3 AB p0 a4 (vb AH) ud ud AI p0 AD ud (vb AC) (vb AC) ud ud ud ud ud ud ud (vb AE) (vb AE) ud ud ud (vb AF) (vb AF) ud ud ud ud ud ud ud ud ud ud (vb AJ) (vb AJ) ud ud ud ud (vb AM) (vb AM) p0 (vi Al) Am An ud) (W.mk [] u CN CO)) (fun CP =>
 yY L 120 [(.bool false), (.int .i64 3)] AK AL (kp L 123 k (fo123 v3) [] u) fun CT CU CV =>
 CP (gf52 p0 ud v3 AB p0 a4 (vb AH) ud ud AI p0 AD CT (vb AC) (vb AC) ud ud ud ud ud ud ud (vb AE) (vb AE) ud ud ud (vb AF) (vb AF) ud ud ud ud ud ud ud ud ud ud (vb AJ) (vb AJ) ud ud ud ud (vb AM) (vb AM) ud ud ud ud ud) (W.mk [] u CU CV)) (fun AN CW =>
 zL (zA AN 2) fun CX =>
 zL (zA AN 3) fun CY =>
 onW CW fun CZ Ca Cb Cc =>
 CE (fj123_0 AN CX CY (zA AN 51)) (W.mk CZ Ca Cb Cc))) (fun AO Cd =>
 zL (zA AO 2) fun Ce =>
 zL (zA AO 3) fun Cf =>
 onW Cd fun Cg Ch Ci Cj =>
 B3 (fj123_0 AO Ce Cf (zA AO 51)) (W.mk Cg Ch Ci Cj))) (fun AP Ck =>
 zL (zA AP 2) fun Cl =>
 zL (zA AP 3) fun Cm =>
 onW Ck fun Cn Co Cp Cq =>
 Be (fj123_0 AP Cl Cm (zA AP 51)) (W.mk Cn Co Cp Cq))) (fun AQ Cr =>
 zL (zA AQ 2) fun Cs =>
 zL (zA AQ 3) fun Ct =>
 onW Cr fun Cu Cv Cw Cx =>
 BU (fj123_0 AQ Cs Ct (zA AQ 51)) (W.mk Cu Cv Cw Cx))) (fun AR Cy =>
 zL (zA AR 2) fun Cz =>
 zL (zA AR 3) fun C0 =>
 onW Cy fun C1 C2 C3 C4 =>
 BC (fj123_0 AR Cz C0 (zA AR 51)) (W.mk C1 C2 C3 C4))) (fun AS C5 =>
 zL (zA AS 2) fun Ao =>
 zL (zA AS 3) fun Ap =>
 onW C5 fun C6 C7 Aq C8 =>
 opt (zF P 50 Aq Ap) fun Ar =>
 zW P 50 Ao Ar Aq C8 fun C9 DA DP =>
 zO P L 123 k .ret (fj123_0 AS Ao Ap Ar) (W.mk C6 C7 C9 DA)))
theorem F123_eq : EY1 123 hint123 F123 := fun _ _ _ _ _ _ _ _ => by kernel_rfl
theorem l123 : xD P 123 = true := by kernel_rfl
theorem r123 : wF P 123 = some [.cell 2 50] := by kernel_rfl
noncomputable abbrev fj127_0 (t : Fr) : Fr := gf74 (zA t 0) (zA t 1) (zA t 2) (zA t 3) (zA t 4) (zA t 5) (zA t 6) (zA t 7) (zA t 8) (zA t 9) (zA t 10) (zA t 11) (zA t 12) (zA t 13) (zA t 14) (zA t 15) (zA t 16) (zA t 17) (zA t 18) (zA t 19) (zA t 20) (zA t 21) (zA t 22) (zA t 23) (zA t 24) (zA t 25) (zA t 26) (zA t 27) (zA t 28) (zA t 29) (zA t 30) (zA t 31) (zA t 32) (zA t 33) (zA t 34) (zA t 35) (zA t 36) (zA t 37) (zA t 38) (zA t 39) (zA t 40) (zA t 41) (zA t 42) (zA t 43) (zA t 44) (zA t 45) (zA t 46) (zA t 47) (zA t 48) (zA t 49) (zA t 50) (zA t 51) (zA t 52) (zA t 53) (zA t 54) (zA t 55) (zA t 56) (zA t 57) (zA t 58) (zA t 59) (zA t 60) (zA t 61) (zA t 62) (zA t 63) (zA t 64) (zA t 65) (zA t 66) (zA t 67) (zA t 68) (zA t 69) (zA t 70) (zA t 71) (zA t 72) (zA t 73)
noncomputable def F127 : TY2 := fun L lp p0 p1 df u h n k =>
 opt (qQ p0) fun v1 =>
 opt (zB P 116 5 v1) fun v2 =>
 opt (zF P 4 h v2) fun v3 =>
 rtB v3 fun a4 =>
 opt (aUn .not (.bool a4)) fun v5 =>
 rtB v5 fun a6 =>
 grd a6 (fun k7 =>
 k7 h n p1) (fun h8 n9 AN =>
 grd a6 (fun BG =>
 yD ineB P .neq 9 true AN (.string (ByteArray.mk #[])) fun BH =>
 BG h8 n9 (.bool BH)) (fun BI BJ AO =>
 rtB (sel a6 AO (.bool false)) fun AP =>
 yY L 120 [(.bool AP), (.int .i64 3)] BI BJ (kp L 127 k go74 [] u) fun Aa AA AD =>
 blkJ (fun BN =>
 opt (qQ p0) fun AQ =>
 opt (zB P 116 3 AQ) fun AR =>
 opt (zF P 3 AA AR) fun BO =>
 rtI .i64 BO fun AS =>
 opt (qQ p0) fun AT =>
 opt (zB P 116 0 AT) fun AU =>
 opt (zF P 114 AA AU) fun AV =>
 opt (yG P .len [114] [AV] AA) fun BP =>
 rtI .i64 BP fun AW =>
 fb (wO AS AW) fun AC =>
 gt (lks [(W.mk [] u AA AD)] []) (
 brJ AC (fun BQ =>
 yY L 162 [p1, (.string (ByteArray.mk #[]))] AA AD (fun CL CM CN =>
 false) fun Ar AF AX =>
 gt (Nat.ble AD AX) (
 opt (qQ p0) fun As =>
 opt (zB P 116 0 As) fun AG =>
 opt (zF P 114 AF AG) fun Ab =>
 opt (qQ p0) fun At =>
 opt (zB P 116 3 At) fun AH =>
 opt (zF P 3 AF AH) fun BR =>
 rtI .i64 BR fun Ac =>
 opt (zU P 114 Ab (.int .i64 Ac)) fun AI =>
 opt (zF P 113 AF AI) fun Ad =>
 vC L Ad [Ar] AF AX (fun BS BT BU =>
 gt (lks [(W.mk [] u AF AX), (W.mk [] u AA AD)] [⟨true, (lkQ (fun Ah => zF P 113 Ah AI) AI Ad), 0, 1⟩, ⟨true, (lkQ (fun Ai => zF P 3 Ai AH) AH (.int .i64 Ac)), 0, 1⟩, ⟨true, (lkQ (fun Aj => zF P 114 Aj AG) AG Ab), 0, 1⟩]) (
 zO P L 127 k (.panic BS) go74 (W.mk [] u BT BU))) fun BV Ak Al =>
 gt (Nat.ble AX Al) (
 gt (lks [(W.mk [] u Ak Al), (W.mk [] u AF AX), (W.mk [] u AA AD)] [⟨true, (lkQ (fun Ah => zF P 113 Ah AI) AI Ad), 0, 1⟩, ⟨true, (lkQ (fun Ai => zF P 3 Ai AH) AH (.int .i64 Ac)), 0, 1⟩, ⟨true, (lkQ (fun Aj => zF P 114 Aj AG) AG Ab), 0, 1⟩]) (
 opt (qQ p0) fun Au =>
 opt (zB P 116 3 Au) fun Av =>
 opt (zF P 3 Ak Av) fun BW =>
 rtI .i64 BW fun Aw =>
 fi (wW .i64 (pC Aw 1)) fun Ax =>
 opt (qQ p0) fun Ay =>
 opt (zB P 116 3 Ay) fun Az =>
 zW P 3 Az (.int .i64 Ax) Ak Al fun BX BY CO =>
 BQ (gf74 p0 p1 ud ud p0 v1 v2 (vb a4) (vb a6) (vb a6) AN AO (vb AP) Aa ud ud ud ud ud ud ud ud ud ud ud ud (vb AC) p0 AQ AR (vi AS) p0 AT AU AV (vi AW) (vb AC) p0 As AG Ab p0 At AH (vi Ac) AI Ad p1 Ar BV p0 Au Av (vi Aw) (vi Ax) Ay Az ud ud ud ud ud ud ud ud ud ud ud ud ud ud ud ud ud) (W.mk [] u BX BY))))) (fun BZ =>
 yD xZ P .eql 9 true p1 (.string (ByteArray.mk #[101, 110, 100])) fun AE =>
 brJ AE (fun Ba =>
 opt (qQ p0) fun A0 =>
 opt (zB P 116 5 A0) fun A1 =>
 zW P 4 A1 (.bool true) AA AD fun Bb Bc CP =>
 Ba (gf74 p0 p1 ud ud p0 v1 v2 (vb a4) (vb a6) (vb a6) AN AO (vb AP) Aa ud ud ud ud ud ud ud ud ud ud ud ud (vb AC) p0 AQ AR (vi AS) p0 AT AU AV (vi AW) (vb AC) ud ud ud ud ud ud ud ud ud ud ud ud ud ud ud ud ud ud ud ud (vb AE) p1 (vb AE) p0 A0 A1 ud ud ud ud ud ud ud ud ud ud ud) (W.mk [] u Bb Bc)) (fun Bd =>
 yD xZ P .eql 9 true p1 (.string (ByteArray.mk #[98, 108, 111, 99, 107])) fun AY =>
 brJ AY (fun Be =>
 opt (qQ p0) fun A2 =>
 opt (zB P 116 1 A2) fun A3 =>
 opt (zF P 1 AA A3) fun A4 =>
 vC L A4 [] AA AD (kp L 127 k go74 [] u) fun Bi Bj Bk =>
 opt (qQ p0) fun A5 =>
 opt (zB P 116 4 A5) fun A6 =>
 zW P 4 A6 (.bool true) Bj Bk fun Bl Bm CQ =>
 Be (gf74 p0 p1 ud ud p0 v1 v2 (vb a4) (vb a6) (vb a6) AN AO (vb AP) Aa ud ud ud ud ud ud ud ud ud ud ud ud (vb AC) p0 AQ AR (vi AS) p0 AT AU AV (vi AW) (vb AC) ud ud ud ud ud ud ud ud ud ud ud ud ud ud ud ud ud ud ud ud (vb AE) p1 (vb AE) ud ud ud (vb AY) p1 (vb AY) p0 A2 A3 A4 Bi p0 A5 A6) (W.mk [] u Bl Bm)) (fun Bn =>
 opt (qQ p0) fun A7 =>
 opt (zB P 116 4 A7) fun A8 =>
 opt (zF P 4 AA A8) fun Bo =>
 rtB Bo fun A9 =>
 yY L 120 [(.bool A9), (.int .i64 3)] AA AD (kp L 127 k go74 [] u) fun Bs Am Ae =>
 yY L 162 [p1, (.string (ByteArray.mk #[32, 32]))] Am Ae (fun CR CS CT =>
 false) fun BA Af AZ =>
 gt (Nat.ble Ae AZ) (
 opt (qQ p0) fun BB =>
 opt (zB P 116 2 BB) fun AJ =>
 opt (zF P 113 Af AJ) fun Ag =>
 vC L Ag [BA] Af AZ (fun Bt Bu Bv =>
 gt (lks [(W.mk [] u Af AZ), (W.mk [] u Am Ae)] [⟨true, (lkQ (fun An => zF P 113 An AJ) AJ Ag), 0, 1⟩]) (
 zO P L 127 k (.panic Bt) go74 (W.mk [] u Bu Bv))) fun Bw BC Ao =>
 gt (Nat.ble AZ Ao) (
 gt (lks [(W.mk [] u BC Ao), (W.mk [] u Af AZ), (W.mk [] u Am Ae)] [⟨true, (lkQ (fun An => zF P 113 An AJ) AJ Ag), 0, 1⟩]) (
 Bn (gf74 p0 p1 ud ud p0 v1 v2 (vb a4) (vb a6) (vb a6) AN AO (vb AP) Aa p0 A7 A8 (vb A9) Bs p0 BB AJ Ag p1 BA Bw (vb AC) p0 AQ AR (vi AS) p0 AT AU AV (vi AW) (vb AC) ud ud ud ud ud ud ud ud ud ud ud ud ud ud ud ud ud ud ud ud (vb AE) p1 (vb AE) ud ud ud (vb AY) p1 (vb AY) ud ud ud ud ud ud ud ud) (W.mk [] u BC Ao))))) (fun Bx By =>
 onW By fun Bz B0 B1 B2 =>
 Bd (fj127_0 Bx) (W.mk Bz B0 B1 B2))) (fun B3 B4 =>
 onW B4 fun B5 B6 B7 B8 =>
 BZ (fj127_0 B3) (W.mk B5 B6 B7 B8))) (fun B9 CA =>
 onW CA fun CB CC CD CE =>
 BN (fj127_0 B9) (W.mk CB CC CD CE)))) (fun CF CG =>
 onW CG fun CH CI CJ CK =>
 zO P L 127 k .ret (fj127_0 CF) (W.mk CH CI CJ CK))) h8 n9) h n
theorem F127_eq : EY2 127 hq0 F127 := fun _ _ _ _ _ _ _ _ _ => by kernel_rfl
theorem l127 : xD P 127 = true := by kernel_rfl
theorem r127 : wF P 127 = some [] := by kernel_rfl
noncomputable abbrev fo69 (s4 s5 : Value) : Fr := gf28 ud ud ud ud s4 s5 ud ud ud ud ud ud ud ud ud ud ud ud ud ud ud ud ud ud ud ud ud ud
noncomputable abbrev fj69_0 (t : Fr) (s2 s4 s5 s6 s21 s22 s23 s24 s25 s26 s27 : Value) : Fr := gf28 (zA t 0) (zA t 1) s2 (zA t 3) s4 s5 s6 (zA t 7) (zA t 8) (zA t 9) (zA t 10) (zA t 11) (zA t 12) (zA t 13) (zA t 14) (zA t 15) (zA t 16) (zA t 17) (zA t 18) (zA t 19) (zA t 20) s21 s22 s23 s24 s25 s26 s27
noncomputable abbrev hint69 : pD := hq [(1, 0, [.any, .any, .val, .any, .val, .val, .val]), (2, 10, [.any, .any, .any, .any, .val, .val]), (3, 5, [.any, .any, .val, .any, .val, .val, .val])]
noncomputable def F69 : TY2 := fun L lp p0 p1 df u h n k =>
 eBox p0 h n fun h1 n2 v3 =>
 tH P 3 h1 n2 fun h4 n5 v6 =>
 tH P 25 h4 n5 fun h7 n8 v9 =>
 tH P 3 h7 n8 fun Ad Ae AO =>
 zW P 3 AO (.int .i64 0) Ad Ae fun Af Ag A7 =>
 yY L 124 [p1] Af Ag (kp L 69 k (fo69 v6 v9) [] u) fun AP Ak Al =>
 blkJ (fun AQ =>
 yRange L AP (rfP P 69 5) (rfA P 69 5) (rfB P 69 5) ⟨69, none, df⟩ (gf28 p0 p1 v3 ud v6 v9 AO ud ud ud p1 AP ud ud ud ud ud ud ud ud ud ud ud ud ud ud ud ud) [] u Ak Al (endA (fun AA Am =>
 zL (zA AA 2) fun An =>
 zL (zA AA 4) fun Ao =>
 zL (zA AA 5) fun Ap =>
 zL (zA AA 6) fun Aq =>
 onW Am fun Ar As At Au =>
 AQ (fj69_0 AA An Ao Ap Aq (zA AA 21) (zA AA 22) (zA AA 23) (zA AA 24) (zA AA 25) (zA AA 26) (zA AA 27)) (W.mk Ar As At Au)) (blkA 0 AQ (zO P L 69 k)))) (fun AB Av =>
 zL (zA AB 2) fun AF =>
 zL (zA AB 4) fun AD =>
 zL (zA AB 5) fun AE =>
 zL (zA AB 6) fun AG =>
 onW Av fun AR AS AC AT =>
 opt (zF P 112 AC AF) fun AH =>
 opt (qQ AH) fun AI =>
 opt (zB P 116 5 AI) fun AJ =>
 opt (zF P 4 AC AJ) fun Aw =>
 rtB Aw fun AK =>
 opt (aUn .not (.bool AK)) fun Ax =>
 rtB Ax fun AL =>
 br AL (
 opt (zF P 3 AC AG) fun Ay =>
 rtI .i64 Ay fun AU =>
 fi (wW .i64 (pC AU 1)) fun AV =>
 zW P 3 AD (.int .i64 AV) AC AT fun Az A0 A8 =>
 zW P 25 AE (.int .i64 3) Az A0 fun A1 A2 A9 =>
 zO P L 69 k .ret (fj69_0 AB AF AD AE AG AH AI AJ (vb AK) (vb AL) (vi AU) (vi AV)) (W.mk AR AS A1 A2)) (
 zW P 3 AD (.int .i64 0) AC AT fun A3 A4 BA =>
 zW P 25 AE (.int .i64 0) A3 A4 fun A5 A6 BB =>
 zO P L 69 k .ret (fj69_0 AB AF AD AE AG AH AI AJ (vb AK) (vb AL) (zA AB 26) (zA AB 27)) (W.mk AR AS A5 A6)))
theorem F69_eq : EY2 69 hint69 F69 := fun _ _ _ _ _ _ _ _ _ => by kernel_rfl
theorem l69 : xD P 69 = true := by kernel_rfl
theorem r69 : wF P 69 = some [.cell 4 3, .cell 5 25] := by kernel_rfl
noncomputable def F126 : TY2 := fun L lp p0 p1 df u h n k =>
 opt (zF P 112 h p0) fun v1 =>
 opt (zF P 9 h p1) fun v2 =>
 yY L 127 [v1, v2] h n (kp L 126 k go5 [] u) fun a3 h4 n5 =>
 zO P L 126 k .ret go5 (W.mk [] u h4 n5)
theorem F126_eq : EY2 126 hq0 F126 := fun _ _ _ _ _ _ _ _ _ => by kernel_rfl
theorem l126 : xD P 126 = true := by kernel_rfl
theorem r126 : wF P 126 = some [] := by kernel_rfl
noncomputable def F63 : TY2 := fun L lp p0 p1 df u h n k =>
 yY L 116 [p1, (.string (ByteArray.mk #[102, 117, 110, 99]))] h n (kp L 63 k go14 [] u) fun a1 h2 n3 =>
 yY L 117 [p1] h2 n3 (kp L 63 k go14 [] u) fun a7 h8 n9 =>
 opt (qQ p0) fun AL =>
 opt (zB P 111 0 AL) fun AM =>
 opt (zB P 43 0 AM) fun AN =>
 zW P 9 AN a7 h8 n9 fun AO AP AW =>
 yY L 118 [p1] AO AP (kp L 63 k go14 [] u) fun AX AT AU =>
 zO P L 63 k .ret go14 (W.mk [] u AT AU)
theorem F63_eq : EY2 63 hq0 F63 := fun _ _ _ _ _ _ _ _ _ => by kernel_rfl
theorem l63 : xD P 63 = true := by kernel_rfl
theorem r63 : wF P 63 = some [] := by kernel_rfl
noncomputable def F64 : TY2 := fun L lp p0 p1 df u h n k =>
 yY L 116 [p1, (.string (ByteArray.mk #[114, 101, 103, 115]))] h n (kp L 64 k go22 [] u) fun a1 h2 n3 =>
 letV (.func (.func 117) (Array.mk [p1]) (Array.mk [])) fun v7 =>
 yY L 119 [p1, v7] h2 n3 (kp L 64 k go22 [] u) fun a8 h9 AM =>
 opt (qQ p0) fun AN =>
 opt (zB P 111 0 AN) fun AO =>
 opt (zB P 43 1 AO) fun AP =>
 zW P 23 AP a8 h9 AM fun AA AQ Ae =>
 opt (qQ p0) fun AR =>
 opt (zB P 111 0 AR) fun AS =>
 opt (zB P 43 1 AS) fun AT =>
 opt (zF P 23 AA AT) fun AU =>
 opt (yG P .len [23] [AU] AA) fun AV =>
 rtI .i64 AV fun AW =>
 fb (rU AW 500) fun AX =>
 yY L 120 [(.bool AX), (.int .i64 2)] AA AQ (kp L 64 k go22 [] u) fun Af Ab Ac =>
 zO P L 64 k .ret go22 (W.mk [] u Ab Ac)
theorem F64_eq : EY2 64 hq0 F64 := fun _ _ _ _ _ _ _ _ _ => by kernel_rfl
theorem l64 : xD P 64 = true := by kernel_rfl
theorem r64 : wF P 64 = some [] := by kernel_rfl
noncomputable def F65 : TY2 := fun L lp p0 p1 df u h n k =>
 yY L 116 [p1, (.string (ByteArray.mk #[112, 97, 114, 97, 109, 115]))] h n (kp L 65 k go22 [] u) fun a1 h2 n3 =>
 letV (.func (.func 122) (Array.mk [p1]) (Array.mk [])) fun v7 =>
 yY L 121 [p1, v7] h2 n3 (kp L 65 k go22 [] u) fun a8 h9 AM =>
 opt (qQ p0) fun AN =>
 opt (zB P 111 0 AN) fun AO =>
 opt (zB P 43 2 AO) fun AP =>
 zW P 40 AP a8 h9 AM fun AA AQ Ae =>
 opt (qQ p0) fun AR =>
 opt (zB P 111 0 AR) fun AS =>
 opt (zB P 43 2 AS) fun AT =>
 opt (zF P 40 AA AT) fun AU =>
 opt (yG P .len [40] [AU] AA) fun AV =>
 rtI .i64 AV fun AW =>
 fb (rU AW 16) fun AX =>
 yY L 120 [(.bool AX), (.int .i64 2)] AA AQ (kp L 65 k go22 [] u) fun Af Ab Ac =>
 zO P L 65 k .ret go22 (W.mk [] u Ab Ac)
theorem F65_eq : EY2 65 hq0 F65 := fun _ _ _ _ _ _ _ _ _ => by kernel_rfl
theorem l65 : xD P 65 = true := by kernel_rfl
theorem r65 : wF P 65 = some [] := by kernel_rfl
noncomputable def F66 : TY2 := fun L lp p0 p1 df u h n k =>
 yY L 116 [p1, (.string (ByteArray.mk #[114, 101, 115, 117, 108, 116]))] h n (kp L 66 k go14 [] u) fun a1 h2 n3 =>
 yY L 117 [p1] h2 n3 (kp L 66 k go14 [] u) fun a7 h8 n9 =>
 opt (qQ p0) fun AL =>
 opt (zB P 111 0 AL) fun AM =>
 opt (zB P 43 3 AM) fun AN =>
 zW P 9 AN a7 h8 n9 fun AO AP AW =>
 yY L 118 [p1] AO AP (kp L 66 k go14 [] u) fun AX AT AU =>
 zO P L 66 k .ret go14 (W.mk [] u AT AU)
theorem F66_eq : EY2 66 hq0 F66 := fun _ _ _ _ _ _ _ _ _ => by kernel_rfl
theorem l66 : xD P 66 = true := by kernel_rfl
theorem r66 : wF P 66 = some [] := by kernel_rfl
noncomputable def F67 : TY1 := fun L lp p0 df u h n k =>
 opt (qQ p0) fun v1 =>
 opt (zB P 111 0 v1) fun v2 =>
 opt (zB P 43 4 v2) fun v3 =>
 opt (zF P 41 h v3) fun v4 =>
 opt (yG P .len [41] [v4] h) fun v5 =>
 rtI .i64 v5 fun a6 =>
 fb (wO a6 200) fun a7 =>
 yY L 120 [(.bool a7), (.int .i64 2)] h n (kp L 67 k go21 [] u) fun a8 h9 AL =>
 opt (qQ p0) fun AM =>
 opt (zB P 111 0 AM) fun AN =>
 opt (zB P 43 4 AN) fun AO =>
 opt (zF P 41 h9 AO) fun AP =>
 zN P 41 1 [(0, (.slice none 0 0))] h9 AL fun AQ AR AS =>
 xV P [41, 41] [AP, AS] AQ AR fun AT AU AV =>
 opt (qQ p0) fun AW =>
 opt (zB P 111 0 AW) fun AX =>
 opt (zB P 43 4 AX) fun AY =>
 zW P 41 AY AV AT AU fun AZ Aa Ac =>
 zO P L 67 k .ret go21 (W.mk [] u AZ Aa)
theorem F67_eq : EY1 67 hq0 F67 := fun _ _ _ _ _ _ _ _ => by kernel_rfl
theorem l67 : xD P 67 = true := by kernel_rfl
theorem r67 : wF P 67 = some [] := by kernel_rfl
noncomputable def F68 : TY2 := fun L lp p0 p1 df u h n k =>
 yY L 123 [p1] h n (kp L 68 k go37 [] u) fun a1 h2 n3 =>
 tH P 50 h2 n3 fun h7 n8 v9 =>
 zW P 50 v9 a1 h7 n8 fun AT AU Ay =>
 yY L 118 [p1] AT AU (kp L 68 k go37 [] u) fun Az AA AG =>
 opt (qQ p0) fun AY =>
 opt (zB P 111 0 AY) fun AZ =>
 opt (zB P 43 4 AZ) fun Aa =>
 opt (zF P 41 AA Aa) fun Ab =>
 opt (qQ p0) fun Ac =>
 opt (zB P 111 0 Ac) fun Ad =>
 opt (zB P 43 4 Ad) fun Ae =>
 opt (zF P 41 AA Ae) fun Af =>
 opt (yG P .len [41] [Af] AA) fun Ag =>
 rtI .i64 Ag fun Ah =>
 fi (wW .i64 (isub Ah 1)) fun Ai =>
 opt (zU P 41 Ab (.int .i64 Ai)) fun AD =>
 gt (lks [(W.mk [] u AA AG)] []) (
 opt (qQ AD) fun Aj =>
 opt (zF P 51 AA Aj) fun Ak =>
 opt (yG P .len [51] [Ak] AA) fun Al =>
 rtI .i64 Al fun Am =>
 fb (wO Am 400) fun An =>
 yY L 120 [(.bool An), (.int .i64 2)] AA AG (kp L 68 k go37 [] u) fun A0 AB AH =>
 opt (qQ AD) fun Ar =>
 opt (zF P 51 AB Ar) fun As =>
 opt (zF P 50 AB v9) fun At =>
 zN P 51 1 [(0, At)] AB AH fun Au AI Av =>
 xV P [51, 51] [As, Av] Au AI fun AJ AC Aw =>
 gt (Nat.ble AI AC) (
 opt (qQ AD) fun Ax =>
 zW P 51 Ax Aw AJ AC fun AK AE A1 =>
 gt (Nat.ble AC AE) (
 gt (lks [(W.mk [] u AK AE), (W.mk [] u AJ AC), (W.mk [] u AB AH)] []) (
 zO P L 68 k .ret go37 (W.mk [] u AK AE)))))
theorem F68_eq : EY2 68 hq0 F68 := fun _ _ _ _ _ _ _ _ _ => by kernel_rfl
theorem l68 : xD P 68 = true := by kernel_rfl
theorem r68 : wF P 68 = some [] := by kernel_rfl
noncomputable abbrev fo124 (s2 : Value) : Fr := gf4 ud ud s2 ud
noncomputable def F124 : TY1 := fun L lp p0 df u h n k =>
 eBox p0 h n fun h1 n2 v3 =>
 letV (.func (.func 159) (Array.mk []) (Array.mk [v3])) fun v4 =>
 zO P L 124 k .ret (fo124 v4) (W.mk [] u h1 n2)
theorem F124_eq : EY1 124 hq0 F124 := fun _ _ _ _ _ _ _ _ => by kernel_rfl
theorem l124 : xD P 124 = true := by kernel_rfl
theorem r124 : wF P 124 = some [.tmp 2] := by kernel_rfl
noncomputable abbrev fj159_0 (t : Fr) (s0 s3 s4 s5 s7 s8 s9 s10 s12 s19 s20 s21 s22 s23 s24 : Value) : Fr := gf25 s0 (zA t 1) (zA t 2) s3 s4 s5 (zA t 6) s7 s8 s9 s10 (zA t 11) s12 (zA t 13) (zA t 14) (zA t 15) (zA t 16) (zA t 17) (zA t 18) s19 s20 s21 s22 s23 s24
noncomputable abbrev hint159 : pD := hq [(0, 1000001, [.val, .any, .any, (.int .i64)]), (1, 1, [.val, .any, .any, (.int .i64)]), (2, 0, [.val, .any, .any, (.int .i64)]), (2, 5, [.val, .any, .any, (.int .i64), .val, .val])]
noncomputable def F159 : TY2 := fun L lp p0 p1 df u h n k =>
 lp 1000001 ⟨159, none, df⟩ (gf25 p0 p1 ud (vi 1) ud ud ud ud ud ud ud ud ud ud ud ud ud ud ud ud ud ud ud ud ud) (W.mk [] u h n) (endA noK (blkA 0 (fun t1 w2 =>
 onW w2 fun d3 u4 h5 n6 =>
 zO P L 159 k .ret (fj159_0 t1 (zA t1 0) (zA t1 3) (zA t1 4) (zA t1 5) (zA t1 7) (zA t1 8) (zA t1 9) (zA t1 10) (zA t1 12) (zA t1 19) (zA t1 20) (zA t1 21) (zA t1 22) (zA t1 23) (zA t1 24)) (W.mk d3 u4 h5 n6)) (zO P L 159 k)))
theorem F159_eq : EY2 159 hint159 F159 := fun _ _ _ _ _ _ _ _ _ => by kernel_rfl
noncomputable def B159_1000001 : TYB := fun L lp rd df t w ka =>
 zL (zA t 0) fun s7 =>
 rtI .i64 (zA t 3) fun s8 =>
 onW w fun d9 AN AO AX =>
 opt (zF P 9 AO (zA t 1)) fun AH =>
 yD ineB P .neq 9 true AH (.string (ByteArray.mk #[])) fun AI =>
 br AI (
 blkJ (fun Ae =>
 opt (zF P 9 AO (zA t 1)) fun AP =>
 yY L 160 [AP, (.string (ByteArray.mk #[10]))] AO AX (kb ka (fj159_0 t s7 (vi s8) (zA t 4) (zA t 5) AH (vb AI) (zA t 9) (zA t 10) AP (zA t 19) (zA t 20) (zA t 21) (zA t 22) (zA t 23) (zA t 24)) d9 AN) fun AC AY AZ =>
 opt (yN 0 AC) fun AR =>
 opt (yN 1 AC) fun AQ =>
 opt (yN 2 AC) fun Ai =>
 rtB Ai fun AD =>
 opt (aUn .not (.bool AD)) fun Aj =>
 rtB Aj fun AS =>
 brJ AS (fun Ak =>
 Ak (gf25 s7 (zA t 1) (zA t 2) (vi s8) (.string (ByteArray.mk #[])) AQ (vb AD) AH (vb AI) (zA t 9) (zA t 10) AC AP AC AR AQ (vb AD) (vb AD) (vb AS) (zA t 19) (zA t 20) (zA t 21) (zA t 22) (zA t 23) (zA t 24)) (W.mk d9 AN AY AZ)) (fun Al =>
 Al (gf25 s7 (zA t 1) (zA t 2) (vi s8) AR AQ (vb AD) AH (vb AI) (zA t 9) (zA t 10) AC AP AC AR AQ (vb AD) (vb AD) (vb AS) (zA t 19) (zA t 20) (zA t 21) (zA t 22) (zA t 23) (zA t 24)) (W.mk d9 AN AY AZ)) (fun AA Am =>
 zL (zA AA 0) fun AE =>
 rtI .i64 (zA AA 3) fun AF =>
 zL (zA AA 4) fun AG =>
 zL (zA AA 5) fun AJ =>
 onW Am fun AT AU An Ao =>
 invokeB L AE [(.int .i64 AF), AG] An Ao (kb ka (fj159_0 AA AE (vi AF) AG AJ (zA AA 7) (zA AA 8) (zA AA 9) (zA AA 10) (zA AA 12) AE (vi AF) AG (zA AA 22) (zA AA 23) (zA AA 24)) AT AU) fun AV Aa Ab =>
 opt (aUn .not (.bool AV)) fun As =>
 rtB As fun AW =>
 br AW (
 ka .ret (fj159_0 AA AE (vi AF) AG AJ (zA AA 7) (zA AA 8) (zA AA 9) (zA AA 10) (zA AA 12) AE (vi AF) AG (vb AV) (vb AW) (zA AA 24)) (W.mk AT AU Aa Ab)) (
 zW P 9 (zA AA 1) AJ Aa Ab fun At Au A1 =>
 Ae (fj159_0 AA AE (vi AF) AG AJ (zA AA 7) (zA AA 8) (zA AA 9) (zA AA 10) (zA AA 12) AE (vi AF) AG (vb AV) (vb AW) AJ) (W.mk AT AU At Au)))) (fun AB Av =>
 zL (zA AB 0) fun Aw =>
 rtI .i64 (zA AB 3) fun Ac =>
 onW Av fun Ax Ay Az A0 =>
 fi (wW .i64 (pC Ac 1)) fun Ad =>
 lp 1000001 ⟨159, rd, df⟩ (fj159_0 AB Aw (vi Ad) (zA AB 4) (zA AB 5) (zA AB 7) (zA AB 8) (vi Ac) (vi Ad) (zA AB 12) (zA AB 19) (zA AB 20) (zA AB 21) (zA AB 22) (zA AB 23) (zA AB 24)) (W.mk Ax Ay Az A0) ka)) (
 ka (.exit 0) (fj159_0 t s7 (vi s8) (zA t 4) (zA t 5) AH (vb AI) (zA t 9) (zA t 10) (zA t 12) (zA t 19) (zA t 20) (zA t 21) (zA t 22) (zA t 23) (zA t 24)) (W.mk d9 AN AO AX))
theorem B159_1000001_eq : EYB 159 1000001 hint159 B159_1000001 := fun _ _ _ _ _ _ _ => by kernel_rfl
theorem l159 : xD P 159 = true := by kernel_rfl
theorem r159 : wF P 159 = some [] := by kernel_rfl
theorem lp159_1000001 : uM (xC P 159 1000001) = true := by kernel_rfl
noncomputable abbrev fo22 (s2 s3 s4 : Value) : Fr := gf45 ud ud s2 s3 s4 ud ud ud ud ud ud ud ud ud ud ud ud ud ud ud ud ud ud ud ud ud ud ud ud ud ud ud ud ud ud ud ud ud ud ud ud ud ud ud ud
noncomputable abbrev hint22 : pD := hq [(2, 2, [.val, .any, .val]), (2, 7, [.any, .any, .val, .any, .any, .val])]
noncomputable def F22 : TY1 := fun L lp p0 df u h n k =>
 tH P 43 h n fun h1 n2 v3 =>
 opt (yG P .len [9] [p0] h1) fun v4 =>
 rtI .i64 v4 fun a5 =>
 fb (wO 65536 a5) fun a6 =>
 br a6 (
 opt (vR P 43 []) fun v7 =>
 zW P 43 v3 v7 h1 n2 fun h8 n9 At =>
 zO P L 22 k .ret (fo22 v3 (.int .i64 0) (.int .i64 2)) (W.mk [] u h8 n9)) (
 opt (vR P 111 []) fun AO =>
 eBox AO h1 n2 fun AP AQ AB =>
 letV (.func (.func 63) (Array.mk [AB]) (Array.mk [])) fun AR =>
 letV (.func (.func 64) (Array.mk [AB]) (Array.mk [])) fun AS =>
 letV (.func (.func 65) (Array.mk [AB]) (Array.mk [])) fun AT =>
 letV (.func (.func 66) (Array.mk [AB]) (Array.mk [])) fun AU =>
 zN P 114 4 [(0, AR), (1, AS), (2, AT), (3, AU)] AP AQ fun AV AW AX =>
 letV (.func (.func 67) (Array.mk [AB]) (Array.mk [])) fun AY =>
 letV (.func (.func 68) (Array.mk [AB]) (Array.mk [])) fun AZ =>
 opt (vR P 116 [(0, AX), (1, AY), (2, AZ)]) fun Aa =>
 eBox Aa AV AW fun Ab Ac Ad =>
 yY L 69 [Ad, p0] Ab Ac (kp L 22 k (fo22 v3 (.int .i64 0) (.int .i64 0)) [] u) fun AF AD AG =>
 opt (yN 0 AF) fun Ah =>
 rtI .i64 Ah fun Ai =>
 opt (yN 1 AF) fun Aj =>
 rtI .i64 Aj fun AH =>
 fb (ineB AH 0) fun Ak =>
 br Ak (
 opt (vR P 43 []) fun Al =>
 zW P 43 v3 Al AD AG fun Am An Au =>
 zO P L 22 k .ret (fo22 v3 (.int .i64 Ai) (.int .i64 AH)) (W.mk [] u Am An)) (
 opt (qQ AB) fun Ao =>
 opt (zB P 111 0 Ao) fun Ap =>
 opt (zF P 43 AD Ap) fun Aq =>
 zW P 43 v3 Aq AD AG fun Ar As Av =>
 zO P L 22 k .ret (fo22 v3 (.int .i64 0) (.int .i64 0)) (W.mk [] u Ar As)))
theorem F22_eq : EY1 22 hint22 F22 := fun _ _ _ _ _ _ _ _ => by kernel_rfl
theorem l22 : xD P 22 = true := by kernel_rfl
theorem r22 : wF P 22 = some [.cell 2 43, .tmp 3, .tmp 4] := by kernel_rfl
noncomputable abbrev fo60 (s2 : Value) : Fr := gf91 ud ud s2 ud ud ud ud ud ud ud ud ud ud ud ud ud ud ud ud ud ud ud ud ud ud ud ud ud ud ud ud ud ud ud ud ud ud ud ud ud ud ud ud ud ud ud ud ud ud ud ud ud ud ud ud ud ud ud ud ud ud ud ud ud ud ud ud ud ud ud ud ud ud ud ud ud ud ud ud ud ud ud ud ud ud ud ud ud ud ud ud
noncomputable abbrev fj60_0 (t : Fr) (s2 s3 s88 s89 s90 : Value) : Fr := gf91 (zA t 0) (zA t 1) s2 s3 (zA t 4) (zA t 5) (zA t 6) (zA t 7) (zA t 8) (zA t 9) (zA t 10) (zA t 11) (zA t 12) (zA t 13) (zA t 14) (zA t 15) (zA t 16) (zA t 17) (zA t 18) (zA t 19) (zA t 20) (zA t 21) (zA t 22) (zA t 23) (zA t 24) (zA t 25) (zA t 26) (zA t 27) (zA t 28) (zA t 29) (zA t 30) (zA t 31) (zA t 32) (zA t 33) (zA t 34) (zA t 35) (zA t 36) (zA t 37) (zA t 38) (zA t 39) (zA t 40) (zA t 41) (zA t 42) (zA t 43) (zA t 44) (zA t 45) (zA t 46) (zA t 47) (zA t 48) (zA t 49) (zA t 50) (zA t 51) (zA t 52) (zA t 53) (zA t 54) (zA t 55) (zA t 56) (zA t 57) (zA t 58) (zA t 59) (zA t 60) (zA t 61) (zA t 62) (zA t 63) (zA t 64) (zA t 65) (zA t 66) (zA t 67) (zA t 68) (zA t 69) (zA t 70) (zA t 71) (zA t 72) (zA t 73) (zA t 74) (zA t 75) (zA t 76) (zA t 77) (zA t 78) (zA t 79) (zA t 80) (zA t 81) (zA t 82) (zA t 83) (zA t 84) (zA t 85) (zA t 86) (zA t 87) s88 s89 s90
noncomputable abbrev hint60 : pD := hq [(1, 0, [.any, .any, .any, (.int .i64)]), (2, 2, [.any, .val]), (2, 6, [.any, .any, .any, (.int .i64)]), (2, 7, [.any, .any, .any, (.int .i64)]), (2, 9, [.any, .any, .any, (.int .i64)]), (2, 10, [.any, .val, .any, (.int .i64)])]
noncomputable def F60 : TY1 := fun L lp p0 df u h n k =>
 eBox p0 h n fun h1 n2 v3 =>
 opt (zB P 50 0 v3) fun v4 =>
 opt (zF P 3 h1 v4) fun v5 =>
 rtI .i64 v5 fun a6 =>
 fb (wO a6 1) fun a7 =>
 grd (nt a7) (fun k8 =>
 opt (zB P 50 0 v3) fun Cd =>
 k8 h1 n2 Cd) (fun h9 BH AX =>
 grd (nt a7) (fun Ce =>
 opt (zF P 3 h9 AX) fun Cf =>
 rtI .i64 Cf fun Cg =>
 Ce h9 BH (.int .i64 Cg)) (fun BI BJ AY =>
 grd (nt a7) (fun Ch =>
 yD igtB P .gtr 3 true AY (.int .i64 9) fun Ci =>
 Ch BI BJ (.bool Ci)) (fun AZ BK Aa =>
 rtB (sel a7 (.bool true) Aa) fun AC =>
 grd (nt AC) (fun Cj =>
 opt (zF P 50 AZ v3) fun Ck =>
 Cj AZ BK Ck) (fun BL BM Ab =>
 grd (nt AC) (fun Cl =>
 yY L 113 [Ab] BL BM (kp L 60 k (fo60 (.bool false)) [] u) fun Cp Cq Cr =>
 Cl Cq Cr Cp) (fun BN BO Ac =>
 grd (nt AC) (fun Cs =>
 sO L 112 [Ac] BN BO (kp L 60 k (fo60 (.bool false)) [] u) fun Cw Cx Cy =>
 Cs Cx Cy (.bool Cw)) (fun BP BQ Ad =>
 grd (nt AC) (fun Cz =>
 opt (aUn .not Ad) fun C0 =>
 rtB C0 fun C1 =>
 Cz BP BQ (.bool C1)) (fun BR BS Ae =>
 rtB (sel AC (.bool true) Ae) fun AB =>
 grd (nt AB) (fun C2 =>
 opt (zB P 50 2 v3) fun C3 =>
 C2 BR BS C3) (fun Af BT Ag =>
 grd (nt AB) (fun C4 =>
 opt (zF P 3 Af Ag) fun C5 =>
 rtI .i64 C5 fun C6 =>
 C4 Af BT (.int .i64 C6)) (fun BU BV Ah =>
 grd (nt AB) (fun C7 =>
 opt (zB P 50 3 v3) fun C8 =>
 C7 BU BV C8) (fun Ai BW Aj =>
 grd (nt AB) (fun C9 =>
 opt (zF P 3 Ai Aj) fun DA =>
 rtI .i64 DA fun DB =>
 C9 Ai BW (.int .i64 DB)) (fun BX BY Ak =>
 grd (nt AB) (fun DC =>
 opt (zB P 50 7 v3) fun DD =>
 DC BX BY DD) (fun Al BZ Am =>
 grd (nt AB) (fun DE =>
 opt (zF P 3 Al Am) fun DF =>
 rtI .i64 DF fun DG =>
 DE Al BZ (.int .i64 DG)) (fun Ba Bb An =>
 grd (nt AB) (fun DH =>
 opt (zB P 50 8 v3) fun DI =>
 DH Ba Bb DI) (fun Ao Bc Ap =>
 grd (nt AB) (fun DJ =>
 opt (zF P 3 Ao Ap) fun DK =>
 rtI .i64 DK fun DL =>
 DJ Ao Bc (.int .i64 DL)) (fun Bd Be Aq =>
 grd (nt AB) (fun DM =>
 zN P 40 4 [(0, Ah), (1, Ak), (2, An), (3, Aq)] Bd Be fun DN DO DP =>
 DM DN DO DP) (fun Bf Bg Ar =>
 grd (nt AB) (fun DQ =>
 sO L 59 [Ar] Bf Bg (kp L 60 k (fo60 (.bool false)) [] u) fun DU DV DW =>
 DQ DV DW (.bool DU)) (fun Bh Bi As =>
 grd (nt AB) (fun DX =>
 opt (aUn .not As) fun DY =>
 rtB DY fun DZ =>
 DX Bh Bi (.bool DZ)) (fun Bj Bk At =>
 rtB (sel AB (.bool true) At) fun AD =>
 grd (nt AD) (fun Da =>
 opt (zB P 50 6 v3) fun Db =>
 Da Bj Bk Db) (fun Au Bl Av =>
 grd (nt AD) (fun Dc =>
 opt (zF P 40 Au Av) fun Dd =>
 Dc Au Bl Dd) (fun Bm Bn Aw =>
 grd (nt AD) (fun De =>
 sO L 59 [Aw] Bm Bn (kp L 60 k (fo60 (.bool false)) [] u) fun Di Dj Dk =>
 De Dj Dk (.bool Di)) (fun Bo Bp Ax =>
 grd (nt AD) (fun Dl =>
 opt (aUn .not Ax) fun Dm =>
 rtB Dm fun Dn =>
 Dl Bo Bp (.bool Dn)) (fun Bq Br Ay =>
 rtB (sel AD (.bool true) Ay) fun AE =>
 grd (nt AE) (fun Do =>
 opt (zB P 50 6 v3) fun Dp =>
 Do Bq Br Dp) (fun Az Bs A0 =>
 grd (nt AE) (fun Dq =>
 opt (zF P 40 Az A0) fun Dr =>
 Dq Az Bs Dr) (fun A1 Bt A2 =>
 grd (nt AE) (fun Ds =>
 opt (yG P .len [40] [A2] A1) fun Dt =>
 rtI .i64 Dt fun Du =>
 Ds A1 Bt (.int .i64 Du)) (fun Bu Bv A3 =>
 grd (nt AE) (fun Dv =>
 yD igtB P .gtr 3 true A3 (.int .i64 16) fun Dw =>
 Dv Bu Bv (.bool Dw)) (fun AG AQ A4 =>
 rtB (sel AE (.bool true) A4) fun A5 =>
 br A5 (
 zO P L 60 k .ret (fo60 (.bool false)) (W.mk [] u AG AQ)) (
 opt (zB P 50 1 v3) fun A6 =>
 opt (zF P 3 AG A6) fun Dx =>
 rtI .i64 Dx fun AL =>
 opt (zB P 50 0 v3) fun A7 =>
 opt (zF P 3 AG A7) fun Dy =>
 rtI .i64 Dy fun AR =>
 blkJ (fun Dz =>
 fb (xZ AR 3) fun AM =>
 brJ AM (fun D0 =>
 opt (zB P 50 5 v3) fun Bw =>
 opt (zF P 9 AG Bw) fun Bx =>
 sO L 58 [Bx] AG AQ (kp L 60 k (fo60 (.bool false)) [] u) fun By Bz B0 =>
 opt (aUn .not (.bool By)) fun D4 =>
 rtB D4 fun AJ =>
 grd (nt AJ) (fun D5 =>
 opt (zB P 50 5 v3) fun D6 =>
 D5 Bz B0 D6) (fun A8 B1 B2 =>
 grd (nt AJ) (fun D7 =>
 opt (zF P 9 A8 B2) fun D8 =>
 D7 A8 B1 D8) (fun B3 B4 B5 =>
 grd (nt AJ) (fun D9 =>
 sO L 114 [B5] B3 B4 (kp L 60 k (fo60 (.bool false)) [] u) fun ED EE EF =>
 D9 EE EF (.bool ED)) (fun B6 B7 B8 =>
 rtB (sel AJ (.bool true) B8) fun AH =>
 grd (nt AH) (fun EG =>
 opt (zB P 50 6 v3) fun EH =>
 EG B6 B7 EH) (fun A9 B9 CA =>
 grd (nt AH) (fun EI =>
 opt (zF P 40 A9 CA) fun EJ =>
 EI A9 B9 EJ) (fun BA CB CC =>
 grd (nt AH) (fun EK =>
 opt (yG P .len [40] [CC] BA) fun EL =>
 rtI .i64 EL fun EM =>
 EK BA CB (.int .i64 EM)) (fun CD CE CF =>
 grd (nt AH) (fun EN =>
 yD wO P .lss 3 true CF (.int .i64 1) fun EO =>
 EN CD CE (.bool EO)) (fun CG CH CI =>
 rtB (sel AH (.bool true) CI) fun AI =>
 grd (nt AI) (fun EP =>
 opt (zB P 50 6 v3) fun EQ =>
 EP CG CH EQ) (fun BB CJ CK =>
 grd (nt AI) (fun ER =>
 opt (zF P 40 BB CK) fun ES =>
 ER BB CJ ES) (fun BC CL CM =>
 grd (nt AI) (fun ET =>
 opt (yG P .len [40] [CM] BC) fun EU =>
 rtI .i64 EU fun EV =>
 ET BC CL (.int .i64 EV)) (fun CN CO CP =>
 grd (nt AI) (fun EW =>
 yD igtB P .gtr 3 true CP (.int .i64 2) fun EX =>
 EW CN CO (.bool EX)) (fun CQ CR CS =>
 rtB (sel AI (.bool true) CS) fun CT =>
 br CT (
 zO P L 60 k .ret (fo60 (.bool false)) (W.mk [] u CQ CR)) (
 D0 (gf91 p0 v3 (vb false) (vi AL) v4 (vi a6) (vb a7) (vb a7) AX AY Aa (vb AC) (vb AC) Ab Ac Ad Ae (vb AB) (vb AB) Ag Ah Aj Ak Am An Ap Aq Ar As At (vb AD) (vb AD) Av Aw Ax Ay (vb AE) (vb AE) A0 A2 A3 A4 (vb A5) A6 (vi AL) A7 (vi AR) (vb AM) (vb AM) Bw Bx (vb By) (vb AJ) (vb AJ) B2 B5 B8 (vb AH) (vb AH) CA CC CF CI (vb AI) (vb AI) CK CM CP CS (vb CT) ud ud ud ud ud ud ud ud ud ud ud ud ud ud ud ud ud ud ud ud ud) (W.mk [] u CQ CR))) CN CO) BC CL) BB CJ) CG CH) CD CE) BA CB) A9 B9) B6 B7) B3 B4) A8 B1) Bz B0) (fun EY =>
 fb (xZ AR 6) fun BD =>
 br BD (
 opt (zB P 50 5 v3) fun EZ =>
 opt (zF P 9 AG EZ) fun Ea =>
 sO L 58 [Ea] AG AQ (kp L 60 k (fo60 (.bool false)) [] u) fun Ee AN BE =>
 opt (aUn .not (.bool Ee)) fun Ef =>
 rtB Ef fun Eg =>
 br Eg (
 zO P L 60 k .ret (fo60 (.bool false)) (W.mk [] u AN BE)) (
 fi (wW .i64 (pC AL 1)) fun Eh =>
 opt (yG P .max [3, 3] [(.int .i64 0), (.int .i64 Eh)] AN) fun Ei =>
 rtI .i64 Ei fun Ej =>
 fi (wW .i64 (isub Ej 1)) fun Ek =>
 opt (zB P 50 1 v3) fun El =>
 opt (zF P 3 AN El) fun Em =>
 rtI .i64 Em fun En =>
 fb (xZ En (-1)) fun AS =>
 grd (nt AS) (fun Eo =>
 Eo AN BE (.int .i64 Ek)) (fun CU CV Ep =>
 grd (nt AS) (fun Eq =>
 zN P 40 1 [(0, Ep)] CU CV fun Er Es Et =>
 Eq Er Es Et) (fun CW CX Eu =>
 grd (nt AS) (fun Ev =>
 sO L 59 [Eu] CW CX (kp L 60 k (fo60 (.bool false)) [] u) fun E0 E1 E2 =>
 Ev E1 E2 (.bool E0)) (fun E3 E4 E5 =>
 rtB (sel AS (.bool true) E5) fun E6 =>
 zO P L 60 k .ret (fo60 (.bool E6)) (W.mk [] u E3 E4)) CW CX) CU CV) AN BE)) (
 EY (gf91 p0 v3 (vb false) (vi AL) v4 (vi a6) (vb a7) (vb a7) AX AY Aa (vb AC) (vb AC) Ab Ac Ad Ae (vb AB) (vb AB) Ag Ah Aj Ak Am An Ap Aq Ar As At (vb AD) (vb AD) Av Aw Ax Ay (vb AE) (vb AE) A0 A2 A3 A4 (vb A5) A6 (vi AL) A7 (vi AR) (vb AM) (vb AM) ud ud ud ud ud ud ud ud ud ud ud ud ud ud ud ud ud ud ud ud ud (vb BD) (vb BD) ud ud ud ud ud ud ud ud ud ud ud ud ud ud ud ud ud ud ud) (W.mk [] u AG AQ))) (fun AK E7 =>
 rtI .i64 (zA AK 3) fun E8 =>
 onW E7 fun E9 FA FB FC =>
 Dz (fj60_0 AK (zA AK 2) (vi E8) (zA AK 88) (zA AK 89) (zA AK 90)) (W.mk E9 FA FB FC))) (fun AO FD =>
 rtI .i64 (zA AO 3) fun AP =>
 onW FD fun CY CZ FE FF =>
 zN P 40 1 [(0, (.int .i64 AP))] FE FF fun FG FH BF =>
 sO L 59 [BF] FG FH (kp L 60 k (fj60_0 AO (zA AO 2) (vi AP) (vi AP) BF (zA AO 90)) CY CZ) fun Ca FL FM =>
 zO P L 60 k .ret (fj60_0 AO (vb Ca) (vi AP) (vi AP) BF (vb Ca)) (W.mk CY CZ FL FM)))) Bu Bv) A1 Bt) Az Bs) Bq Br) Bo Bp) Bm Bn) Au Bl) Bj Bk) Bh Bi) Bf Bg) Bd Be) Ao Bc) Ba Bb) Al BZ) BX BY) Ai BW) BU BV) Af BT) BR BS) BP BQ) BN BO) BL BM) AZ BK) BI BJ) h9 BH) h1 n2
theorem F60_eq : EY1 60 hint60 F60 := fun _ _ _ _ _ _ _ _ => by kernel_rfl
theorem l60 : xD P 60 = true := by kernel_rfl
theorem r60 : wF P 60 = some [.tmp 2] := by kernel_rfl
noncomputable abbrev fo20 (s2 : Value) : Fr := gf83 ud ud s2 ud ud ud ud ud ud ud ud ud ud ud ud ud ud ud ud ud ud ud ud ud ud ud ud ud ud ud ud ud ud ud ud ud ud ud ud ud ud ud ud ud ud ud ud ud ud ud ud ud ud ud ud ud ud ud ud ud ud ud ud ud ud ud ud ud ud ud ud ud ud ud ud ud ud ud ud ud ud ud ud
noncomputable abbrev qZ (t : Fr) (s1 s2 s3 s5 s7 s9 s42 s43 s44 s45 s46 s47 s48 s49 s50 s51 s52 s53 s54 s55 s56 s57 s58 s59 s60 s61 s62 s63 s64 s65 s66 s67 s68 s69 s70 s71 s72 s73 s74 s75 s76 s77 s78 s79 s80 s81 s82 : Value) : Fr := gf83 (zA t 0) s1 s2 s3 (zA t 4) s5 (zA t 6) s7 (zA t 8) s9 (zA t 10) (zA t 11) (zA t 12) (zA t 13) (zA t 14) (zA t 15) (zA t 16) (zA t 17) (zA t 18) (zA t 19) (zA t 20) (zA t 21) (zA t 22) (zA t 23) (zA t 24) (zA t 25) (zA t 26) (zA t 27) (zA t 28) (zA t 29) (zA t 30) (zA t 31) (zA t 32) (zA t 33) (zA t 34) (zA t 35) (zA t 36) (zA t 37) (zA t 38) (zA t 39) (zA t 40) (zA t 41) s42 s43 s44 s45 s46 s47 s48 s49 s50 s51 s52 s53 s54 s55 s56 s57 s58 s59 s60 s61 s62 s63 s64 s65 s66 s67 s68 s69 s70 s71 s72 s73 s74 s75 s76 s77 s78 s79 s80 s81 s82
noncomputable abbrev hint20 : pD := hq [(0, 1000003, [.any, .val, .any, .bool, .any, .any, .any, .any, .any, .any, .any, .any, .any, .any, .any, .any, .any, .any, .any, .any, .any, .any, .any, .any, .any, .any, .any, .any, .any, .any, .any, .any, .any, .any, .any, .any, .any, .any, .any, .any, .any, .any, .val, (.int .i64), (.int .i64)]), (0, 1000008, [.any, .any, .any, .bool, .any, .any, .any, .any, .any, .any, .any, .any, .any, .any, .any, .any, .any, .any, .any, .any, .any, .any, .any, .any, .any, .any, .any, .any, .any, .any, .any, .any, .any, .any, .any, .any, .any, .any, .any, .any, .any, .any, .any, .any, .any, .any, .any, .any, .any, .any, .any, .any, .any, .any, .any, .val, (.int .i64), (.int .i64)]), (0, 1000012, [.any, .any, .any, .bool, .any, .any, .any, .any, .any, .any, .any, .any, .any, .any, .any, .any, .any, .any, .any, .any, .any, .any, .any, .any, .any, .any, .any, .any, .any, .any, .any, .any, .any, .any, .any, .any, .any, .any, .any, .any, .any, .any, .any, .any, .any, .any, .any, .any, .any, .any, .any, .any, .any, .any, .any, .val, (.int .i64), (.int .i64), .any, .any, .any, .any, .any, .any, .any, .any, .any, .val, (.int .i64), (.int .i64)]), (1, 0, [.any, .val, .any, .bool]), (1, 1, [.any, .val, .any, .bool, .any, .any, .any, .any, .any, .any, .any, .any, .any, .any, .any, .any, .any, .any, .any, .any, .any, .any, .any, .any, .any, .any, .any, .any, .any, .any, .any, .any, .any, .any, .any, .any, .any, .any, .any, .any, .any, .any, .val, (.int .i64), (.int .i64)]), (1, 2, [.any, .any, .any, .bool]), (1, 3, [.any, .any, .any, .bool, .any, .any, .any, .any, .any, .any, .any, .any, .any, .any, .any, .any, .any, .any, .any, .any, .any, .any, .any, .any, .any, .any, .any, .any, .any, .any, .any, .any, .any, .any, .any, .any, .any, .any, .any, .any, .any, .any, .any, .any, .any, .any, .any, .any, .any, .any, .any, .any, .any, .any, .any, .val, (.int .i64), (.int .i64)]), (1, 4, [.any, .any, .any, .bool, .any, .any, .any, .any, .any, .any, .any, .any, .any, .any, .any, .any, .any, .any, .any, .any, .any, .any, .any, .any, .any, .any, .any, .any, .any, .any, .any, .any, .any, .any, .any, .any, .any, .any, .any, .any, .any, .any, .any, .any, .any, .any, .any, .any, .any, .any, .any, .any, .any, .any, .any, .val, (.int .i64), (.int .i64)]), (1, 5, [.any, .any, .any, .bool, .any, .any, .any, .any, .any, .any, .any, .any, .any, .any, .any, .any, .any, .any, .any, .any, .any, .any, .any, .any, .any, .any, .any, .any, .any, .any, .any, .any, .any, .any, .any, .any, .any, .any, .any, .any, .any, .any, .any, .any, .any, .any, .any, .any, .any, .any, .any, .any, .any, .any, .any, .val, (.int .i64), (.int .i64), .any, .any, .any, .any, .any, .any, .any, .any, .any, .val, (.int .i64), (.int .i64)]), (2, 0, [.any, .val, .any, .bool, .any, .any, .any, .any, .any, .any, .any, .any, .any, .any, .any, .any, .any, .any, .any, .any, .any, .any, .any, .any, .any, .any, .any, .any, .any, .any, .any, .any, .any, .any, .any, .any, .any, .any, .any, .any, .any, .any, .val, (.int .i64), (.int .i64)]), (2, 16, [.any, .any, .any, .bool, .any, .any, .any, .any, .any, .any, .any, .any, .any, .any, .any, .any, .any, .any, .any, .any, .any, .any, .any, .any, .any, .any, .any, .any, .any, .any, .any, .any, .any, .any, .any, .any, .any, .any, .any, .any, .any, .any, .any, .any, .any, .any, .any, .any, .any, .any, .any, .any, .any, .any, .any, .val, (.int .i64), (.int .i64), .any, .any, .any, .any, .any, .any, .any, .any, .any, .val, (.int .i64), (.int .i64)])]
noncomputable def F20 : TY1 := fun L lp p0 df u h n k =>
 eBox p0 h n fun h1 n2 v3 =>
 opt (zB P 43 0 v3) fun v4 =>
 opt (zF P 9 h1 v4) fun v5 =>
 sO L 58 [v5] h1 n2 (kp L 20 k (fo20 (.bool false)) [] u) fun a6 h7 n8 =>
 grd a6 (fun BQ =>
 opt (zB P 43 3 v3) fun BR =>
 BQ h7 n8 BR) (fun AI AY AZ =>
 grd a6 (fun BS =>
 opt (zF P 9 AI AZ) fun BT =>
 BS AI AY BT) (fun Aa Ab Ac =>
 grd a6 (fun BU =>
 sO L 58 [Ac] Aa Ab (kp L 20 k (fo20 (.bool false)) [] u) fun BY BZ Ba =>
 BU BZ Ba (.bool BY)) (fun Ad Ae Af =>
 rtB (sel a6 Af (.bool false)) fun AD =>
 grd AD (fun Bb =>
 opt (zB P 43 1 v3) fun Bc =>
 Bb Ad Ae Bc) (fun AJ Ag Ah =>
 grd AD (fun Bd =>
 opt (zF P 23 AJ Ah) fun Be =>
 Bd AJ Ag Be) (fun AK Ai Aj =>
 grd AD (fun Bf =>
 opt (yG P .len [23] [Aj] AK) fun Bg =>
 rtI .i64 Bg fun Bh =>
 Bf AK Ai (.int .i64 Bh)) (fun Ak Al Am =>
 grd AD (fun Bi =>
 yD rU P .leq 3 true Am (.int .i64 500) fun Bj =>
 Bi Ak Al (.bool Bj)) (fun An Ao Ap =>
 rtB (sel AD Ap (.bool false)) fun AE =>
 grd AE (fun Bk =>
 opt (zB P 43 2 v3) fun Bl =>
 Bk An Ao Bl) (fun AL Aq Ar =>
 grd AE (fun Bm =>
 opt (zF P 40 AL Ar) fun Bn =>
 Bm AL Aq Bn) (fun AM As At =>
 grd AE (fun Bo =>
 opt (yG P .len [40] [At] AM) fun Bp =>
 rtI .i64 Bp fun Bq =>
 Bo AM As (.int .i64 Bq)) (fun Au Av Aw =>
 grd AE (fun Br =>
 yD rU P .leq 3 true Aw (.int .i64 16) fun Bs =>
 Br Au Av (.bool Bs)) (fun Ax Ay Az =>
 rtB (sel AE Az (.bool false)) fun AF =>
 grd AF (fun Bt =>
 opt (zB P 43 4 v3) fun Bu =>
 Bt Ax Ay Bu) (fun AN A0 A1 =>
 grd AF (fun Bv =>
 opt (zF P 41 AN A1) fun Bw =>
 Bv AN A0 Bw) (fun AO A2 A3 =>
 grd AF (fun Bx =>
 opt (yG P .len [41] [A3] AO) fun By =>
 rtI .i64 By fun Bz =>
 Bx AO A2 (.int .i64 Bz)) (fun A4 A5 A6 =>
 grd AF (fun B0 =>
 yD rU P .leq 3 true A6 (.int .i64 200) fun B1 =>
 B0 A4 A5 (.bool B1)) (fun A7 A8 A9 =>
 rtB (sel AF A9 (.bool false)) fun AH =>
 grd AH (fun B2 =>
 opt (zB P 43 2 v3) fun B3 =>
 B2 A7 A8 B3) (fun AP BA BB =>
 grd AH (fun B4 =>
 opt (zF P 40 AP BB) fun B5 =>
 B4 AP BA B5) (fun BC BD BE =>
 grd AH (fun B6 =>
 sO L 59 [BE] BC BD (kp L 20 k (fo20 (.bool false)) [] u) fun CA CB CC =>
 B6 CB CC (.bool CA)) (fun AQ CD BF =>
 rtB (sel AH BF (.bool false)) fun BG =>
 opt (zB P 43 1 v3) fun BH =>
 opt (zF P 23 AQ BH) fun BI =>
 opt (yG P .len [23] [BI] AQ) fun CE =>
 rtI .i64 CE fun CF =>
 lp 1000003 ⟨20, none, df⟩ (gf83 p0 v3 (vb false) (vb BG) ud ud ud ud ud ud v4 v5 (vb a6) (vb a6) AZ Ac Af (vb AD) (vb AD) Ah Aj Am Ap (vb AE) (vb AE) Ar At Aw Az (vb AF) (vb AF) A1 A3 A6 A9 (vb AH) (vb AH) BB BE BF (vb BG) BH BI (vi CF) (vi 0) ud ud ud ud ud ud ud ud ud ud ud ud ud ud ud ud ud ud ud ud ud ud ud ud ud ud ud ud ud ud ud ud ud ud ud ud ud ud) (W.mk [] u AQ CD) (endA noK (blkA 0 (fun AB CG =>
 zL (zA AB 1) fun BJ =>
 rtB (zA AB 3) fun CH =>
 onW CG fun CI CJ AR CK =>
 opt (zB P 43 4 BJ) fun BK =>
 opt (zF P 41 AR BK) fun BL =>
 opt (yG P .len [41] [BL] AR) fun CL =>
 rtI .i64 CL fun CM =>
 lp 1000008 ⟨20, none, df⟩ (qZ AB BJ (zA AB 2) (vb CH) (zA AB 5) (zA AB 7) (zA AB 9) (zA AB 42) (zA AB 43) (zA AB 44) (zA AB 45) (zA AB 46) (zA AB 47) (zA AB 48) (zA AB 49) (zA AB 50) (zA AB 51) (zA AB 52) (zA AB 53) BK BL (vi CM) (vi 0) (zA AB 58) (zA AB 59) (zA AB 60) (zA AB 61) (zA AB 62) (zA AB 63) (zA AB 64) (zA AB 65) (zA AB 66) (zA AB 67) (zA AB 68) (zA AB 69) (zA AB 70) (zA AB 71) (zA AB 72) (zA AB 73) (zA AB 74) (zA AB 75) (zA AB 76) (zA AB 77) (zA AB 78) (zA AB 79) (zA AB 80) (zA AB 81) (zA AB 82)) (W.mk CI CJ AR CK) (endA noK (blkA 2 (fun AA CN =>
 rtB (zA AA 3) fun AS =>
 onW CN fun CO CP CQ CR =>
 zO P L 20 k .ret (qZ AA (zA AA 1) (vb AS) (vb AS) (zA AA 5) (zA AA 7) (zA AA 9) (zA AA 42) (zA AA 43) (zA AA 44) (zA AA 45) (zA AA 46) (zA AA 47) (zA AA 48) (zA AA 49) (zA AA 50) (zA AA 51) (zA AA 52) (zA AA 53) (zA AA 54) (zA AA 55) (zA AA 56) (zA AA 57) (zA AA 58) (zA AA 59) (zA AA 60) (zA AA 61) (zA AA 62) (zA AA 63) (zA AA 64) (zA AA 65) (zA AA 66) (zA AA 67) (zA AA 68) (zA AA 69) (zA AA 70) (zA AA 71) (zA AA 72) (zA AA 73) (zA AA 74) (zA AA 75) (zA AA 76) (zA AA 77) (zA AA 78) (zA AA 79) (zA AA 80) (zA AA 81) (vb AS)) (W.mk CO CP CQ CR)) (zO P L 20 k)))) (zO P L 20 k)))) BC BD) AP BA) A7 A8) A4 A5) AO A2) AN A0) Ax Ay) Au Av) AM As) AL Aq) An Ao) Ak Al) AK Ai) AJ Ag) Ad Ae) Aa Ab) AI AY) h7 n8
theorem F20_eq : EY1 20 hint20 F20 := fun _ _ _ _ _ _ _ _ => by kernel_rfl
noncomputable def B20_1000003 : TYB := fun L lp rd df t w ka =>
 zL (zA t 1) fun AI =>
 rtB (zA t 3) fun AB =>
 zL (zA t 42) fun AE =>
 rtI .i64 (zA t 43) fun AF =>
 rtI .i64 (zA t 44) fun AC =>
 onW w fun AJ AK AG AL =>
 fb (wO AC AF) fun AH =>
 br AH (
 blkJ (fun AT =>
 opt (zU P 23 AE (.int .i64 AC)) fun AM =>
 opt (zF P 9 AG AM) fun AD =>
 grd AB (fun AU =>
 AU AG AL AD) (fun AO AP AN =>
 grd AB (fun AV =>
 sO L 58 [AN] AO AP (kb ka (qZ t AI (zA t 2) (vb AB) AD (zA t 7) (zA t 9) AE (vi AF) (vi AC) (vb AH) AM AD (vb AB) (vb AB) AN (zA t 51) (zA t 52) (zA t 53) (zA t 54) (zA t 55) (zA t 56) (zA t 57) (zA t 58) (zA t 59) (zA t 60) (zA t 61) (zA t 62) (zA t 63) (zA t 64) (zA t 65) (zA t 66) (zA t 67) (zA t 68) (zA t 69) (zA t 70) (zA t 71) (zA t 72) (zA t 73) (zA t 74) (zA t 75) (zA t 76) (zA t 77) (zA t 78) (zA t 79) (zA t 80) (zA t 81) (zA t 82)) AJ AK) fun AZ Aa Ab =>
 AV Aa Ab (.bool AZ)) (fun Ac Ad AQ =>
 rtB (sel AB AQ (.bool false)) fun AR =>
 AT (qZ t AI (zA t 2) (vb AR) AD (zA t 7) (zA t 9) AE (vi AF) (vi AC) (vb AH) AM AD (vb AB) (vb AB) AN AQ (vb AR) (zA t 53) (zA t 54) (zA t 55) (zA t 56) (zA t 57) (zA t 58) (zA t 59) (zA t 60) (zA t 61) (zA t 62) (zA t 63) (zA t 64) (zA t 65) (zA t 66) (zA t 67) (zA t 68) (zA t 69) (zA t 70) (zA t 71) (zA t 72) (zA t 73) (zA t 74) (zA t 75) (zA t 76) (zA t 77) (zA t 78) (zA t 79) (zA t 80) (zA t 81) (zA t 82)) (W.mk AJ AK Ac Ad)) AO AP) AG AL) (fun AA Ae =>
 zL (zA AA 1) fun Af =>
 rtB (zA AA 3) fun Ag =>
 zL (zA AA 42) fun Ah =>
 rtI .i64 (zA AA 43) fun Ai =>
 rtI .i64 (zA AA 44) fun Aj =>
 onW Ae fun Ak Al Am An =>
 fi (wW .i64 (pC Aj 1)) fun AS =>
 lp 1000003 ⟨20, rd, df⟩ (qZ AA Af (zA AA 2) (vb Ag) (zA AA 5) (zA AA 7) (zA AA 9) Ah (vi Ai) (vi AS) (zA AA 45) (zA AA 46) (zA AA 47) (zA AA 48) (zA AA 49) (zA AA 50) (zA AA 51) (zA AA 52) (vi AS) (zA AA 54) (zA AA 55) (zA AA 56) (zA AA 57) (zA AA 58) (zA AA 59) (zA AA 60) (zA AA 61) (zA AA 62) (zA AA 63) (zA AA 64) (zA AA 65) (zA AA 66) (zA AA 67) (zA AA 68) (zA AA 69) (zA AA 70) (zA AA 71) (zA AA 72) (zA AA 73) (zA AA 74) (zA AA 75) (zA AA 76) (zA AA 77) (zA AA 78) (zA AA 79) (zA AA 80) (zA AA 81) (zA AA 82)) (W.mk Ak Al Am An) ka)) (
 ka (.exit 0) (qZ t AI (zA t 2) (vb AB) (zA t 5) (zA t 7) (zA t 9) AE (vi AF) (vi AC) (vb AH) (zA t 46) (zA t 47) (zA t 48) (zA t 49) (zA t 50) (zA t 51) (zA t 52) (zA t 53) (zA t 54) (zA t 55) (zA t 56) (zA t 57) (zA t 58) (zA t 59) (zA t 60) (zA t 61) (zA t 62) (zA t 63) (zA t 64) (zA t 65) (zA t 66) (zA t 67) (zA t 68) (zA t 69) (zA t 70) (zA t 71) (zA t 72) (zA t 73) (zA t 74) (zA t 75) (zA t 76) (zA t 77) (zA t 78) (zA t 79) (zA t 80) (zA t 81) (zA t 82)) (W.mk AJ AK AG AL))
theorem B20_1000003_eq : EYB 20 1000003 hint20 B20_1000003 := fun _ _ _ _ _ _ _ => by kernel_rfl
noncomputable def B20_1000008 : TYB := fun L lp rd df t w ka =>
 rtB (zA t 3) fun AC =>
 zL (zA t 55) fun AG =>
 rtI .i64 (zA t 56) fun AH =>
 rtI .i64 (zA t 57) fun AE =>
 onW w fun AL AM AF AI =>
 fb (wO AE AH) fun AJ =>
 br AJ (
 blkJ (fun AN =>
 opt (zU P 41 AG (.int .i64 AE)) fun AO =>
 opt (zF P 51 AF AO) fun AD =>
 grd AC (fun AY =>
 AY AF AI AD) (fun AK AP AQ =>
 grd AC (fun AZ =>
 opt (yG P .len [51] [AQ] AK) fun Aa =>
 rtI .i64 Aa fun Ab =>
 AZ AK AP (.int .i64 Ab)) (fun AR AS AT =>
 grd AC (fun Ac =>
 yD rU P .leq 3 true AT (.int .i64 400) fun Ad =>
 Ac AR AS (.bool Ad)) (fun AU Ae AV =>
 rtB (sel AC AV (.bool false)) fun AW =>
 opt (yG P .len [51] [AD] AU) fun Af =>
 rtI .i64 Af fun Ag =>
 lp 1000012 ⟨20, rd, df⟩ (qZ t (zA t 1) (zA t 2) (vb AW) (zA t 5) AD (zA t 9) (zA t 42) (zA t 43) (zA t 44) (zA t 45) (zA t 46) (zA t 47) (zA t 48) (zA t 49) (zA t 50) (zA t 51) (zA t 52) (zA t 53) (zA t 54) AG (vi AH) (vi AE) (vb AJ) AO AD (vb AC) (vb AC) AQ AT AV (vb AW) AD (vi Ag) (vi 0) (zA t 70) (zA t 71) (zA t 72) (zA t 73) (zA t 74) (zA t 75) (zA t 76) (zA t 77) (zA t 78) (zA t 79) (zA t 80) (zA t 81) (zA t 82)) (W.mk AL AM AU Ae) (endA noK (blkA 4 (fun AA Ah =>
 rtB (zA AA 3) fun Ai =>
 zL (zA AA 55) fun Aj =>
 rtI .i64 (zA AA 56) fun Ak =>
 rtI .i64 (zA AA 57) fun Al =>
 onW Ah fun Am An Ao Ap =>
 AN (qZ AA (zA AA 1) (zA AA 2) (vb Ai) (zA AA 5) (zA AA 7) (zA AA 9) (zA AA 42) (zA AA 43) (zA AA 44) (zA AA 45) (zA AA 46) (zA AA 47) (zA AA 48) (zA AA 49) (zA AA 50) (zA AA 51) (zA AA 52) (zA AA 53) (zA AA 54) Aj (vi Ak) (vi Al) (zA AA 58) (zA AA 59) (zA AA 60) (zA AA 61) (zA AA 62) (zA AA 63) (zA AA 64) (zA AA 65) (zA AA 66) (zA AA 67) (zA AA 68) (zA AA 69) (zA AA 70) (zA AA 71) (zA AA 72) (zA AA 73) (zA AA 74) (zA AA 75) (zA AA 76) (zA AA 77) (zA AA 78) (zA AA 79) (zA AA 80) (zA AA 81) (zA AA 82)) (W.mk Am An Ao Ap)) (blkA 3 AN ka)))) AR AS) AK AP) AF AI) (fun AB Aq =>
 rtB (zA AB 3) fun Ar =>
 zL (zA AB 55) fun As =>
 rtI .i64 (zA AB 56) fun At =>
 rtI .i64 (zA AB 57) fun Au =>
 onW Aq fun Av Aw Ax Ay =>
 fi (wW .i64 (pC Au 1)) fun AX =>
 lp 1000008 ⟨20, rd, df⟩ (qZ AB (zA AB 1) (zA AB 2) (vb Ar) (zA AB 5) (zA AB 7) (zA AB 9) (zA AB 42) (zA AB 43) (zA AB 44) (zA AB 45) (zA AB 46) (zA AB 47) (zA AB 48) (zA AB 49) (zA AB 50) (zA AB 51) (zA AB 52) (zA AB 53) (zA AB 54) As (vi At) (vi AX) (zA AB 58) (zA AB 59) (zA AB 60) (zA AB 61) (zA AB 62) (zA AB 63) (zA AB 64) (zA AB 65) (zA AB 66) (zA AB 67) (zA AB 68) (zA AB 69) (zA AB 70) (zA AB 71) (zA AB 72) (zA AB 73) (zA AB 74) (zA AB 75) (zA AB 76) (zA AB 77) (zA AB 78) (zA AB 79) (zA AB 80) (vi AX) (zA AB 82)) (W.mk Av Aw Ax Ay) ka)) (
 ka (.exit 2) (qZ t (zA t 1) (zA t 2) (vb AC) (zA t 5) (zA t 7) (zA t 9) (zA t 42) (zA t 43) (zA t 44) (zA t 45) (zA t 46) (zA t 47) (zA t 48) (zA t 49) (zA t 50) (zA t 51) (zA t 52) (zA t 53) (zA t 54) AG (vi AH) (vi AE) (vb AJ) (zA t 59) (zA t 60) (zA t 61) (zA t 62) (zA t 63) (zA t 64) (zA t 65) (zA t 66) (zA t 67) (zA t 68) (zA t 69) (zA t 70) (zA t 71) (zA t 72) (zA t 73) (zA t 74) (zA t 75) (zA t 76) (zA t 77) (zA t 78) (zA t 79) (zA t 80) (zA t 81) (zA t 82)) (W.mk AL AM AF AI))
theorem B20_1000008_eq : EYB 20 1000008 hint20 B20_1000008 := fun _ _ _ _ _ _ _ => by kernel_rfl
noncomputable def B20_1000012 : TYB := fun L lp rd df t w ka =>
 rtB (zA t 3) fun AB =>
 zL (zA t 55) fun AI =>
 rtI .i64 (zA t 56) fun AJ =>
 rtI .i64 (zA t 57) fun AK =>
 zL (zA t 67) fun AE =>
 rtI .i64 (zA t 68) fun AF =>
 rtI .i64 (zA t 69) fun AD =>
 onW w fun AL AM AQ AU =>
 fb (wO AD AF) fun AG =>
 br AG (
 blkJ (fun Ab =>
 opt (zU P 51 AE (.int .i64 AD)) fun AN =>
 opt (zF P 50 AQ AN) fun AO =>
 tH P 50 AQ AU fun Ac Ad AH =>
 zW P 50 AH AO Ac Ad fun AR AV A0 =>
 grd AB (fun Ae =>
 opt (zF P 50 AR AH) fun Af =>
 Ae AR AV Af) (fun AW AX AP =>
 grd AB (fun Ag =>
 sO L 60 [AP] AW AX (kb ka (qZ t (zA t 1) (zA t 2) (vb AB) (zA t 5) (zA t 7) AH (zA t 42) (zA t 43) (zA t 44) (zA t 45) (zA t 46) (zA t 47) (zA t 48) (zA t 49) (zA t 50) (zA t 51) (zA t 52) (zA t 53) (zA t 54) AI (vi AJ) (vi AK) (zA t 58) (zA t 59) (zA t 60) (zA t 61) (zA t 62) (zA t 63) (zA t 64) (zA t 65) (zA t 66) AE (vi AF) (vi AD) (vb AG) AN AO (vb AB) (vb AB) AP (zA t 76) (zA t 77) (zA t 78) (zA t 79) (zA t 80) (zA t 81) (zA t 82)) AL AM) fun Ak Al Am =>
 Ag Al Am (.bool Ak)) (fun AY AZ AS =>
 rtB (sel AB AS (.bool false)) fun AC =>
 opt (aUn .not (.bool AC)) fun An =>
 rtB An fun AT =>
 br AT (
 ka .ret (qZ t (zA t 1) (vb false) (vb AC) (zA t 5) (zA t 7) AH (zA t 42) (zA t 43) (zA t 44) (zA t 45) (zA t 46) (zA t 47) (zA t 48) (zA t 49) (zA t 50) (zA t 51) (zA t 52) (zA t 53) (zA t 54) AI (vi AJ) (vi AK) (zA t 58) (zA t 59) (zA t 60) (zA t 61) (zA t 62) (zA t 63) (zA t 64) (zA t 65) (zA t 66) AE (vi AF) (vi AD) (vb AG) AN AO (vb AB) (vb AB) AP AS (vb AC) (vb AC) (vb AT) (zA t 80) (zA t 81) (zA t 82)) (W.mk AL AM AY AZ)) (
 Ab (qZ t (zA t 1) (zA t 2) (vb AC) (zA t 5) (zA t 7) AH (zA t 42) (zA t 43) (zA t 44) (zA t 45) (zA t 46) (zA t 47) (zA t 48) (zA t 49) (zA t 50) (zA t 51) (zA t 52) (zA t 53) (zA t 54) AI (vi AJ) (vi AK) (zA t 58) (zA t 59) (zA t 60) (zA t 61) (zA t 62) (zA t 63) (zA t 64) (zA t 65) (zA t 66) AE (vi AF) (vi AD) (vb AG) AN AO (vb AB) (vb AB) AP AS (vb AC) (vb AC) (vb AT) (zA t 80) (zA t 81) (zA t 82)) (W.mk AL AM AY AZ))) AW AX) AR AV) (fun AA Ao =>
 rtB (zA AA 3) fun Ap =>
 zL (zA AA 55) fun Aq =>
 rtI .i64 (zA AA 56) fun Ar =>
 rtI .i64 (zA AA 57) fun As =>
 zL (zA AA 67) fun At =>
 rtI .i64 (zA AA 68) fun Au =>
 rtI .i64 (zA AA 69) fun Av =>
 onW Ao fun Aw Ax Ay Az =>
 fi (wW .i64 (pC Av 1)) fun Aa =>
 lp 1000012 ⟨20, rd, df⟩ (qZ AA (zA AA 1) (zA AA 2) (vb Ap) (zA AA 5) (zA AA 7) (zA AA 9) (zA AA 42) (zA AA 43) (zA AA 44) (zA AA 45) (zA AA 46) (zA AA 47) (zA AA 48) (zA AA 49) (zA AA 50) (zA AA 51) (zA AA 52) (zA AA 53) (zA AA 54) Aq (vi Ar) (vi As) (zA AA 58) (zA AA 59) (zA AA 60) (zA AA 61) (zA AA 62) (zA AA 63) (zA AA 64) (zA AA 65) (zA AA 66) At (vi Au) (vi Aa) (zA AA 70) (zA AA 71) (zA AA 72) (zA AA 73) (zA AA 74) (zA AA 75) (zA AA 76) (zA AA 77) (zA AA 78) (zA AA 79) (vi Aa) (zA AA 81) (zA AA 82)) (W.mk Aw Ax Ay Az) ka)) (
 ka (.exit 4) (qZ t (zA t 1) (zA t 2) (vb AB) (zA t 5) (zA t 7) (zA t 9) (zA t 42) (zA t 43) (zA t 44) (zA t 45) (zA t 46) (zA t 47) (zA t 48) (zA t 49) (zA t 50) (zA t 51) (zA t 52) (zA t 53) (zA t 54) AI (vi AJ) (vi AK) (zA t 58) (zA t 59) (zA t 60) (zA t 61) (zA t 62) (zA t 63) (zA t 64) (zA t 65) (zA t 66) AE (vi AF) (vi AD) (vb AG) (zA t 71) (zA t 72) (zA t 73) (zA t 74) (zA t 75) (zA t 76) (zA t 77) (zA t 78) (zA t 79) (zA t 80) (zA t 81) (zA t 82)) (W.mk AL AM AQ AU))
theorem B20_1000012_eq : EYB 20 1000012 hint20 B20_1000012 := fun _ _ _ _ _ _ _ => by kernel_rfl
theorem l20 : xD P 20 = true := by kernel_rfl
theorem r20 : wF P 20 = some [.tmp 2] := by kernel_rfl
theorem lp20_1000003 : uM (xC P 20 1000003) = true := by kernel_rfl
theorem lp20_1000008 : uM (xC P 20 1000008) = true := by kernel_rfl
theorem lp20_1000012 : uM (xC P 20 1000012) = true := by kernel_rfl
noncomputable abbrev fo56 (s2 : Value) : Fr := gf102 ud ud s2 ud ud ud ud ud ud ud ud ud ud ud ud ud ud ud ud ud ud ud ud ud ud ud ud ud ud ud ud ud ud ud ud ud ud ud ud ud ud ud ud ud ud ud ud ud ud ud ud ud ud ud ud ud ud ud ud ud ud ud ud ud ud ud ud ud ud ud ud ud ud ud ud ud ud ud ud ud ud ud ud ud ud ud ud ud ud ud ud ud ud ud ud ud ud ud ud ud ud ud
noncomputable abbrev fj56_0 (t : Fr) (s1 s2 s3 s4 s66 s67 s68 s69 s70 s71 s72 s73 s74 s97 s98 s99 s100 s101 : Value) : Fr := gf102 (zA t 0) s1 s2 s3 s4 (zA t 5) (zA t 6) (zA t 7) (zA t 8) (zA t 9) (zA t 10) (zA t 11) (zA t 12) (zA t 13) (zA t 14) (zA t 15) (zA t 16) (zA t 17) (zA t 18) (zA t 19) (zA t 20) (zA t 21) (zA t 22) (zA t 23) (zA t 24) (zA t 25) (zA t 26) (zA t 27) (zA t 28) (zA t 29) (zA t 30) (zA t 31) (zA t 32) (zA t 33) (zA t 34) (zA t 35) (zA t 36) (zA t 37) (zA t 38) (zA t 39) (zA t 40) (zA t 41) (zA t 42) (zA t 43) (zA t 44) (zA t 45) (zA t 46) (zA t 47) (zA t 48) (zA t 49) (zA t 50) (zA t 51) (zA t 52) (zA t 53) (zA t 54) (zA t 55) (zA t 56) (zA t 57) (zA t 58) (zA t 59) (zA t 60) (zA t 61) (zA t 62) (zA t 63) (zA t 64) (zA t 65) s66 s67 s68 s69 s70 s71 s72 s73 s74 (zA t 75) (zA t 76) (zA t 77) (zA t 78) (zA t 79) (zA t 80) (zA t 81) (zA t 82) (zA t 83) (zA t 84) (zA t 85) (zA t 86) (zA t 87) (zA t 88) (zA t 89) (zA t 90) (zA t 91) (zA t 92) (zA t 93) (zA t 94) (zA t 95) (zA t 96) s97 s98 s99 s100 s101
noncomputable abbrev fj56_1 (t : Fr) (s1 s3 : Value) : Fr := fj56_0 t s1 (zA t 2) s3 (zA t 4) (zA t 66) (zA t 67) (zA t 68) (zA t 69) (zA t 70) (zA t 71) (zA t 72) (zA t 73) (zA t 74) (zA t 97) (zA t 98) (zA t 99) (zA t 100) (zA t 101)
noncomputable abbrev hint56 : pD := hq [(1, 0, [.any, .val, .any, .val]), (2, 5, [.any, .val, .any, .val]), (2, 7, [.any, .val, .any, .val]), (2, 9, [.any, .val, .any, .val]), (2, 11, [.any, .val, .any, .val]), (2, 13, [.any, .val, .any, .val]), (2, 15, [.any, .val, .any, .val]), (2, 16, [.any, .val, .any, .any, .val]), (2, 19, [.any, .val, .any, .val]), (2, 21, [.any, .val, .any, .val])]
noncomputable def F56 : TY1 := fun L lp p0 df u h n k =>
 eBox p0 h n fun h1 n2 v3 =>
 opt (zB P 50 1 v3) fun v4 =>
 opt (zF P 3 h1 v4) fun v5 =>
 rtI .i64 v5 fun a6 =>
 vC L (.func (.func 81) #[] #[]) [(.int .i64 a6)] h1 n2 (kp L 56 k (fo56 (.slice none 0 0)) [] u) fun a7 h8 n9 =>
 zN P 23 2 [(0, a7), (1, (.string (ByteArray.mk #[61])))] h8 n9 fun AB AD AG =>
 opt (zB P 50 0 v3) fun Af =>
 opt (zF P 3 AB Af) fun Bi =>
 rtI .i64 Bi fun AF =>
 blkJ (fun Bj =>
 fb (xZ AF 1) fun AJ =>
 brJ AJ (fun EJ =>
 opt (zB P 50 4 v3) fun Bk =>
 opt (zF P 3 AB Bk) fun Bl =>
 rtI .i64 Bl fun Bm =>
 vC L (.func (.func 81) #[] #[]) [(.int .i64 Bm)] AB AD (kp L 56 k (fo56 (.slice none 0 0)) [] u) fun Bq Br Bs =>
 zN P 23 2 [(0, (.string (ByteArray.mk #[99, 111, 110, 115, 116]))), (1, Bq)] Br Bs fun Bt Bu Bv =>
 xV P [23, 23] [AG, Bv] Bt Bu fun Bw Bx By =>
 zO P L 56 k .ret (fo56 By) (W.mk [] u Bw Bx)) (fun Bz =>
 fb (xZ AF 2) fun AK =>
 brJ AK (fun EK =>
 opt (zB P 50 2 v3) fun B0 =>
 opt (zF P 3 AB B0) fun B1 =>
 rtI .i64 B1 fun B2 =>
 vC L (.func (.func 81) #[] #[]) [(.int .i64 B2)] AB AD (kp L 56 k (fo56 (.slice none 0 0)) [] u) fun B6 B7 B8 =>
 zN P 23 2 [(0, (.string (ByteArray.mk #[99, 111, 112, 121]))), (1, B6)] B7 B8 fun B9 CA CB =>
 xV P [23, 23] [AG, CB] B9 CA fun CC CD CE =>
 zO P L 56 k .ret (fo56 CE) (W.mk [] u CC CD)) (fun CF =>
 fb (xZ AF 3) fun AL =>
 brJ AL (fun EL =>
 opt (zB P 50 5 v3) fun CG =>
 opt (zF P 9 AB CG) fun CH =>
 zN P 23 1 [(0, CH)] AB AD fun CI BM CJ =>
 xV P [23, 23] [AG, CJ] CI BM fun Ag AQ CK =>
 gt (Nat.ble BM AQ) (
 opt (zB P 50 6 v3) fun AR =>
 opt (zF P 40 Ag AR) fun Ap =>
 yY L 55 [Ap] Ag AQ (fun CL CM CN =>
 gt (lks [(W.mk [] u Ag AQ), (W.mk [] u AB AD)] [⟨true, (lkQ (fun Aq => zF P 40 Aq AR) AR Ap), 0, 1⟩]) (
 zO P L 56 k (.panic CL) (fo56 (.slice none 0 0)) (W.mk [] u CM CN))) fun CO BN Ah =>
 gt (Nat.ble AQ Ah) (
 xV P [23, 23] [CK, CO] BN Ah fun BO Ar CP =>
 gt (Nat.ble Ah Ar) (
 gt (lks [(W.mk [] u BO Ar), (W.mk [] u BN Ah), (W.mk [] u Ag AQ), (W.mk [] u AB AD)] [⟨true, (lkQ (fun Aq => zF P 40 Aq AR) AR Ap), 0, 1⟩]) (
 zO P L 56 k .ret (fo56 CP) (W.mk [] u BO Ar)))))) (fun CQ =>
 fb (xZ AF 4) fun AM =>
 brJ AM (fun EM =>
 opt (zB P 50 2 v3) fun CR =>
 opt (zF P 3 AB CR) fun CS =>
 rtI .i64 CS fun CT =>
 vC L (.func (.func 81) #[] #[]) [(.int .i64 CT)] AB AD (kp L 56 k (fo56 (.slice none 0 0)) [] u) fun CX CY CZ =>
 zN P 23 2 [(0, (.string (ByteArray.mk #[108, 111, 97, 100]))), (1, CX)] CY CZ fun Ca Cb Cc =>
 xV P [23, 23] [AG, Cc] Ca Cb fun Cd Ce Cf =>
 zO P L 56 k .ret (fo56 Cf) (W.mk [] u Cd Ce)) (fun Cg =>
 fb (xZ AF 5) fun AN =>
 brJ AN (fun EN =>
 opt (zB P 50 2 v3) fun Ch =>
 opt (zF P 3 AB Ch) fun Ci =>
 rtI .i64 Ci fun Cj =>
 vC L (.func (.func 81) #[] #[]) [(.int .i64 Cj)] AB AD (fun EO EP EQ =>
 false) fun Ck Ai AS =>
 gt (Nat.ble AD AS) (
 opt (zB P 50 3 v3) fun AT =>
 opt (zF P 3 Ai AT) fun Cl =>
 rtI .i64 Cl fun As =>
 vC L (.func (.func 81) #[] #[]) [(.int .i64 As)] Ai AS (fun Cm Cn Co =>
 gt (lks [(W.mk [] u Ai AS), (W.mk [] u AB AD)] [⟨true, (lkQ (fun At => zF P 3 At AT) AT (.int .i64 As)), 0, 1⟩]) (
 zO P L 56 k (.panic Cm) (fo56 (.slice none 0 0)) (W.mk [] u Cn Co))) fun Cp BP Au =>
 gt (Nat.ble AS Au) (
 zN P 23 3 [(0, (.string (ByteArray.mk #[115, 116, 111, 114, 101]))), (1, Ck), (2, Cp)] BP Au fun Cq Cr Cs =>
 gt (lks [(W.mk [] u BP Au), (W.mk [] u Ai AS), (W.mk [] u AB AD)] [⟨true, (lkQ (fun At => zF P 3 At AT) AT (.int .i64 As)), 0, 1⟩]) (
 zO P L 56 k .ret (fo56 Cs) (W.mk [] u Cq Cr))))) (fun Ct =>
 fb (xZ AF 6) fun AO =>
 brJ AO (fun ER =>
 opt (zB P 50 1 v3) fun Av =>
 opt (zF P 3 AB Av) fun Cu =>
 rtI .i64 Cu fun Aw =>
 fb (xZ Aw (-1)) fun Ax =>
 brJ Ax (fun Cv =>
 Cv (gf102 p0 v3 (.slice none 0 0) (.func (.func 81) #[] #[]) (.slice none 0 0) (.func (.func 81) #[] #[]) v4 (vi a6) a7 AG Af (vi AF) (vb AJ) (vb AJ) ud ud ud ud ud ud ud (vb AK) (vb AK) ud ud ud ud ud ud ud (vb AL) (vb AL) ud ud ud ud ud ud ud ud ud (vb AM) (vb AM) ud ud ud ud ud ud ud (vb AN) (vb AN) ud ud ud ud ud ud ud ud ud (vb AO) (vb AO) Av (vi Aw) (vb Ax) ud ud ud ud ud ud ud ud ud ud ud ud ud ud ud ud ud ud ud ud ud ud ud ud ud ud ud ud ud ud ud ud ud ud ud ud) (W.mk [] u AB AD)) (fun Cw =>
 Cw (gf102 p0 v3 (.slice none 0 0) (.func (.func 81) #[] #[]) AG (.func (.func 81) #[] #[]) v4 (vi a6) a7 AG Af (vi AF) (vb AJ) (vb AJ) ud ud ud ud ud ud ud (vb AK) (vb AK) ud ud ud ud ud ud ud (vb AL) (vb AL) ud ud ud ud ud ud ud ud ud (vb AM) (vb AM) ud ud ud ud ud ud ud (vb AN) (vb AN) ud ud ud ud ud ud ud ud ud (vb AO) (vb AO) Av (vi Aw) (vb Ax) ud ud ud ud ud ud ud ud ud ud ud ud ud ud ud ud ud ud ud ud ud ud ud ud ud ud ud ud ud ud ud ud ud ud ud ud) (W.mk [] u AB AD)) (fun AC Cx =>
 zL (zA AC 1) fun Aj =>
 zL (zA AC 4) fun AU =>
 onW Cx fun AH AI Ak Ay =>
 opt (zB P 50 5 Aj) fun Az =>
 opt (zF P 9 Ak Az) fun A0 =>
 zN P 23 2 [(0, (.string (ByteArray.mk #[99, 97, 108, 108]))), (1, A0)] Ak Ay fun Cy BQ A1 =>
 xV P [23, 23] [AU, A1] Cy BQ fun Al AV A2 =>
 gt (Nat.ble BQ AV) (
 opt (zB P 50 6 Aj) fun AP =>
 opt (zF P 40 Al AP) fun AW =>
 yY L 55 [AW] Al AV (fun Cz C0 C1 =>
 gt (lks [(W.mk AH AI Al AV), (W.mk AH AI Ak Ay)] [⟨true, (lkQ (fun A3 => zF P 40 A3 AP) AP AW), 0, 1⟩]) (
 zO P L 56 k (.panic Cz) (fj56_0 AC Aj (zA AC 2) (zA AC 3) AU AU Az A0 A1 A2 AP AW (zA AC 73) (zA AC 74) (zA AC 97) (zA AC 98) (zA AC 99) (zA AC 100) (zA AC 101)) (W.mk AH AI C0 C1))) fun BR BS Am =>
 gt (Nat.ble AV Am) (
 xV P [23, 23] [A2, BR] BS Am fun BT A4 BU =>
 gt (Nat.ble Am A4) (
 gt (lks [(W.mk AH AI BT A4), (W.mk AH AI BS Am), (W.mk AH AI Al AV), (W.mk AH AI Ak Ay)] [⟨true, (lkQ (fun A3 => zF P 40 A3 AP) AP AW), 0, 1⟩]) (
 zO P L 56 k .ret (fj56_0 AC Aj BU (zA AC 3) AU AU Az A0 A1 A2 AP AW BR BU (zA AC 97) (zA AC 98) (zA AC 99) (zA AC 100) (zA AC 101)) (W.mk AH AI BT A4))))))) (fun C2 =>
 fb (xZ AF 7) fun A5 =>
 br A5 (
 opt (zB P 50 2 v3) fun C3 =>
 opt (zF P 3 AB C3) fun C4 =>
 rtI .i64 C4 fun C5 =>
 vC L (.func (.func 81) #[] #[]) [(.int .i64 C5)] AB AD (fun ES ET EU =>
 false) fun C6 An AX =>
 gt (Nat.ble AD AX) (
 opt (zB P 50 7 v3) fun AY =>
 opt (zF P 3 An AY) fun C7 =>
 rtI .i64 C7 fun A6 =>
 vC L (.func (.func 81) #[] #[]) [(.int .i64 A6)] An AX (fun EV EW EX =>
 false) fun C8 Ao AZ =>
 gt (Nat.ble AX AZ) (
 opt (zB P 50 8 v3) fun Aa =>
 opt (zF P 3 Ao Aa) fun C9 =>
 rtI .i64 C9 fun A7 =>
 vC L (.func (.func 81) #[] #[]) [(.int .i64 A7)] Ao AZ (fun DA DB DC =>
 gt (lks [(W.mk [] u Ao AZ), (W.mk [] u An AX), (W.mk [] u AB AD)] [⟨true, (lkQ (fun A8 => zF P 3 A8 Aa) Aa (.int .i64 A7)), 0, 2⟩, ⟨true, (lkQ (fun A9 => zF P 3 A9 AY) AY (.int .i64 A6)), 0, 1⟩]) (
 zO P L 56 k (.panic DA) (fo56 (.slice none 0 0)) (W.mk [] u DB DC))) fun DD BV BA =>
 gt (Nat.ble AZ BA) (
 zN P 23 4 [(0, (.string (ByteArray.mk #[98, 114]))), (1, C6), (2, C8), (3, DD)] BV BA fun DE DF DG =>
 gt (lks [(W.mk [] u BV BA), (W.mk [] u Ao AZ), (W.mk [] u An AX), (W.mk [] u AB AD)] [⟨true, (lkQ (fun A8 => zF P 3 A8 Aa) Aa (.int .i64 A7)), 0, 2⟩, ⟨true, (lkQ (fun A9 => zF P 3 A9 AY) AY (.int .i64 A6)), 0, 1⟩]) (
 zO P L 56 k .ret (fo56 DG) (W.mk [] u DE DF)))))) (
 fb (xZ AF 8) fun BB =>
 br BB (
 opt (zB P 50 7 v3) fun DH =>
 opt (zF P 3 AB DH) fun DI =>
 rtI .i64 DI fun DJ =>
 vC L (.func (.func 81) #[] #[]) [(.int .i64 DJ)] AB AD (kp L 56 k (fo56 (.slice none 0 0)) [] u) fun DN DO DP =>
 zN P 23 2 [(0, (.string (ByteArray.mk #[106, 117, 109, 112]))), (1, DN)] DO DP fun DQ DR DS =>
 zO P L 56 k .ret (fo56 DS) (W.mk [] u DQ DR)) (
 C2 (gf102 p0 v3 (.slice none 0 0) (.func (.func 81) #[] #[]) AG (.func (.func 81) #[] #[]) v4 (vi a6) a7 AG Af (vi AF) (vb AJ) (vb AJ) ud ud ud ud ud ud ud (vb AK) (vb AK) ud ud ud ud ud ud ud (vb AL) (vb AL) ud ud ud ud ud ud ud ud ud (vb AM) (vb AM) ud ud ud ud ud ud ud (vb AN) (vb AN) ud ud ud ud ud ud ud ud ud (vb AO) (vb AO) ud ud ud ud ud ud ud ud ud ud ud ud (vb A5) (vb A5) ud ud ud ud ud ud ud ud ud ud ud ud ud (vb BB) (vb BB) ud ud ud ud ud ud ud ud ud ud) (W.mk [] u AB AD)))) (fun BC DT =>
 zL (zA BC 1) fun DU =>
 zL (zA BC 3) fun DV =>
 onW DT fun DW DX DY DZ =>
 Ct (fj56_1 BC DU DV) (W.mk DW DX DY DZ))) (fun BD Da =>
 zL (zA BD 1) fun Db =>
 zL (zA BD 3) fun Dc =>
 onW Da fun Dd De Df Dg =>
 Cg (fj56_1 BD Db Dc) (W.mk Dd De Df Dg))) (fun BE Dh =>
 zL (zA BE 1) fun Di =>
 zL (zA BE 3) fun Dj =>
 onW Dh fun Dk Dl Dm Dn =>
 CQ (fj56_1 BE Di Dj) (W.mk Dk Dl Dm Dn))) (fun BF Do =>
 zL (zA BF 1) fun Dp =>
 zL (zA BF 3) fun Dq =>
 onW Do fun Dr Ds Dt Du =>
 CF (fj56_1 BF Dp Dq) (W.mk Dr Ds Dt Du))) (fun BG Dv =>
 zL (zA BG 1) fun Dw =>
 zL (zA BG 3) fun Dx =>
 onW Dv fun Dy Dz D0 D1 =>
 Bz (fj56_1 BG Dw Dx) (W.mk Dy Dz D0 D1))) (fun BH D2 =>
 zL (zA BH 1) fun D3 =>
 zL (zA BH 3) fun D4 =>
 onW D2 fun D5 D6 D7 D8 =>
 Bj (fj56_1 BH D3 D4) (W.mk D5 D6 D7 D8))) (fun AA D9 =>
 zL (zA AA 1) fun BI =>
 zL (zA AA 3) fun Ab =>
 onW D9 fun BW BX BY EA =>
 opt (zB P 50 2 BI) fun BJ =>
 opt (zF P 3 BY BJ) fun EB =>
 rtI .i64 EB fun BK =>
 vC L Ab [(.int .i64 BK)] BY EA (kp L 56 k (fj56_0 AA BI (zA AA 2) Ab (zA AA 4) (zA AA 66) (zA AA 67) (zA AA 68) (zA AA 69) (zA AA 70) (zA AA 71) (zA AA 72) (zA AA 73) (zA AA 74) Ab BJ (vi BK) (zA AA 100) (zA AA 101)) BW BX) fun BZ EF EG =>
 zN P 23 2 [(0, (.string (ByteArray.mk #[114, 101, 116]))), (1, BZ)] EF EG fun EH EI Ba =>
 zO P L 56 k .ret (fj56_0 AA BI Ba Ab (zA AA 4) (zA AA 66) (zA AA 67) (zA AA 68) (zA AA 69) (zA AA 70) (zA AA 71) (zA AA 72) (zA AA 73) (zA AA 74) Ab BJ (vi BK) BZ Ba) (W.mk BW BX EH EI))
theorem F56_eq : EY1 56 hint56 F56 := fun _ _ _ _ _ _ _ _ => by kernel_rfl
theorem l56 : xD P 56 = true := by kernel_rfl
theorem r56 : wF P 56 = some [.tmp 2] := by kernel_rfl
noncomputable abbrev fo19 (s2 : Value) : Fr := gf62 ud ud s2 ud ud ud ud ud ud ud ud ud ud ud ud ud ud ud ud ud ud ud ud ud ud ud ud ud ud ud ud ud ud ud ud ud ud ud ud ud ud ud ud ud ud ud ud ud ud ud ud ud ud ud ud ud ud ud ud ud ud ud
noncomputable abbrev fj19_0 (t : Fr) (s3 s4 s6 s8 s37 s38 s39 s40 s41 s42 s43 s44 s45 s46 s47 s48 s49 s50 s51 s52 s53 s54 s55 s56 : Value) : Fr := gf62 (zA t 0) (zA t 1) (zA t 2) s3 s4 (zA t 5) s6 (zA t 7) s8 (zA t 9) (zA t 10) (zA t 11) (zA t 12) (zA t 13) (zA t 14) (zA t 15) (zA t 16) (zA t 17) (zA t 18) (zA t 19) (zA t 20) (zA t 21) (zA t 22) (zA t 23) (zA t 24) (zA t 25) (zA t 26) (zA t 27) (zA t 28) (zA t 29) (zA t 30) (zA t 31) (zA t 32) (zA t 33) (zA t 34) (zA t 35) (zA t 36) s37 s38 s39 s40 s41 s42 s43 s44 s45 s46 s47 s48 s49 s50 s51 s52 s53 s54 s55 s56 (zA t 57) (zA t 58) (zA t 59) (zA t 60) (zA t 61)
noncomputable abbrev fj19_1 (t : Fr) (s2 s3 s4 s37 s38 s39 s40 s57 s58 s59 s60 s61 : Value) : Fr := gf62 (zA t 0) (zA t 1) s2 s3 s4 (zA t 5) (zA t 6) (zA t 7) (zA t 8) (zA t 9) (zA t 10) (zA t 11) (zA t 12) (zA t 13) (zA t 14) (zA t 15) (zA t 16) (zA t 17) (zA t 18) (zA t 19) (zA t 20) (zA t 21) (zA t 22) (zA t 23) (zA t 24) (zA t 25) (zA t 26) (zA t 27) (zA t 28) (zA t 29) (zA t 30) (zA t 31) (zA t 32) (zA t 33) (zA t 34) (zA t 35) (zA t 36) s37 s38 s39 s40 (zA t 41) (zA t 42) (zA t 43) (zA t 44) (zA t 45) (zA t 46) (zA t 47) (zA t 48) (zA t 49) (zA t 50) (zA t 51) (zA t 52) (zA t 53) (zA t 54) (zA t 55) (zA t 56) s57 s58 s59 s60 s61
noncomputable abbrev hint19 : pD := hq [(0, 1000010, [.any, .any, .any, .val, .val, .any, .any, .any, .any, .any, .any, .any, .any, .any, .any, .any, .any, .any, .any, .any, .any, .any, .any, .any, .any, .any, .any, .any, .any, .any, .any, .any, .any, .any, .any, .any, .any, .val, (.int .i64), (.int .i64)]), (0, 1000014, [.any, .any, .any, .val, .val, .any, .any, .any, .any, .any, .any, .any, .any, .any, .any, .any, .any, .any, .any, .any, .any, .any, .any, .any, .any, .any, .any, .any, .any, .any, .any, .any, .any, .any, .any, .any, .any, .val, (.int .i64), (.int .i64), .any, .any, .any, .any, .any, .any, .val, (.int .i64), (.int .i64)]), (1, 0, [.any, .any, .any, .val, .val]), (1, 1, [.any, .any, .any, .val, .val, .any, .any, .any, .any, .any, .any, .any, .any, .any, .any, .any, .any, .any, .any, .any, .any, .any, .any, .any, .any, .any, .any, .any, .any, .any, .any, .any, .any, .any, .any, .any, .any, .val, (.int .i64), (.int .i64)]), (1, 2, [.any, .any, .any, .val, .val, .any, .any, .any, .any, .any, .any, .any, .any, .any, .any, .any, .any, .any, .any, .any, .any, .any, .any, .any, .any, .any, .any, .any, .any, .any, .any, .any, .any, .any, .any, .any, .any, .val, (.int .i64), (.int .i64)]), (1, 3, [.any, .any, .any, .val, .val, .any, .any, .any, .any, .any, .any, .any, .any, .any, .any, .any, .any, .any, .any, .any, .any, .any, .any, .any, .any, .any, .any, .any, .any, .any, .any, .any, .any, .any, .any, .any, .any, .val, (.int .i64), (.int .i64), .any, .any, .any, .any, .any, .any, .val, (.int .i64), (.int .i64)]), (2, 0, [.any, .any, .any, .val, .val, .any, .any, .any, .any, .any, .any, .any, .any, .any, .any, .any, .any, .any, .any, .any, .any, .any, .any, .any, .any, .any, .any, .any, .any, .any, .any, .any, .any, .any, .any, .any, .any, .val, (.int .i64), (.int .i64)]), (2, 2, [.any, .val])]
noncomputable def F19 : TY1 := fun L lp p0 df u h n k =>
 eBox p0 h n fun h1 n2 v3 =>
 opt (zF P 43 h1 v3) fun v4 =>
 sO L 20 [v4] h1 n2 (fun c8 h9 Aq =>
 zO P L 19 k (.panic c8) (fo19 (.string (ByteArray.mk #[]))) (W.mk [] u h9 Aq)) fun a5 h6 n7 =>
 opt (aUn .not (.bool a5)) fun Ar =>
 rtB Ar fun AO =>
 br AO (
 zO P L 19 k .ret (fo19 (.string (ByteArray.mk #[]))) (W.mk [] u h6 n7)) (
 tH P 97 h6 n7 fun AP As AQ =>
 letV (.func (.func 52) (Array.mk []) (Array.mk [AQ])) fun AB =>
 opt (zB P 43 0 v3) fun AR =>
 opt (zF P 9 AP AR) fun AS =>
 zN P 23 2 [(0, (.string (ByteArray.mk #[102, 117, 110, 99]))), (1, AS)] AP As fun At Au AT =>
 vC L AB [(.string (ByteArray.mk #[])), AT] At Au (fun Av Aw Ax =>
 zO P L 19 k (.panic Av) (fo19 (.string (ByteArray.mk #[]))) (W.mk [] u Aw Ax)) fun Ay Az A0 =>
 zN P 23 1 [(0, (.string (ByteArray.mk #[114, 101, 103, 115])))] Az A0 fun AU A1 AV =>
 opt (zB P 43 1 v3) fun AW =>
 opt (zF P 23 AU AW) fun AX =>
 xV P [23, 23] [AV, AX] AU A1 fun A2 A3 AY =>
 vC L AB [(.string (ByteArray.mk #[])), AY] A2 A3 (fun A4 A5 A6 =>
 zO P L 19 k (.panic A4) (fo19 (.string (ByteArray.mk #[]))) (W.mk [] u A5 A6)) fun A7 A8 A9 =>
 zN P 23 1 [(0, (.string (ByteArray.mk #[112, 97, 114, 97, 109, 115])))] A8 A9 fun AZ BA Aa =>
 opt (zB P 43 2 v3) fun Ab =>
 opt (zF P 40 AZ Ab) fun Ac =>
 yY L 55 [Ac] AZ BA (fun BB BC BD =>
 zO P L 19 k (.panic BB) (fo19 (.string (ByteArray.mk #[]))) (W.mk [] u BC BD)) fun Ad BE BF =>
 xV P [23, 23] [Aa, Ad] BE BF fun BG BH Ae =>
 vC L AB [(.string (ByteArray.mk #[])), Ae] BG BH (fun BI BJ BK =>
 zO P L 19 k (.panic BI) (fo19 (.string (ByteArray.mk #[]))) (W.mk [] u BJ BK)) fun BL Af BM =>
 opt (zB P 43 3 v3) fun Ag =>
 opt (zF P 9 Af Ag) fun Ah =>
 zN P 23 2 [(0, (.string (ByteArray.mk #[114, 101, 115, 117, 108, 116]))), (1, Ah)] Af BM fun BN BO Ai =>
 vC L AB [(.string (ByteArray.mk #[])), Ai] BN BO (fun BP BQ BR =>
 zO P L 19 k (.panic BP) (fo19 (.string (ByteArray.mk #[]))) (W.mk [] u BQ BR)) fun BS AG BT =>
 opt (zB P 43 4 v3) fun Aj =>
 opt (zF P 41 AG Aj) fun Ak =>
 opt (yG P .len [41] [Ak] AG) fun BU =>
 rtI .i64 BU fun BV =>
 lp 1000010 ⟨19, none, df⟩ (gf62 p0 v3 (.string (ByteArray.mk #[])) AQ AB ud ud ud ud v4 (vb a5) (vb AO) AB AB AR AS AT Ay AB AV AW AX AY A7 AB Aa Ab Ac Ad Ae BL AB Ag Ah Ai BS Aj Ak (vi BV) (vi 0) ud ud ud ud ud ud ud ud ud ud ud ud ud ud ud ud ud ud ud ud ud ud) (W.mk [] u AG BT) (endA noK (blkA 0 (fun AA BW =>
 zL (zA AA 3) fun AE =>
 zL (zA AA 4) fun AD =>
 onW BW fun AH AI BX BY =>
 zN P 23 1 [(0, (.string (ByteArray.mk #[101, 110, 100])))] BX BY fun BZ Ba AF =>
 vC L AD [(.string (ByteArray.mk #[])), AF] BZ Ba (kp L 19 k (fj19_1 AA (zA AA 2) AE AD (zA AA 37) (zA AA 38) (zA AA 39) (zA AA 40) (zA AA 57) AD AF (zA AA 60) (zA AA 61)) AH AI) fun Al Be Bf =>
 yY L 57 [AE] Be Bf (kp L 19 k (fj19_1 AA (zA AA 2) AE AD (zA AA 37) (zA AA 38) (zA AA 39) (zA AA 40) (zA AA 57) AD AF Al (zA AA 61)) AH AI) fun Am Bj Bk =>
 zO P L 19 k .ret (fj19_1 AA Am AE AD (zA AA 37) (zA AA 38) (zA AA 39) (zA AA 40) (zA AA 57) AD AF Al Am) (W.mk AH AI Bj Bk)) (zO P L 19 k))))
theorem F19_eq : EY1 19 hint19 F19 := fun _ _ _ _ _ _ _ _ => by kernel_rfl
noncomputable def B19_1000010 : TYB := fun L lp rd df t w ka =>
 zL (zA t 3) fun AI =>
 zL (zA t 4) fun AC =>
 zL (zA t 37) fun AF =>
 rtI .i64 (zA t 38) fun AG =>
 rtI .i64 (zA t 39) fun AE =>
 onW w fun AJ AK AL AO =>
 fb (wO AE AG) fun AH =>
 br AH (
 blkJ (fun AP =>
 opt (zU P 41 AF (.int .i64 AE)) fun AM =>
 opt (zF P 51 AL AM) fun AD =>
 zN P 23 1 [(0, (.string (ByteArray.mk #[98, 108, 111, 99, 107])))] AL AO fun AS AT AN =>
 vC L AC [(.string (ByteArray.mk #[])), AN] AS AT (kb ka (fj19_0 t AI AC AD (zA t 8) AF (vi AG) (vi AE) (vb AH) AM AD AC AN (zA t 45) (zA t 46) (zA t 47) (zA t 48) (zA t 49) (zA t 50) (zA t 51) (zA t 52) (zA t 53) (zA t 54) (zA t 55) (zA t 56)) AJ AK) fun AX AQ AY =>
 opt (yG P .len [51] [AD] AQ) fun AZ =>
 rtI .i64 AZ fun Aa =>
 lp 1000014 ⟨19, rd, df⟩ (fj19_0 t AI AC AD (zA t 8) AF (vi AG) (vi AE) (vb AH) AM AD AC AN AX AD (vi Aa) (vi 0) (zA t 49) (zA t 50) (zA t 51) (zA t 52) (zA t 53) (zA t 54) (zA t 55) (zA t 56)) (W.mk AJ AK AQ AY) (endA noK (blkA 2 (fun AA Ab =>
 zL (zA AA 3) fun Ac =>
 zL (zA AA 4) fun Ad =>
 zL (zA AA 37) fun Ae =>
 rtI .i64 (zA AA 38) fun Af =>
 rtI .i64 (zA AA 39) fun Ag =>
 onW Ab fun Ah Ai Aj Ak =>
 AP (fj19_1 AA (zA AA 2) Ac Ad Ae (vi Af) (vi Ag) (zA AA 40) (zA AA 57) (zA AA 58) (zA AA 59) (zA AA 60) (zA AA 61)) (W.mk Ah Ai Aj Ak)) (blkA 1 AP ka)))) (fun AB Al =>
 zL (zA AB 3) fun Am =>
 zL (zA AB 4) fun An =>
 zL (zA AB 37) fun Ao =>
 rtI .i64 (zA AB 38) fun Ap =>
 rtI .i64 (zA AB 39) fun Aq =>
 onW Al fun Ar As At Au =>
 fi (wW .i64 (pC Aq 1)) fun AR =>
 lp 1000010 ⟨19, rd, df⟩ (fj19_1 AB (zA AB 2) Am An Ao (vi Ap) (vi AR) (zA AB 40) (vi AR) (zA AB 58) (zA AB 59) (zA AB 60) (zA AB 61)) (W.mk Ar As At Au) ka)) (
 ka (.exit 0) (fj19_1 t (zA t 2) AI AC AF (vi AG) (vi AE) (vb AH) (zA t 57) (zA t 58) (zA t 59) (zA t 60) (zA t 61)) (W.mk AJ AK AL AO))
theorem B19_1000010_eq : EYB 19 1000010 hint19 B19_1000010 := fun _ _ _ _ _ _ _ => by kernel_rfl
noncomputable def B19_1000014 : TYB := fun L lp rd df t w ka =>
 zL (zA t 3) fun AH =>
 zL (zA t 4) fun AB =>
 zL (zA t 37) fun AI =>
 rtI .i64 (zA t 38) fun AJ =>
 rtI .i64 (zA t 39) fun AK =>
 zL (zA t 46) fun AD =>
 rtI .i64 (zA t 47) fun AE =>
 rtI .i64 (zA t 48) fun AC =>
 onW w fun AL AM AQ AS =>
 fb (wO AC AE) fun AF =>
 br AF (
 blkJ (fun AV =>
 opt (zU P 51 AD (.int .i64 AC)) fun AN =>
 opt (zF P 50 AQ AN) fun AO =>
 tH P 50 AQ AS fun AW AX AG =>
 zW P 50 AG AO AW AX fun AT AY Ax =>
 opt (zF P 50 AT AG) fun AP =>
 yY L 56 [AP] AT AY (kb ka (fj19_0 t AH AB (zA t 6) AG AI (vi AJ) (vi AK) (zA t 40) (zA t 41) (zA t 42) (zA t 43) (zA t 44) (zA t 45) AD (vi AE) (vi AC) (vb AF) AN AO AB AP (zA t 54) (zA t 55) (zA t 56)) AL AM) fun AR Ac Ad =>
 vC L AB [(.string (ByteArray.mk #[32, 32])), AR] Ac Ad (kb ka (fj19_0 t AH AB (zA t 6) AG AI (vi AJ) (vi AK) (zA t 40) (zA t 41) (zA t 42) (zA t 43) (zA t 44) (zA t 45) AD (vi AE) (vi AC) (vb AF) AN AO AB AP AR (zA t 55) (zA t 56)) AL AM) fun Ah Ai Aj =>
 AV (fj19_0 t AH AB (zA t 6) AG AI (vi AJ) (vi AK) (zA t 40) (zA t 41) (zA t 42) (zA t 43) (zA t 44) (zA t 45) AD (vi AE) (vi AC) (vb AF) AN AO AB AP AR Ah (zA t 56)) (W.mk AL AM Ai Aj)) (fun AA Ak =>
 zL (zA AA 3) fun Al =>
 zL (zA AA 4) fun Am =>
 zL (zA AA 37) fun An =>
 rtI .i64 (zA AA 38) fun Ao =>
 rtI .i64 (zA AA 39) fun Ap =>
 zL (zA AA 46) fun Aq =>
 rtI .i64 (zA AA 47) fun Ar =>
 rtI .i64 (zA AA 48) fun As =>
 onW Ak fun At Au Av Aw =>
 fi (wW .i64 (pC As 1)) fun AU =>
 lp 1000014 ⟨19, rd, df⟩ (fj19_0 AA Al Am (zA AA 6) (zA AA 8) An (vi Ao) (vi Ap) (zA AA 40) (zA AA 41) (zA AA 42) (zA AA 43) (zA AA 44) (zA AA 45) Aq (vi Ar) (vi AU) (zA AA 49) (zA AA 50) (zA AA 51) (zA AA 52) (zA AA 53) (zA AA 54) (zA AA 55) (vi AU)) (W.mk At Au Av Aw) ka)) (
 ka (.exit 2) (fj19_0 t AH AB (zA t 6) (zA t 8) AI (vi AJ) (vi AK) (zA t 40) (zA t 41) (zA t 42) (zA t 43) (zA t 44) (zA t 45) AD (vi AE) (vi AC) (vb AF) (zA t 50) (zA t 51) (zA t 52) (zA t 53) (zA t 54) (zA t 55) (zA t 56)) (W.mk AL AM AQ AS))
theorem B19_1000014_eq : EYB 19 1000014 hint19 B19_1000014 := fun _ _ _ _ _ _ _ => by kernel_rfl
theorem l19 : xD P 19 = true := by kernel_rfl
theorem r19 : wF P 19 = some [.tmp 2] := by kernel_rfl
theorem lp19_1000010 : uM (xC P 19 1000010) = true := by kernel_rfl
theorem lp19_1000014 : uM (xC P 19 1000014) = true := by kernel_rfl
noncomputable abbrev fo70 (s4 : Value) : Fr := gf26 ud ud ud ud s4 ud ud ud ud ud ud ud ud ud ud ud ud ud ud ud ud ud ud ud ud ud
noncomputable abbrev fj70_0 (t : Fr) (s0 s1 s4 s5 s11 s12 s13 s14 s15 s16 : Value) : Fr := gf26 s0 s1 (zA t 2) (zA t 3) s4 s5 (zA t 6) (zA t 7) (zA t 8) (zA t 9) (zA t 10) s11 s12 s13 s14 s15 s16 (zA t 17) (zA t 18) (zA t 19) (zA t 20) (zA t 21) (zA t 22) (zA t 23) (zA t 24) (zA t 25)
noncomputable abbrev hint70 : pD := hq [(0, 1000004, [.val, .val, .any, .any, .any, (.int .i64)]), (1, 1, [.val, .val, .any, .any, .any, (.int .i64)]), (2, 0, [.val, .val, .any, .any, .any, (.int .i64)]), (2, 2, [.val, .val]), (2, 7, [.val, .val, .any, .any, .any, (.int .i64)])]
noncomputable def F70 : TY2 := fun L lp p0 p1 df u h n k =>
 opt (yG P .len [40] [p0] h) fun v1 =>
 rtI .i64 v1 fun a2 =>
 opt (yG P .len [40] [p1] h) fun v3 =>
 rtI .i64 v3 fun a4 =>
 fb (ineB a2 a4) fun a5 =>
 br a5 (
 zO P L 70 k .ret (fo70 (.bool false)) (W.mk [] u h n)) (
 lp 1000004 ⟨70, none, df⟩ (gf26 p0 p1 ud ud (vb false) (vi 0) p0 (vi a2) p1 (vi a4) (vb a5) ud ud ud ud ud ud ud ud ud ud ud ud ud ud ud) (W.mk [] u h n) (endA noK (blkA 0 (fun t6 w7 =>
 onW w7 fun d8 u9 AJ AK =>
 zO P L 70 k .ret (fj70_0 t6 (zA t6 0) (zA t6 1) (vb true) (zA t6 5) (zA t6 11) (zA t6 12) (zA t6 13) (zA t6 14) (zA t6 15) (zA t6 16)) (W.mk d8 u9 AJ AK)) (zO P L 70 k))))
theorem F70_eq : EY2 70 hint70 F70 := fun _ _ _ _ _ _ _ _ _ => by kernel_rfl
noncomputable def B70_1000004 : TYB := fun L lp rd df t w ka =>
 zL (zA t 0) fun AB =>
 zL (zA t 1) fun AE =>
 rtI .i64 (zA t 5) fun AA =>
 onW w fun AF AG AD AH =>
 opt (yG P .len [40] [AB] AD) fun AR =>
 rtI .i64 AR fun AI =>
 fb (wO AA AI) fun AJ =>
 br AJ (
 blkJ (fun AS =>
 opt (zU P 40 AB (.int .i64 AA)) fun AK =>
 opt (zF P 3 AD AK) fun AT =>
 rtI .i64 AT fun AL =>
 opt (zU P 40 AE (.int .i64 AA)) fun AM =>
 opt (zF P 3 AD AM) fun AU =>
 rtI .i64 AU fun AN =>
 fb (ineB AL AN) fun AO =>
 gt (lks [(W.mk AF AG AD AH)] []) (
 br AO (
 ka .ret (gf26 AB AE (zA t 2) (zA t 3) (vb false) (vi AA) (zA t 6) (zA t 7) (zA t 8) (zA t 9) (zA t 10) (vi AA) AB (vi AI) (vb AJ) (zA t 15) (zA t 16) AB (vi AA) AK (vi AL) AE (vi AA) AM (vi AN) (vb AO)) (W.mk AF AG AD AH)) (
 AS (gf26 AB AE (zA t 2) (zA t 3) (zA t 4) (vi AA) (zA t 6) (zA t 7) (zA t 8) (zA t 9) (zA t 10) (vi AA) AB (vi AI) (vb AJ) (zA t 15) (zA t 16) AB (vi AA) AK (vi AL) AE (vi AA) AM (vi AN) (vb AO)) (W.mk AF AG AD AH)))) (fun AC AV =>
 zL (zA AC 0) fun AW =>
 zL (zA AC 1) fun AX =>
 rtI .i64 (zA AC 5) fun AP =>
 onW AV fun AY AZ Aa Ab =>
 fi (wW .i64 (pC AP 1)) fun AQ =>
 lp 1000004 ⟨70, rd, df⟩ (fj70_0 AC AW AX (zA AC 4) (vi AQ) (zA AC 11) (zA AC 12) (zA AC 13) (zA AC 14) (vi AP) (vi AQ)) (W.mk AY AZ Aa Ab) ka)) (
 ka (.exit 0) (fj70_0 t AB AE (zA t 4) (vi AA) (vi AA) AB (vi AI) (vb AJ) (zA t 15) (zA t 16)) (W.mk AF AG AD AH))
theorem B70_1000004_eq : EYB 70 1000004 hint70 B70_1000004 := fun _ _ _ _ _ _ _ => by kernel_rfl
theorem l70 : xD P 70 = true := by kernel_rfl
theorem r70 : wF P 70 = some [.tmp 4] := by kernel_rfl
theorem lp70_1000004 : uM (xC P 70 1000004) = true := by kernel_rfl
noncomputable abbrev fo71 (s4 : Value) : Fr := gf56 ud ud ud ud s4 ud ud ud ud ud ud ud ud ud ud ud ud ud ud ud ud ud ud ud ud ud ud ud ud ud ud ud ud ud ud ud ud ud ud ud ud ud ud ud ud ud ud ud ud ud ud ud ud ud ud ud
noncomputable abbrev fj71_0 (t : Fr) (s0 s1 s5 s6 s17 s18 s30 s31 s32 s33 s34 s35 s36 s39 s40 s41 s42 s43 s44 s45 s46 s47 s48 s49 s50 s51 s52 : Value) : Fr := gf56 s0 s1 (zA t 2) (zA t 3) (zA t 4) s5 s6 (zA t 7) (zA t 8) (zA t 9) (zA t 10) (zA t 11) (zA t 12) (zA t 13) (zA t 14) (zA t 15) (zA t 16) s17 s18 (zA t 19) (zA t 20) (zA t 21) (zA t 22) (zA t 23) (zA t 24) (zA t 25) (zA t 26) (zA t 27) (zA t 28) (zA t 29) s30 s31 s32 s33 s34 s35 s36 (zA t 37) (zA t 38) s39 s40 s41 s42 s43 s44 s45 s46 s47 s48 s49 s50 s51 s52 (zA t 53) (zA t 54) (zA t 55)
noncomputable abbrev fj71_1 (t : Fr) (s0 s1 s4 s5 s6 s13 s14 s15 s16 s19 s20 s21 s22 s23 s24 s25 s26 s27 s28 s29 s37 s38 : Value) : Fr := gf56 s0 s1 (zA t 2) (zA t 3) s4 s5 s6 (zA t 7) (zA t 8) (zA t 9) (zA t 10) (zA t 11) (zA t 12) s13 s14 s15 s16 (zA t 17) (zA t 18) s19 s20 s21 s22 s23 s24 s25 s26 s27 s28 s29 (zA t 30) (zA t 31) (zA t 32) (zA t 33) (zA t 34) (zA t 35) (zA t 36) s37 s38 (zA t 39) (zA t 40) (zA t 41) (zA t 42) (zA t 43) (zA t 44) (zA t 45) (zA t 46) (zA t 47) (zA t 48) (zA t 49) (zA t 50) (zA t 51) (zA t 52) (zA t 53) (zA t 54) (zA t 55)
noncomputable abbrev hint71 : pD := hq [(0, 1000004, [.val, .val, .any, .any, .any, (.int .i64)]), (0, 1000009, [.val, .val, .any, .any, .any, (.int .i64), (.int .i64)]), (1, 1, [.val, .val, .any, .any, .any, (.int .i64)]), (1, 2, [.val, .val, .any, .any, .any, (.int .i64)]), (1, 3, [.val, .val, .any, .any, .any, (.int .i64), (.int .i64)]), (2, 0, [.val, .val, .any, .any, .any, (.int .i64)]), (2, 2, [.val, .val]), (2, 7, [.val, .val, .any, .any, .any, (.int .i64)]), (2, 13, [.val, .val, .any, .any, .any, (.int .i64), (.int .i64)])]
noncomputable def F71 : TY2 := fun L lp p0 p1 df u h n k =>
 opt (yG P .len [41] [p0] h) fun v1 =>
 rtI .i64 v1 fun a2 =>
 opt (yG P .len [41] [p1] h) fun v3 =>
 rtI .i64 v3 fun a4 =>
 fb (ineB a2 a4) fun a5 =>
 br a5 (
 zO P L 71 k .ret (fo71 (.bool false)) (W.mk [] u h n)) (
 lp 1000004 ⟨71, none, df⟩ (gf56 p0 p1 ud ud (vb false) (vi 0) ud ud p0 (vi a2) p1 (vi a4) (vb a5) ud ud ud ud ud ud ud ud ud ud ud ud ud ud ud ud ud ud ud ud ud ud ud ud ud ud ud ud ud ud ud ud ud ud ud ud ud ud ud ud ud ud ud) (W.mk [] u h n) (endA noK (blkA 0 (fun t6 w7 =>
 onW w7 fun d8 u9 AJ AK =>
 zO P L 71 k .ret (fj71_1 t6 (zA t6 0) (zA t6 1) (vb true) (zA t6 5) (zA t6 6) (zA t6 13) (zA t6 14) (zA t6 15) (zA t6 16) (zA t6 19) (zA t6 20) (zA t6 21) (zA t6 22) (zA t6 23) (zA t6 24) (zA t6 25) (zA t6 26) (zA t6 27) (zA t6 28) (zA t6 29) (zA t6 37) (zA t6 38)) (W.mk d8 u9 AJ AK)) (zO P L 71 k))))
theorem F71_eq : EY2 71 hint71 F71 := fun _ _ _ _ _ _ _ _ _ => by kernel_rfl
noncomputable def B71_1000004 : TYB := fun L lp rd df t w ka =>
 zL (zA t 0) fun AD =>
 zL (zA t 1) fun AF =>
 rtI .i64 (zA t 5) fun AC =>
 onW w fun AG AH AE AI =>
 opt (yG P .len [41] [AD] AE) fun AV =>
 rtI .i64 AV fun AJ =>
 fb (wO AC AJ) fun AK =>
 br AK (
 blkJ (fun AS =>
 opt (zU P 41 AD (.int .i64 AC)) fun AL =>
 opt (zF P 51 AE AL) fun AM =>
 opt (yG P .len [51] [AM] AE) fun AW =>
 rtI .i64 AW fun AN =>
 opt (zU P 41 AF (.int .i64 AC)) fun AO =>
 opt (zF P 51 AE AO) fun AP =>
 opt (yG P .len [51] [AP] AE) fun AX =>
 rtI .i64 AX fun AQ =>
 fb (ineB AN AQ) fun AR =>
 gt (lks [(W.mk AG AH AE AI)] []) (
 br AR (
 ka .ret (fj71_1 t AD AF (vb false) (vi AC) (zA t 6) (vi AC) AD (vi AJ) (vb AK) AD (vi AC) AL AM (vi AN) AF (vi AC) AO AP (vi AQ) (vb AR) (zA t 37) (zA t 38)) (W.mk AG AH AE AI)) (
 lp 1000009 ⟨71, rd, df⟩ (fj71_1 t AD AF (zA t 4) (vi AC) (vi 0) (vi AC) AD (vi AJ) (vb AK) AD (vi AC) AL AM (vi AN) AF (vi AC) AO AP (vi AQ) (vb AR) (zA t 37) (zA t 38)) (W.mk AG AH AE AI) (endA noK (blkA 2 (fun AB AY =>
 zL (zA AB 0) fun AZ =>
 zL (zA AB 1) fun Aa =>
 rtI .i64 (zA AB 5) fun Ab =>
 onW AY fun Ac Ad Ae Af =>
 AS (fj71_1 AB AZ Aa (zA AB 4) (vi Ab) (zA AB 6) (zA AB 13) (zA AB 14) (zA AB 15) (zA AB 16) (zA AB 19) (zA AB 20) (zA AB 21) (zA AB 22) (zA AB 23) (zA AB 24) (zA AB 25) (zA AB 26) (zA AB 27) (zA AB 28) (zA AB 29) (zA AB 37) (zA AB 38)) (W.mk Ac Ad Ae Af)) (blkA 1 AS ka)))))) (fun AA Ag =>
 zL (zA AA 0) fun Ah =>
 zL (zA AA 1) fun Ai =>
 rtI .i64 (zA AA 5) fun AT =>
 onW Ag fun Aj Ak Al Am =>
 fi (wW .i64 (pC AT 1)) fun AU =>
 lp 1000004 ⟨71, rd, df⟩ (fj71_0 AA Ah Ai (vi AU) (zA AA 6) (vi AT) (vi AU) (zA AA 30) (zA AA 31) (zA AA 32) (zA AA 33) (zA AA 34) (zA AA 35) (zA AA 36) (zA AA 39) (zA AA 40) (zA AA 41) (zA AA 42) (zA AA 43) (zA AA 44) (zA AA 45) (zA AA 46) (zA AA 47) (zA AA 48) (zA AA 49) (zA AA 50) (zA AA 51) (zA AA 52)) (W.mk Aj Ak Al Am) ka)) (
 ka (.exit 0) (fj71_1 t AD AF (zA t 4) (vi AC) (zA t 6) (vi AC) AD (vi AJ) (vb AK) (zA t 19) (zA t 20) (zA t 21) (zA t 22) (zA t 23) (zA t 24) (zA t 25) (zA t 26) (zA t 27) (zA t 28) (zA t 29) (zA t 37) (zA t 38)) (W.mk AG AH AE AI))
theorem B71_1000004_eq : EYB 71 1000004 hint71 B71_1000004 := fun _ _ _ _ _ _ _ => by kernel_rfl
noncomputable def B71_1000009 : TYB := fun L lp rd df t w ka =>
 zL (zA t 0) fun AD =>
 zL (zA t 1) fun AF =>
 rtI .i64 (zA t 5) fun AB =>
 rtI .i64 (zA t 6) fun AC =>
 onW w fun AG AH AE AJ =>
 opt (zU P 41 AD (.int .i64 AB)) fun AK =>
 opt (zF P 51 AE AK) fun AL =>
 opt (yG P .len [51] [AL] AE) fun Ab =>
 rtI .i64 Ab fun AM =>
 fb (wO AC AM) fun AN =>
 br AN (
 blkJ (fun Ac =>
 opt (zU P 41 AD (.int .i64 AB)) fun AO =>
 opt (zF P 51 AE AO) fun AP =>
 opt (zU P 51 AP (.int .i64 AC)) fun AQ =>
 opt (zF P 50 AE AQ) fun AR =>
 opt (zU P 41 AF (.int .i64 AB)) fun AS =>
 opt (zF P 51 AE AS) fun AT =>
 opt (zU P 51 AT (.int .i64 AC)) fun AU =>
 opt (zF P 50 AE AU) fun AV =>
 sO L 105 [AR, AV] AE AJ (fun Ad Ae Af =>
 gt (lks [(W.mk AG AH AE AJ)] []) (
 ka (.panic Ad) (fj71_0 t AD AF (vi AB) (vi AC) (zA t 17) (zA t 18) (vi AC) AD (vi AB) AK AL (vi AM) (vb AN) AD (vi AB) AO AP (vi AC) AQ AR AF (vi AB) AS AT (vi AC) AU AV) (W.mk AG AH Ae Af))) fun AI AX AW =>
 gt (Nat.ble AJ AW) (
 gt (lks [(W.mk AG AH AX AW), (W.mk AG AH AE AJ)] []) (
 opt (aUn .not (.bool AI)) fun Ag =>
 rtB Ag fun AY =>
 br AY (
 ka .ret (gf56 AD AF (zA t 2) (zA t 3) (vb false) (vi AB) (vi AC) (vb AI) (zA t 8) (zA t 9) (zA t 10) (zA t 11) (zA t 12) (zA t 13) (zA t 14) (zA t 15) (zA t 16) (zA t 17) (zA t 18) (zA t 19) (zA t 20) (zA t 21) (zA t 22) (zA t 23) (zA t 24) (zA t 25) (zA t 26) (zA t 27) (zA t 28) (zA t 29) (vi AC) AD (vi AB) AK AL (vi AM) (vb AN) (zA t 37) (zA t 38) AD (vi AB) AO AP (vi AC) AQ AR AF (vi AB) AS AT (vi AC) AU AV (vb AI) (vb AI) (vb AY)) (W.mk AG AH AX AW)) (
 Ac (gf56 AD AF (zA t 2) (zA t 3) (zA t 4) (vi AB) (vi AC) (vb AI) (zA t 8) (zA t 9) (zA t 10) (zA t 11) (zA t 12) (zA t 13) (zA t 14) (zA t 15) (zA t 16) (zA t 17) (zA t 18) (zA t 19) (zA t 20) (zA t 21) (zA t 22) (zA t 23) (zA t 24) (zA t 25) (zA t 26) (zA t 27) (zA t 28) (zA t 29) (vi AC) AD (vi AB) AK AL (vi AM) (vb AN) (zA t 37) (zA t 38) AD (vi AB) AO AP (vi AC) AQ AR AF (vi AB) AS AT (vi AC) AU AV (vb AI) (vb AI) (vb AY)) (W.mk AG AH AX AW))))) (fun AA Ah =>
 zL (zA AA 0) fun Ai =>
 zL (zA AA 1) fun Aj =>
 rtI .i64 (zA AA 5) fun Ak =>
 rtI .i64 (zA AA 6) fun AZ =>
 onW Ah fun Al Am An Ao =>
 fi (wW .i64 (pC AZ 1)) fun Aa =>
 lp 1000009 ⟨71, rd, df⟩ (fj71_1 AA Ai Aj (zA AA 4) (vi Ak) (vi Aa) (zA AA 13) (zA AA 14) (zA AA 15) (zA AA 16) (zA AA 19) (zA AA 20) (zA AA 21) (zA AA 22) (zA AA 23) (zA AA 24) (zA AA 25) (zA AA 26) (zA AA 27) (zA AA 28) (zA AA 29) (vi AZ) (vi Aa)) (W.mk Al Am An Ao) ka)) (
 ka (.exit 2) (fj71_0 t AD AF (vi AB) (vi AC) (zA t 17) (zA t 18) (vi AC) AD (vi AB) AK AL (vi AM) (vb AN) (zA t 39) (zA t 40) (zA t 41) (zA t 42) (zA t 43) (zA t 44) (zA t 45) (zA t 46) (zA t 47) (zA t 48) (zA t 49) (zA t 50) (zA t 51) (zA t 52)) (W.mk AG AH AE AJ))
theorem B71_1000009_eq : EYB 71 1000009 hint71 B71_1000009 := fun _ _ _ _ _ _ _ => by kernel_rfl
theorem l71 : xD P 71 = true := by kernel_rfl
theorem r71 : wF P 71 = some [.tmp 4] := by kernel_rfl
theorem lp71_1000004 : uM (xC P 71 1000004) = true := by kernel_rfl
theorem lp71_1000009 : uM (xC P 71 1000009) = true := by kernel_rfl
noncomputable abbrev fo24 (s4 : Value) : Fr := gf61 ud ud ud ud s4 ud ud ud ud ud ud ud ud ud ud ud ud ud ud ud ud ud ud ud ud ud ud ud ud ud ud ud ud ud ud ud ud ud ud ud ud ud ud ud ud ud ud ud ud ud ud ud ud ud ud ud ud ud ud ud ud
noncomputable abbrev fj24_0 (t : Fr) (s2 s3 s4 s5 s6 s7 s29 s30 s31 s32 s33 s34 s35 s36 s37 s38 s39 s40 s41 s42 s43 s44 s45 s46 s47 s48 s49 s50 s51 s52 s53 s54 s55 s56 s57 s58 s59 s60 : Value) : Fr := gf61 (zA t 0) (zA t 1) s2 s3 s4 s5 s6 s7 (zA t 8) (zA t 9) (zA t 10) (zA t 11) (zA t 12) (zA t 13) (zA t 14) (zA t 15) (zA t 16) (zA t 17) (zA t 18) (zA t 19) (zA t 20) (zA t 21) (zA t 22) (zA t 23) (zA t 24) (zA t 25) (zA t 26) (zA t 27) (zA t 28) s29 s30 s31 s32 s33 s34 s35 s36 s37 s38 s39 s40 s41 s42 s43 s44 s45 s46 s47 s48 s49 s50 s51 s52 s53 s54 s55 s56 s57 s58 s59 s60
noncomputable abbrev hint24 : pD := hq [(0, 1000004, [.any, .any, .val, .val, .any, (.int .i64)]), (1, 0, [.any, .any, .val, .val]), (1, 1, [.any, .any, .val, .val, .any, (.int .i64)]), (2, 0, [.any, .any, .val, .val, .any, (.int .i64)]), (2, 2, [.any, .any, .val, .val]), (2, 7, [.any, .any, .val, .val, .any, (.int .i64)])]
noncomputable def F24 : TY2 := fun L lp p0 p1 df u h n k =>
 eBox p0 h n fun h1 n2 v3 =>
 eBox p1 h1 n2 fun h4 n5 v6 =>
 opt (zB P 43 0 v3) fun v7 =>
 opt (zF P 9 h4 v7) fun v8 =>
 opt (zB P 43 0 v6) fun v9 =>
 opt (zF P 9 h4 v9) fun Ag =>
 yD ineB P .neq 9 false v8 Ag fun AC =>
 grd (nt AC) (fun BI =>
 opt (zB P 43 3 v3) fun BJ =>
 BI h4 n5 BJ) (fun AN Ah Ai =>
 grd (nt AC) (fun BK =>
 opt (zF P 9 AN Ai) fun BL =>
 BK AN Ah BL) (fun Aj Ak Al =>
 grd (nt AC) (fun BM =>
 opt (zB P 43 3 v6) fun BN =>
 BM Aj Ak BN) (fun AO Am An =>
 grd (nt AC) (fun BO =>
 opt (zF P 9 AO An) fun BP =>
 BO AO Am BP) (fun Ao Ap Aq =>
 grd (nt AC) (fun BQ =>
 yD ineB P .neq 9 false Al Aq fun BR =>
 BQ Ao Ap (.bool BR)) (fun Ar As At =>
 rtB (sel AC (.bool true) At) fun AB =>
 grd (nt AB) (fun BS =>
 opt (zB P 43 1 v3) fun BT =>
 BS Ar As BT) (fun AP Au Av =>
 grd (nt AB) (fun BU =>
 opt (zF P 23 AP Av) fun BV =>
 BU AP Au BV) (fun AQ Aw Ax =>
 grd (nt AB) (fun BW =>
 opt (yG P .len [23] [Ax] AQ) fun BX =>
 rtI .i64 BX fun BY =>
 BW AQ Aw (.int .i64 BY)) (fun Ay Az A0 =>
 grd (nt AB) (fun BZ =>
 opt (zB P 43 1 v6) fun Ba =>
 BZ Ay Az Ba) (fun AR A1 A2 =>
 grd (nt AB) (fun Bb =>
 opt (zF P 23 AR A2) fun Bc =>
 Bb AR A1 Bc) (fun AS A3 A4 =>
 grd (nt AB) (fun Bd =>
 opt (yG P .len [23] [A4] AS) fun Be =>
 rtI .i64 Be fun Bf =>
 Bd AS A3 (.int .i64 Bf)) (fun A5 A6 A7 =>
 grd (nt AB) (fun Bg =>
 yD ineB P .neq 3 false A0 A7 fun Bh =>
 Bg A5 A6 (.bool Bh)) (fun A8 A9 BA =>
 rtB (sel AB (.bool true) BA) fun BB =>
 br BB (
 zO P L 24 k .ret (fo24 (.bool false)) (W.mk [] u A8 A9)) (
 lp 1000004 ⟨24, none, df⟩ (gf61 p0 p1 v3 v6 (vb false) (vi 0) ud ud v7 v8 v9 Ag (vb AC) (vb AC) Ai Al An Aq At (vb AB) (vb AB) Av Ax A0 A2 A4 A7 BA (vb BB) ud ud ud ud ud ud ud ud ud ud ud ud ud ud ud ud ud ud ud ud ud ud ud ud ud ud ud ud ud ud ud ud) (W.mk [] u A8 A9) (endA noK (blkA 0 (fun AA Bi =>
 zL (zA AA 2) fun AE =>
 zL (zA AA 3) fun AF =>
 onW Bi fun AT AU AV Bj =>
 opt (zB P 43 2 AE) fun AJ =>
 opt (zF P 40 AV AJ) fun AK =>
 opt (zB P 43 2 AF) fun AL =>
 opt (zF P 40 AV AL) fun AM =>
 sO L 70 [AK, AM] AV Bj (kp L 24 k (fj24_0 AA AE AF (zA AA 4) (zA AA 5) (zA AA 6) (zA AA 7) (zA AA 29) (zA AA 30) (zA AA 31) (zA AA 32) (zA AA 33) (zA AA 34) (zA AA 35) (zA AA 36) (zA AA 37) (zA AA 38) (zA AA 39) (zA AA 40) (zA AA 41) (zA AA 42) (zA AA 43) (zA AA 44) (zA AA 45) (zA AA 46) AJ AK AL AM (zA AA 51) (zA AA 52) (zA AA 53) (zA AA 54) (zA AA 55) (zA AA 56) (zA AA 57) (zA AA 58) (zA AA 59) (zA AA 60)) AT AU) fun AD AW Bn =>
 opt (zB P 43 4 AE) fun AX =>
 opt (zF P 41 AW AX) fun AY =>
 opt (zB P 43 4 AF) fun AZ =>
 opt (zF P 41 AW AZ) fun Aa =>
 sO L 71 [AY, Aa] AW Bn (kp L 24 k (fj24_0 AA AE AF (zA AA 4) (zA AA 5) (vb AD) (zA AA 7) (zA AA 29) (zA AA 30) (zA AA 31) (zA AA 32) (zA AA 33) (zA AA 34) (zA AA 35) (zA AA 36) (zA AA 37) (zA AA 38) (zA AA 39) (zA AA 40) (zA AA 41) (zA AA 42) (zA AA 43) (zA AA 44) (zA AA 45) (zA AA 46) AJ AK AL AM (vb AD) AX AY AZ Aa (zA AA 56) (zA AA 57) (zA AA 58) (zA AA 59) (zA AA 60)) AT AU) fun Ab BC BD =>
 grd AD (fun Br =>
 Br BC BD (.bool Ab)) (fun Bs Bt BE =>
 rtB (sel AD BE (.bool false)) fun BF =>
 zO P L 24 k .ret (fj24_0 AA AE AF (vb BF) (zA AA 5) (vb AD) (vb Ab) (zA AA 29) (zA AA 30) (zA AA 31) (zA AA 32) (zA AA 33) (zA AA 34) (zA AA 35) (zA AA 36) (zA AA 37) (zA AA 38) (zA AA 39) (zA AA 40) (zA AA 41) (zA AA 42) (zA AA 43) (zA AA 44) (zA AA 45) (zA AA 46) AJ AK AL AM (vb AD) AX AY AZ Aa (vb Ab) (vb AD) (vb AD) BE (vb BF)) (W.mk AT AU Bs Bt)) BC BD) (zO P L 24 k))))) A5 A6) AS A3) AR A1) Ay Az) AQ Aw) AP Au) Ar As) Ao Ap) AO Am) Aj Ak) AN Ah) h4 n5
theorem F24_eq : EY2 24 hint24 F24 := fun _ _ _ _ _ _ _ _ _ => by kernel_rfl
noncomputable def B24_1000004 : TYB := fun L lp rd df t w ka =>
 zL (zA t 2) fun AD =>
 zL (zA t 3) fun AE =>
 rtI .i64 (zA t 5) fun AB =>
 onW w fun AF AG AC AH =>
 opt (zB P 43 1 AD) fun AI =>
 opt (zF P 23 AC AI) fun AJ =>
 opt (yG P .len [23] [AJ] AC) fun AX =>
 rtI .i64 AX fun AK =>
 fb (wO AB AK) fun AL =>
 br AL (
 blkJ (fun AY =>
 opt (zB P 43 1 AD) fun AM =>
 opt (zF P 23 AC AM) fun AN =>
 opt (zU P 23 AN (.int .i64 AB)) fun AO =>
 opt (zF P 9 AC AO) fun AP =>
 opt (zB P 43 1 AE) fun AQ =>
 opt (zF P 23 AC AQ) fun AR =>
 opt (zU P 23 AR (.int .i64 AB)) fun AS =>
 opt (zF P 9 AC AS) fun AT =>
 yD ineB P .neq 9 false AP AT fun AU =>
 gt (lks [(W.mk AF AG AC AH)] []) (
 br AU (
 ka .ret (fj24_0 t AD AE (vb false) (vi AB) (zA t 6) (zA t 7) (vi AB) AI AJ (vi AK) (vb AL) (zA t 34) (zA t 35) AM AN (vi AB) AO AP AQ AR (vi AB) AS AT (vb AU) (zA t 47) (zA t 48) (zA t 49) (zA t 50) (zA t 51) (zA t 52) (zA t 53) (zA t 54) (zA t 55) (zA t 56) (zA t 57) (zA t 58) (zA t 59) (zA t 60)) (W.mk AF AG AC AH)) (
 AY (fj24_0 t AD AE (zA t 4) (vi AB) (zA t 6) (zA t 7) (vi AB) AI AJ (vi AK) (vb AL) (zA t 34) (zA t 35) AM AN (vi AB) AO AP AQ AR (vi AB) AS AT (vb AU) (zA t 47) (zA t 48) (zA t 49) (zA t 50) (zA t 51) (zA t 52) (zA t 53) (zA t 54) (zA t 55) (zA t 56) (zA t 57) (zA t 58) (zA t 59) (zA t 60)) (W.mk AF AG AC AH)))) (fun AA AZ =>
 zL (zA AA 2) fun Aa =>
 zL (zA AA 3) fun Ab =>
 rtI .i64 (zA AA 5) fun AV =>
 onW AZ fun Ac Ad Ae Af =>
 fi (wW .i64 (pC AV 1)) fun AW =>
 lp 1000004 ⟨24, rd, df⟩ (fj24_0 AA Aa Ab (zA AA 4) (vi AW) (zA AA 6) (zA AA 7) (zA AA 29) (zA AA 30) (zA AA 31) (zA AA 32) (zA AA 33) (vi AV) (vi AW) (zA AA 36) (zA AA 37) (zA AA 38) (zA AA 39) (zA AA 40) (zA AA 41) (zA AA 42) (zA AA 43) (zA AA 44) (zA AA 45) (zA AA 46) (zA AA 47) (zA AA 48) (zA AA 49) (zA AA 50) (zA AA 51) (zA AA 52) (zA AA 53) (zA AA 54) (zA AA 55) (zA AA 56) (zA AA 57) (zA AA 58) (zA AA 59) (zA AA 60)) (W.mk Ac Ad Ae Af) ka)) (
 ka (.exit 0) (fj24_0 t AD AE (zA t 4) (vi AB) (zA t 6) (zA t 7) (vi AB) AI AJ (vi AK) (vb AL) (zA t 34) (zA t 35) (zA t 36) (zA t 37) (zA t 38) (zA t 39) (zA t 40) (zA t 41) (zA t 42) (zA t 43) (zA t 44) (zA t 45) (zA t 46) (zA t 47) (zA t 48) (zA t 49) (zA t 50) (zA t 51) (zA t 52) (zA t 53) (zA t 54) (zA t 55) (zA t 56) (zA t 57) (zA t 58) (zA t 59) (zA t 60)) (W.mk AF AG AC AH))
theorem B24_1000004_eq : EYB 24 1000004 hint24 B24_1000004 := fun _ _ _ _ _ _ _ => by kernel_rfl
theorem l24 : xD P 24 = true := by kernel_rfl
theorem r24 : wF P 24 = some [.tmp 4] := by kernel_rfl
theorem lp24_1000004 : uM (xC P 24 1000004) = true := by kernel_rfl
noncomputable abbrev fo105 (s4 : Value) : Fr := gf66 ud ud ud ud s4 ud ud ud ud ud ud ud ud ud ud ud ud ud ud ud ud ud ud ud ud ud ud ud ud ud ud ud ud ud ud ud ud ud ud ud ud ud ud ud ud ud ud ud ud ud ud ud ud ud ud ud ud ud ud ud ud ud ud ud ud ud
noncomputable def F105 : TY2 := fun L lp p0 p1 df u h n k =>
 eBox p0 h n fun h1 n2 v3 =>
 eBox p1 h1 n2 fun h4 n5 v6 =>
 opt (zB P 50 0 v3) fun v7 =>
 opt (zF P 3 h4 v7) fun v8 =>
 rtI .i64 v8 fun a9 =>
 opt (zB P 50 0 v6) fun Bh =>
 opt (zF P 3 h4 Bh) fun Bi =>
 rtI .i64 Bi fun Bj =>
 fb (xZ a9 Bj) fun AC =>
 grd AC (fun Bk =>
 opt (zB P 50 1 v3) fun Bl =>
 Bk h4 n5 Bl) (fun AL Ac Bm =>
 grd AC (fun Bn =>
 opt (zF P 3 AL Bm) fun Bo =>
 rtI .i64 Bo fun Bp =>
 Bn AL Ac (.int .i64 Bp)) (fun Ad Ae Bq =>
 grd AC (fun Br =>
 opt (zB P 50 1 v6) fun Bs =>
 Br Ad Ae Bs) (fun AM Af Bt =>
 grd AC (fun Bu =>
 opt (zF P 3 AM Bt) fun Bv =>
 rtI .i64 Bv fun Bw =>
 Bu AM Af (.int .i64 Bw)) (fun Ag Ah Bx =>
 grd AC (fun By =>
 yD xZ P .eql 3 false Bq Bx fun Bz =>
 By Ag Ah (.bool Bz)) (fun Ai Aj B0 =>
 xL (.bool AC) (fun B1 =>
 rtB (sel B1 B0 (.bool false)) fun AD =>
 grd AD (fun B2 =>
 opt (zB P 50 2 v3) fun B3 =>
 B2 Ai Aj B3) (fun AN Ak B4 =>
 grd AD (fun B5 =>
 opt (zF P 3 AN B4) fun B6 =>
 rtI .i64 B6 fun B7 =>
 B5 AN Ak (.int .i64 B7)) (fun Al Am B8 =>
 grd AD (fun B9 =>
 opt (zB P 50 2 v6) fun CA =>
 B9 Al Am CA) (fun AO An CB =>
 grd AD (fun CC =>
 opt (zF P 3 AO CB) fun CD =>
 rtI .i64 CD fun CE =>
 CC AO An (.int .i64 CE)) (fun Ao Ap CF =>
 grd AD (fun CG =>
 yD xZ P .eql 3 false B8 CF fun CH =>
 CG Ao Ap (.bool CH)) (fun Aq Ar CI =>
 xL (.bool AD) (fun CJ =>
 rtB (sel CJ CI (.bool false)) fun AE =>
 grd AE (fun CK =>
 opt (zB P 50 3 v3) fun CL =>
 CK Aq Ar CL) (fun AP As CM =>
 grd AE (fun CN =>
 opt (zF P 3 AP CM) fun CO =>
 rtI .i64 CO fun CP =>
 CN AP As (.int .i64 CP)) (fun At Au CQ =>
 grd AE (fun CR =>
 opt (zB P 50 3 v6) fun CS =>
 CR At Au CS) (fun AQ Av CT =>
 grd AE (fun CU =>
 opt (zF P 3 AQ CT) fun CV =>
 rtI .i64 CV fun CW =>
 CU AQ Av (.int .i64 CW)) (fun Aw Ax CX =>
 grd AE (fun CY =>
 yD xZ P .eql 3 false CQ CX fun CZ =>
 CY Aw Ax (.bool CZ)) (fun Ay Az Ca =>
 xL (.bool AE) (fun Cb =>
 rtB (sel Cb Ca (.bool false)) fun AF =>
 grd AF (fun Cc =>
 opt (zB P 50 4 v3) fun Cd =>
 Cc Ay Az Cd) (fun AR A0 Ce =>
 grd AF (fun Cf =>
 opt (zF P 3 AR Ce) fun Cg =>
 rtI .i64 Cg fun Ch =>
 Cf AR A0 (.int .i64 Ch)) (fun A1 A2 Ci =>
 grd AF (fun Cj =>
 opt (zB P 50 4 v6) fun Ck =>
 Cj A1 A2 Ck) (fun AS A3 Cl =>
 grd AF (fun Cm =>
 opt (zF P 3 AS Cl) fun Cn =>
 rtI .i64 Cn fun Co =>
 Cm AS A3 (.int .i64 Co)) (fun A4 A5 Cp =>
 grd AF (fun Cq =>
 yD xZ P .eql 3 false Ci Cp fun Cr =>
 Cq A4 A5 (.bool Cr)) (fun A6 A7 Cs =>
 xL (.bool AF) (fun Ct =>
 rtB (sel Ct Cs (.bool false)) fun AG =>
 grd AG (fun Cu =>
 opt (zB P 50 5 v3) fun Cv =>
 Cu A6 A7 Cv) (fun AT A8 Cw =>
 grd AG (fun Cx =>
 opt (zF P 9 AT Cw) fun Cy =>
 Cx AT A8 Cy) (fun A9 BA Cz =>
 grd AG (fun C0 =>
 opt (zB P 50 5 v6) fun C1 =>
 C0 A9 BA C1) (fun AU BB C2 =>
 grd AG (fun C3 =>
 opt (zF P 9 AU C2) fun C4 =>
 C3 AU BB C4) (fun BC BD C5 =>
 grd AG (fun C6 =>
 yD xZ P .eql 9 false Cz C5 fun C7 =>
 C6 BC BD (.bool C7)) (fun BE BF C8 =>
 xL (.bool AG) (fun C9 =>
 rtB (sel C9 C8 (.bool false)) fun AH =>
 grd AH (fun DA =>
 opt (zB P 50 7 v3) fun DB =>
 DA BE BF DB) (fun AV BG DC =>
 grd AH (fun DD =>
 opt (zF P 3 AV DC) fun DE =>
 rtI .i64 DE fun DF =>
 DD AV BG (.int .i64 DF)) (fun BH BI DG =>
 grd AH (fun DH =>
 opt (zB P 50 7 v6) fun DI =>
 DH BH BI DI) (fun AW BJ DJ =>
 grd AH (fun DK =>
 opt (zF P 3 AW DJ) fun DL =>
 rtI .i64 DL fun DM =>
 DK AW BJ (.int .i64 DM)) (fun BK BL DN =>
 grd AH (fun DO =>
 yD xZ P .eql 3 false DG DN fun DP =>
 DO BK BL (.bool DP)) (fun BM BN DQ =>
 xL (.bool AH) (fun DR =>
 rtB (sel DR DQ (.bool false)) fun AI =>
 grd AI (fun DS =>
 opt (zB P 50 8 v3) fun DT =>
 DS BM BN DT) (fun AX BO DU =>
 grd AI (fun DV =>
 opt (zF P 3 AX DU) fun DW =>
 rtI .i64 DW fun DX =>
 DV AX BO (.int .i64 DX)) (fun BP BQ DY =>
 grd AI (fun DZ =>
 opt (zB P 50 8 v6) fun Da =>
 DZ BP BQ Da) (fun AY BR Db =>
 grd AI (fun Dc =>
 opt (zF P 3 AY Db) fun Dd =>
 rtI .i64 Dd fun De =>
 Dc AY BR (.int .i64 De)) (fun BS BT Df =>
 grd AI (fun Dg =>
 yD xZ P .eql 3 false DY Df fun Dh =>
 Dg BS BT (.bool Dh)) (fun BU BV Di =>
 xL (.bool AI) (fun Dj =>
 rtB (sel Dj Di (.bool false)) fun AJ =>
 grd AJ (fun Dk =>
 opt (zB P 50 6 v3) fun Dl =>
 Dk BU BV Dl) (fun AZ BW Dm =>
 grd AJ (fun Dn =>
 opt (zF P 40 AZ Dm) fun Do =>
 Dn AZ BW Do) (fun BX BY Dp =>
 grd AJ (fun Dq =>
 opt (zB P 50 6 v6) fun Dr =>
 Dq BX BY Dr) (fun Aa BZ Ds =>
 grd AJ (fun Dt =>
 opt (zF P 40 Aa Ds) fun Du =>
 Dt Aa BZ Du) (fun Ba Bb Dv =>
 grd AJ (fun Dw =>
 sO L 70 [Dp, Dv] Ba Bb (kp L 105 k (fo105 (.bool false)) [] u) fun D0 D1 D2 =>
 Dw D1 D2 (.bool D0)) (fun D3 D4 D5 =>
 xL (.bool AJ) (fun D6 =>
 rtB (sel D6 D5 (.bool false)) fun D7 =>
 zO P L 105 k .ret (fo105 (.bool D7)) (W.mk [] u D3 D4)) false) Ba Bb) Aa BZ) BX BY) AZ BW) BU BV) false) BS BT) AY BR) BP BQ) AX BO) BM BN) false) BK BL) AW BJ) BH BI) AV BG) BE BF) false) BC BD) AU BB) A9 BA) AT A8) A6 A7) false) A4 A5) AS A3) A1 A2) AR A0) Ay Az) false) Aw Ax) AQ Av) At Au) AP As) Aq Ar) false) Ao Ap) AO An) Al Am) AN Ak) Ai Aj) false) Ag Ah) AM Af) Ad Ae) AL Ac) h4 n5
theorem F105_eq : EY2 105 hq0 F105 := fun _ _ _ _ _ _ _ _ _ => by kernel_rfl
theorem l105 : xD P 105 = true := by kernel_rfl
theorem r105 : wF P 105 = some [.tmp 4] := by kernel_rfl
noncomputable abbrev fo23 (s2 : Value) : Fr := gf4 ud ud s2 ud
noncomputable abbrev hint23 : pD := hq [(4, 0, [(.int .i64)])]
noncomputable def F23 : TY1 := fun L lp p0 df u h n k =>
 rtI .i64 p0 fun ap0 =>
 zO P L 23 k .ret (fo23 (.int .i64 ap0)) (W.mk [] u h n)
theorem F23_eq : EY1 23 hint23 F23 := fun _ _ _ _ _ _ _ _ => by kernel_rfl
theorem l23 : xD P 23 = true := by kernel_rfl
theorem r23 : wF P 23 = some [.tmp 2] := by kernel_rfl
noncomputable abbrev fo16 (s0 : Value) : Fr := gf36 s0 ud ud ud ud ud ud ud ud ud ud ud ud ud ud ud ud ud ud ud ud ud ud ud ud ud ud ud ud ud ud ud ud ud ud ud
noncomputable def F16 : TY0 := fun L lp df u h n k =>
 zN P 23 1 [(0, (.string (ByteArray.mk #[103])))] h n fun h1 n2 v3 =>
 zN P 40 1 [(0, (.int .i64 0))] h1 n2 fun h4 n5 v6 =>
 opt (vR P 50 [(0, (.int .i64 9))]) fun v7 =>
 zN P 51 1 [(0, v7)] h4 n5 fun h8 n9 Ag =>
 zN P 41 1 [(0, Ag)] h8 n9 fun Ah Ai Aj =>
 opt (vR P 43 [(0, (.string (ByteArray.mk #[102]))), (1, v3), (2, v6), (3, (.string (ByteArray.mk #[103]))), (4, Aj)]) fun Ak =>
 tH P 43 Ah Ai fun Al Am AC =>
 zW P 43 AC Ak Al Am fun An Ao Bj =>
 yY L 22 [(.string (ByteArray.mk #[102, 117, 110, 99, 32, 102, 10, 114, 101, 103, 115, 32, 103, 10, 112, 97, 114, 97, 109, 115, 32, 48, 10, 114, 101, 115, 117, 108, 116, 32, 103, 10, 98, 108, 111, 99, 107, 10, 32, 32, 114, 101, 116, 32, 48, 10, 101, 110, 100, 10]))] An Ao (kp L 16 k (fo16 (.bool false)) [] u) fun AD As At =>
 opt (yN 0 AD) fun Au =>
 opt (yN 1 AD) fun Av =>
 rtI .i64 Av fun Aw =>
 opt (yN 2 AD) fun Ax =>
 rtI .i64 Ax fun Ay =>
 tH P 43 As At fun Az A0 AH =>
 zW P 43 AH Au Az A0 fun AI A1 Bk =>
 opt (zF P 43 AI AC) fun A2 =>
 yY L 19 [A2] AI A1 (kp L 16 k (fo16 (.bool false)) [] u) fun A6 AJ AK =>
 yD xZ P .eql 9 false A6 (.string (ByteArray.mk #[102, 117, 110, 99, 32, 102, 10, 114, 101, 103, 115, 32, 103, 10, 112, 97, 114, 97, 109, 115, 32, 48, 10, 114, 101, 115, 117, 108, 116, 32, 103, 10, 98, 108, 111, 99, 107, 10, 32, 32, 114, 101, 116, 32, 48, 10, 101, 110, 100, 10])) fun AA =>
 grd AA (fun A7 =>
 A7 AJ AK (.int .i64 Ay)) (fun AL AM A8 =>
 grd AA (fun A9 =>
 qS L .i64 23 [A8] AL AM (kp L 16 k (fo16 (.bool false)) [] u) fun BD BE BF =>
 A9 BE BF (.int .i64 BD)) (fun AN AO BG =>
 grd AA (fun BH =>
 yD xZ P .eql 3 true BG (.int .i64 0) fun BI =>
 BH AN AO (.bool BI)) (fun AP AQ BJ =>
 xL (.bool AA) (fun BK =>
 rtB (sel BK BJ (.bool false)) fun AE =>
 grd AE (fun BL =>
 BL AP AQ (.int .i64 Aw)) (fun AR AS BM =>
 grd AE (fun BN =>
 yD xZ P .eql 3 true BM (.int .i64 0) fun BO =>
 BN AR AS (.bool BO)) (fun AF AT BP =>
 xL (.bool AE) (fun BQ =>
 rtB (sel BQ BP (.bool false)) fun AB =>
 grd AB (fun BR =>
 opt (zF P 43 AF AC) fun BS =>
 BR AF AT BS) (fun AG AU BT =>
 grd AB (fun BU =>
 opt (zF P 43 AG AH) fun BV =>
 BU AG AU BV) (fun AV AW BW =>
 grd AB (fun BX =>
 sO L 24 [BT, BW] AV AW (kp L 16 k (fo16 (.bool false)) [] u) fun Bb Bc Bd =>
 BX Bc Bd (.bool Bb)) (fun Be Bf Bg =>
 xL (.bool AB) (fun Bh =>
 rtB (sel Bh Bg (.bool false)) fun Bi =>
 zO P L 16 k .ret (fo16 (.bool Bi)) (W.mk [] u Be Bf)) false) AV AW) AG AU) AF AT) false) AR AS) AP AQ) false) AN AO) AL AM) AJ AK
theorem F16_eq : EY0 16 hq0 F16 := fun _ _ _ _ _ _ _ => by kernel_rfl
theorem l16 : xD P 16 = true := by kernel_rfl
theorem r16 : wF P 16 = some [.tmp 0] := by kernel_rfl
theorem l5 : xD P 5 = true := by kernel_rfl
theorem r5 : wF P 5 = some [.tmp 4] := by kernel_rfl
noncomputable abbrev fo7 (s4 : Value) : Fr := gf196 ud ud ud ud s4 ud ud ud ud ud ud ud ud ud ud ud ud ud ud ud ud ud ud ud ud ud ud ud ud ud ud ud ud ud ud ud ud ud ud ud ud ud ud ud ud ud ud ud ud ud ud ud ud ud ud ud ud ud ud ud ud ud ud ud ud ud ud ud ud ud ud ud ud ud ud ud ud ud ud ud ud ud ud ud ud ud ud ud ud ud ud ud ud ud ud ud ud ud ud ud ud ud ud ud ud ud ud ud ud ud ud ud ud ud ud ud ud ud ud ud ud ud ud ud ud ud ud ud ud ud ud ud ud ud ud ud ud ud ud ud ud ud ud ud ud ud ud ud ud ud ud ud ud ud ud ud ud ud ud ud ud ud ud ud ud ud ud ud ud ud ud ud ud ud ud ud ud ud ud ud ud ud ud ud ud ud ud ud ud ud ud ud ud ud ud ud
noncomputable abbrev fj7_4 (t : Fr) (s0 s1 s4 s6 s7 s8 s9 s10 s11 s12 s54 s55 s56 s59 s60 s61 s62 s63 s64 s65 s66 s67 s68 s69 s70 s71 s72 s73 s74 s75 s76 s77 s78 s79 s80 s81 s82 s83 s84 s85 s86 s87 s88 s89 s90 s91 s92 s93 s98 s99 s100 s101 s102 s103 s104 s105 s106 s107 s108 s109 s110 s111 s112 s113 : Value) : Fr := gf196 s0 s1 (zA t 2) (zA t 3) s4 (zA t 5) s6 s7 s8 s9 s10 s11 s12 (zA t 13) (zA t 14) (zA t 15) (zA t 16) (zA t 17) (zA t 18) (zA t 19) (zA t 20) (zA t 21) (zA t 22) (zA t 23) (zA t 24) (zA t 25) (zA t 26) (zA t 27) (zA t 28) (zA t 29) (zA t 30) (zA t 31) (zA t 32) (zA t 33) (zA t 34) (zA t 35) (zA t 36) (zA t 37) (zA t 38) (zA t 39) (zA t 40) (zA t 41) (zA t 42) (zA t 43) (zA t 44) (zA t 45) (zA t 46) (zA t 47) (zA t 48) (zA t 49) (zA t 50) (zA t 51) (zA t 52) (zA t 53) s54 s55 s56 (zA t 57) (zA t 58) s59 s60 s61 s62 s63 s64 s65 s66 s67 s68 s69 s70 s71 s72 s73 s74 s75 s76 s77 s78 s79 s80 s81 s82 s83 s84 s85 s86 s87 s88 s89 s90 s91 s92 s93 (zA t 94) (zA t 95) (zA t 96) (zA t 97) s98 s99 s100 s101 s102 s103 s104 s105 s106 s107 s108 s109 s110 s111 s112 s113 (zA t 114) (zA t 115) (zA t 116) (zA t 117) (zA t 118) (zA t 119) (zA t 120) (zA t 121) (zA t 122) (zA t 123) (zA t 124) (zA t 125) (zA t 126) (zA t 127) (zA t 128) (zA t 129) (zA t 130) (zA t 131) (zA t 132) (zA t 133) (zA t 134) (zA t 135) (zA t 136) (zA t 137) (zA t 138) (zA t 139) (zA t 140) (zA t 141) (zA t 142) (zA t 143) (zA t 144) (zA t 145) (zA t 146) (zA t 147) (zA t 148) (zA t 149) (zA t 150) (zA t 151) (zA t 152) (zA t 153) (zA t 154) (zA t 155) (zA t 156) (zA t 157) (zA t 158) (zA t 159) (zA t 160) (zA t 161) (zA t 162) (zA t 163) (zA t 164) (zA t 165) (zA t 166) (zA t 167) (zA t 168) (zA t 169) (zA t 170) (zA t 171) (zA t 172) (zA t 173) (zA t 174) (zA t 175) (zA t 176) (zA t 177) (zA t 178) (zA t 179) (zA t 180) (zA t 181) (zA t 182) (zA t 183) (zA t 184) (zA t 185) (zA t 186) (zA t 187) (zA t 188) (zA t 189) (zA t 190) (zA t 191) (zA t 192) (zA t 193) (zA t 194) (zA t 195)
noncomputable abbrev fj7_0 (t : Fr) (s0 s4 s6 s7 s8 s11 s14 s15 s16 s17 s18 s19 s20 s21 s145 s146 s147 s148 s149 s150 s151 s152 s155 s156 s166 s167 s168 s169 s170 s171 s172 s173 s174 s175 s176 s177 s178 s179 s180 s181 s182 s183 s184 s185 s186 s187 s188 s189 s190 s191 s192 s193 s194 s195 : Value) : Fr := gf196 s0 (zA t 1) (zA t 2) (zA t 3) s4 (zA t 5) s6 s7 s8 (zA t 9) (zA t 10) s11 (zA t 12) (zA t 13) s14 s15 s16 s17 s18 s19 s20 s21 (zA t 22) (zA t 23) (zA t 24) (zA t 25) (zA t 26) (zA t 27) (zA t 28) (zA t 29) (zA t 30) (zA t 31) (zA t 32) (zA t 33) (zA t 34) (zA t 35) (zA t 36) (zA t 37) (zA t 38) (zA t 39) (zA t 40) (zA t 41) (zA t 42) (zA t 43) (zA t 44) (zA t 45) (zA t 46) (zA t 47) (zA t 48) (zA t 49) (zA t 50) (zA t 51) (zA t 52) (zA t 53) (zA t 54) (zA t 55) (zA t 56) (zA t 57) (zA t 58) (zA t 59) (zA t 60) (zA t 61) (zA t 62) (zA t 63) (zA t 64) (zA t 65) (zA t 66) (zA t 67) (zA t 68) (zA t 69) (zA t 70) (zA t 71) (zA t 72) (zA t 73) (zA t 74) (zA t 75) (zA t 76) (zA t 77) (zA t 78) (zA t 79) (zA t 80) (zA t 81) (zA t 82) (zA t 83) (zA t 84) (zA t 85) (zA t 86) (zA t 87) (zA t 88) (zA t 89) (zA t 90) (zA t 91) (zA t 92) (zA t 93) (zA t 94) (zA t 95) (zA t 96) (zA t 97) (zA t 98) (zA t 99) (zA t 100) (zA t 101) (zA t 102) (zA t 103) (zA t 104) (zA t 105) (zA t 106) (zA t 107) (zA t 108) (zA t 109) (zA t 110) (zA t 111) (zA t 112) (zA t 113) (zA t 114) (zA t 115) (zA t 116) (zA t 117) (zA t 118) (zA t 119) (zA t 120) (zA t 121) (zA t 122) (zA t 123) (zA t 124) (zA t 125) (zA t 126) (zA t 127) (zA t 128) (zA t 129) (zA t 130) (zA t 131) (zA t 132) (zA t 133) (zA t 134) (zA t 135) (zA t 136) (zA t 137) (zA t 138) (zA t 139) (zA t 140) (zA t 141) (zA t 142) (zA t 143) (zA t 144) s145 s146 s147 s148 s149 s150 s151 s152 (zA t 153) (zA t 154) s155 s156 (zA t 157) (zA t 158) (zA t 159) (zA t 160) (zA t 161) (zA t 162) (zA t 163) (zA t 164) (zA t 165) s166 s167 s168 s169 s170 s171 s172 s173 s174 s175 s176 s177 s178 s179 s180 s181 s182 s183 s184 s185 s186 s187 s188 s189 s190 s191 s192 s193 s194 s195
noncomputable abbrev fj7_2 (t : Fr) (s0 s1 s6 s7 s8 s11 s12 s13 s14 s15 s16 s17 s18 s94 s95 s96 s97 s114 s115 s116 s117 s118 s121 s122 s125 s126 s127 s128 s129 s132 s133 s136 s137 s138 s139 s140 s143 s144 s166 s167 s168 s169 s170 s171 s172 s173 : Value) : Fr := gf196 s0 s1 (zA t 2) (zA t 3) (zA t 4) (zA t 5) s6 s7 s8 (zA t 9) (zA t 10) s11 s12 s13 s14 s15 s16 s17 s18 (zA t 19) (zA t 20) (zA t 21) (zA t 22) (zA t 23) (zA t 24) (zA t 25) (zA t 26) (zA t 27) (zA t 28) (zA t 29) (zA t 30) (zA t 31) (zA t 32) (zA t 33) (zA t 34) (zA t 35) (zA t 36) (zA t 37) (zA t 38) (zA t 39) (zA t 40) (zA t 41) (zA t 42) (zA t 43) (zA t 44) (zA t 45) (zA t 46) (zA t 47) (zA t 48) (zA t 49) (zA t 50) (zA t 51) (zA t 52) (zA t 53) (zA t 54) (zA t 55) (zA t 56) (zA t 57) (zA t 58) (zA t 59) (zA t 60) (zA t 61) (zA t 62) (zA t 63) (zA t 64) (zA t 65) (zA t 66) (zA t 67) (zA t 68) (zA t 69) (zA t 70) (zA t 71) (zA t 72) (zA t 73) (zA t 74) (zA t 75) (zA t 76) (zA t 77) (zA t 78) (zA t 79) (zA t 80) (zA t 81) (zA t 82) (zA t 83) (zA t 84) (zA t 85) (zA t 86) (zA t 87) (zA t 88) (zA t 89) (zA t 90) (zA t 91) (zA t 92) (zA t 93) s94 s95 s96 s97 (zA t 98) (zA t 99) (zA t 100) (zA t 101) (zA t 102) (zA t 103) (zA t 104) (zA t 105) (zA t 106) (zA t 107) (zA t 108) (zA t 109) (zA t 110) (zA t 111) (zA t 112) (zA t 113) s114 s115 s116 s117 s118 (zA t 119) (zA t 120) s121 s122 (zA t 123) (zA t 124) s125 s126 s127 s128 s129 (zA t 130) (zA t 131) s132 s133 (zA t 134) (zA t 135) s136 s137 s138 s139 s140 (zA t 141) (zA t 142) s143 s144 (zA t 145) (zA t 146) (zA t 147) (zA t 148) (zA t 149) (zA t 150) (zA t 151) (zA t 152) (zA t 153) (zA t 154) (zA t 155) (zA t 156) (zA t 157) (zA t 158) (zA t 159) (zA t 160) (zA t 161) (zA t 162) (zA t 163) (zA t 164) (zA t 165) s166 s167 s168 s169 s170 s171 s172 s173 (zA t 174) (zA t 175) (zA t 176) (zA t 177) (zA t 178) (zA t 179) (zA t 180) (zA t 181) (zA t 182) (zA t 183) (zA t 184) (zA t 185) (zA t 186) (zA t 187) (zA t 188) (zA t 189) (zA t 190) (zA t 191) (zA t 192) (zA t 193) (zA t 194) (zA t 195)
noncomputable abbrev fj7_1 (t : Fr) (s0 s1 s6 s7 s8 s9 s11 s12 s13 s14 s15 s54 s55 s56 s57 s58 s119 s120 s123 s124 s130 s131 s134 s135 s141 s142 s153 s154 s157 s158 s159 s160 s161 s162 s163 s164 s165 : Value) : Fr := gf196 s0 s1 (zA t 2) (zA t 3) (zA t 4) (zA t 5) s6 s7 s8 s9 (zA t 10) s11 s12 s13 s14 s15 (zA t 16) (zA t 17) (zA t 18) (zA t 19) (zA t 20) (zA t 21) (zA t 22) (zA t 23) (zA t 24) (zA t 25) (zA t 26) (zA t 27) (zA t 28) (zA t 29) (zA t 30) (zA t 31) (zA t 32) (zA t 33) (zA t 34) (zA t 35) (zA t 36) (zA t 37) (zA t 38) (zA t 39) (zA t 40) (zA t 41) (zA t 42) (zA t 43) (zA t 44) (zA t 45) (zA t 46) (zA t 47) (zA t 48) (zA t 49) (zA t 50) (zA t 51) (zA t 52) (zA t 53) s54 s55 s56 s57 s58 (zA t 59) (zA t 60) (zA t 61) (zA t 62) (zA t 63) (zA t 64) (zA t 65) (zA t 66) (zA t 67) (zA t 68) (zA t 69) (zA t 70) (zA t 71) (zA t 72) (zA t 73) (zA t 74) (zA t 75) (zA t 76) (zA t 77) (zA t 78) (zA t 79) (zA t 80) (zA t 81) (zA t 82) (zA t 83) (zA t 84) (zA t 85) (zA t 86) (zA t 87) (zA t 88) (zA t 89) (zA t 90) (zA t 91) (zA t 92) (zA t 93) (zA t 94) (zA t 95) (zA t 96) (zA t 97) (zA t 98) (zA t 99) (zA t 100) (zA t 101) (zA t 102) (zA t 103) (zA t 104) (zA t 105) (zA t 106) (zA t 107) (zA t 108) (zA t 109) (zA t 110) (zA t 111) (zA t 112) (zA t 113) (zA t 114) (zA t 115) (zA t 116) (zA t 117) (zA t 118) s119 s120 (zA t 121) (zA t 122) s123 s124 (zA t 125) (zA t 126) (zA t 127) (zA t 128) (zA t 129) s130 s131 (zA t 132) (zA t 133) s134 s135 (zA t 136) (zA t 137) (zA t 138) (zA t 139) (zA t 140) s141 s142 (zA t 143) (zA t 144) (zA t 145) (zA t 146) (zA t 147) (zA t 148) (zA t 149) (zA t 150) (zA t 151) (zA t 152) s153 s154 (zA t 155) (zA t 156) s157 s158 s159 s160 s161 s162 s163 s164 s165 (zA t 166) (zA t 167) (zA t 168) (zA t 169) (zA t 170) (zA t 171) (zA t 172) (zA t 173) (zA t 174) (zA t 175) (zA t 176) (zA t 177) (zA t 178) (zA t 179) (zA t 180) (zA t 181) (zA t 182) (zA t 183) (zA t 184) (zA t 185) (zA t 186) (zA t 187) (zA t 188) (zA t 189) (zA t 190) (zA t 191) (zA t 192) (zA t 193) (zA t 194) (zA t 195)
noncomputable abbrev fj7_3 (t : Fr) (s0 s1 s6 s7 s8 s9 s11 s14 s167 s168 s182 s183 : Value) : Fr := gf196 s0 s1 (zA t 2) (zA t 3) (zA t 4) (zA t 5) s6 s7 s8 s9 (zA t 10) s11 (zA t 12) (zA t 13) s14 (zA t 15) (zA t 16) (zA t 17) (zA t 18) (zA t 19) (zA t 20) (zA t 21) (zA t 22) (zA t 23) (zA t 24) (zA t 25) (zA t 26) (zA t 27) (zA t 28) (zA t 29) (zA t 30) (zA t 31) (zA t 32) (zA t 33) (zA t 34) (zA t 35) (zA t 36) (zA t 37) (zA t 38) (zA t 39) (zA t 40) (zA t 41) (zA t 42) (zA t 43) (zA t 44) (zA t 45) (zA t 46) (zA t 47) (zA t 48) (zA t 49) (zA t 50) (zA t 51) (zA t 52) (zA t 53) (zA t 54) (zA t 55) (zA t 56) (zA t 57) (zA t 58) (zA t 59) (zA t 60) (zA t 61) (zA t 62) (zA t 63) (zA t 64) (zA t 65) (zA t 66) (zA t 67) (zA t 68) (zA t 69) (zA t 70) (zA t 71) (zA t 72) (zA t 73) (zA t 74) (zA t 75) (zA t 76) (zA t 77) (zA t 78) (zA t 79) (zA t 80) (zA t 81) (zA t 82) (zA t 83) (zA t 84) (zA t 85) (zA t 86) (zA t 87) (zA t 88) (zA t 89) (zA t 90) (zA t 91) (zA t 92) (zA t 93) (zA t 94) (zA t 95) (zA t 96) (zA t 97) (zA t 98) (zA t 99) (zA t 100) (zA t 101) (zA t 102) (zA t 103) (zA t 104) (zA t 105) (zA t 106) (zA t 107) (zA t 108) (zA t 109) (zA t 110) (zA t 111) (zA t 112) (zA t 113) (zA t 114) (zA t 115) (zA t 116) (zA t 117) (zA t 118) (zA t 119) (zA t 120) (zA t 121) (zA t 122) (zA t 123) (zA t 124) (zA t 125) (zA t 126) (zA t 127) (zA t 128) (zA t 129) (zA t 130) (zA t 131) (zA t 132) (zA t 133) (zA t 134) (zA t 135) (zA t 136) (zA t 137) (zA t 138) (zA t 139) (zA t 140) (zA t 141) (zA t 142) (zA t 143) (zA t 144) (zA t 145) (zA t 146) (zA t 147) (zA t 148) (zA t 149) (zA t 150) (zA t 151) (zA t 152) (zA t 153) (zA t 154) (zA t 155) (zA t 156) (zA t 157) (zA t 158) (zA t 159) (zA t 160) (zA t 161) (zA t 162) (zA t 163) (zA t 164) (zA t 165) (zA t 166) s167 s168 (zA t 169) (zA t 170) (zA t 171) (zA t 172) (zA t 173) (zA t 174) (zA t 175) (zA t 176) (zA t 177) (zA t 178) (zA t 179) (zA t 180) (zA t 181) s182 s183 (zA t 184) (zA t 185) (zA t 186) (zA t 187) (zA t 188) (zA t 189) (zA t 190) (zA t 191) (zA t 192) (zA t 193) (zA t 194) (zA t 195)
noncomputable abbrev pA : pD := hq [(0, 1000008, [(.int .i64), (.int .i64), .any, .any, .any, .any, .val, (.int .i64), (.int .i64), (.int .i64)]), (0, 1000026, [(.int .i64), .any, .any, .any, .any, .any, .val, (.int .i64), (.int .i64), .any, .any, .val, (.int .i64)]), (0, 1000031, [(.int .i64), .any, .any, .any, .any, .any, .val, (.int .i64), (.int .i64), .any, .any, .val, .any, (.int .i64)]), (0, 1000036, [(.int .i64), .any, .any, .any, .any, .any, .val, (.int .i64), (.int .i64), .any, .any, .val, .any, .any, (.int .i64)]), (0, 1000040, [(.int .i64), .any, .any, .any, .any, .any, .val, (.int .i64), (.int .i64), .any, .any, .val, .any, .any, (.int .i64), (.int .i64)]), (1, 0, [(.int .i64), (.int .i64), .any, .any, .any, .any, .val, (.int .i64), (.int .i64)]), (1, 1, [(.int .i64), (.int .i64), .any, .any, .any, .any, .val, (.int .i64), (.int .i64), (.int .i64)]), (1, 2, [(.int .i64), (.int .i64), .any, .any, .any, .any, .val, (.int .i64), (.int .i64), (.int .i64)]), (1, 3, [(.int .i64), .any, .any, .any, .any, .any, .val, (.int .i64), (.int .i64), .any, .any, .val]), (1, 4, [(.int .i64), .any, .any, .any, .any, .any, .val, (.int .i64), (.int .i64), .any, .any, .val, (.int .i64)]), (1, 5, [(.int .i64), .any, .any, .any, .any, .any, .val, (.int .i64), (.int .i64), .any, .any, .val]), (1, 6, [(.int .i64), .any, .any, .any, .any, .any, .val, (.int .i64), (.int .i64), .any, .any, .val, .any, (.int .i64)]), (1, 7, [(.int .i64), .any, .any, .any, .any, .any, .any, (.int .i64), (.int .i64), .any, .any, .val]), (1, 8, [(.int .i64), .any, .any, .any, .any, .any, .val, (.int .i64), (.int .i64), .any, .any, .val, .any, .any, (.int .i64)]), (1, 9, [(.int .i64), .any, .any, .any, .any, .any, .val, (.int .i64), (.int .i64), .any, .any, .val, .any, .any, (.int .i64)]), (1, 10, [(.int .i64), .any, .any, .any, .any, .any, .val, (.int .i64), (.int .i64), .any, .any, .val, .any, .any, (.int .i64), (.int .i64)]), (2, 0, [(.int .i64), (.int .i64), .any, .any, .any, .any, .val, (.int .i64), (.int .i64), (.int .i64)]), (2, 3, [(.int .i64), (.int .i64)]), (2, 13, [(.int .i64), (.int .i64), .any, .any, .any, .any, .val, (.int .i64), (.int .i64), (.int .i64)]), (2, 15, [(.int .i64), (.int .i64), .any, .any, .any, .any, .val, (.int .i64), (.int .i64), (.int .i64)]), (2, 17, [(.int .i64), (.int .i64), .any, .any, .any, .any, .val, (.int .i64), (.int .i64), (.int .i64)]), (2, 19, [(.int .i64), (.int .i64), .any, .any, .any, .any, .val, (.int .i64), (.int .i64)]), (2, 22, [(.int .i64), .any, .any, .any, .any, .any, .val, (.int .i64), (.int .i64), .any, .bool]), (2, 24, [.any, .any, .any, .any, .any, .any, .val]), (2, 44, [(.int .i64), .any, .any, .any, .any, .any, .any, (.int .i64), (.int .i64), .any, .any, .val]), (2, 46, [.any, .any, .any, .any, .any, .any, .any, .any, (.int .i64), .any, .any, .val]), (4, 0, [(.int .i64), (.int .i64)])]
noncomputable def F7 : TY2 := fun L lp p0 p1 df u h n k =>
 rtI .i64 p0 fun ap0 =>
 rtI .i64 p1 fun ap1 =>
 sO L 16 [] h n (kp L 7 k (fo7 (.bool false)) [] u) fun a1 h2 n3 =>
 opt (aUn .not (.bool a1)) fun v7 =>
 rtB v7 fun a8 =>
 grd (nt a8) (fun k9 =>
 k9 h2 n3 (.int .i64 ap0)) (fun BK BL BM =>
 grd (nt a8) (fun Cs =>
 yD wO P .lss 3 true BM (.int .i64 0) fun Ct =>
 Cs BK BL (.bool Ct)) (fun BN BO BP =>
 xL (.bool a8) (fun Cu =>
 rtB (sel Cu (.bool true) BP) fun Aa =>
 grd (nt Aa) (fun Cv =>
 Cv BN BO (.int .i64 ap0)) (fun BQ BR BS =>
 grd (nt Aa) (fun Cw =>
 yD igtB P .gtr 3 true BS (.int .i64 3) fun Cx =>
 Cw BQ BR (.bool Cx)) (fun BT BU BV =>
 xL (.bool Aa) (fun Cy =>
 rtB (sel Cy (.bool true) BV) fun Ab =>
 grd (nt Ab) (fun Cz =>
 Cz BT BU (.int .i64 ap1)) (fun BW BX BY =>
 grd (nt Ab) (fun C0 =>
 yD wO P .lss 3 true BY (.int .i64 0) fun C1 =>
 C0 BW BX (.bool C1)) (fun BZ Ba Bb =>
 xL (.bool Ab) (fun C2 =>
 rtB (sel C2 (.bool true) Bb) fun Ac =>
 grd (nt Ac) (fun C3 =>
 C3 BZ Ba (.int .i64 ap1)) (fun Bc Bd Be =>
 grd (nt Ac) (fun C4 =>
 yD igtB P .gtr 3 true Be (.int .i64 520) fun C5 =>
 C4 Bc Bd (.bool C5)) (fun Bf Bg Bh =>
 xL (.bool Ac) (fun C6 =>
 rtB (sel C6 (.bool true) Bh) fun Bi =>
 xL (.bool Bi) (fun z53 =>
 br z53 (
 zO P L 7 k .ret (fo7 (.bool a1)) (W.mk [] u Bf Bg)) (
 opt (vR P 50 [(0, (.int .i64 9))]) fun Bj =>
 zN P 51 1 [(0, Bj)] Bf Bg fun C7 C8 Bk =>
 zN P 41 1 [(0, Bk)] C7 C8 fun C9 DA Bl =>
 opt (vR P 43 [(0, (.string (ByteArray.mk #[102]))), (3, (.string (ByteArray.mk #[103]))), (4, Bl)]) fun Bm =>
 tH P 43 C9 DA fun DB DC Bn =>
 zW P 43 Bn Bm DB DC fun DD DE E6 =>
 zN P 40 4 [(0, (.int .i64 500)), (1, (.int .i64 16)), (2, (.int .i64 200)), (3, (.int .i64 400))] DD DE fun Bo DF Bp =>
 opt (zU P 40 Bp (.int .i64 ap0)) fun Bq =>
 opt (zF P 3 Bo Bq) fun DG =>
 rtI .i64 DG fun Br =>
 zN P 40 4 [(0, (.int .i64 2)), (1, (.int .i64 3)), (2, (.int .i64 0)), (3, (.int .i64 0))] Bo DF fun Bs DH Bt =>
 opt (zU P 40 Bt (.int .i64 ap0)) fun Bu =>
 opt (zF P 3 Bs Bu) fun DI =>
 rtI .i64 DI fun Bv =>
 lp 1000008 ⟨7, none, df⟩ (gf196 (vi ap0) (vi ap1) ud ud (vb false) (vb a1) Bn (vi Br) (vi Bv) (vi 0) ud ud ud ud ud ud ud ud ud ud ud ud (vb a1) (vb a1) (vb a8) (vb a8) BM BP (vb Aa) (vb Aa) BS BV (vb Ab) (vb Ab) BY Bb (vb Ac) (vb Ac) Be Bh (vb Bi) ud Bj Bk Bl Bm Bp (vi ap0) Bq (vi Br) Bt (vi ap0) Bu (vi Bv) ud ud ud ud ud ud ud ud ud ud ud ud ud ud ud ud ud ud ud ud ud ud ud ud ud ud ud ud ud ud ud ud ud ud ud ud ud ud ud ud ud ud ud ud ud ud ud ud ud ud ud ud ud ud ud ud ud ud ud ud ud ud ud ud ud ud ud ud ud ud ud ud ud ud ud ud ud ud ud ud ud ud ud ud ud ud ud ud ud ud ud ud ud ud ud ud ud ud ud ud ud ud ud ud ud ud ud ud ud ud ud ud ud ud ud ud ud ud ud ud ud ud ud ud ud ud ud ud ud ud ud ud ud ud ud ud ud ud ud ud ud ud) (W.mk [] u Bs DH) (endA noK (blkA 0 (fun AC DJ =>
 rtI .i64 (zA AC 0) fun Ad =>
 rtI .i64 (zA AC 1) fun A1 =>
 zL (zA AC 6) fun Bw =>
 rtI .i64 (zA AC 7) fun Bx =>
 rtI .i64 (zA AC 8) fun By =>
 onW DJ fun Bz B0 B1 B2 =>
 fb (wO 1 Ad) fun A2 =>
 xL (.bool A2) (fun z92 =>
 brJ z92 (fun DK =>
 fi (wW .i64 (pC A1 1)) fun B3 =>
 DK (fj7_2 AC (vi Ad) (vi B3) Bw (vi Bx) (vi By) (zA AC 11) (zA AC 12) (zA AC 13) (zA AC 14) (zA AC 15) (zA AC 16) (zA AC 17) (zA AC 18) (vi Ad) (vb A2) (vi A1) (vi B3) (zA AC 114) (zA AC 115) (zA AC 116) (zA AC 117) (zA AC 118) (zA AC 121) (zA AC 122) (zA AC 125) (zA AC 126) (zA AC 127) (zA AC 128) (zA AC 129) (zA AC 132) (zA AC 133) (zA AC 136) (zA AC 137) (zA AC 138) (zA AC 139) (zA AC 140) (zA AC 143) (zA AC 144) (zA AC 166) (zA AC 167) (zA AC 168) (zA AC 169) (zA AC 170) (zA AC 171) (zA AC 172) (zA AC 173)) (W.mk Bz B0 B1 B2)) (fun DL =>
 DL (fj7_2 AC (vi Ad) (vi A1) Bw (vi Bx) (vi By) (zA AC 11) (zA AC 12) (zA AC 13) (zA AC 14) (zA AC 15) (zA AC 16) (zA AC 17) (zA AC 18) (vi Ad) (vb A2) (zA AC 96) (zA AC 97) (zA AC 114) (zA AC 115) (zA AC 116) (zA AC 117) (zA AC 118) (zA AC 121) (zA AC 122) (zA AC 125) (zA AC 126) (zA AC 127) (zA AC 128) (zA AC 129) (zA AC 132) (zA AC 133) (zA AC 136) (zA AC 137) (zA AC 138) (zA AC 139) (zA AC 140) (zA AC 143) (zA AC 144) (zA AC 166) (zA AC 167) (zA AC 168) (zA AC 169) (zA AC 170) (zA AC 171) (zA AC 172) (zA AC 173)) (W.mk Bz B0 B1 B2)) (fun AA DM =>
 rtI .i64 (zA AA 0) fun Ae =>
 rtI .i64 (zA AA 1) fun AK =>
 zL (zA AA 6) fun AP =>
 rtI .i64 (zA AA 7) fun AL =>
 rtI .i64 (zA AA 8) fun Af =>
 onW DM fun Ag Ah B4 DN =>
 fb (rU AK AL) fun AI =>
 opt (zF P 43 B4 AP) fun AU =>
 sO L 20 [AU] B4 DN (kp L 7 k (fj7_4 AA (vi Ae) (vi AK) (zA AA 4) AP (vi AL) (vi Af) (zA AA 9) (vb AI) (zA AA 11) (zA AA 12) (zA AA 54) (zA AA 55) (zA AA 56) (zA AA 59) (zA AA 60) (zA AA 61) (zA AA 62) (zA AA 63) (zA AA 64) (zA AA 65) (zA AA 66) (zA AA 67) (zA AA 68) (zA AA 69) (zA AA 70) (zA AA 71) (zA AA 72) (zA AA 73) (zA AA 74) (zA AA 75) (zA AA 76) (zA AA 77) (zA AA 78) (zA AA 79) (zA AA 80) (zA AA 81) (zA AA 82) (zA AA 83) (zA AA 84) (zA AA 85) (zA AA 86) (zA AA 87) (zA AA 88) (zA AA 89) (zA AA 90) (zA AA 91) (zA AA 92) (zA AA 93) (vi AK) (vi AL) (vb AI) AU (zA AA 102) (zA AA 103) (zA AA 104) (zA AA 105) (zA AA 106) (zA AA 107) (zA AA 108) (zA AA 109) (zA AA 110) (zA AA 111) (zA AA 112) (zA AA 113)) Ag Ah) fun Ai A3 B5 =>
 yD ineB P .neq 4 false (.bool Ai) (.bool AI) fun AJ =>
 grd (nt AJ) (fun DR =>
 opt (zF P 43 A3 AP) fun DS =>
 DR A3 B5 DS) (fun B6 B7 Aj =>
 grd (nt AJ) (fun DT =>
 yY L 19 [Aj] B6 B7 (kp L 7 k (fj7_4 AA (vi Ae) (vi AK) (zA AA 4) AP (vi AL) (vi Af) (zA AA 9) (vb AI) (zA AA 11) (zA AA 12) (zA AA 54) (zA AA 55) (zA AA 56) (zA AA 59) (zA AA 60) (zA AA 61) (zA AA 62) (zA AA 63) (zA AA 64) (zA AA 65) (zA AA 66) (zA AA 67) (zA AA 68) (zA AA 69) (zA AA 70) (zA AA 71) (zA AA 72) (zA AA 73) (zA AA 74) (zA AA 75) (zA AA 76) (zA AA 77) (zA AA 78) (zA AA 79) (zA AA 80) (zA AA 81) (zA AA 82) (zA AA 83) (zA AA 84) (zA AA 85) (zA AA 86) (zA AA 87) (zA AA 88) (zA AA 89) (zA AA 90) (zA AA 91) (zA AA 92) (zA AA 93) (vi AK) (vi AL) (vb AI) AU (vb Ai) (vb AI) (vb AJ) (vb AJ) Aj (zA AA 107) (zA AA 108) (zA AA 109) (zA AA 110) (zA AA 111) (zA AA 112) (zA AA 113)) Ag Ah) fun DX DY DZ =>
 DT DY DZ DX) (fun B8 B9 Ar =>
 grd (nt AJ) (fun Da =>
 yD ineB P .neq 9 true Ar (.string (ByteArray.mk #[])) fun Db =>
 Da B8 B9 (.bool Db)) (fun CA CB As =>
 grd (nt AJ) (fun Dc =>
 Dc CA CB (.bool AI)) (fun CC CD At =>
 grd (nt AJ) (fun Dd =>
 yD ineB P .neq 4 false As At fun De =>
 Dd CC CD (.bool De)) (fun A4 A5 Au =>
 xL (.bool AJ) (fun Df =>
 rtB (sel Df (.bool true) Au) fun Av =>
 xL (.bool Av) (fun z147 =>
 br z147 (
 zO P L 7 k .ret (fj7_4 AA (vi Ae) (vi AK) (vb false) AP (vi AL) (vi Af) (zA AA 9) (vb AI) (zA AA 11) (zA AA 12) (zA AA 54) (zA AA 55) (zA AA 56) (zA AA 59) (zA AA 60) (zA AA 61) (zA AA 62) (zA AA 63) (zA AA 64) (zA AA 65) (zA AA 66) (zA AA 67) (zA AA 68) (zA AA 69) (zA AA 70) (zA AA 71) (zA AA 72) (zA AA 73) (zA AA 74) (zA AA 75) (zA AA 76) (zA AA 77) (zA AA 78) (zA AA 79) (zA AA 80) (zA AA 81) (zA AA 82) (zA AA 83) (zA AA 84) (zA AA 85) (zA AA 86) (zA AA 87) (zA AA 88) (zA AA 89) (zA AA 90) (zA AA 91) (zA AA 92) (zA AA 93) (vi AK) (vi AL) (vb AI) AU (vb Ai) (vb AI) (vb AJ) (vb AJ) Aj Ar As At Au (vb Av) (zA AA 112) (zA AA 113)) (W.mk Ag Ah A4 A5)) (
 opt (aUn .not (.bool AI)) fun Dg =>
 rtB Dg fun A6 =>
 xL (.bool A6) (fun z150 =>
 brJ z150 (fun E7 =>
 lp 1000026 ⟨7, none, df⟩ (fj7_4 AA (vi Ae) (vi AK) (zA AA 4) AP (vi AL) (vi Af) (zA AA 9) (vb AI) (.string (ByteArray.mk #[102, 117, 110, 99, 32, 102, 10, 114, 101, 103, 115])) (vi 0) (zA AA 54) (zA AA 55) (zA AA 56) (zA AA 59) (zA AA 60) (zA AA 61) (zA AA 62) (zA AA 63) (zA AA 64) (zA AA 65) (zA AA 66) (zA AA 67) (zA AA 68) (zA AA 69) (zA AA 70) (zA AA 71) (zA AA 72) (zA AA 73) (zA AA 74) (zA AA 75) (zA AA 76) (zA AA 77) (zA AA 78) (zA AA 79) (zA AA 80) (zA AA 81) (zA AA 82) (zA AA 83) (zA AA 84) (zA AA 85) (zA AA 86) (zA AA 87) (zA AA 88) (zA AA 89) (zA AA 90) (zA AA 91) (zA AA 92) (zA AA 93) (vi AK) (vi AL) (vb AI) AU (vb Ai) (vb AI) (vb AJ) (vb AJ) Aj Ar As At Au (vb Av) (vb AI) (vb A6)) (W.mk Ag Ah A4 A5) (endA noK (blkA 3 (fun AG Dh =>
 rtI .i64 (zA AG 0) fun Di =>
 zL (zA AG 6) fun Dj =>
 rtI .i64 (zA AG 7) fun Dk =>
 rtI .i64 (zA AG 8) fun Dl =>
 zL (zA AG 11) fun CE =>
 onW Dh fun Dm Dn Do Dp =>
 qP pC P .add 9 true CE (.string (ByteArray.mk #[10, 112, 97, 114, 97, 109, 115])) fun CF =>
 lp 1000031 ⟨7, none, df⟩ (fj7_1 AG (vi Di) (zA AG 1) Dj (vi Dk) (vi Dl) (zA AG 9) CF (zA AG 12) (vi 0) (zA AG 14) (zA AG 15) (zA AG 54) (zA AG 55) (zA AG 56) (zA AG 57) (zA AG 58) (zA AG 119) (zA AG 120) CE CF (zA AG 130) (zA AG 131) (zA AG 134) (zA AG 135) (zA AG 141) (zA AG 142) (zA AG 153) (zA AG 154) (zA AG 157) (zA AG 158) (zA AG 159) (zA AG 160) (zA AG 161) (zA AG 162) (zA AG 163) (zA AG 164) (zA AG 165)) (W.mk Dm Dn Do Dp) (endA noK (blkA 5 (fun AH Dq =>
 rtI .i64 (zA AH 0) fun Dr =>
 zL (zA AH 6) fun Ds =>
 rtI .i64 (zA AH 7) fun Dt =>
 rtI .i64 (zA AH 8) fun Du =>
 zL (zA AH 11) fun CG =>
 onW Dq fun Dv Dw Dx Dy =>
 qP pC P .add 9 true CG (.string (ByteArray.mk #[10, 114, 101, 115, 117, 108, 116, 32, 103, 10])) fun CH =>
 lp 1000036 ⟨7, none, df⟩ (fj7_1 AH (vi Dr) (zA AH 1) Ds (vi Dt) (vi Du) (zA AH 9) CH (zA AH 12) (zA AH 13) (vi 0) (zA AH 15) (zA AH 54) (zA AH 55) (zA AH 56) (zA AH 57) (zA AH 58) (zA AH 119) (zA AH 120) (zA AH 123) (zA AH 124) (zA AH 130) (zA AH 131) CG CH (zA AH 141) (zA AH 142) (zA AH 153) (zA AH 154) (zA AH 157) (zA AH 158) (zA AH 159) (zA AH 160) (zA AH 161) (zA AH 162) (zA AH 163) (zA AH 164) (zA AH 165)) (W.mk Dv Dw Dx Dy) (endA noK (blkA 7 (fun AF Dz =>
 rtI .i64 (zA AF 0) fun Ak =>
 rtI .i64 (zA AF 7) fun Aw =>
 rtI .i64 (zA AF 8) fun D0 =>
 zL (zA AF 11) fun CI =>
 onW Dz fun CJ CK CL CM =>
 fb (xZ Ak 2) fun A7 =>
 xL (.bool A7) (fun z188 =>
 brJ z188 (fun D1 =>
 fi (wW .i64 (Int.mul 2 Aw)) fun CN =>
 fi (wW .i64 (pC 5 CN)) fun CO =>
 D1 (fj7_1 AF (vi Ak) (zA AF 1) (zA AF 6) (vi Aw) (vi CO) (zA AF 9) CI (zA AF 12) (zA AF 13) (zA AF 14) (zA AF 15) (zA AF 54) (zA AF 55) (zA AF 56) (zA AF 57) (zA AF 58) (zA AF 119) (zA AF 120) (zA AF 123) (zA AF 124) (zA AF 130) (zA AF 131) (zA AF 134) (zA AF 135) (zA AF 141) (zA AF 142) (zA AF 153) (zA AF 154) (vi Ak) (vb A7) (vi Aw) (vi CN) (vi CO) (zA AF 162) (zA AF 163) (zA AF 164) (zA AF 165)) (W.mk CJ CK CL CM)) (fun D2 =>
 D2 (fj7_1 AF (vi Ak) (zA AF 1) (zA AF 6) (vi Aw) (vi D0) (zA AF 9) CI (zA AF 12) (zA AF 13) (zA AF 14) (zA AF 15) (zA AF 54) (zA AF 55) (zA AF 56) (zA AF 57) (zA AF 58) (zA AF 119) (zA AF 120) (zA AF 123) (zA AF 124) (zA AF 130) (zA AF 131) (zA AF 134) (zA AF 135) (zA AF 141) (zA AF 142) (zA AF 153) (zA AF 154) (vi Ak) (vb A7) (zA AF 159) (zA AF 160) (zA AF 161) (zA AF 162) (zA AF 163) (zA AF 164) (zA AF 165)) (W.mk CJ CK CL CM)) (fun AE D3 =>
 rtI .i64 (zA AE 0) fun Al =>
 rtI .i64 (zA AE 7) fun Ax =>
 rtI .i64 (zA AE 8) fun D4 =>
 zL (zA AE 11) fun CP =>
 onW D3 fun CQ CR CS CT =>
 fb (xZ Al 3) fun A8 =>
 xL (.bool A8) (fun z204 =>
 brJ z204 (fun D5 =>
 fi (wW .i64 (pC 6 Ax)) fun CU =>
 D5 (fj7_1 AE (vi Al) (zA AE 1) (zA AE 6) (vi Ax) (vi CU) (zA AE 9) CP (zA AE 12) (zA AE 13) (zA AE 14) (zA AE 15) (zA AE 54) (zA AE 55) (zA AE 56) (zA AE 57) (zA AE 58) (zA AE 119) (zA AE 120) (zA AE 123) (zA AE 124) (zA AE 130) (zA AE 131) (zA AE 134) (zA AE 135) (zA AE 141) (zA AE 142) (zA AE 153) (zA AE 154) (zA AE 157) (zA AE 158) (zA AE 159) (zA AE 160) (zA AE 161) (vi Al) (vb A8) (vi Ax) (vi CU)) (W.mk CQ CR CS CT)) (fun D6 =>
 D6 (fj7_1 AE (vi Al) (zA AE 1) (zA AE 6) (vi Ax) (vi D4) (zA AE 9) CP (zA AE 12) (zA AE 13) (zA AE 14) (zA AE 15) (zA AE 54) (zA AE 55) (zA AE 56) (zA AE 57) (zA AE 58) (zA AE 119) (zA AE 120) (zA AE 123) (zA AE 124) (zA AE 130) (zA AE 131) (zA AE 134) (zA AE 135) (zA AE 141) (zA AE 142) (zA AE 153) (zA AE 154) (zA AE 157) (zA AE 158) (zA AE 159) (zA AE 160) (zA AE 161) (vi Al) (vb A8) (zA AE 164) (zA AE 165)) (W.mk CQ CR CS CT)) (fun AD D7 =>
 rtI .i64 (zA AD 8) fun Ay =>
 zL (zA AD 11) fun AQ =>
 onW D7 fun A9 BA D8 D9 =>
 qP pC P .add 9 true AQ (.string (ByteArray.mk #[101, 110, 100, 10])) fun Az =>
 yY L 22 [Az] D8 D9 (kp L 7 k (fj7_3 AD (zA AD 0) (zA AD 1) (zA AD 6) (zA AD 7) (vi Ay) (zA AD 9) AQ (zA AD 14) AQ Az (zA AD 182) (zA AD 183)) A9 BA) fun AR ED EE =>
 opt (yN 0 AR) fun BB =>
 opt (yN 1 AR) fun EF =>
 rtI .i64 EF fun Am =>
 opt (yN 2 AR) fun EG =>
 rtI .i64 EG fun AS =>
 tH P 43 ED EE fun EH EI BC =>
 zW P 43 BC BB EH EI fun EJ EK E8 =>
 qS L .i64 23 [(.int .i64 AS)] EJ EK (kp L 7 k (fj7_2 AD (zA AD 0) (zA AD 1) (zA AD 6) (zA AD 7) (vi Ay) AQ (zA AD 12) (zA AD 13) (zA AD 14) (zA AD 15) BC (vi Am) (vi AS) (zA AD 94) (zA AD 95) (zA AD 96) (zA AD 97) (zA AD 114) (zA AD 115) (zA AD 116) (zA AD 117) (zA AD 118) (zA AD 121) (zA AD 122) (zA AD 125) (zA AD 126) (zA AD 127) (zA AD 128) (zA AD 129) (zA AD 132) (zA AD 133) (zA AD 136) (zA AD 137) (zA AD 138) (zA AD 139) (zA AD 140) (zA AD 143) (zA AD 144) AR AQ Az AR BB (vi Am) (vi AS) (vi AS)) A9 BA) fun CV CW CX =>
 fb (xZ CV 2) fun AV =>
 grd AV (fun EO =>
 EO CW CX (.int .i64 Am)) (fun CY CZ Ca =>
 grd AV (fun EP =>
 EP CY CZ (.int .i64 Ay)) (fun Cb Cc Cd =>
 grd AV (fun EQ =>
 yD xZ P .eql 3 false Ca Cd fun ER =>
 EQ Cb Cc (.bool ER)) (fun ES ET Ce =>
 xL (.bool AV) (fun EU =>
 rtB (sel EU Ce (.bool false)) fun Cf =>
 zO P L 7 k .ret (fj7_0 AD (zA AD 0) (vb Cf) (zA AD 6) (zA AD 7) (vi Ay) AQ (zA AD 14) (zA AD 15) BC (vi Am) (vi AS) (zA AD 19) (zA AD 20) (zA AD 21) (zA AD 145) (zA AD 146) (zA AD 147) (zA AD 148) (zA AD 149) (zA AD 150) (zA AD 151) (zA AD 152) (zA AD 155) (zA AD 156) AR AQ Az AR BB (vi Am) (vi AS) (vi AS) (vi CV) (vb AV) (vb AV) Ca Cd Ce (vb Cf) (zA AD 181) (zA AD 182) (zA AD 183) (zA AD 184) (zA AD 185) (zA AD 186) (zA AD 187) (zA AD 188) (zA AD 189) (zA AD 190) (zA AD 191) (zA AD 192) (zA AD 193) (zA AD 194) (zA AD 195)) (W.mk A9 BA ES ET)) false) Cb Cc) CY CZ) CW CX)) false)) false) (zO P L 7 k)))) (zO P L 7 k)))) (zO P L 7 k)))) (fun EV =>
 EV (fj7_4 AA (vi Ae) (vi AK) (zA AA 4) AP (vi AL) (vi Af) (zA AA 9) (vb AI) (zA AA 11) (zA AA 12) (zA AA 54) (zA AA 55) (zA AA 56) (zA AA 59) (zA AA 60) (zA AA 61) (zA AA 62) (zA AA 63) (zA AA 64) (zA AA 65) (zA AA 66) (zA AA 67) (zA AA 68) (zA AA 69) (zA AA 70) (zA AA 71) (zA AA 72) (zA AA 73) (zA AA 74) (zA AA 75) (zA AA 76) (zA AA 77) (zA AA 78) (zA AA 79) (zA AA 80) (zA AA 81) (zA AA 82) (zA AA 83) (zA AA 84) (zA AA 85) (zA AA 86) (zA AA 87) (zA AA 88) (zA AA 89) (zA AA 90) (zA AA 91) (zA AA 92) (zA AA 93) (vi AK) (vi AL) (vb AI) AU (vb Ai) (vb AI) (vb AJ) (vb AJ) Aj Ar As At Au (vb Av) (vb AI) (vb A6)) (W.mk Ag Ah A4 A5)) (fun AB EW =>
 zL (zA AB 6) fun AT =>
 onW EW fun An Ao Cg EX =>
 opt (zF P 43 Cg AT) fun AW =>
 yY L 19 [AW] Cg EX (kp L 7 k (fj7_3 AB (zA AB 0) (zA AB 1) AT (zA AB 7) (zA AB 8) (zA AB 9) (zA AB 11) (zA AB 14) (zA AB 167) (zA AB 168) AW (zA AB 183)) An Ao) fun Ap Eb Ec =>
 yY L 22 [Ap] Eb Ec (kp L 7 k (fj7_3 AB (zA AB 0) (zA AB 1) AT (zA AB 7) (zA AB 8) (zA AB 9) (zA AB 11) (zA AB 14) (zA AB 167) (zA AB 168) AW Ap) An Ao) fun AN Eg Eh =>
 opt (yN 0 AN) fun A0 =>
 opt (yN 1 AN) fun Ei =>
 rtI .i64 Ei fun AX =>
 opt (yN 2 AN) fun Ej =>
 rtI .i64 Ej fun AM =>
 tH P 43 Eg Eh fun Ek El Aq =>
 zW P 43 Aq A0 Ek El fun Em En E9 =>
 qS L .i64 23 [(.int .i64 AM)] Em En (kp L 7 k (fj7_0 AB (zA AB 0) (zA AB 4) AT (zA AB 7) (zA AB 8) (zA AB 11) (zA AB 14) (zA AB 15) (zA AB 16) (zA AB 17) (zA AB 18) Aq (vi AX) (vi AM) (zA AB 145) (zA AB 146) (zA AB 147) (zA AB 148) (zA AB 149) (zA AB 150) (zA AB 151) (zA AB 152) (zA AB 155) (zA AB 156) (zA AB 166) (zA AB 167) (zA AB 168) (zA AB 169) (zA AB 170) (zA AB 171) (zA AB 172) (zA AB 173) (zA AB 174) (zA AB 175) (zA AB 176) (zA AB 177) (zA AB 178) (zA AB 179) (zA AB 180) AN AW Ap AN A0 (vi AX) (vi AM) (vi AM) (zA AB 189) (zA AB 190) (zA AB 191) (zA AB 192) (zA AB 193) (zA AB 194) (zA AB 195)) An Ao) fun BD BE Ch =>
 fb (xZ BD 0) fun AO =>
 grd AO (fun Er =>
 opt (zF P 43 BE AT) fun Es =>
 Er BE Ch Es) (fun BF Ci BG =>
 grd AO (fun Et =>
 opt (zF P 43 BF Aq) fun Eu =>
 Et BF Ci Eu) (fun Cj Ck BH =>
 grd AO (fun Ev =>
 sO L 24 [BG, BH] Cj Ck (kp L 7 k (fj7_0 AB (zA AB 0) (zA AB 4) AT (zA AB 7) (zA AB 8) (zA AB 11) (zA AB 14) (zA AB 15) (zA AB 16) (zA AB 17) (zA AB 18) Aq (vi AX) (vi AM) (zA AB 145) (zA AB 146) (zA AB 147) (zA AB 148) (zA AB 149) (zA AB 150) (zA AB 151) (zA AB 152) (zA AB 155) (zA AB 156) (zA AB 166) (zA AB 167) (zA AB 168) (zA AB 169) (zA AB 170) (zA AB 171) (zA AB 172) (zA AB 173) (zA AB 174) (zA AB 175) (zA AB 176) (zA AB 177) (zA AB 178) (zA AB 179) (zA AB 180) AN AW Ap AN A0 (vi AX) (vi AM) (vi AM) (vi BD) (vb AO) (vb AO) BG BH (zA AB 194) (zA AB 195)) An Ao) fun E0 E1 E2 =>
 Ev E1 E2 (.bool E0)) (fun E3 E4 Cl =>
 xL (.bool AO) (fun E5 =>
 rtB (sel E5 Cl (.bool false)) fun Cm =>
 zO P L 7 k .ret (fj7_0 AB (zA AB 0) (vb Cm) AT (zA AB 7) (zA AB 8) (zA AB 11) (zA AB 14) (zA AB 15) (zA AB 16) (zA AB 17) (zA AB 18) Aq (vi AX) (vi AM) (zA AB 145) (zA AB 146) (zA AB 147) (zA AB 148) (zA AB 149) (zA AB 150) (zA AB 151) (zA AB 152) (zA AB 155) (zA AB 156) (zA AB 166) (zA AB 167) (zA AB 168) (zA AB 169) (zA AB 170) (zA AB 171) (zA AB 172) (zA AB 173) (zA AB 174) (zA AB 175) (zA AB 176) (zA AB 177) (zA AB 178) (zA AB 179) (zA AB 180) AN AW Ap AN A0 (vi AX) (vi AM) (vi AM) (vi BD) (vb AO) (vb AO) BG BH Cl (vb Cm)) (W.mk An Ao E3 E4)) false) Cj Ck) BF Ci) BE Ch)) false)) false) false) CC CD) CA CB) B8 B9) B6 B7) A3 B5)) false) (zO P L 7 k))))) false) false) Bc Bd) BZ Ba) false) BW BX) BT BU) false) BQ BR) BN BO) false) BK BL) h2 n3
theorem F7_eq : EY2 7 pA F7 := fun _ _ _ _ _ _ _ _ _ => by kernel_rfl
noncomputable def tE : TYB := fun L lp rd df t w ka =>
 rtI .i64 (zA t 0) fun AH =>
 rtI .i64 (zA t 1) fun AI =>
 zL (zA t 6) fun AB =>
 rtI .i64 (zA t 7) fun AQ =>
 rtI .i64 (zA t 8) fun AR =>
 rtI .i64 (zA t 9) fun AC =>
 onW w fun AL AM AJ AO =>
 fb (wO AC AI) fun AP =>
 xL (.bool AP) (fun z327 =>
 br z327 (
 blkJ (fun A1 =>
 blkJ (fun A2 =>
 fb (xZ AH 0) fun AK =>
 xL (.bool AK) (fun z331 =>
 brJ z331 (fun A3 =>
 opt (zB P 43 1 AB) fun AY =>
 opt (zF P 23 AJ AY) fun AZ =>
 zN P 23 1 [(0, (.string (ByteArray.mk #[103])))] AJ AO fun A4 A5 Aa =>
 xV P [23, 23] [AZ, Aa] A4 A5 fun A6 A7 Ab =>
 opt (zB P 43 1 AB) fun Ac =>
 zW P 23 Ac Ab A6 A7 fun A8 A9 CN =>
 A3 (fj7_4 t (vi AH) (vi AI) (zA t 4) AB (vi AQ) (vi AR) (vi AC) (zA t 10) (zA t 11) (zA t 12) (vi AC) (vi AI) (vb AP) (vi AH) (zA t 60) (zA t 61) (zA t 62) (zA t 63) (zA t 64) (zA t 65) (zA t 66) (zA t 67) (zA t 68) (zA t 69) (vb AK) (vb AK) AY AZ Aa Ab Ac (zA t 77) (zA t 78) (zA t 79) (zA t 80) (zA t 81) (zA t 82) (zA t 83) (zA t 84) (zA t 85) (zA t 86) (zA t 87) (zA t 88) (zA t 89) (zA t 90) (zA t 91) (zA t 92) (zA t 93) (zA t 98) (zA t 99) (zA t 100) (zA t 101) (zA t 102) (zA t 103) (zA t 104) (zA t 105) (zA t 106) (zA t 107) (zA t 108) (zA t 109) (zA t 110) (zA t 111) (zA t 112) (zA t 113)) (W.mk AL AM A8 A9)) (fun BA =>
 fb (xZ AH 1) fun AN =>
 xL (.bool AN) (fun z347 =>
 brJ z347 (fun BB =>
 opt (zB P 43 2 AB) fun Ad =>
 opt (zF P 40 AJ Ad) fun Ae =>
 zN P 40 1 [(0, (.int .i64 AC))] AJ AO fun BC BD Af =>
 xV P [40, 40] [Ae, Af] BC BD fun BE BF Ag =>
 opt (zB P 43 2 AB) fun Ah =>
 zW P 40 Ah Ag BE BF fun BG BH CO =>
 BB (fj7_4 t (vi AH) (vi AI) (zA t 4) AB (vi AQ) (vi AR) (vi AC) (zA t 10) (zA t 11) (zA t 12) (vi AC) (vi AI) (vb AP) (vi AH) (zA t 60) (zA t 61) (zA t 62) (zA t 63) (zA t 64) (zA t 65) (zA t 66) (zA t 67) (zA t 68) (zA t 69) (vb AK) (vb AK) (zA t 72) (zA t 73) (zA t 74) (zA t 75) (zA t 76) (vb AN) (vb AN) Ad Ae (vi AC) Af Ag Ah (zA t 85) (zA t 86) (zA t 87) (zA t 88) (zA t 89) (zA t 90) (zA t 91) (zA t 92) (zA t 93) (zA t 98) (zA t 99) (zA t 100) (zA t 101) (zA t 102) (zA t 103) (zA t 104) (zA t 105) (zA t 106) (zA t 107) (zA t 108) (zA t 109) (zA t 110) (zA t 111) (zA t 112) (zA t 113)) (W.mk AL AM BG BH)) (fun BI =>
 fb (xZ AH 2) fun AS =>
 xL (.bool AS) (fun z363 =>
 brJ z363 (fun BJ =>
 opt (zB P 43 4 AB) fun Ai =>
 opt (zF P 41 AJ Ai) fun Aj =>
 opt (vR P 50 [(0, (.int .i64 9))]) fun Ak =>
 zN P 51 1 [(0, Ak)] AJ AO fun BK BL Al =>
 zN P 41 1 [(0, Al)] BK BL fun BM BN Am =>
 xV P [41, 41] [Aj, Am] BM BN fun BO BP An =>
 opt (zB P 43 4 AB) fun Ao =>
 zW P 41 Ao An BO BP fun BQ BR CP =>
 BJ (fj7_4 t (vi AH) (vi AI) (zA t 4) AB (vi AQ) (vi AR) (vi AC) (zA t 10) (zA t 11) (zA t 12) (vi AC) (vi AI) (vb AP) (vi AH) (zA t 60) (zA t 61) (zA t 62) (zA t 63) (zA t 64) (zA t 65) (zA t 66) (zA t 67) (zA t 68) (zA t 69) (vb AK) (vb AK) (zA t 72) (zA t 73) (zA t 74) (zA t 75) (zA t 76) (vb AN) (vb AN) (zA t 79) (zA t 80) (zA t 81) (zA t 82) (zA t 83) (zA t 84) (vb AS) (vb AS) Ai Aj Ak Al Am An Ao (zA t 98) (zA t 99) (zA t 100) (zA t 101) (zA t 102) (zA t 103) (zA t 104) (zA t 105) (zA t 106) (zA t 107) (zA t 108) (zA t 109) (zA t 110) (zA t 111) (zA t 112) (zA t 113)) (W.mk AL AM BQ BR)) (fun BS =>
 opt (zB P 43 4 AB) fun Ap =>
 opt (zF P 41 AJ Ap) fun Aq =>
 opt (zU P 41 Aq (.int .i64 0)) fun Ar =>
 opt (zF P 51 AJ Ar) fun As =>
 opt (vR P 50 [(0, (.int .i64 9))]) fun At =>
 zN P 51 1 [(0, At)] AJ AO fun BT Au Av =>
 xV P [51, 51] [As, Av] BT Au fun AV AT Aw =>
 gt (Nat.ble Au AT) (
 opt (zB P 43 4 AB) fun AU =>
 opt (zF P 41 AV AU) fun AW =>
 opt (zU P 41 AW (.int .i64 0)) fun Ax =>
 zW P 51 Ax Aw AV AT fun Ay AX CQ =>
 gt (Nat.ble AT AX) (
 gt (lks [(W.mk AL AM Ay AX), (W.mk AL AM AV AT), (W.mk AL AM AJ AO)] [⟨true, (lkQ (fun BU => zF P 41 BU AU) AU AW), 0, 1⟩]) (
 BS (fj7_4 t (vi AH) (vi AI) (zA t 4) AB (vi AQ) (vi AR) (vi AC) (zA t 10) (zA t 11) (zA t 12) (vi AC) (vi AI) (vb AP) (vi AH) AU AW Ap Aq Ar As At Av Aw Ax (vb AK) (vb AK) (zA t 72) (zA t 73) (zA t 74) (zA t 75) (zA t 76) (vb AN) (vb AN) (zA t 79) (zA t 80) (zA t 81) (zA t 82) (zA t 83) (zA t 84) (vb AS) (vb AS) (zA t 87) (zA t 88) (zA t 89) (zA t 90) (zA t 91) (zA t 92) (zA t 93) (zA t 98) (zA t 99) (zA t 100) (zA t 101) (zA t 102) (zA t 103) (zA t 104) (zA t 105) (zA t 106) (zA t 107) (zA t 108) (zA t 109) (zA t 110) (zA t 111) (zA t 112) (zA t 113)) (W.mk AL AM Ay AX))))) (fun AD BV =>
 rtI .i64 (zA AD 0) fun BW =>
 rtI .i64 (zA AD 1) fun BX =>
 zL (zA AD 6) fun BY =>
 rtI .i64 (zA AD 7) fun BZ =>
 rtI .i64 (zA AD 8) fun Ba =>
 rtI .i64 (zA AD 9) fun Bb =>
 onW BV fun Bc Bd Be Bf =>
 BI (fj7_3 AD (vi BW) (vi BX) BY (vi BZ) (vi Ba) (vi Bb) (zA AD 11) (zA AD 14) (zA AD 167) (zA AD 168) (zA AD 182) (zA AD 183)) (W.mk Bc Bd Be Bf))) false) (fun AE Bg =>
 rtI .i64 (zA AE 0) fun Bh =>
 rtI .i64 (zA AE 1) fun Bi =>
 zL (zA AE 6) fun Bj =>
 rtI .i64 (zA AE 7) fun Bk =>
 rtI .i64 (zA AE 8) fun Bl =>
 rtI .i64 (zA AE 9) fun Bm =>
 onW Bg fun Bn Bo Bp Bq =>
 BA (fj7_3 AE (vi Bh) (vi Bi) Bj (vi Bk) (vi Bl) (vi Bm) (zA AE 11) (zA AE 14) (zA AE 167) (zA AE 168) (zA AE 182) (zA AE 183)) (W.mk Bn Bo Bp Bq))) false) (fun AF Br =>
 rtI .i64 (zA AF 0) fun Bs =>
 rtI .i64 (zA AF 1) fun Bt =>
 zL (zA AF 6) fun Bu =>
 rtI .i64 (zA AF 7) fun Bv =>
 rtI .i64 (zA AF 8) fun Bw =>
 rtI .i64 (zA AF 9) fun Bx =>
 onW Br fun By Bz B0 B1 =>
 A2 (fj7_3 AF (vi Bs) (vi Bt) Bu (vi Bv) (vi Bw) (vi Bx) (zA AF 11) (zA AF 14) (zA AF 167) (zA AF 168) (zA AF 182) (zA AF 183)) (W.mk By Bz B0 B1))) false) (fun AG B2 =>
 rtI .i64 (zA AG 0) fun B3 =>
 rtI .i64 (zA AG 1) fun B4 =>
 zL (zA AG 6) fun B5 =>
 rtI .i64 (zA AG 7) fun B6 =>
 rtI .i64 (zA AG 8) fun B7 =>
 rtI .i64 (zA AG 9) fun B8 =>
 onW B2 fun B9 CA CB CC =>
 A1 (fj7_3 AG (vi B3) (vi B4) B5 (vi B6) (vi B7) (vi B8) (zA AG 11) (zA AG 14) (zA AG 167) (zA AG 168) (zA AG 182) (zA AG 183)) (W.mk B9 CA CB CC))) (fun AA CD =>
 rtI .i64 (zA AA 0) fun CE =>
 rtI .i64 (zA AA 1) fun CF =>
 zL (zA AA 6) fun CG =>
 rtI .i64 (zA AA 7) fun CH =>
 rtI .i64 (zA AA 8) fun CI =>
 rtI .i64 (zA AA 9) fun Az =>
 onW CD fun CJ CK CL CM =>
 fi (wW .i64 (pC Az 1)) fun A0 =>
 lp 1000008 ⟨7, rd, df⟩ (fj7_1 AA (vi CE) (vi CF) CG (vi CH) (vi CI) (vi A0) (zA AA 11) (zA AA 12) (zA AA 13) (zA AA 14) (zA AA 15) (zA AA 54) (zA AA 55) (zA AA 56) (vi Az) (vi A0) (zA AA 119) (zA AA 120) (zA AA 123) (zA AA 124) (zA AA 130) (zA AA 131) (zA AA 134) (zA AA 135) (zA AA 141) (zA AA 142) (zA AA 153) (zA AA 154) (zA AA 157) (zA AA 158) (zA AA 159) (zA AA 160) (zA AA 161) (zA AA 162) (zA AA 163) (zA AA 164) (zA AA 165)) (W.mk CJ CK CL CM) ka)) (
 ka (.exit 0) (fj7_1 t (vi AH) (vi AI) AB (vi AQ) (vi AR) (vi AC) (zA t 11) (zA t 12) (zA t 13) (zA t 14) (zA t 15) (vi AC) (vi AI) (vb AP) (zA t 57) (zA t 58) (zA t 119) (zA t 120) (zA t 123) (zA t 124) (zA t 130) (zA t 131) (zA t 134) (zA t 135) (zA t 141) (zA t 142) (zA t 153) (zA t 154) (zA t 157) (zA t 158) (zA t 159) (zA t 160) (zA t 161) (zA t 162) (zA t 163) (zA t 164) (zA t 165)) (W.mk AL AM AJ AO))) false
theorem uD : EYB 7 1000008 pA tE := fun _ _ _ _ _ _ _ => by kernel_rfl
noncomputable def B7_1000026 : TYB := fun L lp rd df t w ka =>
 rtI .i64 (zA t 0) fun AJ =>
 zL (zA t 6) fun AD =>
 rtI .i64 (zA t 7) fun AK =>
 rtI .i64 (zA t 8) fun AL =>
 zL (zA t 11) fun AE =>
 rtI .i64 (zA t 12) fun AB =>
 onW w fun AM AN AC AO =>
 opt (zB P 43 1 AD) fun AF =>
 opt (zF P 23 AC AF) fun AG =>
 opt (yG P .len [23] [AG] AC) fun AS =>
 rtI .i64 AS fun AH =>
 fb (wO AB AH) fun AI =>
 xL (.bool AI) (fun z476 =>
 br z476 (
 blkJ (fun AT =>
 qP pC P .add 9 true AE (.string (ByteArray.mk #[32, 103])) fun AP =>
 AT (fj7_2 t (vi AJ) (zA t 1) AD (vi AK) (vi AL) AP (vi AB) (zA t 13) (zA t 14) (zA t 15) (zA t 16) (zA t 17) (zA t 18) (zA t 94) (zA t 95) (zA t 96) (zA t 97) (vi AB) AF AG (vi AH) (vb AI) AE AP (zA t 125) (zA t 126) (zA t 127) (zA t 128) (zA t 129) (zA t 132) (zA t 133) (zA t 136) (zA t 137) (zA t 138) (zA t 139) (zA t 140) (zA t 143) (zA t 144) (zA t 166) (zA t 167) (zA t 168) (zA t 169) (zA t 170) (zA t 171) (zA t 172) (zA t 173)) (W.mk AM AN AC AO)) (fun AA AU =>
 rtI .i64 (zA AA 0) fun AV =>
 zL (zA AA 6) fun AW =>
 rtI .i64 (zA AA 7) fun AX =>
 rtI .i64 (zA AA 8) fun AY =>
 zL (zA AA 11) fun AZ =>
 rtI .i64 (zA AA 12) fun AQ =>
 onW AU fun Aa Ab Ac Ad =>
 fi (wW .i64 (pC AQ 1)) fun AR =>
 lp 1000026 ⟨7, rd, df⟩ (fj7_1 AA (vi AV) (zA AA 1) AW (vi AX) (vi AY) (zA AA 9) AZ (vi AR) (zA AA 13) (zA AA 14) (zA AA 15) (zA AA 54) (zA AA 55) (zA AA 56) (zA AA 57) (zA AA 58) (vi AQ) (vi AR) (zA AA 123) (zA AA 124) (zA AA 130) (zA AA 131) (zA AA 134) (zA AA 135) (zA AA 141) (zA AA 142) (zA AA 153) (zA AA 154) (zA AA 157) (zA AA 158) (zA AA 159) (zA AA 160) (zA AA 161) (zA AA 162) (zA AA 163) (zA AA 164) (zA AA 165)) (W.mk Aa Ab Ac Ad) ka)) (
 ka (.exit 3) (fj7_2 t (vi AJ) (zA t 1) AD (vi AK) (vi AL) AE (vi AB) (zA t 13) (zA t 14) (zA t 15) (zA t 16) (zA t 17) (zA t 18) (zA t 94) (zA t 95) (zA t 96) (zA t 97) (vi AB) AF AG (vi AH) (vb AI) (zA t 121) (zA t 122) (zA t 125) (zA t 126) (zA t 127) (zA t 128) (zA t 129) (zA t 132) (zA t 133) (zA t 136) (zA t 137) (zA t 138) (zA t 139) (zA t 140) (zA t 143) (zA t 144) (zA t 166) (zA t 167) (zA t 168) (zA t 169) (zA t 170) (zA t 171) (zA t 172) (zA t 173)) (W.mk AM AN AC AO))) false
theorem B7_1000026_eq : EYB 7 1000026 pA B7_1000026 := fun _ _ _ _ _ _ _ => by kernel_rfl
noncomputable def B7_1000031 : TYB := fun L lp rd df t w ka =>
 rtI .i64 (zA t 0) fun AJ =>
 zL (zA t 6) fun AD =>
 rtI .i64 (zA t 7) fun AK =>
 rtI .i64 (zA t 8) fun AL =>
 zL (zA t 11) fun AE =>
 rtI .i64 (zA t 13) fun AB =>
 onW w fun AM AN AC AO =>
 opt (zB P 43 2 AD) fun AF =>
 opt (zF P 40 AC AF) fun AG =>
 opt (yG P .len [40] [AG] AC) fun AS =>
 rtI .i64 AS fun AH =>
 fb (wO AB AH) fun AI =>
 xL (.bool AI) (fun z507 =>
 br z507 (
 blkJ (fun AT =>
 qP pC P .add 9 true AE (.string (ByteArray.mk #[32, 48])) fun AP =>
 AT (fj7_2 t (vi AJ) (zA t 1) AD (vi AK) (vi AL) AP (zA t 12) (vi AB) (zA t 14) (zA t 15) (zA t 16) (zA t 17) (zA t 18) (zA t 94) (zA t 95) (zA t 96) (zA t 97) (zA t 114) (zA t 115) (zA t 116) (zA t 117) (zA t 118) (zA t 121) (zA t 122) (vi AB) AF AG (vi AH) (vb AI) AE AP (zA t 136) (zA t 137) (zA t 138) (zA t 139) (zA t 140) (zA t 143) (zA t 144) (zA t 166) (zA t 167) (zA t 168) (zA t 169) (zA t 170) (zA t 171) (zA t 172) (zA t 173)) (W.mk AM AN AC AO)) (fun AA AU =>
 rtI .i64 (zA AA 0) fun AV =>
 zL (zA AA 6) fun AW =>
 rtI .i64 (zA AA 7) fun AX =>
 rtI .i64 (zA AA 8) fun AY =>
 zL (zA AA 11) fun AZ =>
 rtI .i64 (zA AA 13) fun AQ =>
 onW AU fun Aa Ab Ac Ad =>
 fi (wW .i64 (pC AQ 1)) fun AR =>
 lp 1000031 ⟨7, rd, df⟩ (fj7_1 AA (vi AV) (zA AA 1) AW (vi AX) (vi AY) (zA AA 9) AZ (zA AA 12) (vi AR) (zA AA 14) (zA AA 15) (zA AA 54) (zA AA 55) (zA AA 56) (zA AA 57) (zA AA 58) (zA AA 119) (zA AA 120) (zA AA 123) (zA AA 124) (vi AQ) (vi AR) (zA AA 134) (zA AA 135) (zA AA 141) (zA AA 142) (zA AA 153) (zA AA 154) (zA AA 157) (zA AA 158) (zA AA 159) (zA AA 160) (zA AA 161) (zA AA 162) (zA AA 163) (zA AA 164) (zA AA 165)) (W.mk Aa Ab Ac Ad) ka)) (
 ka (.exit 5) (fj7_2 t (vi AJ) (zA t 1) AD (vi AK) (vi AL) AE (zA t 12) (vi AB) (zA t 14) (zA t 15) (zA t 16) (zA t 17) (zA t 18) (zA t 94) (zA t 95) (zA t 96) (zA t 97) (zA t 114) (zA t 115) (zA t 116) (zA t 117) (zA t 118) (zA t 121) (zA t 122) (vi AB) AF AG (vi AH) (vb AI) (zA t 132) (zA t 133) (zA t 136) (zA t 137) (zA t 138) (zA t 139) (zA t 140) (zA t 143) (zA t 144) (zA t 166) (zA t 167) (zA t 168) (zA t 169) (zA t 170) (zA t 171) (zA t 172) (zA t 173)) (W.mk AM AN AC AO))) false
theorem B7_1000031_eq : EYB 7 1000031 pA B7_1000031 := fun _ _ _ _ _ _ _ => by kernel_rfl
noncomputable def B7_1000036 : TYB := fun L lp rd df t w ka =>
 rtI .i64 (zA t 0) fun AK =>
 zL (zA t 6) fun AE =>
 rtI .i64 (zA t 7) fun AL =>
 rtI .i64 (zA t 8) fun AM =>
 zL (zA t 11) fun AF =>
 rtI .i64 (zA t 14) fun AC =>
 onW w fun AN AO AD AP =>
 opt (zB P 43 4 AE) fun AG =>
 opt (zF P 41 AD AG) fun AH =>
 opt (yG P .len [41] [AH] AD) fun AU =>
 rtI .i64 AU fun AI =>
 fb (wO AC AI) fun AJ =>
 xL (.bool AJ) (fun z538 =>
 br z538 (
 blkJ (fun AQ =>
 qP pC P .add 9 true AF (.string (ByteArray.mk #[98, 108, 111, 99, 107, 10])) fun AR =>
 lp 1000040 ⟨7, rd, df⟩ (fj7_2 t (vi AK) (zA t 1) AE (vi AL) (vi AM) AR (zA t 12) (zA t 13) (vi AC) (vi 0) (zA t 16) (zA t 17) (zA t 18) (zA t 94) (zA t 95) (zA t 96) (zA t 97) (zA t 114) (zA t 115) (zA t 116) (zA t 117) (zA t 118) (zA t 121) (zA t 122) (zA t 125) (zA t 126) (zA t 127) (zA t 128) (zA t 129) (zA t 132) (zA t 133) (vi AC) AG AH (vi AI) (vb AJ) AF AR (zA t 166) (zA t 167) (zA t 168) (zA t 169) (zA t 170) (zA t 171) (zA t 172) (zA t 173)) (W.mk AN AO AD AP) (endA noK (blkA 9 (fun AB AV =>
 rtI .i64 (zA AB 0) fun AW =>
 zL (zA AB 6) fun AX =>
 rtI .i64 (zA AB 7) fun AY =>
 rtI .i64 (zA AB 8) fun AZ =>
 zL (zA AB 11) fun Aa =>
 rtI .i64 (zA AB 14) fun Ab =>
 onW AV fun Ac Ad Ae Af =>
 AQ (fj7_3 AB (vi AW) (zA AB 1) AX (vi AY) (vi AZ) (zA AB 9) Aa (vi Ab) (zA AB 167) (zA AB 168) (zA AB 182) (zA AB 183)) (W.mk Ac Ad Ae Af)) (blkA 8 AQ ka)))) (fun AA Ag =>
 rtI .i64 (zA AA 0) fun Ah =>
 zL (zA AA 6) fun Ai =>
 rtI .i64 (zA AA 7) fun Aj =>
 rtI .i64 (zA AA 8) fun Ak =>
 zL (zA AA 11) fun Al =>
 rtI .i64 (zA AA 14) fun AS =>
 onW Ag fun Am An Ao Ap =>
 fi (wW .i64 (pC AS 1)) fun AT =>
 lp 1000036 ⟨7, rd, df⟩ (fj7_1 AA (vi Ah) (zA AA 1) Ai (vi Aj) (vi Ak) (zA AA 9) Al (zA AA 12) (zA AA 13) (vi AT) (zA AA 15) (zA AA 54) (zA AA 55) (zA AA 56) (zA AA 57) (zA AA 58) (zA AA 119) (zA AA 120) (zA AA 123) (zA AA 124) (zA AA 130) (zA AA 131) (zA AA 134) (zA AA 135) (vi AS) (vi AT) (zA AA 153) (zA AA 154) (zA AA 157) (zA AA 158) (zA AA 159) (zA AA 160) (zA AA 161) (zA AA 162) (zA AA 163) (zA AA 164) (zA AA 165)) (W.mk Am An Ao Ap) ka)) (
 ka (.exit 7) (fj7_2 t (vi AK) (zA t 1) AE (vi AL) (vi AM) AF (zA t 12) (zA t 13) (vi AC) (zA t 15) (zA t 16) (zA t 17) (zA t 18) (zA t 94) (zA t 95) (zA t 96) (zA t 97) (zA t 114) (zA t 115) (zA t 116) (zA t 117) (zA t 118) (zA t 121) (zA t 122) (zA t 125) (zA t 126) (zA t 127) (zA t 128) (zA t 129) (zA t 132) (zA t 133) (vi AC) AG AH (vi AI) (vb AJ) (zA t 143) (zA t 144) (zA t 166) (zA t 167) (zA t 168) (zA t 169) (zA t 170) (zA t 171) (zA t 172) (zA t 173)) (W.mk AN AO AD AP))) false
theorem B7_1000036_eq : EYB 7 1000036 pA B7_1000036 := fun _ _ _ _ _ _ _ => by kernel_rfl
noncomputable def B7_1000040 : TYB := fun L lp rd df t w ka =>
 rtI .i64 (zA t 0) fun AM =>
 zL (zA t 6) fun AE =>
 rtI .i64 (zA t 7) fun AN =>
 rtI .i64 (zA t 8) fun AO =>
 zL (zA t 11) fun AF =>
 rtI .i64 (zA t 14) fun AB =>
 rtI .i64 (zA t 15) fun AC =>
 onW w fun AP AQ AD AR =>
 opt (zB P 43 4 AE) fun AG =>
 opt (zF P 41 AD AG) fun AH =>
 opt (zU P 41 AH (.int .i64 AB)) fun AI =>
 opt (zF P 51 AD AI) fun AJ =>
 opt (yG P .len [51] [AJ] AD) fun AV =>
 rtI .i64 AV fun AK =>
 fb (wO AC AK) fun AL =>
 xL (.bool AL) (fun z584 =>
 br z584 (
 blkJ (fun AW =>
 qP pC P .add 9 true AF (.string (ByteArray.mk #[32, 32, 114, 101, 116, 32, 48, 10])) fun AS =>
 AW (fj7_0 t (vi AM) (zA t 4) AE (vi AN) (vi AO) AS (vi AB) (vi AC) (zA t 16) (zA t 17) (zA t 18) (zA t 19) (zA t 20) (zA t 21) (vi AC) AG AH (vi AB) AI AJ (vi AK) (vb AL) AF AS (zA t 166) (zA t 167) (zA t 168) (zA t 169) (zA t 170) (zA t 171) (zA t 172) (zA t 173) (zA t 174) (zA t 175) (zA t 176) (zA t 177) (zA t 178) (zA t 179) (zA t 180) (zA t 181) (zA t 182) (zA t 183) (zA t 184) (zA t 185) (zA t 186) (zA t 187) (zA t 188) (zA t 189) (zA t 190) (zA t 191) (zA t 192) (zA t 193) (zA t 194) (zA t 195)) (W.mk AP AQ AD AR)) (fun AA AX =>
 rtI .i64 (zA AA 0) fun AY =>
 zL (zA AA 6) fun AZ =>
 rtI .i64 (zA AA 7) fun Aa =>
 rtI .i64 (zA AA 8) fun Ab =>
 zL (zA AA 11) fun Ac =>
 rtI .i64 (zA AA 14) fun Ad =>
 rtI .i64 (zA AA 15) fun AT =>
 onW AX fun Ae Af Ag Ah =>
 fi (wW .i64 (pC AT 1)) fun AU =>
 lp 1000040 ⟨7, rd, df⟩ (fj7_1 AA (vi AY) (zA AA 1) AZ (vi Aa) (vi Ab) (zA AA 9) Ac (zA AA 12) (zA AA 13) (vi Ad) (vi AU) (zA AA 54) (zA AA 55) (zA AA 56) (zA AA 57) (zA AA 58) (zA AA 119) (zA AA 120) (zA AA 123) (zA AA 124) (zA AA 130) (zA AA 131) (zA AA 134) (zA AA 135) (zA AA 141) (zA AA 142) (vi AT) (vi AU) (zA AA 157) (zA AA 158) (zA AA 159) (zA AA 160) (zA AA 161) (zA AA 162) (zA AA 163) (zA AA 164) (zA AA 165)) (W.mk Ae Af Ag Ah) ka)) (
 ka (.exit 9) (fj7_0 t (vi AM) (zA t 4) AE (vi AN) (vi AO) AF (vi AB) (vi AC) (zA t 16) (zA t 17) (zA t 18) (zA t 19) (zA t 20) (zA t 21) (vi AC) AG AH (vi AB) AI AJ (vi AK) (vb AL) (zA t 155) (zA t 156) (zA t 166) (zA t 167) (zA t 168) (zA t 169) (zA t 170) (zA t 171) (zA t 172) (zA t 173) (zA t 174) (zA t 175) (zA t 176) (zA t 177) (zA t 178) (zA t 179) (zA t 180) (zA t 181) (zA t 182) (zA t 183) (zA t 184) (zA t 185) (zA t 186) (zA t 187) (zA t 188) (zA t 189) (zA t 190) (zA t 191) (zA t 192) (zA t 193) (zA t 194) (zA t 195)) (W.mk AP AQ AD AR))) false
theorem B7_1000040_eq : EYB 7 1000040 pA B7_1000040 := fun _ _ _ _ _ _ _ => by kernel_rfl
theorem l7 : xD P 7 = true := by kernel_rfl
theorem r7 : wF P 7 = some [.tmp 4] := by kernel_rfl
theorem tB : uM (xC P 7 1000008) = true := by kernel_rfl
theorem lp7_1000026 : uM (xC P 7 1000026) = true := by kernel_rfl
theorem lp7_1000031 : uM (xC P 7 1000031) = true := by kernel_rfl
theorem lp7_1000036 : uM (xC P 7 1000036) = true := by kernel_rfl
theorem lp7_1000040 : uM (xC P 7 1000040) = true := by kernel_rfl
open Go.Ex Go.Ex.Vir
set_option maxRecDepth 100000
theorem yS (p : Addr) : qQ (.pointer (some p)) = some (.pointer (some p)) := rfl
abbrev ptr (b off : Nat) : Value := .pointer (some ⟨b, off, none⟩)
abbrev tI (e : Int) : zX := [⟨.iface 191 (.agg ⟨[.int .i64 e]⟩), false, false⟩]
abbrev I64 (x : Int) : Value := .int .i64 x
def WordsAt (lo hi n : Nat) (h : zG) (b : Nat) (ws : List Tx) : Prop := lo ≤ b ∧ (b < hi ∧ hi ≤ n) ∧ ws.length < 100000 ∧ (∀ s ∈ ws, s.length < 1000000) ∧ ∃ sv, Cel h b 0 [sv] ∧ Row n h sv 9 1 ws.length (ws.map str) ∧ ∀ x, xK sv = some x → lo ≤ x ∧ x < hi ∧ x ≠ b
theorem WordsAt.touch {lo hi n n' b : Nat} {h h' : zG} {ws : List Tx} {S : List Nat} (w : WordsAt lo hi n h b ws) (t : TouchE S h n h' n') (hS : ∀ x ∈ S, x < lo ∨ hi ≤ x) : WordsAt lo hi n' h' b ws := by
 obtain ⟨h1, h2, h2b, h2c, sv, h3, h4, h5⟩ := w;refine ⟨h1, ⟨h2.1, Nat.le_trans h2.2 t.1⟩, h2b, h2c, sv, h3.touch t (Nat.lt_of_lt_of_le h2.1 h2.2) (fun hb => ?_), h4.touch t (fun x hx hxS => ?_), h5⟩
 · rcases hS b hb with h9 | h9 <;> omega
 · have h7 := h5 x hx;rcases hS x hxS with h9 | h9 <;> omega
def RQ {α : Type} (lo hi w : Nat) (h : zG) (n : Nat) (r : Res α) (V : α → Value → Prop) : Out → zG → Nat → Prop := fun o h' n' => TouchE [w] h n h' n' ∧
 match r with
 | .ok (a, ws) => ∃ v, o = .ret v ∧ V a v ∧ WordsAt lo hi n' h' w ws
 | .error e => o = .panic (tI e)
theorem need_comes (b : Bool) (e : Int) (h : zG) (n : Nat) : ComesE P 8 120 [.bool b, I64 e] h n fun o h' n' => h' = h ∧ n' = n ∧ o = (bif b then .ret (.tuple ⟨[]⟩) else .panic (tI e)) := by
 refine yR zM mixed (hint := hint120) l120 fun u k hk => ?_;rw [F120_eq];unfold F120;have e1 : vR P 191 [(0, .int .i64 e)] = some (.agg ⟨[.int .i64 e]⟩) := by kernel_rfl
 have e2 : qMakeIface P 191 (.agg ⟨[.int .i64 e]⟩) = some (.iface 191 (.agg ⟨[.int .i64 e]⟩)) := by kernel_rfl
 cases b
 · repeat' (first
    | exact yT r120 (hk _ _ _ ⟨rfl, rfl, rfl⟩)
    | with_reducible first | refine sD (fun _ => ?_) (fun _ => ?_) | refine sE (fun _ => ?_) (fun _ => ?_) | refine vY (fun _ => ?_) (fun _ => ?_) | refine vZ (fun _ => ?_) (fun _ => ?_) | refine vS (fun _ => ?_) (fun _ => ?_) | refine vT (fun _ => ?_) (fun _ => ?_) | refine vU (fun _ => ?_) (fun _ => ?_) | refine vV (fun _ => ?_) (fun _ => ?_) | refine vW (fun _ => ?_) (fun _ => ?_) | refine vX (fun _ => ?_) (fun _ => ?_)
    | simp only [↓zE, ↓zJ, ↓zD, ↓zC, ↓xG, ↓xB, ↓zI, ↓yZ, ↓xW, ↓uK, ↓uS, ↓tJ, ↓xF, ↓xP, ↓pJ, ↓qU, ↓wH, ↓xM, ↓xN, ↓yU, ↓xR, ↓xX, ↓xS, ↓zP, ↓yH, ↓zQ, ↓yI, Bool.not_true, Bool.not_false, yV, yB,  ↓e1, ↓e2, ePanic, brJ])
 · repeat' (first
    | exact qT r120 (hk _ _ _ ⟨rfl, rfl, rfl⟩)
    | with_reducible first | refine sD (fun _ => ?_) (fun _ => ?_) | refine sE (fun _ => ?_) (fun _ => ?_) | refine vY (fun _ => ?_) (fun _ => ?_) | refine vZ (fun _ => ?_) (fun _ => ?_) | refine vS (fun _ => ?_) (fun _ => ?_) | refine vT (fun _ => ?_) (fun _ => ?_) | refine vU (fun _ => ?_) (fun _ => ?_) | refine vV (fun _ => ?_) (fun _ => ?_) | refine vW (fun _ => ?_) (fun _ => ?_) | refine vX (fun _ => ?_) (fun _ => ?_)
    | simp only [↓zE, ↓zJ, ↓zD, ↓zC, ↓xG, ↓xB, ↓zI, ↓yZ, ↓xW, ↓uK, ↓uS, ↓tJ, ↓xF, ↓xP, ↓pJ, ↓qU, ↓wH, ↓xM, ↓xN, ↓yU, ↓xR, ↓xX, ↓xS, ↓zP, ↓yH, ↓zQ, ↓yI, Bool.not_true, Bool.not_false, yV, yB,  brJ])
theorem yC {b : Bool} {e : Int} {h : zG} {n : Nat} {Kp : KC} {K : Value → zG → Nat → Bool} (ht : b = true → K (.tuple ⟨[]⟩) h n = true) (hf : b = false → Kp (tI e) h n = true) : yY (loS P 8) 120 [.bool b, I64 e] h n Kp K = true := by
 refine yX (need_comes b e h n) (fun v h' n' q => ?_) (fun c h' n' q => ?_)
 · obtain ⟨rfl, rfl, q⟩ := q
   cases b with
   | true => injection q with q; subst q; exact ht rfl
   | false => cases q
 · obtain ⟨rfl, rfl, q⟩ := q
   cases b with
   | true => cases q
   | false => injection q with q; subst q; exact hf rfl
theorem len_pure {lo hi n b : Nat} {h : zG} {ws : List Tx} (w : WordsAt lo hi n h b ws) : Pure P 8 154 [ptr b 0] h n (I64 (ws.length : Nat)) := by
 obtain ⟨h1, h2, h2b, h2c, sv, h3, h4, h5⟩ := w;refine yQ zM mixed (hint := hq0) l154 fun u k hk => ?_;rw [F154_eq];unfold F154;have e1 : zF P 23 h (ptr b 0) = some sv := zH h3 sh23 rfl;have e2 := xI (P := P) us23 h4 [] h
 repeat' (first
  | exact yP r154 rfl (hk _ _ _ ⟨rfl, rfl, rfl⟩)
  | with_reducible first | refine sD (fun _ => ?_) (fun _ => ?_) | refine sE (fun _ => ?_) (fun _ => ?_) | refine vY (fun _ => ?_) (fun _ => ?_) | refine vZ (fun _ => ?_) (fun _ => ?_) | refine vS (fun _ => ?_) (fun _ => ?_) | refine vT (fun _ => ?_) (fun _ => ?_) | refine vU (fun _ => ?_) (fun _ => ?_) | refine vV (fun _ => ?_) (fun _ => ?_) | refine vW (fun _ => ?_) (fun _ => ?_) | refine vX (fun _ => ?_) (fun _ => ?_)
  | simp only [↓zE, ↓zJ, ↓zD, ↓zC, ↓xG, ↓xB, ↓zI, ↓yZ, ↓xW, ↓uK, ↓uS, ↓tJ, ↓xF, ↓xP, ↓pJ, ↓qU, ↓wH, ↓xM, ↓xN, ↓yU, ↓xR, ↓xX, ↓xS, ↓zP, ↓yH, ↓zQ, ↓yI, Bool.not_true, Bool.not_false, yV, yB,  ↓yS, ↓fa189_0, ↓e1, ↓e2])
theorem peek_pure {lo hi n b : Nat} {h : zG} {ws : List Tx} (w : WordsAt lo hi n h b ws) : Pure P 8 156 [ptr b 0, I64 1] h n (str (wordAt1 ws)) := by
 obtain ⟨h1, h2, h2b, h2c, sv, h3, h4, h5⟩ := w;refine yQ zM mixed (hint := hint156) l156 fun u k hk => ?_;rw [F156_eq];unfold F156;have e1 : zF P 23 h (ptr b 0) = some sv := zH h3 sh23 rfl;have e2 := xI (P := P) us23 h4 [] h;by_cases hl : 1 < ws.length
 · have e3 : rU (ws.length : Nat) 1 = false := by rw [vF]; exact decide_eq_false (by omega)
   obtain ⟨p, q1, q2⟩ := xU (P := P) (k := .i64) h4 ix23 (tl := 9) sh9 (i := 1) (x := str ws[1]) (by rw [List.getElem?_map, List.getElem?_eq_getElem hl]; rfl);rw [show wordAt1 ws = ws[1] from by unfold wordAt1; rw [List.getElem?_eq_getElem hl]; rfl] at hk;have q1' : zU P 23 sv (.int .i64 1) = some p := q1
   repeat' (first
    | exact yP r156 rfl (hk _ _ _ ⟨rfl, rfl, rfl⟩)
    | with_reducible first | refine sD (fun _ => ?_) (fun _ => ?_) | refine sE (fun _ => ?_) (fun _ => ?_) | refine vY (fun _ => ?_) (fun _ => ?_) | refine vZ (fun _ => ?_) (fun _ => ?_) | refine vS (fun _ => ?_) (fun _ => ?_) | refine vT (fun _ => ?_) (fun _ => ?_) | refine vU (fun _ => ?_) (fun _ => ?_) | refine vV (fun _ => ?_) (fun _ => ?_) | refine vW (fun _ => ?_) (fun _ => ?_) | refine vX (fun _ => ?_) (fun _ => ?_)
    | simp only [↓zE, ↓zJ, ↓zD, ↓zC, ↓xG, ↓xB, ↓zI, ↓yZ, ↓xW, ↓uK, ↓uS, ↓tJ, ↓xF, ↓xP, ↓pJ, ↓qU, ↓wH, ↓xM, ↓xN, ↓yU, ↓xR, ↓xX, ↓xS, ↓zP, ↓yH, ↓zQ, ↓yI, Bool.not_true, Bool.not_false, yV, yB,  ↓yS, ↓fa189_0, ↓e1, ↓e2, ↓e3, ↓zY, ↓q1', ↓q2])
 · have e3 : rU (ws.length : Nat) 1 = true := by rw [vF]; exact decide_eq_true (by omega)
   rw [show wordAt1 ws = [] from by unfold wordAt1; rw [List.getElem?_eq_none (by omega)]; rfl] at hk
   repeat' (first
    | exact yP r156 rfl (hk _ _ _ ⟨rfl, rfl, rfl⟩)
    | with_reducible first | refine sD (fun _ => ?_) (fun _ => ?_) | refine sE (fun _ => ?_) (fun _ => ?_) | refine vY (fun _ => ?_) (fun _ => ?_) | refine vZ (fun _ => ?_) (fun _ => ?_) | refine vS (fun _ => ?_) (fun _ => ?_) | refine vT (fun _ => ?_) (fun _ => ?_) | refine vU (fun _ => ?_) (fun _ => ?_) | refine vV (fun _ => ?_) (fun _ => ?_) | refine vW (fun _ => ?_) (fun _ => ?_) | refine vX (fun _ => ?_) (fun _ => ?_)
    | simp only [↓zE, ↓zJ, ↓zD, ↓zC, ↓xG, ↓xB, ↓zI, ↓yZ, ↓xW, ↓uK, ↓uS, ↓tJ, ↓xF, ↓xP, ↓pJ, ↓qU, ↓wH, ↓xM, ↓xN, ↓yU, ↓xR, ↓xX, ↓xS, ↓zP, ↓yH, ↓zQ, ↓yI, Bool.not_true, Bool.not_false, yV, yB,  ↓yS, ↓fa189_0, ↓e1, ↓e2, ↓e3, ↓zY])
theorem next_comes {lo hi n b : Nat} {h : zG} {ws : List Tx} (w : WordsAt lo hi n h b ws) : ComesE P 8 153 [ptr b 0] h n (RQ lo hi b h n (nextW ws) fun s v => v = str s) := by
 obtain ⟨h1, h2, h2b, h2c, sv, h3, h4, h5⟩ := w;refine yR zM mixed (hint := hq0) l153 fun u k hk => ?_;rw [F153_eq];unfold F153;have e1 : zF P 23 h (ptr b 0) = some sv := zH h3 sh23 rfl;have e2 := xI (P := P) us23 h4 [] h
 cases ws with
 | nil =>
  have e3 : wO 0 (([] : List Tx).length : Nat) = false := rfl
  repeat' (first
   | refine yC (fun e => by cases e) (fun _ => yT r153 (hk _ _ _ ⟨TouchE.refl _ _ _, rfl⟩))
   | with_reducible first | refine sD (fun _ => ?_) (fun _ => ?_) | refine sE (fun _ => ?_) (fun _ => ?_) | refine vY (fun _ => ?_) (fun _ => ?_) | refine vZ (fun _ => ?_) (fun _ => ?_) | refine vS (fun _ => ?_) (fun _ => ?_) | refine vT (fun _ => ?_) (fun _ => ?_) | refine vU (fun _ => ?_) (fun _ => ?_) | refine vV (fun _ => ?_) (fun _ => ?_) | refine vW (fun _ => ?_) (fun _ => ?_) | refine vX (fun _ => ?_) (fun _ => ?_)
   | simp only [↓zE, ↓zJ, ↓zD, ↓zC, ↓xG, ↓xB, ↓zI, ↓yZ, ↓xW, ↓uK, ↓uS, ↓tJ, ↓xF, ↓xP, ↓pJ, ↓qU, ↓wH, ↓xM, ↓xN, ↓yU, ↓xR, ↓xX, ↓xS, ↓zP, ↓yH, ↓zQ, ↓yI, Bool.not_true, Bool.not_false, yV, yB,  ↓yS, ↓fa189_0, ↓e1, ↓e2, ↓e3, ↓zY])
 | cons s r =>
  have e3 : wO 0 ((s :: r).length : Nat) = true := by rw [zV]; exact decide_eq_true (by simp)
  obtain ⟨p, q1, q2⟩ := xU (P := P) (k := .i64) h4 ix23 (tl := 9) sh9 (i := 0) (x := str s) rfl;have q1' : zU P 23 sv (.int .i64 0) = some p := q1;obtain ⟨sv', p1, p2, p3⟩ := slice_fromI (P := P) (ty := 23) us23 in23 h4 (k := .i64) (i := 1) (by simp);have p1' : rD P h 23 sv (some (.int .i64 1)) none none = some sv' := p1;have p4 : sv'.oneCell' = true := p2.one
  repeat' (first
   | refine yC (fun _ => ?_) (fun e => by cases e)
   | refine xH h3 sh23 (by simp) p4 (fun h' c1 c2 => ?_)
   | refine yP r153 (v := str s) rfl (hk _ _ _ ⟨zS c2 (by simp), _, rfl, rfl, h1, h2, ?_, fun x hx => h2c x (List.mem_cons_of_mem _ hx), sv', c1, ?_, ?_⟩)
   | with_reducible first | refine sD (fun _ => ?_) (fun _ => ?_) | refine sE (fun _ => ?_) (fun _ => ?_) | refine vY (fun _ => ?_) (fun _ => ?_) | refine vZ (fun _ => ?_) (fun _ => ?_) | refine vS (fun _ => ?_) (fun _ => ?_) | refine vT (fun _ => ?_) (fun _ => ?_) | refine vU (fun _ => ?_) (fun _ => ?_) | refine vV (fun _ => ?_) (fun _ => ?_) | refine vW (fun _ => ?_) (fun _ => ?_) | refine vX (fun _ => ?_) (fun _ => ?_)
   | simp only [↓zE, ↓zJ, ↓zD, ↓zC, ↓xG, ↓xB, ↓zI, ↓yZ, ↓xW, ↓uK, ↓uS, ↓tJ, ↓xF, ↓xP, ↓pJ, ↓qU, ↓wH, ↓xM, ↓xN, ↓yU, ↓xR, ↓xX, ↓xS, ↓zP, ↓yH, ↓zQ, ↓yI, Bool.not_true, Bool.not_false, yV, yB,  ↓yS, ↓fa189_0, ↓e1, ↓e2, ↓e3, ↓zY, ↓q1', ↓q2, ↓p1'])
  · simp at h2b; omega
  · have p5 : Row n h sv' 9 1 r.length (r.map str) := by simpa using p2
    exact p5.touch (zS c2 (S := [b]) (by simp)) fun x hx => by
     have := (h5 x (by rw [← p3]; exact hx)).2.2;simp; exact this
  · intro x hx;exact h5 x (by rw [← p3]; exact hx)
open Go.Ex Go.Ex.Vir Go.RowKit
structure Env (m : Int) (h : zG) : Prop where
 tabs : TabsH (tb m) h
 syn : ErrH h 2
 rng : ErrH h 3
theorem Env.touch {m : Int} {h h' : zG} {n n' : Nat} {S : List Nat} (e : Env m h) (t : TouchE S h n h' n') (hn : 8 ≤ n) (hS : ∀ x ∈ S, 8 ≤ x) : Env m h' := by
 refine ⟨e.tabs.touch t (fun p hp => Nat.lt_of_lt_of_le (tb_ok m p hp).1 hn) (fun p hp hx => ?_), e.syn.touch t (by omega) (fun hx => ?_), e.rng.touch t (by omega) (fun hx => ?_)⟩
 · have := (tb_ok m p hp).1;have := hS _ hx;omega
 · have := hS _ hx; omega
 · have := hS _ hx; omega
theorem letter_pure (c : Int) (h : zG) (n : Nat) : Pure P 8 110 [.int .u8 c] h n (.bool (letter c)) := by
 refine yQ zM mixed (hint := hint110) l110 fun u k hk => ?_;rw [F110_eq];unfold F110
 repeat' (first
  | refine yP r110 (v := .bool _) rfl (hk _ _ _ ⟨congrArg Value.bool ?_, rfl, rfl⟩)
  | with_reducible first | refine sD (fun _ => ?_) (fun _ => ?_) | refine sE (fun _ => ?_) (fun _ => ?_) | refine vY (fun _ => ?_) (fun _ => ?_) | refine vZ (fun _ => ?_) (fun _ => ?_) | refine vS (fun _ => ?_) (fun _ => ?_) | refine vT (fun _ => ?_) (fun _ => ?_) | refine vU (fun _ => ?_) (fun _ => ?_) | refine vV (fun _ => ?_) (fun _ => ?_) | refine vW (fun _ => ?_) (fun _ => ?_) | refine vX (fun _ => ?_) (fun _ => ?_)
  | simp only [↓zE, ↓zJ, ↓zD, ↓zC, ↓xG, ↓xB, ↓zI, ↓yZ, ↓xW, ↓uK, ↓uS, ↓tJ, ↓xF, ↓xP, ↓pJ, ↓qU, ↓wH, ↓xM, ↓xN, ↓yU, ↓xR, ↓xX, ↓xS, ↓zP, ↓yH, ↓zQ, ↓yI, Bool.not_true, Bool.not_false, yV, yB])
 all_goals (unfold letter; first | exact (decide_eq_true (by omega)).symm | exact (decide_eq_false (by omega)).symm)
theorem digit_pure (c : Int) (h : zG) (n : Nat) : Pure P 8 111 [.int .u8 c] h n (.bool (digit c)) := by
 refine yQ zM mixed (hint := hint111) l111 fun u k hk => ?_;rw [F111_eq];unfold F111
 repeat' (first
  | refine yP r111 (v := .bool _) rfl (hk _ _ _ ⟨congrArg Value.bool ?_, rfl, rfl⟩)
  | with_reducible first | refine sD (fun _ => ?_) (fun _ => ?_) | refine sE (fun _ => ?_) (fun _ => ?_) | refine vY (fun _ => ?_) (fun _ => ?_) | refine vZ (fun _ => ?_) (fun _ => ?_) | refine vS (fun _ => ?_) (fun _ => ?_) | refine vT (fun _ => ?_) (fun _ => ?_) | refine vU (fun _ => ?_) (fun _ => ?_) | refine vV (fun _ => ?_) (fun _ => ?_) | refine vW (fun _ => ?_) (fun _ => ?_) | refine vX (fun _ => ?_) (fun _ => ?_)
  | simp only [↓zE, ↓zJ, ↓zD, ↓zC, ↓xG, ↓xB, ↓zI, ↓yZ, ↓xW, ↓uK, ↓uS, ↓tJ, ↓xF, ↓xP, ↓pJ, ↓qU, ↓wH, ↓xM, ↓xN, ↓yU, ↓xR, ↓xX, ↓xS, ↓zP, ↓yH, ↓zQ, ↓yI, Bool.not_true, Bool.not_false, yV, yB])
 all_goals (unfold digit; first | exact (decide_eq_true (by omega)).symm | exact (decide_eq_false (by omega)).symm)
theorem named_loop (s : Tx) (h : zG) (n : Nat) (d : List Deferred) (u : Option zX) (ka : KX) (hs : s.length < 1000) : ∀ (m i : Nat), m + i = s.length → ∀ t, zA t 0 = str s → zA t 18 = .int .i64 (s.length : Nat) → zA t 19 = .int .i64 i →
 ((s.drop i).all nameB = true → ∀ t', ka (.exit 0) t' ⟨d, u, h, n⟩ = true) → ((s.drop i).all nameB = false → ∀ t', zA t' 2 = .bool false → ka .ret t' ⟨d, u, h, n⟩ = true) →
 lpS P 8 1000004 ⟨58, none, false⟩ t ⟨d, u, h, n⟩ ka = true := by
 intro m
 induction m with
 | zero =>
  intro i hi t h0 h18 h19 hE hR;refine yO zM mixed (hint := hint58) l58 lp58_1000004 ?_;rw [B58_1000004_eq];unfold B58_1000004;rw [h0, h18, h19]
  repeat' (first
   | omega
   | with_reducible first | refine sD (fun _ => ?_) (fun _ => ?_) | refine sE (fun _ => ?_) (fun _ => ?_) | refine vY (fun _ => ?_) (fun _ => ?_) | refine vZ (fun _ => ?_) (fun _ => ?_) | refine vS (fun _ => ?_) (fun _ => ?_) | refine vT (fun _ => ?_) (fun _ => ?_) | refine vU (fun _ => ?_) (fun _ => ?_) | refine vV (fun _ => ?_) (fun _ => ?_) | refine vW (fun _ => ?_) (fun _ => ?_) | refine vX (fun _ => ?_) (fun _ => ?_)
   | simp only [↓zE, ↓zJ, ↓zD, ↓zC, ↓xG, ↓xB, ↓zI, ↓yZ, ↓xW, ↓uK, ↓uS, ↓tJ, ↓xF, ↓xP, ↓pJ, ↓qU, ↓wH, ↓xM, ↓xN, ↓yU, ↓xR, ↓xX, ↓xS, ↓zP, ↓yH, ↓zQ, ↓yI, Bool.not_true, Bool.not_false, yV, yB])
  refine hE ?_ _;rw [List.drop_eq_nil_of_le (by omega)]; rfl
 | succ m ih =>
  intro i hi t h0 h18 h19 hE hR;have hlt : i < s.length := by omega
  have hx : s[i]? = some (s[i]) := List.getElem?_eq_getElem hlt;have hd : s.drop i = s[i] :: s.drop (i + 1) := List.drop_eq_getElem_cons hlt;refine yO zM mixed (hint := hint58) l58 lp58_1000004 ?_;rw [B58_1000004_eq];unfold B58_1000004;rw [h0, h18, h19];generalize s[i] = c at hx hd
  rw [hd] at hE hR;have hix : pM P 9 (str s) (.int .i64 i) = some (.int .u8 (c.toNat : Nat)) := index_strL us9 s .i64 i c hx;cases hl : letter c.toNat <;> cases hdg : digit c.toNat
  all_goals
   have ea : (c :: s.drop (i + 1)).all nameB = ((letter c.toNat || digit c.toNat) && (s.drop (i + 1)).all nameB) := rfl;rw [ea, hl, hdg] at hE hR;have pl : Pure P 8 110 [.int .u8 (c.toNat : Nat)] h n (.bool _) := letter_pure _ h n;have pd : Pure P 8 111 [.int .u8 (c.toNat : Nat)] h n (.bool _) := digit_pure _ h n;rw [hl] at pl;rw [hdg] at pd
   repeat' (first
    | with_reducible refine yK pl ?_
    | with_reducible refine yK pd ?_
    | exact hR rfl _ rfl
    | exact ih (i + 1) (by omega) _ rfl rfl rfl hE hR
    | omega
    | with_reducible refine uH (by omega) ?_
    | with_reducible first | refine sD (fun _ => ?_) (fun _ => ?_) | refine sE (fun _ => ?_) (fun _ => ?_) | refine vY (fun _ => ?_) (fun _ => ?_) | refine vZ (fun _ => ?_) (fun _ => ?_) | refine vS (fun _ => ?_) (fun _ => ?_) | refine vT (fun _ => ?_) (fun _ => ?_) | refine vU (fun _ => ?_) (fun _ => ?_) | refine vV (fun _ => ?_) (fun _ => ?_) | refine vW (fun _ => ?_) (fun _ => ?_) | refine vX (fun _ => ?_) (fun _ => ?_)
    | simp only [↓zE, ↓zJ, ↓zD, ↓zC, ↓xG, ↓xB, ↓zI, ↓yZ, ↓xW, ↓uK, ↓uS, ↓tJ, ↓xF, ↓xP, ↓pJ, ↓qU, ↓wH, ↓xM, ↓xN, ↓yU, ↓xR, ↓xX, ↓xS, ↓zP, ↓yH, ↓zQ, ↓yI, Bool.not_true, Bool.not_false, yV, yB,  ↓hix, yB, fg0, fg18, fg19])
theorem qJ (s : Tx) (h : zG) (n : Nat) : Pure P 8 58 [str s] h n (.bool (named s)) := by
 refine yQ zM mixed (hint := hint58) l58 fun u k hk => ?_;rw [F58_eq];unfold F58;rw [cmpS_eq]
 cases s with
 | nil =>
  have e0 : (([] : List UInt8) == (ByteArray.mk #[]).data.toList) = true := rfl;show (fun b => _) (([] : List UInt8) == (ByteArray.mk #[]).data.toList) = true;rw [e0];dsimp only
  repeat' (first
   | exact yP r58 (v := .bool _) rfl (hk _ _ _ ⟨rfl, rfl, rfl⟩)
   | with_reducible first | refine sD (fun _ => ?_) (fun _ => ?_) | refine sE (fun _ => ?_) (fun _ => ?_) | refine vY (fun _ => ?_) (fun _ => ?_) | refine vZ (fun _ => ?_) (fun _ => ?_) | refine vS (fun _ => ?_) (fun _ => ?_) | refine vT (fun _ => ?_) (fun _ => ?_) | refine vU (fun _ => ?_) (fun _ => ?_) | refine vV (fun _ => ?_) (fun _ => ?_) | refine vW (fun _ => ?_) (fun _ => ?_) | refine vX (fun _ => ?_) (fun _ => ?_)
   | simp only [↓zE, ↓zJ, ↓zD, ↓zC, ↓xG, ↓xB, ↓zI, ↓yZ, ↓xW, ↓uK, ↓uS, ↓tJ, ↓xF, ↓xP, ↓pJ, ↓qU, ↓wH, ↓xM, ↓xN, ↓yU, ↓xR, ↓xX, ↓xS, ↓zP, ↓yH, ↓zQ, ↓yI, Bool.not_true, Bool.not_false, yV, yB])
 | cons c r =>
  have e0 : ((c :: r) == (ByteArray.mk #[]).data.toList) = false := rfl;show (fun b => _) ((c :: r) == (ByteArray.mk #[]).data.toList) = true;rw [e0];dsimp only;have hix : pM P 9 (str (c :: r)) (.int .i64 0) = some (.int .u8 (c.toNat : Nat)) := index_strL us9 (c :: r) .i64 0 c rfl;have hlen : yG P .len [9] [str (c :: r)] h = some (.int .i64 ((c :: r).length : Nat)) := len_strL us9 (c :: r) [] h;have hn : named (c :: r) = (decide ((c :: r).length ≤ 20) && (letter c.toNat && (c :: r).all nameB)) := rfl;rw [hn] at hk;have pl : Pure P 8 110 [.int .u8 (c.toNat : Nat)] h n (.bool _) := letter_pure _ h n;cases hl : letter c.toNat
  all_goals
   rw [hl] at pl hk
   repeat' (first
    | with_reducible refine yK pl ?_
    | refine yP r58 (v := .bool _) rfl (hk _ _ _ ⟨congrArg Value.bool ?_, rfl, rfl⟩)
    | with_reducible first | refine sD (fun _ => ?_) (fun _ => ?_) | refine sE (fun _ => ?_) (fun _ => ?_) | refine vY (fun _ => ?_) (fun _ => ?_) | refine vZ (fun _ => ?_) (fun _ => ?_) | refine vS (fun _ => ?_) (fun _ => ?_) | refine vT (fun _ => ?_) (fun _ => ?_) | refine vU (fun _ => ?_) (fun _ => ?_) | refine vV (fun _ => ?_) (fun _ => ?_) | refine vW (fun _ => ?_) (fun _ => ?_) | refine vX (fun _ => ?_) (fun _ => ?_)
    | simp only [↓zE, ↓zJ, ↓zD, ↓zC, ↓xG, ↓xB, ↓zI, ↓yZ, ↓xW, ↓uK, ↓uS, ↓tJ, ↓xF, ↓xP, ↓pJ, ↓qU, ↓wH, ↓xM, ↓xN, ↓yU, ↓xR, ↓xX, ↓xS, ↓zP, ↓yH, ↓zQ, ↓yI, Bool.not_true, Bool.not_false, yV, yB,  ↓hix, ↓hlen])
  · simp
  · simp
  · rename_i hgt; rw [decide_eq_false (by omega)]; rfl
  · rename_i hle;have hle2 : (c :: r).length ≤ 20 := by omega
    rw [decide_eq_true hle2] at hk;refine named_loop (c :: r) h n [] u _ (by omega) _ 0 (Nat.add_zero _) _ rfl rfl rfl ?_ ?_
    · intro ha t'
      repeat' (first
       | refine yP r58 (v := .bool true) rfl (hk _ _ _ ⟨congrArg Value.bool ?_, rfl, rfl⟩)
       | with_reducible first | refine sD (fun _ => ?_) (fun _ => ?_) | refine sE (fun _ => ?_) (fun _ => ?_) | refine vY (fun _ => ?_) (fun _ => ?_) | refine vZ (fun _ => ?_) (fun _ => ?_) | refine vS (fun _ => ?_) (fun _ => ?_) | refine vT (fun _ => ?_) (fun _ => ?_) | refine vU (fun _ => ?_) (fun _ => ?_) | refine vV (fun _ => ?_) (fun _ => ?_) | refine vW (fun _ => ?_) (fun _ => ?_) | refine vX (fun _ => ?_) (fun _ => ?_)
       | simp only [↓zE, ↓zJ, ↓zD, ↓zC, ↓xG, ↓xB, ↓zI, ↓yZ, ↓xW, ↓uK, ↓uS, ↓tJ, ↓xF, ↓xP, ↓pJ, ↓qU, ↓wH, ↓xM, ↓xN, ↓yU, ↓xR, ↓xX, ↓xS, ↓zP, ↓yH, ↓zQ, ↓yI, Bool.not_true, Bool.not_false, yV, yB])
      rw [List.drop_zero] at ha;rw [ha]; rfl
    · intro ha t' h2
      repeat' (first
       | refine yP r58 (v := .bool false) h2 (hk _ _ _ ⟨congrArg Value.bool ?_, rfl, rfl⟩)
       | with_reducible first | refine sD (fun _ => ?_) (fun _ => ?_) | refine sE (fun _ => ?_) (fun _ => ?_) | refine vY (fun _ => ?_) (fun _ => ?_) | refine vZ (fun _ => ?_) (fun _ => ?_) | refine vS (fun _ => ?_) (fun _ => ?_) | refine vT (fun _ => ?_) (fun _ => ?_) | refine vU (fun _ => ?_) (fun _ => ?_) | refine vV (fun _ => ?_) (fun _ => ?_) | refine vW (fun _ => ?_) (fun _ => ?_) | refine vX (fun _ => ?_) (fun _ => ?_)
       | simp only [↓zE, ↓zJ, ↓zD, ↓zC, ↓xG, ↓xB, ↓zI, ↓yZ, ↓xW, ↓uK, ↓uS, ↓tJ, ↓xF, ↓xP, ↓pJ, ↓qU, ↓wH, ↓xM, ↓xN, ↓yU, ↓xR, ↓xX, ↓xS, ↓zP, ↓yH, ↓zQ, ↓yI, Bool.not_true, Bool.not_false, yV, yB])
      rw [List.drop_zero] at ha;rw [ha]; rfl
theorem want_comes {lo hi n b : Nat} {h : zG} {ws : List Tx} (w : WordsAt lo hi n h b ws) (x : Tx) : ComesE P 8 116 [ptr b 0, str x] h n (RQ lo hi b h n (wantW x ws) fun _ v => v = .tuple ⟨[]⟩) := by
 refine yR zM mixed (hint := hq0) l116 fun u k hk => ?_;rw [F116_eq];unfold F116;refine yX (next_comes w) (fun v h' n' q => ?_) (fun c h' n' q => ?_)
 · obtain ⟨q1, q2⟩ := q
   cases ws with
   | nil => cases q2
   | cons s r =>
    obtain ⟨v', q2, rfl, q3⟩ := q2;injection q2 with q2; subst q2
    unfold wantW at hk;dsimp only at hk;cases hb : (s == x) <;> rw [hb] at hk
    all_goals
     repeat' (first
      | rw [vG, hb]
      | refine yC (fun e => ?_) (fun e => ?_)
      | cases e
      | exact yT r116 (hk _ _ _ ⟨q1, rfl⟩)
      | exact qT r116 (hk _ _ _ ⟨q1, _, rfl, rfl, q3⟩)
      | with_reducible first | refine sD (fun _ => ?_) (fun _ => ?_) | refine sE (fun _ => ?_) (fun _ => ?_) | refine vY (fun _ => ?_) (fun _ => ?_) | refine vZ (fun _ => ?_) (fun _ => ?_) | refine vS (fun _ => ?_) (fun _ => ?_) | refine vT (fun _ => ?_) (fun _ => ?_) | refine vU (fun _ => ?_) (fun _ => ?_) | refine vV (fun _ => ?_) (fun _ => ?_) | refine vW (fun _ => ?_) (fun _ => ?_) | refine vX (fun _ => ?_) (fun _ => ?_)
      | simp only [↓zE, ↓zJ, ↓zD, ↓zC, ↓xG, ↓xB, ↓zI, ↓yZ, ↓xW, ↓uK, ↓uS, ↓tJ, ↓xF, ↓xP, ↓pJ, ↓qU, ↓wH, ↓xM, ↓xN, ↓yU, ↓xR, ↓xX, ↓xS, ↓zP, ↓yH, ↓zQ, ↓yI, Bool.not_true, Bool.not_false, yV, yB])
 · obtain ⟨q1, q2⟩ := q
   cases ws with
   | nil => injection q2 with q2; subst q2; exact yT r116 (hk _ _ _ ⟨q1, rfl⟩)
   | cons s r => obtain ⟨v', q2, _⟩ := q2; cases q2
theorem name_comes {lo hi n b : Nat} {h : zG} {ws : List Tx} (w : WordsAt lo hi n h b ws) : ComesE P 8 117 [ptr b 0] h n (RQ lo hi b h n (rC ws) fun s v => v = str s) := by
 refine yR zM mixed (hint := hq0) l117 fun u k hk => ?_;rw [F117_eq];unfold F117;refine yX (next_comes w) (fun v h' n' q => ?_) (fun c h' n' q => ?_)
 · obtain ⟨q1, q2⟩ := q
   cases ws with
   | nil => cases q2
   | cons s r =>
    obtain ⟨v', q2, rfl, q3⟩ := q2;injection q2 with q2; subst q2
    unfold rC at hk;dsimp only at hk;have pn := qJ s h' n';cases hb : named s <;> rw [hb] at hk pn
    all_goals
     repeat' (first
      | with_reducible refine yK pn ?_
      | refine yC (fun e => ?_) (fun e => ?_)
      | cases e
      | exact yT r117 (hk _ _ _ ⟨q1, rfl⟩)
      | exact yP r117 (v := str s) rfl (hk _ _ _ ⟨q1, _, rfl, rfl, q3⟩)
      | with_reducible first | refine sD (fun _ => ?_) (fun _ => ?_) | refine sE (fun _ => ?_) (fun _ => ?_) | refine vY (fun _ => ?_) (fun _ => ?_) | refine vZ (fun _ => ?_) (fun _ => ?_) | refine vS (fun _ => ?_) (fun _ => ?_) | refine vT (fun _ => ?_) (fun _ => ?_) | refine vU (fun _ => ?_) (fun _ => ?_) | refine vV (fun _ => ?_) (fun _ => ?_) | refine vW (fun _ => ?_) (fun _ => ?_) | refine vX (fun _ => ?_) (fun _ => ?_)
      | simp only [↓zE, ↓zJ, ↓zD, ↓zC, ↓xG, ↓xB, ↓zI, ↓yZ, ↓xW, ↓uK, ↓uS, ↓tJ, ↓xF, ↓xP, ↓pJ, ↓qU, ↓wH, ↓xM, ↓xN, ↓yU, ↓xR, ↓xX, ↓xS, ↓zP, ↓yH, ↓zQ, ↓yI, Bool.not_true, Bool.not_false, yV, yB])
 · obtain ⟨q1, q2⟩ := q
   cases ws with
   | nil => injection q2 with q2; subst q2; exact yT r117 (hk _ _ _ ⟨q1, rfl⟩)
   | cons s r => obtain ⟨v', q2, _⟩ := q2; cases q2
theorem end_comes {lo hi n b : Nat} {h : zG} {ws : List Tx} (w : WordsAt lo hi n h b ws) : ComesE P 8 118 [ptr b 0] h n (RQ lo hi b h n (endW ws) fun _ v => v = .tuple ⟨[]⟩) := by
 have w0 := w;obtain ⟨h1, h2, h2b, h2c, sv, h3, h4, h5⟩ := w;refine yR zM mixed (hint := hq0) l118 fun u k hk => ?_;rw [F118_eq];unfold F118;have e1 : zF P 23 h (ptr b 0) = some sv := zH h3 sh23 rfl;have e2 := xI (P := P) us23 h4 [] h
 cases ws with
 | nil =>
  have e3 : xZ (([] : List Tx).length : Nat) 0 = true := rfl
  repeat' (first
   | refine yC (fun e => ?_) (fun e => ?_)
   | cases e
   | exact qT r118 (hk _ _ _ ⟨TouchE.refl _ _ _, _, rfl, rfl, w0⟩)
   | with_reducible first | refine sD (fun _ => ?_) (fun _ => ?_) | refine sE (fun _ => ?_) (fun _ => ?_) | refine vY (fun _ => ?_) (fun _ => ?_) | refine vZ (fun _ => ?_) (fun _ => ?_) | refine vS (fun _ => ?_) (fun _ => ?_) | refine vT (fun _ => ?_) (fun _ => ?_) | refine vU (fun _ => ?_) (fun _ => ?_) | refine vV (fun _ => ?_) (fun _ => ?_) | refine vW (fun _ => ?_) (fun _ => ?_) | refine vX (fun _ => ?_) (fun _ => ?_)
   | simp only [↓zE, ↓zJ, ↓zD, ↓zC, ↓xG, ↓xB, ↓zI, ↓yZ, ↓xW, ↓uK, ↓uS, ↓tJ, ↓xF, ↓xP, ↓pJ, ↓qU, ↓wH, ↓xM, ↓xN, ↓yU, ↓xR, ↓xX, ↓xS, ↓zP, ↓yH, ↓zQ, ↓yI, Bool.not_true, Bool.not_false, yV, yB,  ↓yS, ↓fa189_0, ↓e1, ↓e2, ↓e3, ↓zY])
 | cons s r =>
  have e3 : xZ ((s :: r).length : Nat) 0 = false := by rw [wS]; exact decide_eq_false (by simp only [List.length_cons]; omega)
  repeat' (first
   | refine yC (fun e => ?_) (fun e => ?_)
   | cases e
   | exact yT r118 (hk _ _ _ ⟨TouchE.refl _ _ _, rfl⟩)
   | with_reducible first | refine sD (fun _ => ?_) (fun _ => ?_) | refine sE (fun _ => ?_) (fun _ => ?_) | refine vY (fun _ => ?_) (fun _ => ?_) | refine vZ (fun _ => ?_) (fun _ => ?_) | refine vS (fun _ => ?_) (fun _ => ?_) | refine vT (fun _ => ?_) (fun _ => ?_) | refine vU (fun _ => ?_) (fun _ => ?_) | refine vV (fun _ => ?_) (fun _ => ?_) | refine vW (fun _ => ?_) (fun _ => ?_) | refine vX (fun _ => ?_) (fun _ => ?_)
   | simp only [↓zE, ↓zJ, ↓zD, ↓zC, ↓xG, ↓xB, ↓zI, ↓yZ, ↓xW, ↓uK, ↓uS, ↓tJ, ↓xF, ↓xP, ↓pJ, ↓qU, ↓wH, ↓xM, ↓xN, ↓yU, ↓xR, ↓xX, ↓xS, ↓zP, ↓yH, ↓zQ, ↓yI, Bool.not_true, Bool.not_false, yV, yB,  ↓yS, ↓fa189_0, ↓e1, ↓e2, ↓e3, ↓zY])
theorem atoi_bad {m : Int} {h : zG} (n : Nat) (hE : Env m h) (s : Tx) (hs : s.length ≤ 1000000) (hv : ∀ a, Lib.atoiAll s ≠ .ok a) :
 Rets P 8 179 [str s] h n fun v h' n' => ∃ x, v = .tuple #[.int .i64 x, .iface 240 (.pointer (some ⟨n, 0, none⟩))] ∧ Ext h n h' n' := by
 have hs' : (⟨⟨s⟩⟩ : ByteArray).size ≤ 281474976710656 := by show s.length ≤ _; omega
 cases ha : Lib.atoiAll s with
 | ok a => exact absurd ha (hv a)
 | range =>
  refine (err_of_calls h_atoi rfl hE.rng (by omega) (x := Lib.atoiSat s) fun wd ⟨te, pe, hw⟩ => ?_).mono fun v h' n' ⟨e1, e2⟩ => ⟨_, e1, e2⟩;exact (Any.strconv_Atoi_range Tryz.laysC172 ⟨⟨s⟩⟩ hs' ha _ wd hw (.inr ⟨te, pe, rfl⟩)).mono fun e w' ⟨N, a1, a2, a3, a4⟩ => ⟨N, a1, a2, a4⟩
 | _ =>
  refine (err_of_calls h_atoi rfl hE.syn (by omega) (x := 0) fun wd ⟨te, pe, hw⟩ => ?_).mono fun v h' n' ⟨e1, e2⟩ => ⟨_, e1, e2⟩;exact (Any.strconv_Atoi_syntax Tryz.laysC172 ⟨⟨s⟩⟩ hs' ha _ wd hw (.inr ⟨te, pe, rfl⟩)).mono fun e w' ⟨N, a1, a2, a3, a4⟩ => ⟨N, a1, a2, a4⟩
theorem err_ne (v : Value) (K : Bool → Bool) : yD xZ P .eql 99 true (.iface 240 v) .nilIface K = K false := by kernel_rfl
theorem err_eq (K : Bool → Bool) : yD xZ P .eql 99 true .nilIface .nilIface K = K true := by kernel_rfl
theorem any_comes {m : Int} {lo hi n b : Nat} {h : zG} {ws : List Tx} (w : WordsAt lo hi n h b ws) (hE : Env m h) (hg : 8 ≤ lo) : ComesE P 8 155 [ptr b 0] h n (RQ lo hi b h n (anyW ws) fun a v => v = I64 a) := by
 refine yR zM mixed (hint := hq0) l155 fun u k hk => ?_;rw [F155_eq];unfold F155;refine yX (next_comes w) (fun v h' n' q => ?_) (fun c h' n' q => ?_)
 · obtain ⟨q1, q2⟩ := q
   cases ws with
   | nil => cases q2
   | cons s r =>
    obtain ⟨v', q2, rfl, q3⟩ := q2;injection q2 with q2; subst q2
    have hsl : s.length ≤ 1000000 := by have := w.2.2.2.1 s (by simp); omega
    have hE' : Env m h' := hE.touch q1 (Nat.le_trans hg (Nat.le_trans w.1 (Nat.le_of_lt (Nat.lt_of_lt_of_le w.2.1.1 w.2.1.2)))) (fun x hx => by
     simp at hx; subst hx; exact Nat.le_trans hg w.1)
    unfold anyW at hk;dsimp only at hk;by_cases hok : ∃ a, Lib.atoiAll s = .ok a
    · obtain ⟨a, ha⟩ := hok;rw [anyOf_ok ha] at hk;have pa := atoi_pure (h := h') n' s a hsl ha;obtain ⟨b1, b2⟩ := Lib.atoiAll_bounds ha;have pi := itoa_pure n' hE'.tabs a b1 b2;have x0 : yN 0 (.tuple #[.int .i64 a, .nilIface]) = some (.int .i64 a) := rfl;have x1 : yN 1 (.tuple #[.int .i64 a, .nilIface]) = some .nilIface := rfl;refine uO pa ?_;cases hb : (Lib.itoa a == s) <;> rw [hb] at hk
      all_goals
       simp only [↓x0, ↓x1, ↓zD, ↓zE, ↓err_eq, ↓yZ];refine uO pi ?_
       repeat' (first
        | rw [vG, hb]
        | refine yC (fun e => ?_) (fun e => ?_)
        | cases e
        | exact yT r155 (hk _ _ _ ⟨q1, rfl⟩)
        | exact yP r155 (v := I64 a) rfl (hk _ _ _ ⟨q1, _, rfl, rfl, q3⟩)
        | with_reducible first | refine sD (fun _ => ?_) (fun _ => ?_) | refine sE (fun _ => ?_) (fun _ => ?_) | refine vY (fun _ => ?_) (fun _ => ?_) | refine vZ (fun _ => ?_) (fun _ => ?_) | refine vS (fun _ => ?_) (fun _ => ?_) | refine vT (fun _ => ?_) (fun _ => ?_) | refine vU (fun _ => ?_) (fun _ => ?_) | refine vV (fun _ => ?_) (fun _ => ?_) | refine vW (fun _ => ?_) (fun _ => ?_) | refine vX (fun _ => ?_) (fun _ => ?_)
        | simp only [↓zE, ↓zJ, ↓zD, ↓zC, ↓xG, ↓xB, ↓zI, ↓yZ, ↓xW, ↓uK, ↓uS, ↓tJ, ↓xF, ↓xP, ↓pJ, ↓qU, ↓wH, ↓xM, ↓xN, ↓yU, ↓xR, ↓xX, ↓xS, ↓zP, ↓yH, ↓zQ, ↓yI, Bool.not_true, Bool.not_false, yV, yB])
    · rw [anyOf_bad (fun a ha => hok ⟨a, ha⟩)] at hk;refine uJ (atoi_bad n' hE' s hsl (fun a ha => hok ⟨a, ha⟩)) fun v h2 n2 ⟨x, e1, e2⟩ => ?_;subst e1;have x0 : yN 0 (.tuple #[.int .i64 x, .iface 240 (.pointer (some ⟨n', 0, none⟩))]) = some (.int .i64 x) := rfl;have x1 : yN 1 (.tuple #[.int .i64 x, .iface 240 (.pointer (some ⟨n', 0, none⟩))]) = some (.iface 240 (.pointer (some ⟨n', 0, none⟩))) := rfl;simp only [↓x0, ↓x1, ↓zD, ↓zE, ↓err_ne, ↓xW]
      repeat' (first
       | refine yC (fun e => ?_) (fun e => ?_)
       | cases e
       | exact yT r155 (hk _ _ _ ⟨q1.trans (e2.touch _), rfl⟩)
       | with_reducible first | refine sD (fun _ => ?_) (fun _ => ?_) | refine sE (fun _ => ?_) (fun _ => ?_) | refine vY (fun _ => ?_) (fun _ => ?_) | refine vZ (fun _ => ?_) (fun _ => ?_) | refine vS (fun _ => ?_) (fun _ => ?_) | refine vT (fun _ => ?_) (fun _ => ?_) | refine vU (fun _ => ?_) (fun _ => ?_) | refine vV (fun _ => ?_) (fun _ => ?_) | refine vW (fun _ => ?_) (fun _ => ?_) | refine vX (fun _ => ?_) (fun _ => ?_)
       | simp only [↓zE, ↓zJ, ↓zD, ↓zC, ↓xG, ↓xB, ↓zI, ↓yZ, ↓xW, ↓uK, ↓uS, ↓tJ, ↓xF, ↓xP, ↓pJ, ↓qU, ↓wH, ↓xM, ↓xN, ↓yU, ↓xR, ↓xX, ↓xS, ↓zP, ↓yH, ↓zQ, ↓yI, Bool.not_true, Bool.not_false, yV, yB])
 · obtain ⟨q1, q2⟩ := q
   cases ws with
   | nil => injection q2 with q2; subst q2; exact yT r155 (hk _ _ _ ⟨q1, rfl⟩)
   | cons s r => obtain ⟨v', q2, _⟩ := q2; cases q2
theorem number_comes {m : Int} {lo hi n b : Nat} {h : zG} {ws : List Tx} (w : WordsAt lo hi n h b ws) (hE : Env m h) (hg : 8 ≤ lo) : ComesE P 8 122 [ptr b 0] h n (RQ lo hi b h n (wB ws) fun a v => v = I64 a) := by
 refine yR zM mixed (hint := hq0) l122 fun u k hk => ?_;rw [F122_eq];unfold F122;refine callI_comes (any_comes w hE hg) (fun v h' n' q => ?_) (fun c h' n' q => ?_)
 · obtain ⟨q1, q2⟩ := q;unfold wB at hk
   cases ha : anyW ws with
   | error e => rw [ha] at q2; cases q2
   | ok p =>
    obtain ⟨a, r⟩ := p;rw [ha] at q2 hk;obtain ⟨v', q2, rfl, q3⟩ := q2;injection q2 with q2; subst q2
    refine ⟨a, rfl, ?_⟩;dsimp only at hk;by_cases hs : 0 ≤ a ∧ a ≤ 99999
    · rw [if_pos (show vL a = true from decide_eq_true hs)] at hk;have e1 : rU 0 a = true := by rw [vF]; exact decide_eq_true hs.1
      have e2 : rU a 99999 = true := by rw [vF]; exact decide_eq_true hs.2
      repeat' (first
       | refine yC (fun e => ?_) (fun e => ?_)
       | cases e
       | exact yP r122 (v := I64 a) rfl (hk _ _ _ ⟨q1, _, rfl, rfl, q3⟩)
       | with_reducible first | refine sD (fun _ => ?_) (fun _ => ?_) | refine sE (fun _ => ?_) (fun _ => ?_) | refine vY (fun _ => ?_) (fun _ => ?_) | refine vZ (fun _ => ?_) (fun _ => ?_) | refine vS (fun _ => ?_) (fun _ => ?_) | refine vT (fun _ => ?_) (fun _ => ?_) | refine vU (fun _ => ?_) (fun _ => ?_) | refine vV (fun _ => ?_) (fun _ => ?_) | refine vW (fun _ => ?_) (fun _ => ?_) | refine vX (fun _ => ?_) (fun _ => ?_)
       | simp only [↓zE, ↓zJ, ↓zD, ↓zC, ↓xG, ↓xB, ↓zI, ↓yZ, ↓xW, ↓uK, ↓uS, ↓tJ, ↓xF, ↓xP, ↓pJ, ↓qU, ↓wH, ↓xM, ↓xN, ↓yU, ↓xR, ↓xX, ↓xS, ↓zP, ↓yH, ↓zQ, ↓yI, Bool.not_true, Bool.not_false, yV, yB])
      all_goals omega
    · rw [if_neg (show ¬ vL a = true from fun h => hs (of_decide_eq_true h))] at hk
      repeat' (first
       | refine yC (fun e => ?_) (fun e => ?_)
       | cases e
       | exact yT r122 (hk _ _ _ ⟨q1, rfl⟩)
       | with_reducible first | refine sD (fun _ => ?_) (fun _ => ?_) | refine sE (fun _ => ?_) (fun _ => ?_) | refine vY (fun _ => ?_) (fun _ => ?_) | refine vZ (fun _ => ?_) (fun _ => ?_) | refine vS (fun _ => ?_) (fun _ => ?_) | refine vT (fun _ => ?_) (fun _ => ?_) | refine vU (fun _ => ?_) (fun _ => ?_) | refine vV (fun _ => ?_) (fun _ => ?_) | refine vW (fun _ => ?_) (fun _ => ?_) | refine vX (fun _ => ?_) (fun _ => ?_)
       | simp only [↓zE, ↓zJ, ↓zD, ↓zC, ↓xG, ↓xB, ↓zI, ↓yZ, ↓xW, ↓uK, ↓uS, ↓tJ, ↓xF, ↓xP, ↓pJ, ↓qU, ↓wH, ↓xM, ↓xN, ↓yU, ↓xR, ↓xX, ↓xS, ↓zP, ↓yH, ↓zQ, ↓yI, Bool.not_true, Bool.not_false, yV, yB])
      all_goals omega
 · obtain ⟨q1, q2⟩ := q;unfold wB at hk
   cases ha : anyW ws with
   | error e => rw [ha] at q2 hk; injection q2 with q2; subst q2; exact yT r122 (hk _ _ _ ⟨q1, rfl⟩)
   | ok p => rw [ha] at q2; obtain ⟨v', q2, _⟩ := q2; cases q2
def RQO {α : Type} (lo hi w : Nat) (h : zG) (n : Nat) (e : Nat) (f : α → Value) (r : Res (List α)) : Out → zG → Nat → Prop := fun o h' n' => TouchE [w] h n h' n' ∧
 match r with
 | .ok (l, ws) => ∃ v, o = .ret v ∧ Own n n' h' v e 1 l.length (l.map f) ∧ l.length < 100000 ∧ WordsAt lo hi n' h' w ws
 | .error x => o = .panic (tI x)
theorem touch_blk {h h' : zG} {n n' lo : Nat} {v : Value} (hn : n ≤ n') (hb : ∀ b, b < n → xK v ≠ some b → zT h' b = zT h b) : TouchE (xK v).toList h n h' n' :=
 ⟨hn, fun b hbn hS => hb b hbn fun e => hS (by rw [e]; simp)⟩
theorem I64_one (x : Int) : (I64 x).oneCell' = true := rfl
theorem sZ (x : Tx) : (str x).oneCell' = true := rfl
theorem endA_panic (kn : KN) (ka : KX) (c : zX) (t : Fr) (w : W) : endA kn ka (.panic c) t w = ka (.panic c) t w := rfl
theorem blkA_panic (id : Nat) (kn : KN) (ka : KX) (c : zX) (t : Fr) (w : W) : blkA id kn ka (.panic c) t w = ka (.panic c) t w := rfl
theorem nameW_len {ws r : List Tx} {x : Tx} (h : rC ws = .ok (x, r)) : r.length + 1 ≤ ws.length := by
 cases ws with
 | nil => cases h
 | cons s t =>
  unfold rC at h;dsimp only at h;split at h
  · injection h with h; injection h with _ h; subst h; simp
  · cases h
theorem anyW_len {ws r : List Tx} {x : Int} (h : anyW ws = .ok (x, r)) : r.length + 1 ≤ ws.length := by
 cases ws with
 | nil => cases h
 | cons s t =>
  unfold anyW at h;dsimp only at h;split at h
  · injection h with h; injection h with _ h; subst h; simp
  · cases h
theorem numberW_len {ws r : List Tx} {x : Int} (h : wB ws = .ok (x, r)) : r.length + 1 ≤ ws.length := by
 unfold wB at h;split at h
 · cases h
 · rename_i v t e;split at h
   · injection h with h; injection h with h1 h2; subst h1 h2; exact anyW_len e
   · cases h
theorem restS_loop {m : Int} {lo hi b n0 : Nat} {h0 : zG} (hn0 : hi ≤ n0) (hg : 8 ≤ lo) (u : Option zX) (ka : KX) : ∀ (k : Nat) (ws : List Tx) (acc : List Tx) (sv : Value) (h : zG) (n : Nat) (t : Fr), ws.length ≤ k → WordsAt lo hi n h b ws → Env m h →
 Own n0 n h sv 9 1 acc.length (acc.map str) → acc.length + ws.length < 100000 → TouchE [b] h0 n0 h n → zA t 0 = ptr b 0 → zA t 1 = .func (.func 117) ⟨[ptr b 0]⟩ ⟨[]⟩ → zA t 5 = sv →
 (∀ l ws' t' h' n' sv', restW rC k ws = .ok (l, ws') → zA t' 5 = sv' → TouchE [b] h0 n0 h' n' → Own n0 n' h' sv' 9 1 (acc ++ l).length ((acc ++ l).map str) → (acc ++ l).length < 100000 → WordsAt lo hi n' h' b ws' → ka (.exit 0) t' ⟨[], u, h', n'⟩ = true) →
 (∀ e t' h' n', restW rC k ws = .error e → TouchE [b] h0 n0 h' n' → ka (.panic (tI e)) t' ⟨[], u, h', n'⟩ = true) →
 lpS P 8 1000002 ⟨119, none, false⟩ t ⟨[], u, h, n⟩ ka = true := by
 intro k
 induction k with
 | zero =>
  intro ws acc sv h n t hk w hE ho hlen ht t0 t1 t5 hok herr;have hws : ws = [] := List.length_eq_zero_iff.1 (by omega);subst hws;refine yO zM mixed (hint := hint119) l119 lp119_1000002 ?_;rw [B119_1000002_eq];unfold B119_1000002;rw [t0, t1, t5];simp only [↓zC, ↓xB];refine tZ (len_pure w) ?_;have e3 : wO 0 (([] : List Tx).length : Nat) = false := rfl;simp only [↓e3, ↓zY, ↓uS];exact hok [] [] _ h n sv rfl rfl ht (by rw [List.append_nil]; exact ho) (by rw [List.append_nil]; omega) w
 | succ k ih =>
  intro ws acc sv h n t hk w hE ho hlen ht t0 t1 t5 hok herr;refine yO zM mixed (hint := hint119) l119 lp119_1000002 ?_;rw [B119_1000002_eq];unfold B119_1000002;rw [t0, t1, t5];simp only [↓zC, ↓xB];refine tZ (len_pure w) ?_
  cases ws with
  | nil =>
   have e3 : wO 0 (([] : List Tx).length : Nat) = false := rfl;simp only [↓e3, ↓zY, ↓uS];exact hok [] [] _ h n sv rfl rfl ht (by rw [List.append_nil]; exact ho) (by rw [List.append_nil]; omega) w
  | cons s r =>
   have e3 : wO 0 ((s :: r).length : Nat) = true := by rw [zV]; exact decide_eq_true (by simp only [List.length_cons]; omega)
   simp only [↓e3, ↓zY, ↓uK, ↓xS];have hn8 : 8 ≤ n := Nat.le_trans hg (Nat.le_trans w.1 (Nat.le_of_lt (Nat.lt_of_lt_of_le w.2.1.1 w.2.1.2)));have hn80 : 8 ≤ n0 := by have h8 := w.2.1.1; have h9 := w.1; omega
   refine qB (first := [ptr b 0]) (cap := []) (args := []) (name_comes w) (fun v h1 n1 q => ?_) (fun c h1 n1 q => ?_)
   · obtain ⟨q1, q2⟩ := q
     cases ha : rC (s :: r) with
     | error e => rw [ha] at q2; cases q2
     | ok p =>
      obtain ⟨x, r'⟩ := p;rw [ha] at q2;obtain ⟨v', q2, rfl, q3⟩ := q2;injection q2 with q2; subst q2
      have hb : b < n := Nat.lt_of_lt_of_le w.2.1.1 w.2.1.2;have hb0 : lo ≤ b := w.1;have ho1 := ho.touch q1 (fun x hx hS => by have := (ho.ge x hx).1; have := w.2.1.1; simp at hS; omega);refine vK on23 (sZ x) fun h2 c2 e2 => ?_;have ho2 := ho1.touch (e2.touch []) (fun _ _ h => by cases h);have hrl : r'.length + 1 ≤ (s :: r).length := nameW_len ha;simp only [List.length_cons] at hrl hlen hk;refine pU ap23 ho2 (by have := ht.1; have := q1.1; omega) c2 rfl (by simpa using sZ x) (by omega) fun sv' h3 n3 o3 n3le k3 => ?_;have q4 := q3.touch (e2.touch []) (fun _ h => by cases h);have t3 := touch_blk (lo := 0) n3le k3;have hS : ∀ x ∈ (xK sv).toList, n0 ≤ x := fun x hx => (ho.ge x (by simpa using hx)).1;have q5 := q4.touch t3 (fun x hx => .inr (Nat.le_trans hn0 (hS x hx)));have tt : TouchE [b] h0 n0 h3 n3 := ((ht.trans q1).trans (e2.touch _)).step t3 (fun x hx => .inr (hS x hx));have hEn : Env m h3 := ((hE.touch q1 (by omega) (fun x hx => by simp at hx; omega)).touch (e2.touch []) (by have := q1.1; omega) (fun _ h => by cases h)).touch t3 (by have := q1.1; omega) (fun x hx => by have := hS x hx; omega);simp only [↓fg0, ↓fg1, ↓fg5, ↓zC, ↓xB]
      have eL : (acc ++ [x]).length = acc.length + 1 := by simp
      have eM : (acc ++ [x]).map str = acc.map str ++ [str x] := by simp
      refine ih r' (acc ++ [x]) sv' h3 n3 _ (by omega) q5 hEn (by rw [eL, eM]; exact o3) (by rw [eL]; omega) tt rfl rfl rfl ?_ ?_
      · intro l ws' t' h' n' sv'' hr s5 tt' oo' ll' ww';refine hok (x :: l) ws' t' h' n' sv'' (restW_ok ha hr) s5 tt' (by rw [List.append_assoc] at oo'; exact oo') (by rw [List.append_assoc] at ll'; exact ll') ww'
      · intro e t' h' n' hr tt';exact herr e t' h' n' (restW_er2 ha hr) tt'
   · obtain ⟨q1, q2⟩ := q
     cases ha : rC (s :: r) with
     | error e => rw [ha] at q2; injection q2 with q2; subst q2; exact herr e _ h1 n1 (restW_er1 ha) (ht.trans q1)
     | ok p => rw [ha] at q2; obtain ⟨v', q2, _⟩ := q2; cases q2
theorem restS_comes {m : Int} {lo hi n b : Nat} {h : zG} {ws : List Tx} (w : WordsAt lo hi n h b ws) (hE : Env m h) (hg : 8 ≤ lo) :
 ComesE P 8 119 [ptr b 0, .func (.func 117) ⟨[ptr b 0]⟩ ⟨[]⟩] h n (RQO lo hi b h n 9 str (uZ ws)) := by
 refine yR zM mixed (hint := hint119) l119 fun u k hk => ?_;rw [F119_eq];unfold F119;refine restS_loop (m := m) (n0 := n) (h0 := h) w.2.1.2 hg u _ ws.length ws [] (.slice none 0 0) h n _ (Nat.le_refl _) w hE (.inl ⟨rfl, rfl, rfl⟩) (by have := w.2.2.1; simpa using this) (TouchE.refl _ _ _) rfl rfl rfl ?_ ?_
 · intro l ws' t' h' n' sv' hr s5 tt oo ll ww;have hr' : uZ ws = .ok (l, ws') := hr;rw [hr'] at hk;simp only [↓zP, ↓zQ, ↓zC, ↓xB, s5];exact yP r119 rfl (hk _ _ _ ⟨tt, _, rfl, oo, ll, ww⟩)
 · intro e t' h' n' hr tt;have hr' : uZ ws = .error e := hr;rw [hr'] at hk;simp only [↓endA_panic, ↓blkA_panic];exact yT r119 (hk _ _ _ ⟨tt, rfl⟩)
theorem restI_loop {m : Int} {lo hi b n0 : Nat} {h0 : zG} (hn0 : hi ≤ n0) (hg : 8 ≤ lo) (u : Option zX) (ka : KX) : ∀ (k : Nat) (ws : List Tx) (acc : List Int) (sv : Value) (h : zG) (n : Nat) (t : Fr), ws.length ≤ k → WordsAt lo hi n h b ws → Env m h →
 Own n0 n h sv 3 1 acc.length (acc.map I64) → acc.length + ws.length < 100000 → TouchE [b] h0 n0 h n → zA t 0 = ptr b 0 → zA t 1 = .func (.func 122) ⟨[ptr b 0]⟩ ⟨[]⟩ → zA t 5 = sv →
 (∀ l ws' t' h' n' sv', restW wB k ws = .ok (l, ws') → zA t' 5 = sv' → TouchE [b] h0 n0 h' n' → Own n0 n' h' sv' 3 1 (acc ++ l).length ((acc ++ l).map I64) → (acc ++ l).length < 100000 → WordsAt lo hi n' h' b ws' → ka (.exit 0) t' ⟨[], u, h', n'⟩ = true) →
 (∀ e t' h' n', restW wB k ws = .error e → TouchE [b] h0 n0 h' n' → ka (.panic (tI e)) t' ⟨[], u, h', n'⟩ = true) →
 lpS P 8 1000002 ⟨121, none, false⟩ t ⟨[], u, h, n⟩ ka = true := by
 intro k
 induction k with
 | zero =>
  intro ws acc sv h n t hk w hE ho hlen ht t0 t1 t5 hok herr;have hws : ws = [] := List.length_eq_zero_iff.1 (by omega);subst hws;refine yO zM mixed (hint := hint121) l121 lp121_1000002 ?_;rw [B121_1000002_eq];unfold B121_1000002;rw [t0, t1, t5];simp only [↓zC, ↓xB];refine tZ (len_pure w) ?_;have e3 : wO 0 (([] : List Tx).length : Nat) = false := rfl;simp only [↓e3, ↓zY, ↓uS];exact hok [] [] _ h n sv rfl rfl ht (by rw [List.append_nil]; exact ho) (by rw [List.append_nil]; omega) w
 | succ k ih =>
  intro ws acc sv h n t hk w hE ho hlen ht t0 t1 t5 hok herr;refine yO zM mixed (hint := hint121) l121 lp121_1000002 ?_;rw [B121_1000002_eq];unfold B121_1000002;rw [t0, t1, t5];simp only [↓zC, ↓xB];refine tZ (len_pure w) ?_
  cases ws with
  | nil =>
   have e3 : wO 0 (([] : List Tx).length : Nat) = false := rfl;simp only [↓e3, ↓zY, ↓uS];exact hok [] [] _ h n sv rfl rfl ht (by rw [List.append_nil]; exact ho) (by rw [List.append_nil]; omega) w
  | cons s r =>
   have e3 : wO 0 ((s :: r).length : Nat) = true := by rw [zV]; exact decide_eq_true (by simp only [List.length_cons]; omega)
   simp only [↓e3, ↓zY, ↓uK, ↓xS];have hn8 : 8 ≤ n := Nat.le_trans hg (Nat.le_trans w.1 (Nat.le_of_lt (Nat.lt_of_lt_of_le w.2.1.1 w.2.1.2)));have hn80 : 8 ≤ n0 := by have h8 := w.2.1.1; have h9 := w.1; omega
   refine invokeI_comes (first := [ptr b 0]) (cap := []) (args := []) (number_comes w hE hg) (fun v h1 n1 q => ?_) (fun c h1 n1 q => ?_)
   · obtain ⟨q1, q2⟩ := q
     cases ha : wB (s :: r) with
     | error e => rw [ha] at q2; cases q2
     | ok p =>
      obtain ⟨x, r'⟩ := p;rw [ha] at q2;obtain ⟨v', q2, rfl, q3⟩ := q2;injection q2 with q2; subst q2
      refine ⟨x, rfl, ?_⟩;have hb : b < n := Nat.lt_of_lt_of_le w.2.1.1 w.2.1.2;have hb0 : lo ≤ b := w.1;have ho1 := ho.touch q1 (fun x hx hS => by have := (ho.ge x hx).1; have := w.2.1.1; simp at hS; omega);refine vK on40 (I64_one x) fun h2 c2 e2 => ?_;have ho2 := ho1.touch (e2.touch []) (fun _ _ h => by cases h);have hrl : r'.length + 1 ≤ (s :: r).length := numberW_len ha;simp only [List.length_cons] at hrl hlen hk;refine pU ap40 ho2 (by have := ht.1; have := q1.1; omega) c2 rfl (by simpa using I64_one x) (by omega) fun sv' h3 n3 o3 n3le k3 => ?_;have q4 := q3.touch (e2.touch []) (fun _ h => by cases h);have t3 := touch_blk (lo := 0) n3le k3;have hS : ∀ x ∈ (xK sv).toList, n0 ≤ x := fun x hx => (ho.ge x (by simpa using hx)).1;have q5 := q4.touch t3 (fun x hx => .inr (Nat.le_trans hn0 (hS x hx)));have tt : TouchE [b] h0 n0 h3 n3 := ((ht.trans q1).trans (e2.touch _)).step t3 (fun x hx => .inr (hS x hx));have hEn : Env m h3 := ((hE.touch q1 (by omega) (fun x hx => by simp at hx; omega)).touch (e2.touch []) (by have := q1.1; omega) (fun _ h => by cases h)).touch t3 (by have := q1.1; omega) (fun x hx => by have := hS x hx; omega)
      simp only [↓fg0, ↓fg1, ↓fg5, ↓zC, ↓xB];have eL : (acc ++ [x]).length = acc.length + 1 := by simp
      have eM : (acc ++ [x]).map I64 = acc.map I64 ++ [I64 x] := by simp
      refine ih r' (acc ++ [x]) sv' h3 n3 _ (by omega) q5 hEn (by rw [eL, eM]; exact o3) (by rw [eL]; omega) tt rfl rfl rfl ?_ ?_
      · intro l ws' t' h' n' sv'' hr s5 tt' oo' ll' ww';refine hok (x :: l) ws' t' h' n' sv'' (restW_ok ha hr) s5 tt' (by rw [List.append_assoc] at oo'; exact oo') (by rw [List.append_assoc] at ll'; exact ll') ww'
      · intro e t' h' n' hr tt';exact herr e t' h' n' (restW_er2 ha hr) tt'
   · obtain ⟨q1, q2⟩ := q
     cases ha : wB (s :: r) with
     | error e => rw [ha] at q2; injection q2 with q2; subst q2; exact herr e _ h1 n1 (restW_er1 ha) (ht.trans q1)
     | ok p => rw [ha] at q2; obtain ⟨v', q2, _⟩ := q2; cases q2
theorem restI_comes {m : Int} {lo hi n b : Nat} {h : zG} {ws : List Tx} (w : WordsAt lo hi n h b ws) (hE : Env m h) (hg : 8 ≤ lo) :
 ComesE P 8 121 [ptr b 0, .func (.func 122) ⟨[ptr b 0]⟩ ⟨[]⟩] h n (RQO lo hi b h n 3 I64 (vQ ws)) := by
 refine yR zM mixed (hint := hint121) l121 fun u k hk => ?_;rw [F121_eq];unfold F121;refine restI_loop (m := m) (n0 := n) (h0 := h) w.2.1.2 hg u _ ws.length ws [] (.slice none 0 0) h n _ (Nat.le_refl _) w hE (.inl ⟨rfl, rfl, rfl⟩) (by have := w.2.2.1; simpa using this) (TouchE.refl _ _ _) rfl rfl rfl ?_ ?_
 · intro l ws' t' h' n' sv' hr s5 tt oo ll ww;have hr' : vQ ws = .ok (l, ws') := hr;rw [hr'] at hk;simp only [↓zP, ↓zQ, ↓zC, ↓xB, s5];exact yP r121 rfl (hk _ _ _ ⟨tt, _, rfl, oo, ll, ww⟩)
 · intro e t' h' n' hr tt;have hr' : vQ ws = .error e := hr;rw [hr'] at hk;simp only [↓endA_panic, ↓blkA_panic];exact yT r121 (hk _ _ _ ⟨tt, rfl⟩)
def uY (i : Ins) (sv : Value) : List Value := [I64 i.kind, I64 i.d, I64 i.a, I64 i.b, I64 i.n, str i.name, sv, I64 i.t, I64 i.f]
def InsAt (lo n : Nat) (h : zG) (ib : Nat) (i : Ins) : Prop := ib < n ∧ ∃ sv, Cel h ib (50 + 1) (uY i sv) ∧ Own lo n h sv 3 1 i.args.length (i.args.map I64) ∧ i.args.length < 100000 ∧ xK sv ≠ some ib
theorem InsAt.touch {lo n n' ib : Nat} {h h' : zG} {i : Ins} {S : List Nat} (w : InsAt lo n h ib i) (t : TouchE S h n h' n') (h1 : ib ∉ S) (hS : ∀ x ∈ S, x < lo) : InsAt lo n' h' ib i := by
 obtain ⟨a, sv, b, c, d, e⟩ := w;exact ⟨Nat.lt_of_lt_of_le a t.1, sv, b.touch t a h1, c.touch t (fun x hx hxS => by have := (c.ge x hx).1; have := hS x hxS; omega), d, e⟩
theorem InsAt.low {lo lo' n ib : Nat} {h : zG} {i : Ins} (w : InsAt lo n h ib i) (hl : lo' ≤ lo) : InsAt lo' n h ib i := by
 obtain ⟨a, sv, b, c, d⟩ := w;exact ⟨a, sv, b, c.low hl, d⟩
theorem InsAt.store {lo n ib off : Nat} {h : zG} {i i' : Ins} {v : Value} {ty : TypeId} {K : KH} (w : InsAt lo n h ib i) (hs : yF P ty = .scal) (ho : off < 9) (hv : v.oneCell' = true) (he : ∀ sv, (uY i sv).set off v = uY i' sv) (ha : i'.args = i.args)
 (hlt : ib < lo ∨ True) (hK : ∀ h', InsAt lo n h' ib i' → TouchE [ib] h n h' n → K h' n undef = true) : zW P ty (.pointer (some ⟨ib, off, none⟩)) v h n K = true := by
 obtain ⟨a, sv, b, c, d, e⟩ := w;refine xH b hs (by show off < 9; exact ho) hv fun h' c' k' => ?_;have t : TouchE [ib] h n h' n := zS k' (by simp);refine hK h' ⟨a, sv, ?_, ?_, ?_, e⟩ t
 · rw [← he]; exact c'
 · rw [ha]; exact c.touch t (fun x hx hxS => by simp at hxS; subst hxS; exact e hx)
 · rw [ha]; exact d
def RQI (lo hi w ib : Nat) (h : zG) (n : Nat) (r : Res Ins) : Out → zG → Nat → Prop := fun o h' n' => TouchE [w, ib] h n h' n' ∧
 match r with
 | .ok (i, ws) => o = .ret (.tuple ⟨[]⟩) ∧ InsAt n n' h' ib i ∧ WordsAt lo hi n' h' w ws
 | .error e => o = .panic (tI e)
def RQV (lo hi w : Nat) (h : zG) (n : Nat) (r : Res Ins) : Out → zG → Nat → Prop := fun o h' n' => TouchE [w] h n h' n' ∧
 match r with
 | .ok (i, ws) => ∃ sv, o = .ret (.agg ⟨uY i sv⟩) ∧ Own n n' h' sv 3 1 i.args.length (i.args.map I64) ∧ i.args.length < 100000 ∧ WordsAt lo hi n' h' w ws
 | .error e => o = .panic (tI e)
theorem called_comes {m : Int} {lo hi n b ib : Nat} {h : zG} {ws : List Tx} {i : Ins} {sv0 : Value} (w : WordsAt lo hi n h b ws) (hE : Env m h) (hg : 8 ≤ lo) (hc : Cel h ib (50 + 1) (uY i sv0)) (hib : ib < n) (hhi : hi ≤ ib) :
 ComesE P 8 158 [ptr ib 0, ptr b 0] h n (RQI lo hi b ib h n (rV i ws)) := by
 have hn8 : 8 ≤ n := Nat.le_trans hg (Nat.le_trans w.1 (Nat.le_of_lt (Nat.lt_of_lt_of_le w.2.1.1 w.2.1.2)));have hb8 : 8 ≤ b := Nat.le_trans hg w.1;have hbi : b ≠ ib := fun e => by have := w.2.1.1; omega
 have hi8 : 8 ≤ ib := by have h8 := w.2.1.1; omega
 refine yR zM mixed (hint := hq0) l158 fun u k hk => ?_;rw [F158_eq];unfold F158;unfold rV at hk;refine yX (name_comes w) (fun v h1 n1 q => ?_) (fun c h1 n1 q => ?_)
 · obtain ⟨q1, q2⟩ := q
   cases ha : rC ws with
   | error e => rw [ha] at q2; cases q2
   | ok p =>
    obtain ⟨s, r⟩ := p;rw [ha] at q2 hk;obtain ⟨v', q2, rfl, w1⟩ := q2;injection q2 with q2; subst q2
    dsimp only at hk;have c1 := hc.touch q1 hib (by simp; exact fun e => hbi e.symm);try simp only [↓zD, ↓yS, ↓tO, ↓qX, ↓sY]
    refine xH c1 sh3 (by simp [uY]) rfl fun h2 c2 k2 => ?_;try simp only [↓zD, ↓yS, ↓tO, ↓qX, ↓sY]
    refine xH c2 sh9 (by simp [uY]) rfl fun h3 c3 k3 => ?_;have t3 : TouchE [b, ib] h n h3 n1 := ((q1.mono (by simp)).trans (zS k2 (by simp))).trans (zS k3 (by simp));have t13 : TouchE [ib] h1 n1 h3 n1 := (zS k2 (by simp)).trans (zS k3 (by simp));have w3 := w1.touch t13 (fun x hx => by simp at hx; subst hx; exact .inr hhi);have hE3 : Env m h3 := hE.touch t3 hn8 (fun x hx => by simp at hx; rcases hx with rfl | rfl <;> omega);simp only [↓xG];refine yX (restI_comes w3 hE3 hg) (fun v h4 n4 q => ?_) (fun c h4 n4 q => ?_)
    · obtain ⟨q4, q5⟩ := q
      cases hb : vQ r with
      | error e => rw [hb] at q5; cases q5
      | ok p =>
       obtain ⟨l, r'⟩ := p;rw [hb] at q5 hk;obtain ⟨v', q5, o4, l4, w4⟩ := q5;injection q5 with q5; subst q5
       dsimp only at hk;have c4 := c3.touch q4 (Nat.lt_of_lt_of_le hib q1.1) (by simp; exact fun e => hbi e.symm);try simp only [↓zD, ↓yS, ↓tO, ↓qX, ↓sY]
       refine xH c4 sh40 (by simp [uY]) o4.one fun h5 c5 k5 => ?_;have t45 : TouchE [ib] h4 n4 h5 n4 := zS k5 (by simp);have hib1 : ib < n1 := Nat.lt_of_lt_of_le hib q1.1;have o5 := o4.touch t45 (fun x hx hS => by have := (o4.ge x hx).1; simp at hS; omega);have w5 := w4.touch t45 (fun x hx => by simp at hx; subst hx; exact .inr hhi);have t5 : TouchE [b, ib] h n h5 n4 := (t3.step (q4.mono (S' := [b, ib]) (by simp)) (fun x hx => .inl hx)).trans (t45.mono (by simp));have e1 : zF P 40 h5 (.pointer (some ⟨ib, 6, none⟩)) = some v := zH c5 sh40 (by simp [uY]);have e2 := xI (P := P) us40 (o5.row (Nat.le_refl 1)) [] h5;try simp only [↓zD, ↓yS, ↓tO, ↓qX, ↓sY, ↓e1, ↓e2, ↓zE]
       by_cases hl : l.length ≤ 16
       · rw [if_pos hl] at hk;have e3 : rU (l.length : Nat) 16 = true := by rw [vF]; exact decide_eq_true (by omega)
         simp only [↓e3, ↓zY];refine yC (fun _ => ?_) (fun e => by cases e);refine qT r158 (hk _ _ _ ⟨t5, rfl, ⟨Nat.lt_of_lt_of_le hib t5.1, v, c5, o5.low q1.1, l4, fun e => ?_⟩, w5⟩);have := (o4.ge _ e).1; omega
       · rw [if_neg hl] at hk;have e3 : rU (l.length : Nat) 16 = false := by rw [vF]; exact decide_eq_false (by omega)
         simp only [↓e3, ↓zY];refine yC (fun e => by cases e) (fun _ => ?_);exact yT r158 (hk _ _ _ ⟨t5, rfl⟩)
    · obtain ⟨q4, q5⟩ := q
      cases hb : vQ r with
      | error e => rw [hb] at q5 hk; injection q5 with q5; subst q5; exact yT r158 (hk _ _ _ ⟨t3.step (q4.mono (S' := [b, ib]) (by simp)) (fun x hx => .inl hx), rfl⟩)
      | ok p => rw [hb] at q5; obtain ⟨v', q5, _⟩ := q5; cases q5
 · obtain ⟨q1, q2⟩ := q
   cases ha : rC ws with
   | error e => rw [ha] at q2 hk; injection q2 with q2; subst q2; exact yT r158 (hk _ _ _ ⟨q1.mono (by simp), rfl⟩)
   | ok p => rw [ha] at q2; obtain ⟨v', q2, _⟩ := q2; cases q2
end Go.Proofs.YtapnnpoljobanaaGreatDoor
