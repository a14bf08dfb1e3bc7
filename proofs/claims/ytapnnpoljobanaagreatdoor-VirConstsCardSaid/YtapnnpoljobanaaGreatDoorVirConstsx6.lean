/- What the law leans on: an executor of the model that is sound, deduction over it, and the walks through the code (part 6 of 6). Conditions: those that each theorem states. -/
import Derived.Test.YtapnnpoljobanaaGreatDoorVirConstsx5
import Derived.Lib.LaidTab
import Derived.ProofKit
import Derived.LaidMore
import Derived.OpenShut
import Derived.Stop.Joined
import Derived.Stop.LaidErr
import Derived.ChangeOld
import Derived.Lib.LaidU8
import Derived.Shelf.Vars
import Derived.HandedShaped
import Derived.Below

set_option linter.unusedVariables false
set_option linter.unusedSimpArgs false
namespace Go.Proofs.YtapnnpoljobanaaGreatDoor
open Go.Ex Go.Ex.Vir Go.RowKit
set_option maxRecDepth 100000
set_option maxHeartbeats 4000000
theorem append_one {sT xT e n b m : Nat} {h : zD} {x a : Value} {new : List Value} {K : KH} (hT : apTB P sT xT e 1 = true) (hv : Row n h (.slice (some ⟨b, 0, none⟩) 1 1) e 1 1 [a]) (ha : a.oneCell' = true)
    (hr : Row n h x e 1 m new) (hnew : new.length = m) (h1 : ∀ y ∈ new, y.oneCell' = true) (hlim : 1 + m < 1000000) (hK : ∀ v' h' n', Row n' h' v' e 1 (1 + m) (a :: new) → Ext h n h' n' → K h' n' v' = true) :
    wA P [sT, xT] [.slice (some ⟨b, 0, none⟩) 1 1, x] h n K = true := by
  by_cases hm : 0 < m
  · refine sO hT hv (by decide) (by simpa using ha) hm hr (by omega) h1 hlim fun v' h' o x' => ?_
    exact hK v' h' _ (o.row (Nat.le_refl _)) x'
  · have hm0 : m = 0 := by omega
    subst hm0
    have hn0 : new = [] := List.length_eq_zero_iff.1 hnew
    subst hn0
    obtain ⟨xd, ei, z, t1, t2, t3, t4, t5, t6, t7, t8, t9⟩ := apTB_of hT
    have hap : uA P h e ei.size xd x = some (0, []) := by rw [t6]; exact appended_of t3 hr
    unfold wA xappend
    dsimp only
    rw [t1, t2]
    dsimp only
    rw [t4, t5]
    dsimp only
    rw [hap]
    dsimp only
    have c1 : (Nat.beq ei.size 0 || !Nat.beq (cellsOf z).length ei.size || !Nat.blt (Nat.add 1 0) 1000000 || !Nat.blt ei.bytes 100000) = false := by
      have a2 : Nat.beq (cellsOf z).length ei.size = true := by rw [t7, t6]; exact Nat.beq_refl _
      rw [a2, t6, rC t9]; rfl
    rw [c1]
    exact hK _ _ _ hv (Ext.refl _ _)
theorem ze_builder : wG P 97 = some (.agg ⟨[.pointer none, .slice none 0 0]⟩) := by kernel_rfl
def FctAll (f : Fct) : Prop := FctFit f ∧ (∀ b ∈ f.blocks, ∀ i ∈ b, InsAll i) ∧ f.vregs.length < 90000 ∧ (∀ x ∈ f.params, Go64 x) ∧ f.params.length < 50000
theorem print_pure {m : Int} {h : zD} {n : Nat} (hE : Env m h) (hn : 8 ≤ n) (f : Fct) (fv : Value) (hf : FunAt n h fv f) (hfit : FctAll f) (hlen : (vQ (uK f)).length < 1000000) :
    Pure P 8 19 [fv] h n (str (pI f)) := by
  obtain ⟨hfit, hins, hv9, hp9, hp8⟩ := hfit
  have hf0 := hf
  obtain ⟨vv, pv, bv, svs, rfl, r1, r2, r3, r4, r5⟩ := hf
  obtain ⟨z1, z2, z3, z4⟩ := hfit
  refine Rets.pureE (yK zN mixed (hint := hint19) l19 fun u k hk => ?_) (.inl rfl)
  rw [F19_eq]
  unfold F19
  refine tD (fun x hx => ?_) fun h1 c1 x1 => ?_
  · have hx : x ∈ [str f.name, vv, pv, str f.result, bv] := hx
    simp only [List.mem_cons, List.not_mem_nil, or_false] at hx
    rcases hx with rfl | rfl | rfl | rfl | rfl
    · rfl
    · exact r1.1.one
    · exact r2.1.one
    · rfl
    · exact r3.1.one
  have c1 : Cel h1 n 0 [str f.name, vv, pv, str f.result, bv] := c1
  have fA : zF P 43 h1 (ptr n 0) = some (.agg ⟨[str f.name, vv, pv, str f.result, bv]⟩) := xG c1 sh43 rfl (by decide)
  simp only [↓fA, ↓zC]
  refine yL (plain_pure f _ h1 (n + 1) (hf0.ext x1) ⟨z1, z2, z3, z4⟩) ?_
  simp only [↓xO, ↓zC, ↓zJ]
  cases hp : qK f with
  | false =>
    have e0 : pI f = [] := by unfold pI; rw [hp]; rfl
    rw [e0] at hk
    simp only [↓Bool.not_false, ↓uJ]
    exact yQ r19 rfl (hk _ _ _ ⟨rfl, x1⟩)
  | true =>
  have e0 : pI f = vQ (uK f) := by unfold pI; rw [hp]; rfl
  rw [e0] at hk
  simp only [↓Bool.not_true, ↓uN]
  refine wN ze_builder fun h2 c2 x2 => ?_
  have w2 : BldT (n + 1) (n + 1 + 1) h2 [] := ⟨by omega, .pointer none, .slice none 0 0, c2, .inl rfl, .inl ⟨rfl, rfl, rfl⟩⟩
  have hg : 8 ≤ n + 1 := by omega
  have hE2 : Env m h2 := (hE.touch (x1.touch []) hn (by simp)).touch (x2.touch []) hg (by simp)
  have C : ∀ {h' : zD} {n' : Nat}, Under (n + 1) h2 (n + 1 + 1) h' n' → Cel h' n 0 [str f.name, vv, pv, str f.result, bv] := fun x => (c1.touch (x2.touch []) (by omega) (by simp)).keep (x.2 n (by omega))
  have X : ∀ {h' : zD} {n' : Nat}, Under (n + 1) h2 (n + 1 + 1) h' n' → Ext h n h' (n + 1) := fun x => ⟨by omega, fun y hy => by rw [x.2 y (by omega), x2.2 y (by omega), x1.2 y hy]⟩
  have X' : ∀ {h' : zD} {n' : Nat}, Under (n + 1) h2 (n + 1 + 1) h' n' → Ext h n h' n' := fun x => ⟨by have := x.1; omega, (X x).2⟩
  simp only [↓xA]
  have eT : vQ (uK f) = (Lib.join [tFunc, f.name] [32] ++ [10]) ++ (Lib.join (tRegs :: f.vregs) [32] ++ [10]) ++ (Lib.join (rZ :: f.params.map Lib.itoa) [32] ++ [10]) ++ (Lib.join [qQ, f.result] [32] ++ [10]) ++ vQ (tY f) ++ (tEnd ++ [10]) := by
    unfold uK pH
    rw [textL_append, textL_append, textL_one, sL, sL, sL, textL_one]
    simp
  rw [eT] at hlen hk
  simp only [List.length_append, List.length_cons, List.length_nil] at hlen
  have s0 : Under (n + 1) h2 (n + 1 + 1) h2 (n + 1 + 1) := Under.refl _ _ _
  have g0 : zF P 9 h2 (ptr n 0) = some (str f.name) := zI (C s0) sh9 rfl
  simp only [↓fa43_0, ↓zC, ↓g0]
  refine sB (a := tFunc) (b := f.name) fun h3 c3 x3 => ?_
  refine tF (hd := []) (ws := [tFunc, f.name]) (w2.ext x3) c3 (by simp) (by simp only [List.nil_append, List.length_append, List.length_cons, List.length_nil]; omega) fun v4 h4 n4 x4 w4 => ?_
  have s4 := (Under.of_ext x3 (by omega : n + 1 ≤ n + 1 + 1)).trans x4
  have n4b := w4.1
  refine uE on23 (sM tRegs) fun h5 c5 x5 => ?_
  have s5 := s4.trans (Under.of_ext x5 (by omega : n + 1 ≤ n4))
  have g1 : zF P 23 h5 (.pointer (some ⟨n, 1, none⟩)) = some vv := zI (C s5) sh23 rfl
  simp only [↓qA, ↓zC, ↓g1]
  refine append_one ap23 c5 (sM _) (r1.1.ext (X' s5)) (by simp) (fun y hy => by obtain ⟨z, _, rfl⟩ := List.mem_map.1 hy; rfl) (by omega) fun v6 h6 n6 r6 x6 => ?_
  have r6 : Row n6 h6 v6 9 1 (tRegs :: f.vregs).length ((tRegs :: f.vregs).map str) := by rw [List.length_cons, Nat.add_comm]; exact r6
  refine tF (hd := []) (w4.ext (x5.trans x6)) r6 (by rw [List.length_cons]; omega) (by simp only [List.nil_append, List.length_append, List.length_cons, List.length_nil]; omega) fun v7 h7 n7 x7 w7 => ?_
  have s7 := s5.trans ((Under.of_ext x6 (by have := x5.1; omega)).trans x7)
  have n7b := w7.1
  refine uE on23 (sM rZ) fun h8 c8 x8 => ?_
  have s8 := s7.trans (Under.of_ext x8 (by omega : n + 1 ≤ n7))
  have g2 : zF P 40 h8 (.pointer (some ⟨n, 2, none⟩)) = some pv := zI (C s8) sh40 rfl
  simp only [↓fa43_2, ↓zC, ↓g2]
  refine uC (texts_rets (hE2.under s8 hg) (by omega) f.params hp9 pv (r2.1.ext (X' s8)) hp8) fun v9 h9 n9 ⟨x9, o9⟩ => ?_
  refine append_one ap23 (c8.ext x9) (sM _) (o9.row (Nat.le_refl _)) (by simp) (fun y hy => by obtain ⟨z, _, rfl⟩ := List.mem_map.1 hy; rfl) (by omega) fun v10 h10 n10 r10 x10 => ?_
  have r10 : Row n10 h10 v10 9 1 (rZ :: f.params.map Lib.itoa).length ((rZ :: f.params.map Lib.itoa).map str) := by
    rw [List.length_cons, Nat.add_comm, List.length_map, List.map_cons, List.map_map]; exact r10
  have x89 := x8.trans (x9.trans x10)
  refine tF (hd := []) (w7.ext x89) r10 (by rw [List.length_cons, List.length_map]; omega) (by simp only [List.nil_append, List.length_append, List.length_cons, List.length_nil]; omega) fun v11 h11 n11 x11 w11 => ?_
  have s11 := s7.trans ((Under.of_ext x89 (by omega : n + 1 ≤ n7)).trans x11)
  have n11b := w11.1
  have g3 : zF P 9 h11 (.pointer (some ⟨n, 3, none⟩)) = some (str f.result) := zI (C s11) sh9 rfl
  simp only [↓fa43_3, ↓zC, ↓g3]
  refine sB (a := qQ) (b := f.result) fun h12 c12 x12 => ?_
  refine tF (hd := []) (ws := [qQ, f.result]) (w11.ext x12) c12 (by simp) (by simp only [List.nil_append, List.length_append, List.length_cons, List.length_nil]; omega) fun v13 h13 n13 x13 w13 => ?_
  have s13 := s11.trans ((Under.of_ext x12 (by omega : n + 1 ≤ n11)).trans x13)
  have n13b := w13.1
  have g4 : zF P 41 h13 (.pointer (some ⟨n, 4, none⟩)) = some bv := zI (C s13) sh41 rfl
  have R3 : BlksRow (n + 1) h13 bv f.blocks svs := ⟨r3.1.ext (X s13), r4, fun k l v h1 h2 => (r5 k l v h1 h2).ext (X s13)⟩
  have l4 := xL (P := P) us41 R3.1 [] h13
  simp only [↓qB, ↓zC, ↓g4, ↓l4, ↓zH]
  refine printBlks_loop hg f.blocks bv svs z3 (fun l hl => ⟨(z4 l hl).1, hins l hl⟩) u _ f.blocks.length 0 (Nat.add_zero _) _ h13 n13 _ (hE2.under s13 hg) R3 w13 (by rw [List.drop_zero]; simp only [List.nil_append, List.length_append, List.length_cons, List.length_nil]; unfold tY at hlen; omega) rfl rfl rfl rfl rfl fun t14 h14 n14 x14 w14 p3 p4 => ?_
  rw [List.drop_zero] at w14
  simp only [↓zO, ↓zP]
  simp only [p3, p4, ↓zG]
  refine zV ?_
  have s14 := s13.trans x14
  have n14b := w14.1
  refine uE on23 (sM tEnd) fun h15 c15 x15 => ?_
  refine tF (hd := []) (ws := [tEnd]) (w14.ext x15) c15 (by decide) (by rw [Lib.join_one]; simp only [List.nil_append, List.length_append, List.length_cons, List.length_nil]; unfold tY at hlen; omega) fun v16 h16 n16 x16 w16 => ?_
  rw [Lib.join_one] at w16
  have s16 := s14.trans ((Under.of_ext x15 (by omega : n + 1 ≤ n14)).trans x16)
  obtain ⟨b16, p, sv, cB, hpp, oB⟩ := w16
  have hne : xX sv ≠ some (n + 1) := fun e => by have := (oB.ge _ e).1; omega
  refine uC (string_rets (p := p) (sv := sv) ⟨cB.1, cB.2 0, cB.2 1⟩ oB hne (by simp only [List.nil_append, List.length_append, List.length_cons, List.length_nil]; unfold tY at hlen; omega)) fun v17 h17 n17 ⟨q1, q2, q3⟩ => ?_
  subst q1 q2
  refine yQ r19 rfl (hk _ _ _ ⟨?_, ?_⟩)
  · simp only [List.nil_append, List.append_assoc, tY]
    rfl
  · refine ⟨(X' s16).1, fun y hy => ?_⟩
    rw [q3 y (fun e => by have := (oB.ge _ e).1; omega)]
    exact (X' s16).2 y hy
theorem sameInts_loop (xs ys : List Int) (hl : xs.length = ys.length) (av bv : Value) (h : zD) (n : Nat) (ra : Row n h av 3 1 xs.length (xs.map I64)) (rb : Row n h bv 3 1 ys.length (ys.map I64)) (hlen : xs.length < 1000000) (u : Option zL) (ka : KX) :
    ∀ (m i : Nat), m + i = xs.length → ∀ t, zA t 0 = av → zA t 1 = bv → zA t 5 = I64 (i : Nat) →
    (xs.drop i = ys.drop i → ∀ t', ka (.exit 0) t' ⟨[], u, h, n⟩ = true) → (xs.drop i ≠ ys.drop i → ∀ t', zA t' 4 = .bool false → ka .ret t' ⟨[], u, h, n⟩ = true) →
    lpS P 8 1000004 ⟨70, none, false⟩ t ⟨[], u, h, n⟩ ka = true := by
  have fl := xL (P := P) us40 ra [] h
  intro m
  induction m with
  | zero =>
    intro i hi t t0 t1 t5 hE hR
    refine xU zN mixed (hint := hint70) l70 lp70_1000004 ?_
    rw [B70_1000004_eq]
    unfold B70_1000004
    rw [t0, t1, t5]
    have e3 : vM (i : Nat) (xs.length : Nat) = false := by rw [yH]; exact decide_eq_false (by omega)
    simp only [↓zG, ↓zH]
    refine zV ?_
    simp only [↓fl, ↓zC, ↓zH, ↓e3, ↓yS, ↓uN]
    refine hE ?_ _
    rw [List.drop_eq_nil_of_le (by omega), List.drop_eq_nil_of_le (by omega)]
  | succ m ih =>
    intro i hi t t0 t1 t5 hE hR
    have hlt : i < xs.length := by omega
    have hlb : i < ys.length := by omega
    have hda : xs.drop i = xs[i] :: xs.drop (i + 1) := List.drop_eq_getElem_cons hlt
    have hdb : ys.drop i = ys[i] :: ys.drop (i + 1) := List.drop_eq_getElem_cons hlb
    obtain ⟨q, q1, q2⟩ := xZ (P := P) (k := .i64) ra ix40 (tl := 3) sh3 (i := i) (x := I64 xs[i]) (by rw [List.getElem?_map, List.getElem?_eq_getElem hlt]; rfl)
    obtain ⟨p, p1, p2⟩ := xZ (P := P) (k := .i64) rb ix40 (tl := 3) sh3 (i := i) (x := I64 ys[i]) (by rw [List.getElem?_map, List.getElem?_eq_getElem hlb]; rfl)
    generalize xs[i] = x at hda q2
    generalize ys[i] = y at hdb p2
    rw [hda, hdb] at hE hR
    refine xU zN mixed (hint := hint70) l70 lp70_1000004 ?_
    rw [B70_1000004_eq]
    unfold B70_1000004
    rw [t0, t1, t5]
    have e3 : vM (i : Nat) (xs.length : Nat) = true := by rw [yH]; exact decide_eq_true (by omega)
    simp only [↓zG, ↓zH]
    refine zV ?_
    simp only [↓fl, ↓zC, ↓zH, ↓e3, ↓yS, ↓uJ]
    refine uT (fun t w => zA t 0 = av ∧ zA t 1 = bv ∧ zA t 5 = I64 (i : Nat) ∧ w = ⟨[], u, h, n⟩ ∧ x = y) (fun t w q => ?_) (fun kk hkk => ?_)
    · obtain ⟨p0, p1, p5, rfl, hxy⟩ := q
      simp only [p0, p1, p5, ↓zG, ↓zH]
      refine zV ?_
      refine sF (by omega) ?_
      subst hxy
      exact ih (i + 1) (by omega) _ rfl rfl rfl (fun e => hE (by rw [e])) (fun e => hR (fun e' => e (List.cons.inj e').2))
    · simp only [↓q1, ↓q2, ↓p1, ↓p2, ↓zC, ↓zH, ↓xJ, ↓tC]
      by_cases hxy : x = y
      · have e4 : ineB x y = false := by rw [qP, decide_eq_true hxy]; rfl
        simp only [↓e4, ↓yS, ↓uN]
        exact hkk _ _ ⟨rfl, rfl, rfl, rfl, hxy⟩
      · have e4 : ineB x y = true := by rw [qP, decide_eq_false hxy]; rfl
        simp only [↓e4, ↓yS, ↓uJ]
        exact hR (fun e => hxy (List.cons.inj e).1) _ rfl
theorem sameInts_pure (xs ys : List Int) (av bv : Value) (h : zD) (n : Nat) (ra : Row n h av 3 1 xs.length (xs.map I64)) (rb : Row n h bv 3 1 ys.length (ys.map I64)) (hlen : xs.length < 1000000) :
    Pure P 8 70 [av, bv] h n (.bool (decide (xs = ys))) := by
  refine yK zN mixed (hint := hint70) l70 fun u k hk => ?_
  rw [F70_eq]
  unfold F70
  have e1 := xL (P := P) us40 ra [] h
  have e2 := xL (P := P) us40 rb [] h
  simp only [↓e1, ↓e2, ↓zC, ↓zH]
  by_cases hl : xs.length = ys.length
  · have e4 : ineB (xs.length : Nat) (ys.length : Nat) = false := by rw [qP, decide_eq_true (by omega)]; rfl
    simp only [↓e4, ↓yS, ↓uN]
    refine sameInts_loop xs ys hl av bv h n ra rb hlen u _ xs.length 0 (Nat.add_zero _) _ rfl rfl rfl (fun e t' => ?_) (fun e t' t4 => ?_)
    · rw [List.drop_zero, List.drop_zero] at e
      simp only [↓zO, ↓zP]
      refine zV ?_
      exact yQ r70 (v := .bool true) rfl (hk _ _ _ ⟨by rw [decide_eq_true e], rfl, rfl⟩)
    · rw [List.drop_zero, List.drop_zero] at e
      simp only [↓yE, ↓yF]
      exact yQ r70 t4 (hk _ _ _ ⟨by rw [decide_eq_false e], rfl, rfl⟩)
  · have e4 : ineB (xs.length : Nat) (ys.length : Nat) = true := by rw [qP, decide_eq_false (by omega)]; rfl
    simp only [↓e4, ↓yS, ↓uJ]
    exact yQ r70 (v := .bool false) rfl (hk _ _ _ ⟨by rw [decide_eq_false (fun e => hl (by rw [e]))], rfl, rfl⟩)
def sameI (i j : Ins) : Bool := decide (i.kind = j.kind ∧ i.d = j.d ∧ i.a = j.a ∧ i.b = j.b ∧ i.n = j.n ∧ i.name = j.name ∧ i.t = j.t ∧ i.f = j.f ∧ i.args = j.args)
theorem sameI_eq {i j : Ins} : sameI i j = true ↔ i = j := by
  unfold sameI
  rw [decide_eq_true_eq]
  cases i; cases j
  constructor
  · rintro ⟨h1, h2, h3, h4, h5, h6, h7, h8, h9⟩
    dsimp only at h1 h2 h3 h4 h5 h6 h7 h8 h9
    subst h1 h2 h3 h4 h5 h6 h7 h8 h9; rfl
  · intro h; injection h with h1 h2 h3 h4 h5 h6 h7 h8 h9
    exact ⟨h1, h2, h3, h4, h5, h6, h8, h9, h7⟩
theorem sameIns_pure (i j : Ins) (sv sw : Value) (h : zD) (n : Nat) (rs : Row n h sv 3 1 i.args.length (i.args.map I64)) (rw' : Row n h sw 3 1 j.args.length (j.args.map I64)) (hlen : i.args.length < 1000000) :
    Pure P 8 105 [.agg ⟨tA i sv⟩, .agg ⟨tA j sw⟩] h n (.bool (sameI i j)) := by
  refine Rets.pureE (yK zN mixed (hint := hint105) l105 fun u k hk => ?_) (.inl rfl)
  rw [F105_eq]
  unfold F105
  refine tD (rL rs.one) fun h1 c1 x1 => ?_
  refine tD (rL rw'.one) fun h2 c2 x2 => ?_
  have c1' : Cel h2 n 0 (tA i sv) := Cel.touch c1 (x2.touch []) (by omega) (by simp)
  have c2' : Cel h2 (n + 1) 0 (tA j sw) := c2
  have X := x1.trans x2
  have p0 : zF P 3 h2 (.pointer (some ⟨n, 0, none⟩)) = some (I64 i.kind) := zI c1' sh3 rfl
  have q0 : zF P 3 h2 (.pointer (some ⟨n + 1, 0, none⟩)) = some (I64 j.kind) := zI c2' sh3 rfl
  have p1 : zF P 3 h2 (.pointer (some ⟨n, 1, none⟩)) = some (I64 i.d) := zI c1' sh3 rfl
  have q1 : zF P 3 h2 (.pointer (some ⟨n + 1, 1, none⟩)) = some (I64 j.d) := zI c2' sh3 rfl
  have p2 : zF P 3 h2 (.pointer (some ⟨n, 2, none⟩)) = some (I64 i.a) := zI c1' sh3 rfl
  have q2 : zF P 3 h2 (.pointer (some ⟨n + 1, 2, none⟩)) = some (I64 j.a) := zI c2' sh3 rfl
  have p3 : zF P 3 h2 (.pointer (some ⟨n, 3, none⟩)) = some (I64 i.b) := zI c1' sh3 rfl
  have q3 : zF P 3 h2 (.pointer (some ⟨n + 1, 3, none⟩)) = some (I64 j.b) := zI c2' sh3 rfl
  have p4 : zF P 3 h2 (.pointer (some ⟨n, 4, none⟩)) = some (I64 i.n) := zI c1' sh3 rfl
  have q4 : zF P 3 h2 (.pointer (some ⟨n + 1, 4, none⟩)) = some (I64 j.n) := zI c2' sh3 rfl
  have p5 : zF P 9 h2 (.pointer (some ⟨n, 5, none⟩)) = some (str i.name) := zI c1' sh9 rfl
  have q5 : zF P 9 h2 (.pointer (some ⟨n + 1, 5, none⟩)) = some (str j.name) := zI c2' sh9 rfl
  have p7 : zF P 3 h2 (.pointer (some ⟨n, 7, none⟩)) = some (I64 i.t) := zI c1' sh3 rfl
  have q7 : zF P 3 h2 (.pointer (some ⟨n + 1, 7, none⟩)) = some (I64 j.t) := zI c2' sh3 rfl
  have p8 : zF P 3 h2 (.pointer (some ⟨n, 8, none⟩)) = some (I64 i.f) := zI c1' sh3 rfl
  have q8 : zF P 3 h2 (.pointer (some ⟨n + 1, 8, none⟩)) = some (I64 j.f) := zI c2' sh3 rfl
  have p6 : zF P 40 h2 (.pointer (some ⟨n, 6, none⟩)) = some sv := zI c1' sh40 rfl
  have q6 : zF P 40 h2 (.pointer (some ⟨n + 1, 6, none⟩)) = some sw := zI c2' sh40 rfl
  have fin : ∀ (t : Fr) (b : Bool), b = sameI i j → zA t 4 = .bool b → zE P (loS P 8) 105 k .ret t ⟨[], u, h2, n + 1 + 1⟩ = true := fun t b hb ht => yQ r105 ht (hk _ _ _ ⟨by rw [hb], X⟩)
  have ei : ∀ (a b : Int) K, yI wF P .eql 3 false (.int .i64 a) (.int .i64 b) K = K (decide (a = b)) := fun a b K => by rw [cmpI, wU]
  have ec : ∀ (a b : Tx) K, yI wF P .eql 9 false (str a) (str b) K = K (decide (a = b)) := fun a b K => by
    rw [wV]
    congr 1
    by_cases e : a = b
    · rw [decide_eq_true e, e]; simp
    · rw [decide_eq_false e]; simpa using e
  have e0 : wF i.kind j.kind = decide (i.kind = j.kind) := wU _ _
  simp only [↓yS, ↓uY, ↓zC, ↓p0, ↓q0, ↓zH, ↓e0]
  by_cases g0 : i.kind = j.kind
  case neg =>
    simp only [↓decide_eq_false g0, ↓xQ, ↓zR, ↓xC, ↓xM, ↓zJ, ↓xB]
    exact fin _ false (by unfold sameI; exact (decide_eq_false (by simp [g0])).symm) rfl
  simp only [↓decide_eq_true g0, ↓zR, ↓xC, ↓zJ, ↓xB, ↓fa50_1, ↓zC, ↓p1, ↓q1, ↓zH, ↓ei]
  by_cases g1 : i.d = j.d
  case neg =>
    simp only [↓decide_eq_false g1, ↓xQ, ↓zR, ↓xC, ↓xM, ↓zJ, ↓xB]
    exact fin _ false (by unfold sameI; exact (decide_eq_false (by simp [g1])).symm) rfl
  simp only [↓decide_eq_true g1, ↓zR, ↓xC, ↓zJ, ↓xB, ↓sY, ↓zC, ↓p2, ↓q2, ↓zH, ↓ei]
  by_cases g2 : i.a = j.a
  case neg =>
    simp only [↓decide_eq_false g2, ↓xQ, ↓zR, ↓xC, ↓xM, ↓zJ, ↓xB]
    exact fin _ false (by unfold sameI; exact (decide_eq_false (by simp [g2])).symm) rfl
  simp only [↓decide_eq_true g2, ↓zR, ↓xC, ↓zJ, ↓xB, ↓fa50_3, ↓zC, ↓p3, ↓q3, ↓zH, ↓ei]
  by_cases g3 : i.b = j.b
  case neg =>
    simp only [↓decide_eq_false g3, ↓xQ, ↓zR, ↓xC, ↓xM, ↓zJ, ↓xB]
    exact fin _ false (by unfold sameI; exact (decide_eq_false (by simp [g3])).symm) rfl
  simp only [↓decide_eq_true g3, ↓zR, ↓xC, ↓zJ, ↓xB, ↓fa50_4, ↓zC, ↓p4, ↓q4, ↓zH, ↓ei]
  by_cases g4 : i.n = j.n
  case neg =>
    simp only [↓decide_eq_false g4, ↓xQ, ↓zR, ↓xC, ↓xM, ↓zJ, ↓xB]
    exact fin _ false (by unfold sameI; exact (decide_eq_false (by simp [g4])).symm) rfl
  simp only [↓decide_eq_true g4, ↓zR, ↓xC, ↓zJ, ↓xB, ↓qC, ↓zC, ↓p5, ↓q5, ↓zH, ↓ec]
  by_cases g5 : i.name = j.name
  case neg =>
    simp only [↓decide_eq_false g5, ↓xQ, ↓zR, ↓xC, ↓xM, ↓zJ, ↓xB]
    exact fin _ false (by unfold sameI; exact (decide_eq_false (by simp [g5])).symm) rfl
  simp only [↓decide_eq_true g5, ↓zR, ↓xC, ↓zJ, ↓xB, ↓fa50_7, ↓zC, ↓p7, ↓q7, ↓zH, ↓ei]
  by_cases g7 : i.t = j.t
  case neg =>
    simp only [↓decide_eq_false g7, ↓xQ, ↓zR, ↓xC, ↓xM, ↓zJ, ↓xB]
    exact fin _ false (by unfold sameI; exact (decide_eq_false (by simp [g7])).symm) rfl
  simp only [↓decide_eq_true g7, ↓zR, ↓xC, ↓zJ, ↓xB, ↓fa50_8, ↓zC, ↓p8, ↓q8, ↓zH, ↓ei]
  by_cases g8 : i.f = j.f
  case neg =>
    simp only [↓decide_eq_false g8, ↓xQ, ↓zR, ↓xC, ↓xM, ↓zJ, ↓xB]
    exact fin _ false (by unfold sameI; exact (decide_eq_false (by simp [g8])).symm) rfl
  simp only [↓decide_eq_true g8, ↓zR, ↓xC, ↓zJ, ↓xB, ↓sA, ↓zC, ↓p6, ↓q6]
  refine yL (sameInts_pure i.args j.args sv sw h2 _ (rs.ext X) (rw'.ext X) hlen) ?_
  try simp only [↓zR, ↓xC, ↓zJ]
  exact fin _ (decide (i.args = j.args)) (by unfold sameI; simp [*]) rfl
theorem lks_none (hs : List W) : lks hs [] = true := rfl
theorem sameBlk_loop (l : List Ins) (hl : l.length < 1000000) (hlen : ∀ i ∈ l, i.args.length < 1000000) (av bv va vb : Value) (ix : Int) (h : zD) (n : Nat) {qa qb : Value} (a1 : zW P 41 av (I64 ix) = some qa) (a2 : zF P 51 h qa = some va)
    (b1 : zW P 41 bv (I64 ix) = some qb) (b2 : zF P 51 h qb = some vb) (ra : BlkRO [] n h va l) (rb : BlkRO [] n h vb l) (u : Option zL) (ka : KX) :
    ∀ (m j : Nat), m + j = l.length → ∀ t, zA t 0 = av → zA t 1 = bv → zA t 5 = I64 ix → zA t 6 = I64 (j : Nat) → (∀ t', zA t' 0 = av → zA t' 1 = bv → zA t' 5 = I64 ix → ka (.exit 2) t' ⟨[], u, h, n⟩ = true) →
    lpS P 8 1000009 ⟨71, none, false⟩ t ⟨[], u, h, n⟩ ka = true := by
  obtain ⟨ava, ⟨ha1, ha2⟩, hra⟩ := id ra
  obtain ⟨avb, ⟨hb1, hb2⟩, hrb⟩ := id rb
  have fl := xL (P := P) us51 hra.1 [] h
  intro m
  induction m with
  | zero =>
    intro j hj t t0 t1 t5 t6 hE
    refine xU zN mixed (hint := hint71) l71 lp71_1000009 ?_
    rw [B71_1000009_eq]
    unfold B71_1000009
    rw [t0, t1, t5, t6]
    have e3 : vM (j : Nat) (l.length : Nat) = false := by rw [yH]; exact decide_eq_false (by omega)
    simp only [↓zG, ↓zH]
    refine zV ?_
    simp only [↓a1, ↓a2, ↓fl, ↓zC, ↓zH, ↓e3, ↓yS, ↓uN]
    exact hE _ rfl rfl rfl
  | succ m ih =>
    intro j hj t t0 t1 t5 t6 hE
    have hlt : j < l.length := by omega
    have hgt : l[j]? = some l[j] := List.getElem?_eq_getElem hlt
    have hga : ava[j]? = some (ava[j]'(by omega)) := List.getElem?_eq_getElem (by omega)
    have hgb : avb[j]? = some (avb[j]'(by omega)) := List.getElem?_eq_getElem (by omega)
    obtain ⟨q, q1, q2⟩ := sQ (P := P) (k := .i64) hra.1 ix51 (tl := 50) sh50 (by decide) hlt
    obtain ⟨p, p1, p2⟩ := sQ (P := P) (k := .i64) hrb.1 ix51 (tl := 50) sh50 (by decide) hlt
    rw [insFlat_at ha1 hgt hga] at q2
    rw [insFlat_at hb1 hgt hgb] at p2
    have hsa := (ha2 j _ _ hgt hga).1
    have hsb := (hb2 j _ _ hgt hgb).1
    refine xU zN mixed (hint := hint71) l71 lp71_1000009 ?_
    rw [B71_1000009_eq]
    unfold B71_1000009
    rw [t0, t1, t5, t6]
    have e3 : vM (j : Nat) (l.length : Nat) = true := by rw [yH]; exact decide_eq_true (by omega)
    simp only [↓zG, ↓zH]
    refine zV ?_
    simp only [↓a1, ↓a2, ↓fl, ↓zC, ↓zH, ↓e3, ↓yS, ↓uJ]
    refine uT (fun t w => zA t 0 = av ∧ zA t 1 = bv ∧ zA t 5 = I64 ix ∧ zA t 6 = I64 (j : Nat) ∧ w = ⟨[], u, h, n⟩) (fun t w q => ?_) (fun kk hkk => ?_)
    · obtain ⟨p0, p1, p5, p6, rfl⟩ := q
      simp only [p0, p1, p5, p6, ↓zG, ↓zH]
      refine zV ?_
      refine sF (by omega) ?_
      exact ih (j + 1) (by omega) _ rfl rfl rfl rfl hE
    · simp only [↓a1, ↓a2, ↓b1, ↓b2, ↓q1, ↓q2, ↓p1, ↓p2, ↓zC]
      refine yL (sameIns_pure _ _ _ _ h n hsa hsb (hlen _ (List.getElem_mem hlt))) ?_
      rw [vP (Nat.le_refl _), tC, lks_none, tC]
      have es : sameI l[j] l[j] = true := sameI_eq.2 rfl
      simp only [↓es, ↓xO, ↓zC, ↓zJ, ↓Bool.not_true, ↓uN]
      exact hkk _ _ ⟨rfl, rfl, rfl, rfl, rfl⟩
theorem sameBlks_loop (ls : List (List Ins)) (hl : ls.length < 1000000) (hlen : ∀ l ∈ ls, l.length < 1000000 ∧ ∀ i ∈ l, i.args.length < 1000000) (av bv : Value) (sva svb : List Value) (h : zD) (n : Nat) (ra : BlksRow n h av ls sva) (rb : BlksRow n h bv ls svb) (u : Option zL) (ka : KX) :
    ∀ (m i : Nat), m + i = ls.length → ∀ t, zA t 0 = av → zA t 1 = bv → zA t 5 = I64 (i : Nat) → (∀ t', ka (.exit 0) t' ⟨[], u, h, n⟩ = true) →
    lpS P 8 1000004 ⟨71, none, false⟩ t ⟨[], u, h, n⟩ ka = true := by
  have fl := xL (P := P) us41 ra.1 [] h
  intro m
  induction m with
  | zero =>
    intro i hi t t0 t1 t5 hE
    refine xU zN mixed (hint := hint71) l71 lp71_1000004 ?_
    rw [B71_1000004_eq]
    unfold B71_1000004
    rw [t0, t1, t5]
    have e3 : vM (i : Nat) (ls.length : Nat) = false := by rw [yH]; exact decide_eq_false (by omega)
    simp only [↓zG, ↓zH]
    refine zV ?_
    simp only [↓fl, ↓zC, ↓zH, ↓e3, ↓yS, ↓uN]
    exact hE _
  | succ m ih =>
    intro i hi t t0 t1 t5 hE
    have hlt : i < ls.length := by omega
    have sa := ra.2.1
    have sb := rb.2.1
    have hgt : ls[i]? = some ls[i] := List.getElem?_eq_getElem hlt
    have hga : sva[i]? = some (sva[i]'(by omega)) := List.getElem?_eq_getElem (by omega)
    have hgb : svb[i]? = some (svb[i]'(by omega)) := List.getElem?_eq_getElem (by omega)
    have ba := ra.2.2 i _ _ hgt hga
    have bb := rb.2.2 i _ _ hgt hgb
    have hfi := hlen _ (List.getElem_mem hlt)
    obtain ⟨q, q1, q2⟩ := xZ (P := P) (k := .i64) ra.1 ix41 (tl := 51) sh51 hga
    obtain ⟨p, p1, p2⟩ := xZ (P := P) (k := .i64) rb.1 ix41 (tl := 51) sh51 hgb
    generalize ls[i] = y at ba bb hfi
    obtain ⟨_, _, ya⟩ := id ba
    obtain ⟨_, _, yb⟩ := id bb
    have la := xL (P := P) us51 ya.1 [] h
    have lb := xL (P := P) us51 yb.1 [] h
    refine xU zN mixed (hint := hint71) l71 lp71_1000004 ?_
    rw [B71_1000004_eq]
    unfold B71_1000004
    rw [t0, t1, t5]
    have e3 : vM (i : Nat) (ls.length : Nat) = true := by rw [yH]; exact decide_eq_true (by omega)
    have e4 : ineB (y.length : Nat) (y.length : Nat) = false := by rw [qP, decide_eq_true rfl]; rfl
    simp only [↓zG, ↓zH]
    refine zV ?_
    simp only [↓fl, ↓zC, ↓zH, ↓e3, ↓yS, ↓uJ]
    refine uT (fun t w => zA t 0 = av ∧ zA t 1 = bv ∧ zA t 5 = I64 (i : Nat) ∧ w = ⟨[], u, h, n⟩) (fun t w q => ?_) (fun kk hkk => ?_)
    · obtain ⟨p0, p1, p5, rfl⟩ := q
      simp only [p0, p1, p5, ↓zG, ↓zH]
      refine zV ?_
      refine sF (by omega) ?_
      exact ih (i + 1) (by omega) _ rfl rfl rfl hE
    · simp only [↓q1, ↓q2, ↓p1, ↓p2, ↓la, ↓lb, ↓zC, ↓zH, ↓e4, ↓yS, ↓uN, ↓xJ, ↓tC]
      refine sameBlk_loop y hfi.1 hfi.2 av bv _ _ _ h n q1 q2 p1 p2 ba bb u _ y.length 0 (Nat.add_zero _) _ rfl rfl rfl rfl fun t' r0 r1 r5 => ?_
      simp only [↓zO, ↓zP]
      simp only [r0, r1, r5, ↓zG, ↓zH]
      refine zV ?_
      exact hkk _ _ ⟨rfl, rfl, rfl, rfl⟩
theorem sameBlocks_true (ls : List (List Ins)) (hl : ls.length < 1000000) (hlen : ∀ l ∈ ls, l.length < 1000000 ∧ ∀ i ∈ l, i.args.length < 1000000) (av bv : Value) (sva svb : List Value) (h : zD) (n : Nat) (ra : BlksRow n h av ls sva) (rb : BlksRow n h bv ls svb) :
    Pure P 8 71 [av, bv] h n (.bool true) := by
  refine yK zN mixed (hint := hint71) l71 fun u k hk => ?_
  rw [F71_eq]
  unfold F71
  have e1 := xL (P := P) us41 ra.1 [] h
  have e2 := xL (P := P) us41 rb.1 [] h
  have e4 : ineB (ls.length : Nat) (ls.length : Nat) = false := by rw [qP, decide_eq_true rfl]; rfl
  simp only [↓e1, ↓e2, ↓zC, ↓zH, ↓e4, ↓yS, ↓uN]
  refine sameBlks_loop ls hl hlen av bv sva svb h n ra rb u _ ls.length 0 (Nat.add_zero _) _ rfl rfl rfl fun t' => ?_
  simp only [↓zO, ↓zP]
  refine zV ?_
  exact yQ r71 (v := .bool true) rfl (hk _ _ _ ⟨rfl, rfl, rfl⟩)
theorem sameVregs_loop (ws : List Tx) (hlen : ws.length < 1000000) (fb gb : Nat) (av bv : Value) (h : zD) (n : Nat) {ca cb : List Value} (c1 : Cel h fb 0 ca) (c2 : Cel h gb 0 cb) (a1 : ca[1]? = some av) (b1 : cb[1]? = some bv)
    (ra : Row n h av 9 1 ws.length (ws.map str)) (rb : Row n h bv 9 1 ws.length (ws.map str)) (u : Option zL) (ka : KX) :
    ∀ (m i : Nat), m + i = ws.length → ∀ t, zA t 2 = ptr fb 0 → zA t 3 = ptr gb 0 → zA t 5 = I64 (i : Nat) → (∀ t', zA t' 2 = ptr fb 0 → zA t' 3 = ptr gb 0 → ka (.exit 0) t' ⟨[], u, h, n⟩ = true) →
    lpS P 8 1000004 ⟨24, none, false⟩ t ⟨[], u, h, n⟩ ka = true := by
  have la : zF P 23 h (.pointer (some ⟨fb, 1, none⟩)) = some av := zI c1 sh23 a1
  have lb : zF P 23 h (.pointer (some ⟨gb, 1, none⟩)) = some bv := zI c2 sh23 b1
  have fl := xL (P := P) us23 ra [] h
  intro m
  induction m with
  | zero =>
    intro i hi t t2 t3 t5 hE
    refine xU zN mixed (hint := hint24) l24 lp24_1000004 ?_
    rw [B24_1000004_eq]
    unfold B24_1000004
    rw [t2, t3, t5]
    have e3 : vM (i : Nat) (ws.length : Nat) = false := by rw [yH]; exact decide_eq_false (by omega)
    simp only [↓zG, ↓zH]
    refine zV ?_
    simp only [↓qA, ↓la, ↓fl, ↓zC, ↓zH, ↓e3, ↓yS, ↓uN]
    exact hE _ rfl rfl
  | succ m ih =>
    intro i hi t t2 t3 t5 hE
    have hlt : i < ws.length := by omega
    obtain ⟨q, q1, q2⟩ := xZ (P := P) (k := .i64) ra ix23 (tl := 9) sh9 (i := i) (x := str ws[i]) (by rw [List.getElem?_map, List.getElem?_eq_getElem hlt]; rfl)
    obtain ⟨p, p1, p2⟩ := xZ (P := P) (k := .i64) rb ix23 (tl := 9) sh9 (i := i) (x := str ws[i]) (by rw [List.getElem?_map, List.getElem?_eq_getElem hlt]; rfl)
    generalize ws[i] = x at q2 p2
    refine xU zN mixed (hint := hint24) l24 lp24_1000004 ?_
    rw [B24_1000004_eq]
    unfold B24_1000004
    rw [t2, t3, t5]
    have e3 : vM (i : Nat) (ws.length : Nat) = true := by rw [yH]; exact decide_eq_true (by omega)
    have e4 : (x == x) = true := by simp
    simp only [↓zG, ↓zH]
    refine zV ?_
    simp only [↓qA, ↓la, ↓fl, ↓zC, ↓zH, ↓e3, ↓yS, ↓uJ]
    refine uT (fun t w => zA t 2 = ptr fb 0 ∧ zA t 3 = ptr gb 0 ∧ zA t 5 = I64 (i : Nat) ∧ w = ⟨[], u, h, n⟩) (fun t w q => ?_) (fun kk hkk => ?_)
    · obtain ⟨p0, p1, p5, rfl⟩ := q
      simp only [p0, p1, p5, ↓zG, ↓zH]
      refine zV ?_
      refine sF (by omega) ?_
      exact ih (i + 1) (by omega) _ rfl rfl rfl hE
    · simp only [↓qA, ↓la, ↓lb, ↓q1, ↓q2, ↓p1, ↓p2, ↓zC, ↓cmpSL_ne, ↓e4, ↓Bool.not_true, ↓xJ, ↓tC, ↓uN]
      exact hkk _ _ ⟨rfl, rfl, rfl, rfl⟩
theorem sameFunc_true (f : Fct) (v w : Value) (h : zD) (n : Nat) (hv : FunAt n h v f) (hw : FunAt n h w f) (hfit : FctFit f) :
    Pure P 8 24 [v, w] h n (.bool true) := by
  obtain ⟨vv, pv, bv, svs, rfl, r1, r2, r3, r4, r5⟩ := hv
  obtain ⟨vv', pv', bv', svs', rfl, s1, s2, s3, s4, s5⟩ := hw
  obtain ⟨z1, z2, z3, z4⟩ := hfit
  refine Rets.pureE (yK zN mixed (hint := hint24) l24 fun u k hk => ?_) (.inl rfl)
  rw [F24_eq]
  unfold F24
  have one5 : ∀ {a b c : Value} {x y : Tx}, a.oneCell' = true → b.oneCell' = true → c.oneCell' = true → ∀ z ∈ [str x, a, b, str y, c], z.oneCell' = true := fun ha hb hc z hz => by
    simp only [List.mem_cons, List.not_mem_nil, or_false] at hz
    rcases hz with rfl | rfl | rfl | rfl | rfl <;> first | rfl | assumption
  refine tD (one5 r1.1.one r2.1.one r3.1.one) fun h1 c1 x1 => ?_
  refine tD (one5 s1.1.one s2.1.one s3.1.one) fun h2 c2 x2 => ?_
  have c1' : Cel h2 n 0 [str f.name, vv, pv, str f.result, bv] := Cel.touch c1 (x2.touch []) (by omega) (by simp)
  have c2' : Cel h2 (n + 1) 0 [str f.name, vv', pv', str f.result, bv'] := c2
  have X := x1.trans x2
  have R1 := r1.1.ext X
  have R2 := r2.1.ext X
  have R3 : BlksRow (n + 1 + 1) h2 bv f.blocks svs := ⟨r3.1.ext X, r4, fun k l v h1 h2 => (r5 k l v h1 h2).ext X⟩
  have S1 := s1.1.ext X
  have S2 := s2.1.ext X
  have S3 : BlksRow (n + 1 + 1) h2 bv' f.blocks svs' := ⟨s3.1.ext X, s4, fun k l v h1 h2 => (s5 k l v h1 h2).ext X⟩
  have p0 : zF P 9 h2 (ptr n 0) = some (str f.name) := zI c1' sh9 rfl
  have q0 : zF P 9 h2 (ptr (n + 1) 0) = some (str f.name) := zI c2' sh9 rfl
  have p3 : zF P 9 h2 (.pointer (some ⟨n, 3, none⟩)) = some (str f.result) := zI c1' sh9 rfl
  have q3 : zF P 9 h2 (.pointer (some ⟨n + 1, 3, none⟩)) = some (str f.result) := zI c2' sh9 rfl
  have p1 : zF P 23 h2 (.pointer (some ⟨n, 1, none⟩)) = some vv := zI c1' sh23 rfl
  have q1 : zF P 23 h2 (.pointer (some ⟨n + 1, 1, none⟩)) = some vv' := zI c2' sh23 rfl
  have p2 : zF P 40 h2 (.pointer (some ⟨n, 2, none⟩)) = some pv := zI c1' sh40 rfl
  have q2 : zF P 40 h2 (.pointer (some ⟨n + 1, 2, none⟩)) = some pv' := zI c2' sh40 rfl
  have p4 : zF P 41 h2 (.pointer (some ⟨n, 4, none⟩)) = some bv := zI c1' sh41 rfl
  have q4 : zF P 41 h2 (.pointer (some ⟨n + 1, 4, none⟩)) = some bv' := zI c2' sh41 rfl
  have lp := xL (P := P) us23 R1 [] h2
  have lq := xL (P := P) us23 S1 [] h2
  have en : ∀ a : Tx, (a == a) = true := fun a => by simp
  have ei : ∀ (a : Int) K, yI ineB P .neq 3 false (.int .i64 a) (.int .i64 a) K = K false := fun a K => by
    rw [cmpI, qP, decide_eq_true rfl]; rfl
  simp only [↓fa43_0, ↓qA, ↓fa43_3, ↓zC, ↓p0, ↓q0, ↓cmpSL_ne, ↓en, ↓Bool.not_true, ↓qJ, ↓xB, ↓p3, ↓q3, ↓xM, ↓zJ, ↓p1, ↓q1, ↓lp, ↓lq, ↓zH, ↓ei, ↓uN]
  refine sameVregs_loop f.vregs z1 n (n + 1) vv vv' h2 (n + 1 + 1) c1' c2' rfl rfl R1 S1 u _ f.vregs.length 0 (Nat.add_zero _) _ rfl rfl rfl fun t' g2 g3 => ?_
  simp only [↓zO, ↓zP]
  simp only [g2, g3, ↓zG]
  refine zV ?_
  simp only [↓fa43_2, ↓qB, ↓zC, ↓p2, ↓q2]
  have hI := sameInts_pure f.params f.params pv pv' h2 _ R2 S2 (by omega)
  rw [show decide (f.params = f.params) = true from decide_eq_true rfl] at hI
  refine yL hI ?_
  simp only [↓fa43_2, ↓qB, ↓zC, ↓p4, ↓q4]
  refine yL (sameBlocks_true f.blocks z3 (fun l hl => ⟨(z4 l hl).1, fun i hi => by have := ((z4 l hl).2 i hi).2; omega⟩) bv bv' svs svs' h2 _ R3 S3) ?_
  simp only [↓xB, ↓xC, ↓zJ]
  exact yQ r24 (v := .bool true) rfl (hk _ _ _ ⟨rfl, X⟩)
theorem ofOK_of {st : St} {l : Tx} {st' : St} (h : vZ st l = .ok st') : OfOK st l := by
  unfold vZ at h
  cases hc : (!st.ended && !(l == [])) <;> rw [hc] at h
  · cases h
  simp only [reduceIte] at h
  refine ⟨fun hs => ?_, fun hs h1 h2 ho => ?_⟩
  · rw [if_pos hs] at h
    cases e : ofW l [] with
    | error x => rw [e] at h; cases h
    | ok ws => exact ⟨ws, rfl⟩
  · rw [if_neg (by omega), h1, h2, ho] at h
    cases e : ofW l tTwo with
    | error x => rw [e] at h; cases h
    | ok ws => exact ⟨ws, rfl⟩
theorem ro_nil {n : Nat} {h : zD} {e sz : Nat} : RO [] n h (.slice none 0 0) e sz 0 [] := ⟨.inl ⟨rfl, rfl, rfl⟩, fun _ hb => (by cases hb), fun _ _ _ hb => (by cases hb)⟩
theorem RO.ext {n n' : Nat} {h h' : zD} {v : Value} {e sz len : Nat} {vs : List Value} (r : RO [] n h v e sz len vs) (x : Ext h n h' n') : RO [] n' h' v e sz len vs := r.step (x.touch []) (by simp) (by simp)
theorem ro_built {n len e sz m : Nat} {h : zD} {vs : List Value} (r : Row (n + 1) h (.slice (some ⟨n, 0, none⟩) len len) e sz len vs) (hi : tL (zT h n) = some (m, 0, 0)) : RO [] (n + 1) h (.slice (some ⟨n, 0, none⟩) len len) e sz len vs :=
  ⟨r, fun _ _ => by simp, fun b m' z hb hx => by
    injection hb with hb
    subst hb
    rw [hi] at hx
    injection hx with hx; injection hx with _ hx; injection hx with hx _; cases hx⟩
theorem qM {ty e : TypeId} (ht : oneTB P ty e = true) {v : Value} (hv : v.oneCell' = true) {h : zD} {n : Nat} {K : KH}
    (hK : ∀ h', RO [] (n + 1) h' (.slice (some ⟨n, 0, none⟩) 1 1) e 1 1 [v] → Ext h n h' (n + 1) → K h' (n + 1) (.slice (some ⟨n, 0, none⟩) 1 1) = true) : zQ P ty 1 [(0, v)] h n K = true := by
  refine buildS_in (cs := [v]) ?_ rfl (by unfold inf; omega) fun h' r hi x => hK h' (ro_built r hi) x
  unfold oneTB at ht
  unfold xH
  cases h1 : und P ty <;> rw [h1] at ht <;> first | (cases ht; done) | skip
  rename_i d
  cases d <;> first | (cases ht; done) | skip
  rename_i e'
  dsimp only at ht ⊢
  cases h2 : wG P e' <;> rw [h2] at ht <;> first | (cases ht; done) | skip
  rename_i z
  cases h3 : inf? P e' <;> rw [h3] at ht <;> first | (cases ht; done) | skip
  rename_i ei
  dsimp only at ht ⊢
  obtain ⟨_, ht⟩ := Bool.and_eq_true_iff.1 ht
  obtain ⟨a1, a2⟩ := Bool.and_eq_true_iff.1 ht
  have e1 := zX a1
  have e2 := zX a2
  rw [e1, e2]
  obtain ⟨x, hx⟩ : ∃ x, cellsOf z = [x] := List.length_eq_one_iff.1 e2
  rw [hx]
  have e3 := cellsOf_one hv
  show (match aFill (fun i => some (Nat.mul i 1, 1)) [x] [(0, v)] with
        | some cs => some (uQ cs 0)
        | none => none) = _
  have : aFill (fun i => some (Nat.mul i 1, 1)) [x] [(0, v)] = some [v] := by
    unfold aFill
    dsimp only
    rw [e3]
    rfl
  rw [this]
theorem build_ins {i : Ins} {sv : Value} {h : zD} {n : Nat} {K : KH} (ha : RO [] n h sv 3 1 i.args.length (i.args.map I64))
    (hK : ∀ h', BlkRO [] (n + 1) h' (.slice (some ⟨n, 0, none⟩) 1 1) [i] → Ext h n h' (n + 1) → K h' (n + 1) (.slice (some ⟨n, 0, none⟩) 1 1) = true) : zQ P 51 1 [(0, .agg ⟨tA i sv⟩)] h n K = true := by
  have z : xH P 51 1 [(0, .agg ⟨tA i sv⟩)] = some (uQ (tA i sv) 0) := rfl
  refine buildS_in (e := 50) (sz := 9) z rfl (by unfold inf; omega) fun h' r hi x => hK h' ⟨[sv], ⟨rfl, fun j i' a h1 h2 => ?_⟩, ?_⟩ x
  · cases j with
    | zero =>
      simp only [List.getElem?_cons_zero, Option.some.injEq] at h1 h2
      subst h1 h2
      exact ha.ext x
    | succ j => simp at h1
  · have e : qE [i] [sv] = tA i sv := by simp [qE]
    rw [e]
    exact ro_built r hi
theorem num_pure (e : Int) (h : zD) (n : Nat) : Pure P 8 23 [I64 e] h n (I64 e) := by
  refine yK zN mixed (hint := hint23) l23 fun u k hk => ?_
  rw [F23_eq]
  unfold F23
  simp only [↓zH]
  exact yQ r23 rfl (hk _ _ _ ⟨rfl, rfl, rfl⟩)
theorem itoa_zero : Lib.itoa 0 = [48] := by
  unfold Lib.itoa
  rw [if_neg (by decide), show (0 : Int).toNat = 0 from rfl, Lib.decDigits_one (by decide)]
  rfl
def exF : Fct := ⟨[102], [[103]], [0], [103], [[{ Ins.z with kind := 9 }]]⟩
def exT : Tx := [102, 117, 110, 99, 32, 102, 10, 114, 101, 103, 115, 32, 103, 10, 112, 97, 114, 97, 109, 115, 32, 48, 10, 114, 101, 115, 117, 108, 116, 32, 103, 10, 98, 108, 111, 99, 107, 10, 32, 32, 114, 101, 116, 32, 48, 10, 101, 110, 100, 10]
theorem exF_plain : qK exF = true := by decide
theorem exF_text : vQ (uK exF) = exT := by
  unfold uK pH tY exF
  simp [vQ, vY, uR, qS, Ins.z, itoa_zero, Lib.join_cons, Lib.joinTail, exT]
theorem exF_print : pI exF = exT := by rw [qL exF_plain, exF_text]
theorem exF_ins : ∀ b ∈ exF.blocks, ∀ i ∈ b, Go64 i.n := by
  intro b hb i hi
  simp only [exF, List.mem_cons, List.not_mem_nil, or_false] at hb
  subst hb
  simp only [List.mem_cons, List.not_mem_nil, or_false] at hi
  subst hi
  exact ⟨by decide, by decide⟩
theorem exF_read : readS exT = (exF, 0, 0) ∧ RunOK (exT.length + 1) exT St.z OfOK := by
  have h := readS_print (Q := OfOK) (fun _ _ _ h => ofOK_of h) exF_plain exF_ins (by rw [exF_print]; decide)
  rw [exF_print] at h
  exact h
theorem insAll_of {i : Ins} (h : wD i = true) (hn : Go64 i.n) : InsAll i := by
  obtain ⟨_, _, ⟨sa, sb, st, sf⟩, hargs, hal, hk⟩ := plainI_of h
  have hd : Go64 i.d := by
    split at hk
    · simp only [Bool.and_eq_true] at hk; exact wQ hk.2
    · split at hk
      · simp only [Bool.and_eq_true, Bool.or_eq_true, decide_eq_true_eq] at hk
        rcases hk.2 with e | e
        · rw [e]; exact ⟨by decide, by decide⟩
        · exact wQ e
      · exact wQ hk
  exact ⟨hd, wQ sa, wQ sb, hn, wQ st, wQ sf, fun x hx => wQ (List.all_eq_true.1 hargs x hx), by omega⟩
theorem fctAll_of {f : Fct} (h : qK f = true) (hn : ∀ b ∈ f.blocks, ∀ i ∈ b, Go64 i.n) : FctAll f := by
  obtain ⟨h1, h2, h3, h4, h5, h6, h7, h8⟩ := plainF_of h
  have hi : ∀ b ∈ f.blocks, ∀ i ∈ b, InsAll i := fun b hb i hi => insAll_of (List.all_eq_true.1 (h8 b hb).2 i hi) (hn b hb i hi)
  refine ⟨⟨by omega, by omega, by omega, fun b hb => ⟨by have := (h8 b hb).1; omega, fun i hib => ?_⟩⟩, hi, by omega, fun x hx => wQ (List.all_eq_true.1 h6 x hx), by omega⟩
  have a := hi b hb i hib
  exact ⟨a.1, by have := a.2.2.2.2.2.2.2; omega⟩
theorem fun_one {n : Nat} {h : zD} {v : Value} {f : Fct} (a : FunAt n h v f) : ∃ l, v = .agg ⟨l⟩ ∧ l.length = 5 ∧ ∀ x ∈ l, x.oneCell' = true := by
  obtain ⟨vv, pv, bv, svs, rfl, r1, r2, r3, _⟩ := a
  refine ⟨_, rfl, rfl, fun x hx => ?_⟩
  simp only [List.mem_cons, List.not_mem_nil, or_false] at hx
  rcases hx with rfl | rfl | rfl | rfl | rfl
  · rfl
  · exact r1.1.one
  · exact r2.1.one
  · rfl
  · exact r3.1.one
theorem store_fun {n b : Nat} {h h0 : zD} {v : Value} {f : Fct} {K : KH} (a : FunAt n h v f) (c : ∃ z vs, Cel h0 b z vs ∧ vs.length = 5) (hb : b < n) (hK : ∀ h', (∀ x, x ≠ b → zT h' x = zT h0 x) → (∀ {h2 : zD} {n2 : Nat}, Ext h' n h2 n2 → zF P 43 h2 (ptr b 0) = some v) → K h' n undef = true) :
    zU P 43 (ptr b 0) v h0 n K = true := by
  obtain ⟨l, rfl, h5, hone⟩ := fun_one a
  obtain ⟨z, vs, c, hl⟩ := c
  refine xR c sh43 h5 hl hone fun h2 c2 k2 => hK h2 k2 fun x => ?_
  exact xG (c2.touch (x.touch []) hb (by simp)) sh43 h5 (by decide)
theorem cmp_same {f : Int → Int → Bool} {ty : TypeId} {q : Bool} {a b : Tx} {K : Bool → Bool} (h : a = b) (hK : K true = true) : yI f P .eql ty q (str a) (str b) K = true := by
  rw [wV, h]
  simpa using hK
theorem shp : yD P 112 = .scal := by kernel_rfl
theorem alive_pure {m : Int} {h : zD} {n : Nat} (hE : Env m h) (hn : 8 ≤ n) : Pure P 8 16 [] h n (.bool true) := by
  refine Rets.pureE (yK zN mixed (hint := hint16) l16 fun u k hk => ?_) (.inl rfl)
  rw [F16_eq]
  unfold F16
  refine qM on23 (sM [103]) fun h1 r1 x1 => ?_
  refine qM on40 (v := I64 0) rfl fun h2 r2 x2 => ?_
  have z1 : vU P 50 [(0, .int .i64 9)] = some (.agg ⟨tA { Ins.z with kind := 9 } (.slice none 0 0)⟩) := by kernel_rfl
  simp only [↓z1, ↓zC]
  refine build_ins (i := { Ins.z with kind := 9 }) ro_nil fun h3 r3 x3 => ?_
  refine qM on41 (v := .slice (some ⟨n + 1 + 1, 0, none⟩) 1 1) rfl fun h4 r4 x4 => ?_
  have z2 : vU P 43 [(0, .string (ByteArray.mk #[102])), (1, .slice (some ⟨n, 0, none⟩) 1 1), (2, .slice (some ⟨n + 1, 0, none⟩) 1 1), (3, .string (ByteArray.mk #[103])), (4, .slice (some ⟨n + 1 + 1 + 1, 0, none⟩) 1 1)] =
      some (.agg ⟨[str [102], .slice (some ⟨n, 0, none⟩) 1 1, .slice (some ⟨n + 1, 0, none⟩) 1 1, str [103], .slice (some ⟨n + 1 + 1 + 1, 0, none⟩) 1 1]⟩) := by kernel_rfl
  simp only [↓z2, ↓zC]
  have x04 : Ext h n h4 (n + 1 + 1 + 1 + 1) := ((x1.trans x2).trans x3).trans x4
  have fa : FunAt (n + 1 + 1 + 1 + 1) h4 (.agg ⟨[str [102], .slice (some ⟨n, 0, none⟩) 1 1, .slice (some ⟨n + 1, 0, none⟩) 1 1, str [103], .slice (some ⟨n + 1 + 1 + 1, 0, none⟩) 1 1]⟩) exF := by
    refine ⟨_, _, _, [.slice (some ⟨n + 1 + 1, 0, none⟩) 1 1], rfl, r1.ext ((x2.trans x3).trans x4), r2.ext (x3.trans x4), r4, rfl, fun k l v h1 h2 => ?_⟩
    cases k with
    | zero =>
      simp only [exF, List.getElem?_cons_zero, Option.some.injEq] at h1 h2
      subst h1 h2
      exact r3.ext x4
    | succ k => simp [exF] at h1
  generalize (Value.agg ⟨[str [102], .slice (some ⟨n, 0, none⟩) 1 1, .slice (some ⟨n + 1, 0, none⟩) 1 1, str [103], .slice (some ⟨n + 1 + 1 + 1, 0, none⟩) 1 1]⟩) = fv at fa
  refine wN ze43 fun h5 c5 x5 => ?_
  refine store_fun (fa.ext x5) ⟨_, _, c5, rfl⟩ (by omega) fun h6 k6 ld6 => ?_
  have x6 : Ext h4 (n + 1 + 1 + 1 + 1) h6 (n + 1 + 1 + 1 + 1 + 1) := ⟨by omega, fun b hb => by rw [k6 b (by omega)]; exact x5.2 b hb⟩
  have x06 := x04.trans x6
  have hE6 : Env m h6 := hE.touch (x06.touch []) hn (by simp)
  obtain ⟨er, eo⟩ := exF_read
  refine uC (read_rets shp hE6 (by omega) exT (by decide) (fun _ => eo)) fun v h7 n7 ⟨x7, gv, e7, ga⟩ => ?_
  rw [er] at e7 ga
  subst e7
  dsimp only at ga
  obtain ⟨gl, rfl, -, -⟩ := fun_one ga
  have y0 : ∀ a b : Int, yY 0 (.tuple ⟨[.agg ⟨gl⟩, I64 a, I64 b]⟩) = some (.agg ⟨gl⟩) := fun _ _ => rfl
  have y1 : ∀ a b : Int, yY 1 (.tuple ⟨[.agg ⟨gl⟩, I64 a, I64 b]⟩) = some (I64 a) := fun _ _ => rfl
  have y2 : ∀ a b : Int, yY 2 (.tuple ⟨[.agg ⟨gl⟩, I64 a, I64 b]⟩) = some (I64 b) := fun _ _ => rfl
  simp only [↓y0, ↓y1, ↓y2, ↓zC, ↓zH]
  refine wN ze43 fun h8 c8 x8 => ?_
  refine store_fun (ga.ext x8) ⟨_, _, c8, rfl⟩ (by omega) fun h9 k9 ld9 => ?_
  have x9 : Ext h7 n7 h9 (n7 + 1) := ⟨by omega, fun b hb => by rw [k9 b (by omega)]; exact x8.2 b hb⟩
  have x69 := x7.trans x9
  have x49 := x6.trans x69
  have x09 := x04.trans x49
  have l1 := ld6 x69
  simp only [↓l1, ↓zC]
  have hall := fctAll_of exF_plain exF_ins
  refine uG (print_pure (hE.touch (x09.touch []) hn (by simp)) (by have := x09.1; omega) exF fv (fa.ext x49) hall (by rw [exF_text]; decide)) ?_
  rw [exF_print]
  have l2 := ld9 (Ext.refl h9 (n7 + 1))
  have ez : ∀ K, yI wF P .eql 3 true (.int .i64 0) (.int .i64 0) K = K true := fun K => by rw [cmpI]; rfl
  refine cmp_same (a := exT) (b := exT) rfl ?_
  simp only [↓xB]
  refine sK (num_pure 0 h9 (n7 + 1)) ?_
  simp only [↓xB, ↓ez, ↓zR, ↓xC, ↓zJ, ↓l1, ↓l2, ↓zC]
  refine yL (sameFunc_true exF fv _ h9 (n7 + 1) (fa.ext x49) (ga.ext x9) hall.1) ?_
  try simp only [↓zR, ↓xC, ↓zJ]
  exact yQ r16 (v := .bool true) rfl (hk _ _ _ ⟨rfl, x09⟩)
theorem cmp_lss (a b : Int) (q : Bool) (ty : TypeId) (K : Bool → Bool) : yI vM P .lss ty q (.int .i64 a) (.int .i64 b) K = K (decide (a < b)) := by rw [cmpI, yH]
theorem cmp_gtr (a b : Int) (q : Bool) (ty : TypeId) (K : Bool → Bool) : yI igtB P .gtr ty q (.int .i64 a) (.int .i64 b) K = K (decide (b < a)) := by rw [cmpI, igtB_ap]
theorem one_fun {n : Nat} {h : zD} {i : Ins} (r3 : BlkRO [] n h (.slice (some ⟨n - 1, 0, none⟩) 1 1) [i]) {h4 : zD} (r4 : RO [] (n + 1) h4 (.slice (some ⟨n, 0, none⟩) 1 1) 51 1 1 [.slice (some ⟨n - 1, 0, none⟩) 1 1]) (x4 : Ext h n h4 (n + 1)) :
    FunAt (n + 1) h4 (.agg ⟨[str [102], .slice none 0 0, .slice none 0 0, str [103], .slice (some ⟨n, 0, none⟩) 1 1]⟩) (oneF [i]) := by
  refine ⟨_, _, _, [.slice (some ⟨n - 1, 0, none⟩) 1 1], rfl, ro_nil, ro_nil, r4, rfl, fun k l v h1 h2 => ?_⟩
  cases k with
  | zero =>
    simp only [oneF, List.getElem?_cons_zero, Option.some.injEq] at h1 h2
    subst h1 h2
    exact r3.ext x4
  | succ k => simp [oneF] at h1
theorem one_read {i : Ins} (h : wD i = true) (hn : Go64 i.n) : readS (vQ (uK (oneF [i]))) = (oneF [i], 0, 0) ∧ RunOK ((vQ (uK (oneF [i]))).length + 1) (vQ (uK (oneF [i]))) St.z OfOK := by
  have hp := plainF_one h
  have hi : ∀ b ∈ (oneF [i]).blocks, ∀ j ∈ b, Go64 j.n := fun b hb j hj => by
    simp only [oneF, List.mem_cons, List.not_mem_nil, or_false] at hb
    subst hb
    simp only [List.mem_cons, List.not_mem_nil, or_false] at hj
    subst hj
    exact hn
  have hl := one_len h hn
  have h := readS_print (Q := OfOK) (fun _ _ _ h => ofOK_of h) hp hi (by rw [qL hp]; omega)
  rw [qL hp] at h
  exact h
theorem one_all {i : Ins} (h : wD i = true) (hn : Go64 i.n) : FctAll (oneF [i]) := fctAll_of (plainF_one h) fun b hb j hj => by
  simp only [oneF, List.mem_cons, List.not_mem_nil, or_false] at hb
  subst hb
  simp only [List.mem_cons, List.not_mem_nil, or_false] at hj
  subst hj
  exact hn
theorem consts_rets {m : Int} {h : zD} {n : Nat} (hE : Env m h) (hn : 8 ≤ n) (c d : Int) (hc : Go64 c) : Rets P 8 5 [I64 c, I64 d] h n fun v _ _ => v = .bool true := by
  refine yK zN mixed (hint := hint5) l5 fun u k hk => ?_
  rw [F5_eq]
  unfold F5
  simp only [↓zH]
  refine yL (alive_pure hE hn) ?_
  simp only [↓xO, ↓zC, ↓zJ, ↓Bool.not_true, ↓qJ, ↓xB, ↓cmp_lss, ↓zR, ↓xM]
  by_cases g1 : d < 0
  · simp only [↓decide_eq_true g1, ↓zJ, ↓pA, ↓xQ, ↓zR, ↓xC, ↓uJ]
    exact yQ r5 rfl (hk _ _ _ rfl)
  simp only [↓decide_eq_false g1, ↓zJ, ↓qJ, ↓xB, ↓zR, ↓xM, ↓cmp_gtr]
  by_cases g2 : 99999 < d
  · simp only [↓decide_eq_true g2, ↓zJ, ↓uJ]
    exact yQ r5 rfl (hk _ _ _ rfl)
  obtain ⟨i, hi⟩ : ∃ i : Ins, i = { Ins.z with kind := 1, d := d, n := c } := ⟨_, rfl⟩
  have hp : wD i = true := by
    subst hi
    have hs : wY d = true := decide_eq_true (by omega)
    have hs0 : wY 0 = true := by decide
    simp [wD, tQ, zeroI, Ins.z, hs, hs0]
  have hin : Go64 i.n := by subst hi; exact hc
  have z1 : vU P 50 [(0, .int .i64 1), (1, .int .i64 d), (4, .int .i64 c)] = some (.agg ⟨tA i (.slice none 0 0)⟩) := by subst hi; kernel_rfl
  simp only [↓decide_eq_false g2, ↓zJ, ↓uN, ↓z1, ↓zC]
  refine build_ins (i := i) (by subst hi; exact ro_nil) fun h3 r3 x3 => ?_
  refine qM on41 (v := .slice (some ⟨n, 0, none⟩) 1 1) rfl fun h4 r4 x4 => ?_
  have z2 : vU P 43 [(0, .string (ByteArray.mk #[102])), (3, .string (ByteArray.mk #[103])), (4, .slice (some ⟨n + 1, 0, none⟩) 1 1)] =
      some (.agg ⟨[str [102], .slice none 0 0, .slice none 0 0, str [103], .slice (some ⟨n + 1, 0, none⟩) 1 1]⟩) := by kernel_rfl
  simp only [↓z2, ↓zC]
  have fa := one_fun (n := n + 1) r3 r4 x4
  have x04 := x3.trans x4
  generalize (Value.agg ⟨[str [102], .slice none 0 0, .slice none 0 0, str [103], .slice (some ⟨n + 1, 0, none⟩) 1 1]⟩) = fv at fa
  refine wN ze43 fun h5 c5 x5 => ?_
  refine store_fun (fa.ext x5) ⟨_, _, c5, rfl⟩ (by omega) fun h6 k6 ld6 => ?_
  have x6 : Ext h4 (n + 1 + 1) h6 (n + 1 + 1 + 1) := ⟨by omega, fun b hb => by rw [k6 b (by omega)]; exact x5.2 b hb⟩
  have x06 := x04.trans x6
  have hE6 : Env m h6 := hE.touch (x06.touch []) hn (by simp)
  have l0 := ld6 (Ext.refl h6 (n + 1 + 1 + 1))
  simp only [↓l0, ↓zC]
  have hl := one_len hp hin
  have hpF := plainF_one hp
  refine uG (print_pure hE6 (by omega) (oneF [i]) fv (fa.ext x6) (one_all hp hin) (by omega)) ?_
  rw [qL hpF]
  obtain ⟨er, eo⟩ := one_read hp hin
  refine uC (read_rets shp hE6 (by omega) _ (by omega) (fun _ => eo)) fun v h7 n7 ⟨x7, gv, e7, ga⟩ => ?_
  rw [er] at e7 ga
  subst e7
  dsimp only at ga
  obtain ⟨gl, rfl, -, -⟩ := fun_one ga
  have y0 : ∀ a b : Int, yY 0 (.tuple ⟨[.agg ⟨gl⟩, I64 a, I64 b]⟩) = some (.agg ⟨gl⟩) := fun _ _ => rfl
  have y1 : ∀ a b : Int, yY 1 (.tuple ⟨[.agg ⟨gl⟩, I64 a, I64 b]⟩) = some (I64 a) := fun _ _ => rfl
  have y2 : ∀ a b : Int, yY 2 (.tuple ⟨[.agg ⟨gl⟩, I64 a, I64 b]⟩) = some (I64 b) := fun _ _ => rfl
  simp only [↓y0, ↓y1, ↓y2, ↓zC, ↓zH]
  refine wN ze43 fun h8 c8 x8 => ?_
  refine store_fun (ga.ext x8) ⟨_, _, c8, rfl⟩ (by omega) fun h9 k9 ld9 => ?_
  have x9 : Ext h7 n7 h9 (n7 + 1) := ⟨by omega, fun b hb => by rw [k9 b (by omega)]; exact x8.2 b hb⟩
  have x69 := x7.trans x9
  have l1 := ld6 x69
  have l2 := ld9 (Ext.refl h9 (n7 + 1))
  refine sK (num_pure 0 h9 (n7 + 1)) ?_
  have ez : wF 0 0 = true := rfl
  simp only [↓ez, ↓yS, ↓xB, ↓l1, ↓l2, ↓zC]
  refine yL (sameFunc_true (oneF [i]) fv _ h9 (n7 + 1) (fa.ext (x6.trans x69)) (ga.ext x9) (one_all hp hin).1) ?_
  try simp only [↓zR, ↓xC, ↓zJ]
  exact yQ r5 (v := .bool true) rfl (hk _ _ _ rfl)
open Go.Ex Go.ChangeShapes Go.WideShapes Go.ChangeAt Go.RowKit
set_option maxRecDepth 1000000
theorem own : ownKnob P.godebug = none := by kernel_rfl
theorem returns_and_shaped {H : Type} {enc : TypeId × Value → H} {a : Assume} {C : Checked} {os : Os} {f : FuncId} {fn : Func} {s : ChangeSpec} {conds : List PathCond} {apart fresh handsOn again : Bool} {X : World → Array Value → Prop}
    (hX : ∀ (w w' : World) (args : Array Value), w.heap = w'.heap → X w args → X w' args)
    (own : ownKnob C.prog.godebug = none) (started : os.Started) (noInit : C.prog.inits.idxOf? f = none) (hfn : C.prog.funcs[f]? = some fn)
    (witness : ∃ (w : World) (tape : Tape) (i : Input), w.os = os ∧ (w.forCall tape i).Shaped C.prog ∧ i.vars = [] ∧ Input.okWide C.prog (w.forCall tape i) .any w.heap.size f i ∧
      ((s.pre enc C.prog fn conds apart (w.forCall tape i).memory i.args ∧ X (w.forCall tape i).memory i.args) ∧ sizedMet enc C.prog fn (OpenSpec.ofChange s) apart (w.forCall tape i).memory i.args) ∧ a.holds C.prog (lone (Frame.enter C.prog f i.args .normal) [] (w.forCall tape i)))
    (contract : ∀ (W : World) (base : Nat) (args : Array Value) (ds gs : List (DataW H)) (before : List MemPlace),
      (∀ (j : Nat) t v, fn.params[j]? = some t → args[j]? = some v → Value.okWide C.prog W .any base t v) →
      DataW.Whole enc C.prog fn.params.toList s.vars apart W args.toList ds gs before →
      conds.all (PathCond.test C.prog ⟨fn.params.toList, ds, s.plain.varTypes C.prog, gs⟩) = true →
      (DataW.weightsEach C.prog (fn.params.toList ++ s.plain.varTypes C.prog) (ds ++ gs)).all (· ≤ reachBytes) = true → X W args → W.ShapedOpen C.prog →
      a.holds C.prog (lone (Frame.enter C.prog f args .normal) [] W) →
      Calls C.prog f args W fun e W' => ∃ v, e = .returned v ∧ s.post enc C.prog fn apart fresh handsOn again W args v W') :
    ReturnsInHanded a C os f .any (fun w args => (s.pre enc C.prog fn conds apart w args ∧ X w args) ∧ sizedMet enc C.prog fn (OpenSpec.ofChange s) apart w args) (s.post enc C.prog fn apart fresh handsOn again) := by
  refine returnsInHanded_of_calls own started noInit witness ?_
  intro w tape i _ hsh _ hok hpre hholds
  obtain ⟨_, _, _, fn', hfn', _, _, _, _, hval⟩ := hok
  have e : fn' = fn := Option.some.inj (hfn'.symm.trans hfn)
  subst e
  obtain ⟨⟨⟨ds, gs, before, hw, hc⟩, hx⟩, hz⟩ := hpre
  have hw' := DataW.Whole.of_heap (w' := w.forCall tape i) (by rfl) hw
  refine (contract (w.forCall tape i) w.heap.size i.args ds gs before hval hw' hc (hz.weights hw) (hX _ _ _ (by rfl) hx) hsh hholds).mono fun e W' ⟨v, he, hp⟩ => ?_
  subst he
  exact ChangeSpec.post_blind hp
theorem tabIs_of_reads {W : World} {name : String} {k : IntKind} {zs : List Int} {g : Nat} {t e : TypeId} {n : Nat}
    (hg : P.globalNamed name = some g) (hty : (P.globals[g]?).map (·.type) = some t) (ht : P.underlying t = some (.array n e)) (he : P.underlying e = some (.int k)) (hce : P.cellsOf e = 1) (hct : P.cellsOf t = n)
    (h : Lib.VarReads P W name (Lib.tabData k zs)) : Lib.TabIs P W name k zs := by
  obtain ⟨g', t', cs, fuel, p, hg', ht', hvar, hd⟩ := h
  obtain rfl := Option.some.inj (hg.symm.trans hg')
  obtain rfl := Option.some.inj (hty.symm.trans ht')
  unfold Lib.TabIs
  rw [hvar, ← Lib.cells_of_tab ht he hce hct hd]
theorem in_of_tabIs {W : World} {name : String} {k : IntKind} {zs : List Int} {g : Nat} (hT : Lib.TabIs P W name k zs) (hg : P.globalNamed name = some g) : ∃ el fr, W.heap[g]? = some (.cells ⟨zs.map fun z => Value.int k z⟩ el fr) := by
  unfold Lib.TabIs World.var? at hT
  rw [hg] at hT
  simp only [Option.bind_some] at hT
  split at hT
  · rename_i cs el fr e
    injection hT with hT
    exact ⟨el, fr, by rw [e, hT]⟩
  · cases hT
theorem max_in {W : World} (hs : W.ShapedOpen P) : ∃ (m : Int) (el : TypeId) (fr : Nat × Nat), W.heap[(0 : Nat)]? = some (.cells ⟨[.int .i64 m]⟩ el fr) := by
  have h0 : ((begin P (fun _ _ => 0) default).world.heap[(0 : Nat)]?).bind Obj.row? = some (#[.int .i64 0], 3) := by kernel_rfl
  obtain ⟨cs, hh, hsz, hr⟩ := hs.1 0 _ _ (of_decide_eq_true (by kernel_rfl)) h0
  obtain ⟨m, hm⟩ := cell_of_shapedOpen_int (k := .i64) hs (of_decide_eq_true (by kernel_rfl)) h0 rfl (by kernel_rfl) (by kernel_rfl) Tryz.underlying3
  refine ⟨m, 3, (0, 0), hh.trans ?_⟩
  unfold World.cell? at hm
  dsimp only at hm
  rw [hh] at hm
  have hm' : cs[0]? = some (.int .i64 m) := hm
  have h1 : cs.size = 1 := hsz
  congr 2
  apply Array.ext
  · exact h1
  · intro i i1 i2
    obtain rfl : i = 0 := by omega
    rw [Array.getElem?_eq_getElem (by omega)] at hm'
    injection hm'
theorem tabs_in {W : World} (h1 : Lib.TabIs P W "internal/strconv.uint64pow10" .u64 Lib.pow10Tab) (hs : W.ShapedOpen P) : ∃ m, TabsIn W (tb m) := by
  obtain ⟨m, el, fr, e⟩ := max_in hs
  refine ⟨m, fun p hp => ?_⟩
  simp only [tb, List.mem_cons, List.not_mem_nil, or_false] at hp
  rcases hp with rfl | rfl
  · exact ⟨el, fr, e⟩
  · exact in_of_tabIs (g := 1) h1 (by kernel_rfl)
theorem tb_all (m : Int) : tabsOK 8 (tb m) = true := by kernel_rfl
theorem tb_heap (m : Int) : TabsH (tb m) (heap0 (tb m)) := by
  intro p hp
  simp only [tb, List.mem_cons, List.not_mem_nil, or_false] at hp
  have e0 : zT (heap0 (tb m)) 0 = mkC [.int .i64 m] 0 2 := by
    unfold tb heap0
    rw [zK, if_pos rfl]; rfl
  have e1 : zT (heap0 (tb m)) 1 = mkC (Lib.pow10Tab.map fun z => Value.int .u64 z) 0 2 := by
    unfold tb heap0
    rw [zK, if_neg (by decide)]
    unfold heap0
    rw [zK, if_pos rfl]; rfl
  rcases hp with rfl | rfl
  · refine ⟨⟨0, ?_⟩, fun i => ?_⟩
    · dsimp only; rw [e0]; exact infoOf_mkC _ _ _
    · unfold xI; dsimp only; rw [e0]; exact uO _ _ _ _
  · refine ⟨⟨0, ?_⟩, fun i => ?_⟩
    · dsimp only; rw [e1]; exact infoOf_mkC _ _ _
    · unfold xI; dsimp only; rw [e1]; exact uO _ _ _ _
theorem row_es (u : TypeId) (h : P.typeName? 3 u = some "*errors.errorString") : u = 258 :=
  typeName_ptr_named (nm := "errors.errorString") (by rw [show "*" ++ "errors.errorString" = "*errors.errorString" by decide]; kernel_rfl) (by kernel_rfl) (by decide) u (by rw [show "*" ++ "errors.errorString" = "*errors.errorString" by decide]; exact h)
theorem err_in {W : World} {n : String} {text : List UInt8} {r : List (String × DataW Unit)} {g : Nat} (h : laidMet P ((n, .iface "*errors.errorString" (.ptr (.agg [.lit (.string text)]))) :: r) W)
    (hg : P.globalNamed n = some g) (ht : (P.globals[g]?).map (·.type) = some 99) :
    ∃ (t o b el : Nat) (f : Nat × Nat), W.heap[g]? = some (.cells ⟨[.iface t (.pointer (some ⟨b, o, none⟩))]⟩ el f) := by
  obtain ⟨a, s, hv, hc, _, _⟩ := laid_sentinel h hg ht Tryz.underlying99 row_es Tryz.underlying258 Tryz.underlying260 rfl rfl Tryz.underlying9 (by kernel_rfl) (by kernel_rfl)
  obtain ⟨b, o, sp⟩ := a
  have hsp : sp = none := by
    cases sp with
    | none => rfl
    | some x =>
      unfold World.cell? at hc
      split at hc
      · rw [if_pos (by rfl)] at hc; cases hc
      · cases hc
  subst hsp
  unfold World.var? at hv
  rw [hg] at hv
  simp only [Option.bind_some] at hv
  split at hv
  · rename_i cs el fr e
    injection hv with hv
    exact ⟨_, o, b, el, fr, by rw [e, hv]⟩
  · cases hv
theorem go_of {a : Int} (w : (Lit.int .i64 a).wf = true) : Go.Ex.Vir.Go64 a := by
  unfold Lit.wf at w
  rw [Bool.and_eq_true] at w
  have e1 : IntKind.i64.min = -9223372036854775808 := by decide
  have e2 : IntKind.i64.max = 9223372036854775807 := by decide
  have h1 := of_decide_eq_true w.1
  have h2 := of_decide_eq_true w.2
  rw [e1] at h1
  rw [e2] at h2
  exact ⟨h1, h2⟩
theorem start {W : World} (h10 : Lib.VarReads P W "internal/strconv.uint64pow10" (Lib.tabData .u64 Lib.pow10Tab)) (hes : ∃ text r, laidMet P (("strconv.ErrSyntax", .iface "*errors.errorString" (.ptr (.agg [.lit (.string text)]))) :: r) W)
    (her : ∃ text r, laidMet P (("strconv.ErrRange", .iface "*errors.errorString" (.ptr (.agg [.lit (.string text)]))) :: r) W) (hs : W.ShapedOpen P) :
    ∃ (m : Int) (h : zD) (ρ : Inj), Env m h ∧ HeapR P 8 ρ W.heap.size W h (8 + 2) W := by
  obtain ⟨m, hm⟩ := tabs_in (tabIs_of_reads (g := 1) (t := 234) (e := 219) (n := 20) (by kernel_rfl) (by kernel_rfl) (by kernel_rfl) (by kernel_rfl) (by kernel_rfl) (by kernel_rfl) h10) hs
  obtain ⟨_, _, h1⟩ := hes
  obtain ⟨_, _, h2⟩ := her
  obtain ⟨t1, o1, b1, el1, f1, e1⟩ := err_in (g := 2) h1 (by kernel_rfl) (by kernel_rfl)
  obtain ⟨t2, o2, b2, el2, f2, e2⟩ := err_in (g := 3) h2 (by kernel_rfl) (by kernel_rfl)
  obtain ⟨ρ, hρ⟩ := init_heapE (P := P) (tb_all m) hm (by decide) (by decide) e1 e2
  refine ⟨m, _, ρ, ⟨tabsH_E (tb_heap m) fun p hp => ?_, errH_E1 (by decide), errH_E⟩, hρ⟩
  simp only [tb, List.mem_cons, List.not_mem_nil, or_false] at hp
  rcases hp with rfl | rfl
  · exact ⟨(by decide : (2 : Nat) ≠ 0), (by decide : (3 : Nat) ≠ 0)⟩
  · exact ⟨(by decide : (2 : Nat) ≠ 1), (by decide : (3 : Nat) ≠ 1)⟩
end Go.Proofs.YtapnnpoljobanaaGreatDoor
