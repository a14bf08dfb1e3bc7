/- What the law leans on: an executor of the model that is sound, deduction over it, and the walks through the code (part 6 of 6). Conditions: those that each theorem states. -/
import Derived.Test.YtapnnpoljobanaaGreatDoorVirLimitsx5
import Derived.Lib.LaidTab
import Derived.ProofKit
import Derived.LaidMore
import Derived.OpenShut
import Derived.Stop.Joined
import Derived.Stop.LaidErr
import Derived.ChangeOld
import Derived.Lib.LaidU8
import Derived.Shelf.Vars
import Derived.HandedShaped
import Derived.Below

set_option linter.unusedVariables false
set_option linter.unusedSimpArgs false
namespace Go.Proofs.YtapnnpoljobanaaGreatDoor
open Go.Ex Go.Ex.Vir Go.RowKit
set_option maxRecDepth 100000
set_option maxHeartbeats 4000000
theorem lks_none (hs : List W) : lks hs [] = true := rfl
theorem sameBlk_loop (l : List Ins) (hl : l.length < 1000000) (hlen : ∀ i ∈ l, i.args.length < 1000000) (av bv va vb : Value) (ix : Int) (h : zG) (n : Nat) {qa qb : Value} (a1 : zU P 41 av (I64 ix) = some qa) (a2 : zF P 51 h qa = some va)
 (b1 : zU P 41 bv (I64 ix) = some qb) (b2 : zF P 51 h qb = some vb) (ra : BlkRO [] n h va l) (rb : BlkRO [] n h vb l) (u : Option zX) (ka : KX) :
 ∀ (m j : Nat), m + j = l.length → ∀ t, zA t 0 = av → zA t 1 = bv → zA t 5 = I64 ix → zA t 6 = I64 (j : Nat) → (∀ t', zA t' 0 = av → zA t' 1 = bv → zA t' 5 = I64 ix → ka (.exit 2) t' ⟨[], u, h, n⟩ = true) →
 lpS P 8 1000009 ⟨71, none, false⟩ t ⟨[], u, h, n⟩ ka = true := by
 obtain ⟨ava, ⟨ha1, ha2⟩, hra⟩ := id ra;obtain ⟨avb, ⟨hb1, hb2⟩, hrb⟩ := id rb;have fl := xI (P := P) us51 hra.1 [] h;intro m
 induction m with
 | zero =>
  intro j hj t t0 t1 t5 t6 hE;refine yO zM mixed (hint := hint71) l71 lp71_1000009 ?_;rw [B71_1000009_eq];unfold B71_1000009;rw [t0, t1, t5, t6];have e3 : wO (j : Nat) (l.length : Nat) = false := by rw [zV]; exact decide_eq_false (by omega)
  simp only [↓zC, ↓zE];refine zR ?_;simp only [↓a1, ↓a2, ↓fl, ↓zD, ↓zE, ↓e3, ↓zY, ↓uS];exact hE _ rfl rfl rfl
 | succ m ih =>
  intro j hj t t0 t1 t5 t6 hE;have hlt : j < l.length := by omega
  have hgt : l[j]? = some l[j] := List.getElem?_eq_getElem hlt;have hga : ava[j]? = some (ava[j]'(by omega)) := List.getElem?_eq_getElem (by omega);have hgb : avb[j]? = some (avb[j]'(by omega)) := List.getElem?_eq_getElem (by omega);obtain ⟨q, q1, q2⟩ := rK (P := P) (k := .i64) hra.1 ix51 (tl := 50) sh50 (by decide) hlt;obtain ⟨p, p1, p2⟩ := rK (P := P) (k := .i64) hrb.1 ix51 (tl := 50) sh50 (by decide) hlt;rw [insFlat_at ha1 hgt hga] at q2;rw [insFlat_at hb1 hgt hgb] at p2;have hsa := (ha2 j _ _ hgt hga).1;have hsb := (hb2 j _ _ hgt hgb).1;refine yO zM mixed (hint := hint71) l71 lp71_1000009 ?_;rw [B71_1000009_eq];unfold B71_1000009;rw [t0, t1, t5, t6];have e3 : wO (j : Nat) (l.length : Nat) = true := by rw [zV]; exact decide_eq_true (by omega)
  simp only [↓zC, ↓zE];refine zR ?_;simp only [↓a1, ↓a2, ↓fl, ↓zD, ↓zE, ↓e3, ↓zY, ↓uK];refine wN (fun t w => zA t 0 = av ∧ zA t 1 = bv ∧ zA t 5 = I64 ix ∧ zA t 6 = I64 (j : Nat) ∧ w = ⟨[], u, h, n⟩) (fun t w q => ?_) (fun kk hkk => ?_)
  · obtain ⟨p0, p1, p5, p6, rfl⟩ := q;simp only [p0, p1, p5, p6, ↓zC, ↓zE];refine zR ?_;refine uH (by omega) ?_;exact ih (j + 1) (by omega) _ rfl rfl rfl rfl hE
  · simp only [↓a1, ↓a2, ↓b1, ↓b2, ↓q1, ↓q2, ↓p1, ↓p2, ↓zD];refine yK (sameIns_pure _ _ _ _ h n hsa hsb (hlen _ (List.getElem_mem hlt))) ?_;rw [vJ (Nat.le_refl _), tJ, lks_none, tJ];have es : sameI l[j] l[j] = true := sameI_eq.2 rfl;simp only [↓es, ↓xX, ↓zD, ↓zJ, ↓Bool.not_true, ↓uS];exact hkk _ _ ⟨rfl, rfl, rfl, rfl, rfl⟩
theorem sameBlks_loop (ls : List (List Ins)) (hl : ls.length < 1000000) (hlen : ∀ l ∈ ls, l.length < 1000000 ∧ ∀ i ∈ l, i.args.length < 1000000) (av bv : Value) (sva svb : List Value) (h : zG) (n : Nat) (ra : BlksRow n h av ls sva) (rb : BlksRow n h bv ls svb) (u : Option zX) (ka : KX) :
 ∀ (m i : Nat), m + i = ls.length → ∀ t, zA t 0 = av → zA t 1 = bv → zA t 5 = I64 (i : Nat) → (∀ t', ka (.exit 0) t' ⟨[], u, h, n⟩ = true) →
 lpS P 8 1000004 ⟨71, none, false⟩ t ⟨[], u, h, n⟩ ka = true := by
 have fl := xI (P := P) us41 ra.1 [] h;intro m
 induction m with
 | zero =>
  intro i hi t t0 t1 t5 hE;refine yO zM mixed (hint := hint71) l71 lp71_1000004 ?_;rw [B71_1000004_eq];unfold B71_1000004;rw [t0, t1, t5];have e3 : wO (i : Nat) (ls.length : Nat) = false := by rw [zV]; exact decide_eq_false (by omega)
  simp only [↓zC, ↓zE];refine zR ?_;simp only [↓fl, ↓zD, ↓zE, ↓e3, ↓zY, ↓uS];exact hE _
 | succ m ih =>
  intro i hi t t0 t1 t5 hE;have hlt : i < ls.length := by omega
  have sa := ra.2.1;have sb := rb.2.1;have hgt : ls[i]? = some ls[i] := List.getElem?_eq_getElem hlt;have hga : sva[i]? = some (sva[i]'(by omega)) := List.getElem?_eq_getElem (by omega);have hgb : svb[i]? = some (svb[i]'(by omega)) := List.getElem?_eq_getElem (by omega);have ba := ra.2.2 i _ _ hgt hga;have bb := rb.2.2 i _ _ hgt hgb;have hfi := hlen _ (List.getElem_mem hlt);obtain ⟨q, q1, q2⟩ := xU (P := P) (k := .i64) ra.1 ix41 (tl := 51) sh51 hga;obtain ⟨p, p1, p2⟩ := xU (P := P) (k := .i64) rb.1 ix41 (tl := 51) sh51 hgb;generalize ls[i] = y at ba bb hfi
  obtain ⟨_, _, ya⟩ := id ba;obtain ⟨_, _, yb⟩ := id bb;have la := xI (P := P) us51 ya.1 [] h;have lb := xI (P := P) us51 yb.1 [] h;refine yO zM mixed (hint := hint71) l71 lp71_1000004 ?_;rw [B71_1000004_eq];unfold B71_1000004;rw [t0, t1, t5];have e3 : wO (i : Nat) (ls.length : Nat) = true := by rw [zV]; exact decide_eq_true (by omega)
  have e4 : ineB (y.length : Nat) (y.length : Nat) = false := by rw [pK, decide_eq_true rfl]; rfl
  simp only [↓zC, ↓zE];refine zR ?_;simp only [↓fl, ↓zD, ↓zE, ↓e3, ↓zY, ↓uK];refine wN (fun t w => zA t 0 = av ∧ zA t 1 = bv ∧ zA t 5 = I64 (i : Nat) ∧ w = ⟨[], u, h, n⟩) (fun t w q => ?_) (fun kk hkk => ?_)
  · obtain ⟨p0, p1, p5, rfl⟩ := q;simp only [p0, p1, p5, ↓zC, ↓zE];refine zR ?_;refine uH (by omega) ?_;exact ih (i + 1) (by omega) _ rfl rfl rfl hE
  · simp only [↓q1, ↓q2, ↓p1, ↓p2, ↓la, ↓lb, ↓zD, ↓zE, ↓e4, ↓zY, ↓uS, ↓xR, ↓tJ];refine sameBlk_loop y hfi.1 hfi.2 av bv _ _ _ h n q1 q2 p1 p2 ba bb u _ y.length 0 (Nat.add_zero _) _ rfl rfl rfl rfl fun t' r0 r1 r5 => ?_;simp only [↓zP, ↓zQ];simp only [r0, r1, r5, ↓zC, ↓zE];refine zR ?_;exact hkk _ _ ⟨rfl, rfl, rfl, rfl⟩
theorem sameBlocks_true (ls : List (List Ins)) (hl : ls.length < 1000000) (hlen : ∀ l ∈ ls, l.length < 1000000 ∧ ∀ i ∈ l, i.args.length < 1000000) (av bv : Value) (sva svb : List Value) (h : zG) (n : Nat) (ra : BlksRow n h av ls sva) (rb : BlksRow n h bv ls svb) :
 Pure P 8 71 [av, bv] h n (.bool true) := by
 refine yQ zM mixed (hint := hint71) l71 fun u k hk => ?_;rw [F71_eq];unfold F71;have e1 := xI (P := P) us41 ra.1 [] h;have e2 := xI (P := P) us41 rb.1 [] h;have e4 : ineB (ls.length : Nat) (ls.length : Nat) = false := by rw [pK, decide_eq_true rfl]; rfl
 simp only [↓e1, ↓e2, ↓zD, ↓zE, ↓e4, ↓zY, ↓uS];refine sameBlks_loop ls hl hlen av bv sva svb h n ra rb u _ ls.length 0 (Nat.add_zero _) _ rfl rfl rfl fun t' => ?_;simp only [↓zP, ↓zQ];refine zR ?_;exact yP r71 (v := .bool true) rfl (hk _ _ _ ⟨rfl, rfl, rfl⟩)
theorem sameVregs_loop (ws : List Tx) (hlen : ws.length < 1000000) (fb gb : Nat) (av bv : Value) (h : zG) (n : Nat) {ca cb : List Value} (c1 : Cel h fb 0 ca) (c2 : Cel h gb 0 cb) (a1 : ca[1]? = some av) (b1 : cb[1]? = some bv)
 (ra : Row n h av 9 1 ws.length (ws.map str)) (rb : Row n h bv 9 1 ws.length (ws.map str)) (u : Option zX) (ka : KX) :
 ∀ (m i : Nat), m + i = ws.length → ∀ t, zA t 2 = ptr fb 0 → zA t 3 = ptr gb 0 → zA t 5 = I64 (i : Nat) → (∀ t', zA t' 2 = ptr fb 0 → zA t' 3 = ptr gb 0 → ka (.exit 0) t' ⟨[], u, h, n⟩ = true) →
 lpS P 8 1000004 ⟨24, none, false⟩ t ⟨[], u, h, n⟩ ka = true := by
 have la : zF P 23 h (.pointer (some ⟨fb, 1, none⟩)) = some av := zH c1 sh23 a1;have lb : zF P 23 h (.pointer (some ⟨gb, 1, none⟩)) = some bv := zH c2 sh23 b1;have fl := xI (P := P) us23 ra [] h;intro m
 induction m with
 | zero =>
  intro i hi t t2 t3 t5 hE;refine yO zM mixed (hint := hint24) l24 lp24_1000004 ?_;rw [B24_1000004_eq];unfold B24_1000004;rw [t2, t3, t5];have e3 : wO (i : Nat) (ws.length : Nat) = false := by rw [zV]; exact decide_eq_false (by omega)
  simp only [↓zC, ↓zE];refine zR ?_;simp only [↓sX, ↓la, ↓fl, ↓zD, ↓zE, ↓e3, ↓zY, ↓uS];exact hE _ rfl rfl
 | succ m ih =>
  intro i hi t t2 t3 t5 hE;have hlt : i < ws.length := by omega
  obtain ⟨q, q1, q2⟩ := xU (P := P) (k := .i64) ra ix23 (tl := 9) sh9 (i := i) (x := str ws[i]) (by rw [List.getElem?_map, List.getElem?_eq_getElem hlt]; rfl);obtain ⟨p, p1, p2⟩ := xU (P := P) (k := .i64) rb ix23 (tl := 9) sh9 (i := i) (x := str ws[i]) (by rw [List.getElem?_map, List.getElem?_eq_getElem hlt]; rfl);generalize ws[i] = x at q2 p2
  refine yO zM mixed (hint := hint24) l24 lp24_1000004 ?_;rw [B24_1000004_eq];unfold B24_1000004;rw [t2, t3, t5];have e3 : wO (i : Nat) (ws.length : Nat) = true := by rw [zV]; exact decide_eq_true (by omega)
  have e4 : (x == x) = true := by simp
  simp only [↓zC, ↓zE];refine zR ?_;simp only [↓sX, ↓la, ↓fl, ↓zD, ↓zE, ↓e3, ↓zY, ↓uK];refine wN (fun t w => zA t 2 = ptr fb 0 ∧ zA t 3 = ptr gb 0 ∧ zA t 5 = I64 (i : Nat) ∧ w = ⟨[], u, h, n⟩) (fun t w q => ?_) (fun kk hkk => ?_)
  · obtain ⟨p0, p1, p5, rfl⟩ := q;simp only [p0, p1, p5, ↓zC, ↓zE];refine zR ?_;refine uH (by omega) ?_;exact ih (i + 1) (by omega) _ rfl rfl rfl hE
  · simp only [↓sX, ↓la, ↓lb, ↓q1, ↓q2, ↓p1, ↓p2, ↓zD, ↓cmpSL_ne, ↓e4, ↓Bool.not_true, ↓xR, ↓tJ, ↓uS];exact hkk _ _ ⟨rfl, rfl, rfl, rfl⟩
theorem sameFunc_true (f : Fct) (v w : Value) (h : zG) (n : Nat) (hv : FunAt n h v f) (hw : FunAt n h w f) (hfit : FctFit f) :
 Pure P 8 24 [v, w] h n (.bool true) := by
 obtain ⟨vv, pv, bv, svs, rfl, r1, r2, r3, r4, r5⟩ := hv;obtain ⟨vv', pv', bv', svs', rfl, s1, s2, s3, s4, s5⟩ := hw;obtain ⟨z1, z2, z3, z4⟩ := hfit;refine Rets.pureE (yQ zM mixed (hint := hint24) l24 fun u k hk => ?_) (.inl rfl);rw [F24_eq];unfold F24
 have one5 : ∀ {a b c : Value} {x y : Tx}, a.oneCell' = true → b.oneCell' = true → c.oneCell' = true → ∀ z ∈ [str x, a, b, str y, c], z.oneCell' = true := fun ha hb hc z hz => by
  simp only [List.mem_cons, List.not_mem_nil, or_false] at hz;rcases hz with rfl | rfl | rfl | rfl | rfl <;> first | rfl | assumption
 refine tR (one5 r1.1.one r2.1.one r3.1.one) fun h1 c1 x1 => ?_;refine tR (one5 s1.1.one s2.1.one s3.1.one) fun h2 c2 x2 => ?_;have c1' : Cel h2 n 0 [str f.name, vv, pv, str f.result, bv] := Cel.touch c1 (x2.touch []) (by omega) (by simp);have c2' : Cel h2 (n + 1) 0 [str f.name, vv', pv', str f.result, bv'] := c2;have X := x1.trans x2;have R1 := r1.1.ext X;have R2 := r2.1.ext X;have R3 : BlksRow (n + 1 + 1) h2 bv f.blocks svs := ⟨r3.1.ext X, r4, fun k l v h1 h2 => (r5 k l v h1 h2).ext X⟩;have S1 := s1.1.ext X;have S2 := s2.1.ext X;have S3 : BlksRow (n + 1 + 1) h2 bv' f.blocks svs' := ⟨s3.1.ext X, s4, fun k l v h1 h2 => (s5 k l v h1 h2).ext X⟩;have p0 : zF P 9 h2 (ptr n 0) = some (str f.name) := zH c1' sh9 rfl;have q0 : zF P 9 h2 (ptr (n + 1) 0) = some (str f.name) := zH c2' sh9 rfl;have p3 : zF P 9 h2 (.pointer (some ⟨n, 3, none⟩)) = some (str f.result) := zH c1' sh9 rfl;have q3 : zF P 9 h2 (.pointer (some ⟨n + 1, 3, none⟩)) = some (str f.result) := zH c2' sh9 rfl;have p1 : zF P 23 h2 (.pointer (some ⟨n, 1, none⟩)) = some vv := zH c1' sh23 rfl
 have q1 : zF P 23 h2 (.pointer (some ⟨n + 1, 1, none⟩)) = some vv' := zH c2' sh23 rfl;have p2 : zF P 40 h2 (.pointer (some ⟨n, 2, none⟩)) = some pv := zH c1' sh40 rfl;have q2 : zF P 40 h2 (.pointer (some ⟨n + 1, 2, none⟩)) = some pv' := zH c2' sh40 rfl;have p4 : zF P 41 h2 (.pointer (some ⟨n, 4, none⟩)) = some bv := zH c1' sh41 rfl;have q4 : zF P 41 h2 (.pointer (some ⟨n + 1, 4, none⟩)) = some bv' := zH c2' sh41 rfl;have lp := xI (P := P) us23 R1 [] h2;have lq := xI (P := P) us23 S1 [] h2;have en : ∀ a : Tx, (a == a) = true := fun a => by simp
 have ei : ∀ (a : Int) K, yD ineB P .neq 3 false (.int .i64 a) (.int .i64 a) K = K false := fun a K => by
  rw [cmpI, pK, decide_eq_true rfl]; rfl
 simp only [↓fa43_0, ↓sX, ↓fa43_3, ↓zD, ↓p0, ↓q0, ↓cmpSL_ne, ↓en, ↓Bool.not_true, ↓qU, ↓yZ, ↓p3, ↓q3, ↓xP, ↓zJ, ↓p1, ↓q1, ↓lp, ↓lq, ↓zE, ↓ei, ↓uS];refine sameVregs_loop f.vregs z1 n (n + 1) vv vv' h2 (n + 1 + 1) c1' c2' rfl rfl R1 S1 u _ f.vregs.length 0 (Nat.add_zero _) _ rfl rfl rfl fun t' g2 g3 => ?_;simp only [↓zP, ↓zQ];simp only [g2, g3, ↓zC];refine zR ?_;simp only [↓fa43_2, ↓tA, ↓zD, ↓p2, ↓q2];have hI := sameInts_pure f.params f.params pv pv' h2 _ R2 S2 (by omega);rw [show decide (f.params = f.params) = true from decide_eq_true rfl] at hI;refine yK hI ?_;simp only [↓fa43_2, ↓tA, ↓zD, ↓p4, ↓q4];refine yK (sameBlocks_true f.blocks z3 (fun l hl => ⟨(z4 l hl).1, fun i hi => by have := ((z4 l hl).2 i hi).2; omega⟩) bv bv' svs svs' h2 _ R3 S3) ?_;simp only [↓yZ, ↓xF, ↓zJ];exact yP r24 (v := .bool true) rfl (hk _ _ _ ⟨rfl, X⟩)
theorem ofOK_of {st : St} {l : Tx} {st' : St} (h : wT st l = .ok st') : OfOK st l := by
 unfold wT at h;cases hc : (!st.ended && !(l == [])) <;> rw [hc] at h
 · cases h
 simp only [reduceIte] at h;refine ⟨fun hs => ?_, fun hs h1 h2 ho => ?_⟩
 · rw [if_pos hs] at h
   cases e : ofW l [] with
   | error x => rw [e] at h; cases h
   | ok ws => exact ⟨ws, rfl⟩
 · rw [if_neg (by omega), h1, h2, ho] at h
   cases e : ofW l tTwo with
   | error x => rw [e] at h; cases h
   | ok ws => exact ⟨ws, rfl⟩
theorem ro_nil {n : Nat} {h : zG} {e sz : Nat} : RO [] n h (.slice none 0 0) e sz 0 [] := ⟨.inl ⟨rfl, rfl, rfl⟩, fun _ hb => (by cases hb), fun _ _ _ hb => (by cases hb)⟩
theorem RO.ext {n n' : Nat} {h h' : zG} {v : Value} {e sz len : Nat} {vs : List Value} (r : RO [] n h v e sz len vs) (x : Ext h n h' n') : RO [] n' h' v e sz len vs := r.step (x.touch []) (by simp) (by simp)
theorem ro_built {n len e sz m : Nat} {h : zG} {vs : List Value} (r : Row (n + 1) h (.slice (some ⟨n, 0, none⟩) len len) e sz len vs) (hi : tM (zT h n) = some (m, 0, 0)) : RO [] (n + 1) h (.slice (some ⟨n, 0, none⟩) len len) e sz len vs :=
 ⟨r, fun _ _ => by simp, fun b m' z hb hx => by
  injection hb with hb
  subst hb;rw [hi] at hx;injection hx with hx; injection hx with _ hx; injection hx with hx _; cases hx⟩
theorem build_one_ro {ty e : TypeId} (ht : oneTB P ty e = true) {v : Value} (hv : v.oneCell' = true) {h : zG} {n : Nat} {K : KH}
 (hK : ∀ h', RO [] (n + 1) h' (.slice (some ⟨n, 0, none⟩) 1 1) e 1 1 [v] → Ext h n h' (n + 1) → K h' (n + 1) (.slice (some ⟨n, 0, none⟩) 1 1) = true) : zN P ty 1 [(0, v)] h n K = true := by
 refine pV (cs := [v]) ?_ rfl (by unfold inf; omega) fun h' r hi x => hK h' (ro_built r hi) x;unfold oneTB at ht;unfold yW;cases h1 : und P ty <;> rw [h1] at ht <;> first | (cases ht; done) | skip
 rename_i d;cases d <;> first | (cases ht; done) | skip
 rename_i e';dsimp only at ht ⊢;cases h2 : wK P e' <;> rw [h2] at ht <;> first | (cases ht; done) | skip
 rename_i z;cases h3 : inf? P e' <;> rw [h3] at ht <;> first | (cases ht; done) | skip
 rename_i ei;dsimp only at ht ⊢;obtain ⟨_, ht⟩ := Bool.and_eq_true_iff.1 ht;obtain ⟨a1, a2⟩ := Bool.and_eq_true_iff.1 ht;have e1 := zZ a1;have e2 := zZ a2;rw [e1, e2];obtain ⟨x, hx⟩ : ∃ x, cellsOf z = [x] := List.length_eq_one_iff.1 e2;rw [hx];have e3 := cellsOf_one hv
 show (match aFill (fun i => some (Nat.mul i 1, 1)) [x] [(0, v)] with
  | some cs => some (uE cs 0)
  | none => none) = _
 have : aFill (fun i => some (Nat.mul i 1, 1)) [x] [(0, v)] = some [v] := by
  unfold aFill;dsimp only;rw [e3];rfl
 rw [this]
theorem build_ins {i : Ins} {sv : Value} {h : zG} {n : Nat} {K : KH} (ha : RO [] n h sv 3 1 i.args.length (i.args.map I64))
 (hK : ∀ h', BlkRO [] (n + 1) h' (.slice (some ⟨n, 0, none⟩) 1 1) [i] → Ext h n h' (n + 1) → K h' (n + 1) (.slice (some ⟨n, 0, none⟩) 1 1) = true) : zN P 51 1 [(0, .agg ⟨uY i sv⟩)] h n K = true := by
 have z : yW P 51 1 [(0, .agg ⟨uY i sv⟩)] = some (uE (uY i sv) 0) := rfl;refine pV (e := 50) (sz := 9) z rfl (by unfold inf; omega) fun h' r hi x => hK h' ⟨[sv], ⟨rfl, fun j i' a h1 h2 => ?_⟩, ?_⟩ x
 · cases j with
   | zero =>
    simp only [List.getElem?_cons_zero, Option.some.injEq] at h1 h2;subst h1 h2;exact ha.ext x
   | succ j => simp at h1
 · have e : vM [i] [sv] = uY i sv := by simp [vM]
   rw [e];exact ro_built r hi
theorem num_pure (e : Int) (h : zG) (n : Nat) : Pure P 8 23 [I64 e] h n (I64 e) := by
 refine yQ zM mixed (hint := hint23) l23 fun u k hk => ?_;rw [F23_eq];unfold F23;simp only [↓zE];exact yP r23 rfl (hk _ _ _ ⟨rfl, rfl, rfl⟩)
theorem itoa_zero : Lib.itoa 0 = [48] := by
 unfold Lib.itoa;rw [if_neg (by decide), show (0 : Int).toNat = 0 from rfl, Lib.decDigits_one (by decide)];rfl
def exF : Fct := ⟨[102], [[103]], [0], [103], [[{ Ins.z with kind := 9 }]]⟩
def exT : Tx := [102, 117, 110, 99, 32, 102, 10, 114, 101, 103, 115, 32, 103, 10, 112, 97, 114, 97, 109, 115, 32, 48, 10, 114, 101, 115, 117, 108, 116, 32, 103, 10, 98, 108, 111, 99, 107, 10, 32, 32, 114, 101, 116, 32, 48, 10, 101, 110, 100, 10]
theorem exF_plain : sR exF = true := by decide
theorem exF_text : wD (uT exF) = exT := by
 unfold uT wG tN exF;simp [wD, xA, vH, showI, Ins.z, itoa_zero, Lib.join_cons, Lib.joinTail, exT]
theorem exF_print : rZ exF = exT := by rw [printF_plain exF_plain, exF_text]
theorem exF_ins : ∀ b ∈ exF.blocks, ∀ i ∈ b, Go64 i.n := by
 intro b hb i hi;simp only [exF, List.mem_cons, List.not_mem_nil, or_false] at hb;subst hb;simp only [List.mem_cons, List.not_mem_nil, or_false] at hi;subst hi;exact ⟨by decide, by decide⟩
theorem exF_read : readS exT = (exF, 0, 0) ∧ RunOK (exT.length + 1) exT St.z OfOK := by
 have h := readS_print (Q := OfOK) (fun _ _ _ h => ofOK_of h) exF_plain exF_ins (by rw [exF_print]; decide);rw [exF_print] at h;exact h
theorem insAll_of {i : Ins} (h : vA i = true) (hn : Go64 i.n) : InsAll i := by
 obtain ⟨_, _, ⟨sa, sb, st, sf⟩, hargs, hal, hk⟩ := plainI_of h
 have hd : Go64 i.d := by
  split at hk
  · simp only [Bool.and_eq_true] at hk; exact rL hk.2
  · split at hk
    · simp only [Bool.and_eq_true, Bool.or_eq_true, decide_eq_true_eq] at hk;rcases hk.2 with e | e
      · rw [e]; exact ⟨by decide, by decide⟩
      · exact rL e
    · exact rL hk
 exact ⟨hd, rL sa, rL sb, hn, rL st, rL sf, fun x hx => rL (List.all_eq_true.1 hargs x hx), by omega⟩
theorem fctAll_of {f : Fct} (h : sR f = true) (hn : ∀ b ∈ f.blocks, ∀ i ∈ b, Go64 i.n) : FctAll f := by
 obtain ⟨h1, h2, h3, h4, h5, h6, h7, h8⟩ := plainF_of h;have hi : ∀ b ∈ f.blocks, ∀ i ∈ b, InsAll i := fun b hb i hi => insAll_of (List.all_eq_true.1 (h8 b hb).2 i hi) (hn b hb i hi);refine ⟨⟨by omega, by omega, by omega, fun b hb => ⟨by have := (h8 b hb).1; omega, fun i hib => ?_⟩⟩, hi, by omega, fun x hx => rL (List.all_eq_true.1 h6 x hx), by omega⟩;have a := hi b hb i hib;exact ⟨a.1, by have := a.2.2.2.2.2.2.2; omega⟩
theorem fun_one {n : Nat} {h : zG} {v : Value} {f : Fct} (a : FunAt n h v f) : ∃ l, v = .agg ⟨l⟩ ∧ l.length = 5 ∧ ∀ x ∈ l, x.oneCell' = true := by
 obtain ⟨vv, pv, bv, svs, rfl, r1, r2, r3, _⟩ := a;refine ⟨_, rfl, rfl, fun x hx => ?_⟩;simp only [List.mem_cons, List.not_mem_nil, or_false] at hx;rcases hx with rfl | rfl | rfl | rfl | rfl
 · rfl
 · exact r1.1.one
 · exact r2.1.one
 · rfl
 · exact r3.1.one
theorem store_fun {n b : Nat} {h h0 : zG} {v : Value} {f : Fct} {K : KH} (a : FunAt n h v f) (c : ∃ z vs, Cel h0 b z vs ∧ vs.length = 5) (hb : b < n) (hK : ∀ h', (∀ x, x ≠ b → zT h' x = zT h0 x) → (∀ {h2 : zG} {n2 : Nat}, Ext h' n h2 n2 → zF P 43 h2 (ptr b 0) = some v) → K h' n undef = true) :
 zW P 43 (ptr b 0) v h0 n K = true := by
 obtain ⟨l, rfl, h5, hone⟩ := fun_one a;obtain ⟨z, vs, c, hl⟩ := c;refine xQ c sh43 h5 hl hone fun h2 c2 k2 => hK h2 k2 fun x => ?_;exact xE (c2.touch (x.touch []) hb (by simp)) sh43 h5 (by decide)
theorem cmp_same {f : Int → Int → Bool} {ty : TypeId} {q : Bool} {a b : Tx} {K : Bool → Bool} (h : a = b) (hK : K true = true) : yD f P .eql ty q (str a) (str b) K = true := by
 rw [vG, h];simpa using hK
theorem shp : yF P 112 = .scal := by kernel_rfl
theorem alive_pure {m : Int} {h : zG} {n : Nat} (hE : Env m h) (hn : 8 ≤ n) : Pure P 8 16 [] h n (.bool true) := by
 refine Rets.pureE (yQ zM mixed (hint := hq0) l16 fun u k hk => ?_) (.inl rfl);rw [F16_eq];unfold F16;refine build_one_ro on23 (sZ [103]) fun h1 r1 x1 => ?_;refine build_one_ro on40 (v := I64 0) rfl fun h2 r2 x2 => ?_;have z1 : vR P 50 [(0, .int .i64 9)] = some (.agg ⟨uY { Ins.z with kind := 9 } (.slice none 0 0)⟩) := by kernel_rfl
 simp only [↓z1, ↓zD];refine build_ins (i := { Ins.z with kind := 9 }) ro_nil fun h3 r3 x3 => ?_;refine build_one_ro on41 (v := .slice (some ⟨n + 1 + 1, 0, none⟩) 1 1) rfl fun h4 r4 x4 => ?_
 have z2 : vR P 43 [(0, .string (ByteArray.mk #[102])), (1, .slice (some ⟨n, 0, none⟩) 1 1), (2, .slice (some ⟨n + 1, 0, none⟩) 1 1), (3, .string (ByteArray.mk #[103])), (4, .slice (some ⟨n + 1 + 1 + 1, 0, none⟩) 1 1)] =
  some (.agg ⟨[str [102], .slice (some ⟨n, 0, none⟩) 1 1, .slice (some ⟨n + 1, 0, none⟩) 1 1, str [103], .slice (some ⟨n + 1 + 1 + 1, 0, none⟩) 1 1]⟩) := by kernel_rfl
 simp only [↓z2, ↓zD];have x04 : Ext h n h4 (n + 1 + 1 + 1 + 1) := ((x1.trans x2).trans x3).trans x4
 have fa : FunAt (n + 1 + 1 + 1 + 1) h4 (.agg ⟨[str [102], .slice (some ⟨n, 0, none⟩) 1 1, .slice (some ⟨n + 1, 0, none⟩) 1 1, str [103], .slice (some ⟨n + 1 + 1 + 1, 0, none⟩) 1 1]⟩) exF := by
  refine ⟨_, _, _, [.slice (some ⟨n + 1 + 1, 0, none⟩) 1 1], rfl, r1.ext ((x2.trans x3).trans x4), r2.ext (x3.trans x4), r4, rfl, fun k l v h1 h2 => ?_⟩
  cases k with
  | zero =>
   simp only [exF, List.getElem?_cons_zero, Option.some.injEq] at h1 h2;subst h1 h2;exact r3.ext x4
  | succ k => simp [exF] at h1
 generalize (Value.agg ⟨[str [102], .slice (some ⟨n, 0, none⟩) 1 1, .slice (some ⟨n + 1, 0, none⟩) 1 1, str [103], .slice (some ⟨n + 1 + 1 + 1, 0, none⟩) 1 1]⟩) = fv at fa
 refine wR ze43 fun h5 c5 x5 => ?_;refine store_fun (fa.ext x5) ⟨_, _, c5, rfl⟩ (by omega) fun h6 k6 ld6 => ?_;have x6 : Ext h4 (n + 1 + 1 + 1 + 1) h6 (n + 1 + 1 + 1 + 1 + 1) := ⟨by omega, fun b hb => by rw [k6 b (by omega)]; exact x5.2 b hb⟩;have x06 := x04.trans x6;have hE6 : Env m h6 := hE.touch (x06.touch []) hn (by simp);obtain ⟨er, eo⟩ := exF_read;refine uJ (read_rets shp hE6 (by omega) exT (by decide) (fun _ => eo)) fun v h7 n7 ⟨x7, gv, e7, ga⟩ => ?_;rw [er] at e7 ga;subst e7;dsimp only at ga;obtain ⟨gl, rfl, -, -⟩ := fun_one ga;have y0 : ∀ a b : Int, yN 0 (.tuple ⟨[.agg ⟨gl⟩, I64 a, I64 b]⟩) = some (.agg ⟨gl⟩) := fun _ _ => rfl;have y1 : ∀ a b : Int, yN 1 (.tuple ⟨[.agg ⟨gl⟩, I64 a, I64 b]⟩) = some (I64 a) := fun _ _ => rfl;have y2 : ∀ a b : Int, yN 2 (.tuple ⟨[.agg ⟨gl⟩, I64 a, I64 b]⟩) = some (I64 b) := fun _ _ => rfl;simp only [↓y0, ↓y1, ↓y2, ↓zD, ↓zE];refine wR ze43 fun h8 c8 x8 => ?_;refine store_fun (ga.ext x8) ⟨_, _, c8, rfl⟩ (by omega) fun h9 k9 ld9 => ?_;have x9 : Ext h7 n7 h9 (n7 + 1) := ⟨by omega, fun b hb => by rw [k9 b (by omega)]; exact x8.2 b hb⟩;have x69 := x7.trans x9;have x49 := x6.trans x69
 have x09 := x04.trans x49;have l1 := ld6 x69;simp only [↓l1, ↓zD];have hall := fctAll_of exF_plain exF_ins;refine uO (print_pure (hE.touch (x09.touch []) hn (by simp)) (by have := x09.1; omega) exF fv (fa.ext x49) hall (by rw [exF_text]; decide)) ?_;rw [exF_print];have l2 := ld9 (Ext.refl h9 (n7 + 1));have ez : ∀ K, yD xZ P .eql 3 true (.int .i64 0) (.int .i64 0) K = K true := fun K => by rw [cmpI]; rfl
 refine cmp_same (a := exT) (b := exT) rfl ?_;simp only [↓yZ];refine tZ (num_pure 0 h9 (n7 + 1)) ?_;simp only [↓yZ, ↓ez, ↓zI, ↓xF, ↓zJ, ↓l1, ↓l2, ↓zD];refine yK (sameFunc_true exF fv _ h9 (n7 + 1) (fa.ext x49) (ga.ext x9) hall.1) ?_;try simp only [↓zI, ↓xF, ↓zJ]
 exact yP r16 (v := .bool true) rfl (hk _ _ _ ⟨rfl, x09⟩)
theorem cmp_lss (a b : Int) (q : Bool) (ty : TypeId) (K : Bool → Bool) : yD wO P .lss ty q (.int .i64 a) (.int .i64 b) K = K (decide (a < b)) := by rw [cmpI, zV]
theorem cmp_gtr (a b : Int) (q : Bool) (ty : TypeId) (K : Bool → Bool) : yD igtB P .gtr ty q (.int .i64 a) (.int .i64 b) K = K (decide (b < a)) := by rw [cmpI, igtB_ap]
theorem regs_loop {h : zG} {n fb len : Nat} {vv : Value} {vs : List Value} (lv : zF P 23 h (.pointer (some ⟨fb, 1, none⟩)) = some vv) (r : Row n h vv 9 1 len vs) (hlen : len < 100000) (w most line : Int) (u : Option zX) (ka : KX) :
 ∀ (m i : Nat), m + i = len → ∀ (t : Fr) (s : Tx), s.length + m * 2 < 900000 → zA t 0 = I64 w → zA t 6 = ptr fb 0 → zA t 7 = I64 most → zA t 8 = I64 line → zA t 11 = str s → zA t 12 = I64 (i : Nat) →
 (∀ t', zA t' 0 = I64 w → zA t' 6 = ptr fb 0 → zA t' 7 = I64 most → zA t' 8 = I64 line → zA t' 11 = str (s ++ vE m [32, 103]) → ka (.exit 3) t' ⟨[], u, h, n⟩ = true) →
 lpS P 8 1000026 ⟨7, none, false⟩ t ⟨[], u, h, n⟩ ka = true := by
 have fl := xI (P := P) us23 r [] h;intro m
 induction m with
 | zero =>
  intro i hi t s hs t0 t6 t7 t8 t11 t12 hk;refine yO zM mixed (hint := pA) l7 lp7_1000026 ?_;rw [B7_1000026_eq];unfold B7_1000026;rw [t0, t6, t7, t8, t11, t12];have e3 : wO (i : Nat) (len : Nat) = false := by rw [zV]; exact decide_eq_false (by omega)
  simp only [↓zC, ↓zE];refine zR ?_;simp only [↓sX, ↓lv, ↓fl, ↓zD, ↓zE, ↓e3, ↓zY, ↓zI, ↓uS];refine hk _ rfl rfl rfl rfl ?_;show str s = str (s ++ vE 0 [32, 103]);simp [vE]
 | succ m ih =>
  intro i hi t s hs t0 t6 t7 t8 t11 t12 hk;refine yO zM mixed (hint := pA) l7 lp7_1000026 ?_;rw [B7_1000026_eq];unfold B7_1000026;rw [t0, t6, t7, t8, t11, t12];have e3 : wO (i : Nat) (len : Nat) = true := by rw [zV]; exact decide_eq_true (by omega)
  simp only [↓zC, ↓zE];refine zR ?_;simp only [↓sX, ↓lv, ↓fl, ↓zD, ↓zE, ↓e3, ↓zY, ↓zI, ↓uK];refine wN (fun t w' => zA t 0 = I64 w ∧ zA t 6 = ptr fb 0 ∧ zA t 7 = I64 most ∧ zA t 8 = I64 line ∧ zA t 11 = str (s ++ [32, 103]) ∧ zA t 12 = I64 (i : Nat) ∧ w' = ⟨[], u, h, n⟩) (fun t w' q => ?_) (fun kk hkk => ?_)
  · obtain ⟨p0, p6, p7, p8, p11, p12, rfl⟩ := q;simp only [p0, p6, p7, p8, p11, p12, ↓zC, ↓zE];refine zR ?_;refine uH (by omega) ?_;refine ih (i + 1) (by omega) _ (s ++ [32, 103]) (by simp; omega) rfl rfl rfl rfl rfl rfl fun t' q0 q6 q7 q8 q11 => ?_;refine hk t' q0 q6 q7 q8 ?_;rw [q11, qI, List.append_assoc]
  · refine sP (a := s) (b := [32, 103]) (by simp; omega) ?_;exact hkk _ _ ⟨rfl, rfl, rfl, rfl, rfl, rfl, rfl⟩
theorem params_loop {h : zG} {n fb len : Nat} {vv : Value} {vs : List Value} (lv : zF P 40 h (.pointer (some ⟨fb, 2, none⟩)) = some vv) (r : Row n h vv 3 1 len vs) (hlen : len < 100000) (w most line : Int) (u : Option zX) (ka : KX) :
 ∀ (m i : Nat), m + i = len → ∀ (t : Fr) (s : Tx), s.length + m * 2 < 900000 → zA t 0 = I64 w → zA t 6 = ptr fb 0 → zA t 7 = I64 most → zA t 8 = I64 line → zA t 11 = str s → zA t 13 = I64 (i : Nat) →
 (∀ t', zA t' 0 = I64 w → zA t' 6 = ptr fb 0 → zA t' 7 = I64 most → zA t' 8 = I64 line → zA t' 11 = str (s ++ vE m [32, 48]) → ka (.exit 5) t' ⟨[], u, h, n⟩ = true) →
 lpS P 8 1000031 ⟨7, none, false⟩ t ⟨[], u, h, n⟩ ka = true := by
 have fl := xI (P := P) us40 r [] h;intro m
 induction m with
 | zero =>
  intro i hi t s hs t0 t6 t7 t8 t11 t12 hk;refine yO zM mixed (hint := pA) l7 lp7_1000031 ?_;rw [B7_1000031_eq];unfold B7_1000031;rw [t0, t6, t7, t8, t11, t12];have e3 : wO (i : Nat) (len : Nat) = false := by rw [zV]; exact decide_eq_false (by omega)
  simp only [↓zC, ↓zE];refine zR ?_;simp only [↓fa43_2, ↓lv, ↓fl, ↓zD, ↓zE, ↓e3, ↓zY, ↓zI, ↓uS];refine hk _ rfl rfl rfl rfl ?_;show str s = str (s ++ vE 0 [32, 48]);simp [vE]
 | succ m ih =>
  intro i hi t s hs t0 t6 t7 t8 t11 t12 hk;refine yO zM mixed (hint := pA) l7 lp7_1000031 ?_;rw [B7_1000031_eq];unfold B7_1000031;rw [t0, t6, t7, t8, t11, t12];have e3 : wO (i : Nat) (len : Nat) = true := by rw [zV]; exact decide_eq_true (by omega)
  simp only [↓zC, ↓zE];refine zR ?_;simp only [↓fa43_2, ↓lv, ↓fl, ↓zD, ↓zE, ↓e3, ↓zY, ↓zI, ↓uK];refine wN (fun t w' => zA t 0 = I64 w ∧ zA t 6 = ptr fb 0 ∧ zA t 7 = I64 most ∧ zA t 8 = I64 line ∧ zA t 11 = str (s ++ [32, 48]) ∧ zA t 13 = I64 (i : Nat) ∧ w' = ⟨[], u, h, n⟩) (fun t w' q => ?_) (fun kk hkk => ?_)
  · obtain ⟨p0, p6, p7, p8, p11, p12, rfl⟩ := q;simp only [p0, p6, p7, p8, p11, p12, ↓zC, ↓zE];refine zR ?_;refine uH (by omega) ?_;refine ih (i + 1) (by omega) _ (s ++ [32, 48]) (by simp; omega) rfl rfl rfl rfl rfl rfl fun t' q0 q6 q7 q8 q11 => ?_;refine hk t' q0 q6 q7 q8 ?_;rw [q11, qI, List.append_assoc]
  · refine sP (a := s) (b := [32, 48]) (by simp; omega) ?_;exact hkk _ _ ⟨rfl, rfl, rfl, rfl, rfl, rfl, rfl⟩
theorem hins_loop {h : zG} {n fb len : Nat} {bv v q : Value} {vs : List Value} (lb : zF P 41 h (.pointer (some ⟨fb, 4, none⟩)) = some bv) (bi : Int) (l1 : zU P 41 bv (I64 bi) = some q) (l2 : zF P 51 h q = some v) (r : Row n h v 50 9 len vs) (hlen : len < 100000) (w most line : Int) (u : Option zX) (ka : KX) :
 ∀ (m i : Nat), m + i = len → ∀ (t : Fr) (s : Tx), s.length + m * 8 < 900000 → zA t 0 = I64 w → zA t 6 = ptr fb 0 → zA t 7 = I64 most → zA t 8 = I64 line → zA t 11 = str s → zA t 14 = I64 bi → zA t 15 = I64 (i : Nat) →
 (∀ t', zA t' 0 = I64 w → zA t' 6 = ptr fb 0 → zA t' 7 = I64 most → zA t' 8 = I64 line → zA t' 11 = str (s ++ vE m retL) → zA t' 14 = I64 bi → ka (.exit 9) t' ⟨[], u, h, n⟩ = true) →
 lpS P 8 1000040 ⟨7, none, false⟩ t ⟨[], u, h, n⟩ ka = true := by
 have fl := xI (P := P) us51 r [] h;intro m
 induction m with
 | zero =>
  intro i hi t s hs t0 t6 t7 t8 t11 t14 t12 hk;refine yO zM mixed (hint := pA) l7 lp7_1000040 ?_;rw [B7_1000040_eq];unfold B7_1000040;rw [t0, t6, t7, t8, t11, t14, t12];have e3 : wO (i : Nat) (len : Nat) = false := by rw [zV]; exact decide_eq_false (by omega)
  simp only [↓zC, ↓zE];refine zR ?_;simp only [↓tA, ↓lb, ↓l1, ↓l2, ↓fl, ↓zD, ↓zE, ↓e3, ↓zY, ↓zI, ↓uS];refine hk _ rfl rfl rfl rfl ?_ rfl;show str s = str (s ++ vE 0 retL);simp [vE]
 | succ m ih =>
  intro i hi t s hs t0 t6 t7 t8 t11 t14 t12 hk;refine yO zM mixed (hint := pA) l7 lp7_1000040 ?_;rw [B7_1000040_eq];unfold B7_1000040;rw [t0, t6, t7, t8, t11, t14, t12];have e3 : wO (i : Nat) (len : Nat) = true := by rw [zV]; exact decide_eq_true (by omega)
  simp only [↓zC, ↓zE];refine zR ?_;simp only [↓tA, ↓lb, ↓l1, ↓l2, ↓fl, ↓zD, ↓zE, ↓e3, ↓zY, ↓zI, ↓uK];refine wN (fun t w' => zA t 0 = I64 w ∧ zA t 6 = ptr fb 0 ∧ zA t 7 = I64 most ∧ zA t 8 = I64 line ∧ zA t 11 = str (s ++ retL) ∧ zA t 14 = I64 bi ∧ zA t 15 = I64 (i : Nat) ∧ w' = ⟨[], u, h, n⟩) (fun t w' q => ?_) (fun kk hkk => ?_)
  · obtain ⟨p0, p6, p7, p8, p11, p14, p12, rfl⟩ := q;simp only [p0, p6, p7, p8, p11, p14, p12, ↓zC, ↓zE];refine zR ?_;refine uH (by omega) ?_;refine ih (i + 1) (by omega) _ (s ++ retL) (by simp; omega) rfl rfl rfl rfl rfl rfl rfl fun t' q0 q6 q7 q8 q11 q14 => ?_;refine hk t' q0 q6 q7 q8 ?_ q14;rw [q11, qI, List.append_assoc]
  · refine sP (a := s) (b := retL) (by simp; omega) ?_;exact hkk _ _ ⟨rfl, rfl, rfl, rfl, rfl, rfl, rfl, rfl⟩
theorem hblocks_loop {h : zG} {n fb : Nat} {bv : Value} {bs : List (List Ins)} {svs : List Value} (lb : zF P 41 h (.pointer (some ⟨fb, 4, none⟩)) = some bv) (r : BlksRow n h bv bs svs) (hlen : bs.length < 100000) (hb : ∀ b ∈ bs, b.length < 100000) (w most line : Int) (u : Option zX) (ka : KX) :
 ∀ (m i : Nat), m + i = bs.length → ∀ (t : Fr) (s : Tx), s.length + (sG (bs.drop i)).length < 800000 → zA t 0 = I64 w → zA t 6 = ptr fb 0 → zA t 7 = I64 most → zA t 8 = I64 line → zA t 11 = str s → zA t 14 = I64 (i : Nat) →
 (∀ t', zA t' 0 = I64 w → zA t' 7 = I64 most → zA t' 8 = I64 line → zA t' 11 = str (s ++ sG (bs.drop i)) → ka (.exit 7) t' ⟨[], u, h, n⟩ = true) →
 lpS P 8 1000036 ⟨7, none, false⟩ t ⟨[], u, h, n⟩ ka = true := by
 have fl := xI (P := P) us41 r.1 [] h;intro m
 induction m with
 | zero =>
  intro i hi t s hs t0 t6 t7 t8 t11 t14 hk;refine yO zM mixed (hint := pA) l7 lp7_1000036 ?_;rw [B7_1000036_eq];unfold B7_1000036;rw [t0, t6, t7, t8, t11, t14];have e3 : wO (i : Nat) (bs.length : Nat) = false := by rw [zV]; exact decide_eq_false (by omega)
  simp only [↓zC, ↓zE];refine zR ?_;simp only [↓tA, ↓lb, ↓fl, ↓zD, ↓zE, ↓e3, ↓zY, ↓zI, ↓uS];refine hk _ rfl rfl rfl ?_;show str s = str (s ++ sG (bs.drop i));rw [List.drop_eq_nil_of_le (by omega)];simp [sG]
 | succ m ih =>
  intro i hi t s hs t0 t6 t7 t8 t11 t14 hk;have hlt : i < bs.length := by omega
  have hd : bs.drop i = bs[i] :: bs.drop (i + 1) := List.drop_eq_getElem_cons hlt;have hsl := r.2.1;have hgt : bs[i]? = some bs[i] := List.getElem?_eq_getElem hlt;have hgs : svs[i]? = some (svs[i]'(by omega)) := List.getElem?_eq_getElem (by omega);have hk2 := r.2.2 i _ _ hgt hgs;have hby := hb _ (List.getElem_mem hlt);obtain ⟨q, q1, q2⟩ := xU (P := P) (k := .i64) r.1 ix41 (tl := 51) sh51 hgs;generalize bs[i] = y at hd hk2 hby
  obtain ⟨_, _, hr⟩ := id hk2;have eH : sG (y :: bs.drop (i + 1)) = (wX ++ [10]) ++ vE y.length retL ++ sG (bs.drop (i + 1)) := by unfold sG; rw [List.flatMap_cons]
  rw [hd, eH] at hs hk;simp only [List.length_append, List.length_cons, List.length_nil, sW] at hs;refine yO zM mixed (hint := pA) l7 lp7_1000036 ?_;rw [B7_1000036_eq];unfold B7_1000036;rw [t0, t6, t7, t8, t11, t14];have e3 : wO (i : Nat) (bs.length : Nat) = true := by rw [zV]; exact decide_eq_true (by omega)
  simp only [↓zC, ↓zE];refine zR ?_;simp only [↓tA, ↓lb, ↓fl, ↓zD, ↓zE, ↓e3, ↓zY, ↓zI, ↓uK];refine wN (fun t w' => zA t 0 = I64 w ∧ zA t 6 = ptr fb 0 ∧ zA t 7 = I64 most ∧ zA t 8 = I64 line ∧ zA t 11 = str (s ++ (wX ++ [10]) ++ vE y.length retL) ∧ zA t 14 = I64 (i : Nat) ∧ w' = ⟨[], u, h, n⟩) (fun t w' q => ?_) (fun kk hkk => ?_)
  · obtain ⟨p0, p6, p7, p8, p11, p14, rfl⟩ := q;simp only [p0, p6, p7, p8, p11, p14, ↓zC, ↓zE];refine zR ?_;refine uH (by omega) ?_;refine ih (i + 1) (by omega) _ (s ++ (wX ++ [10]) ++ vE y.length retL) (by simp only [List.length_append, List.length_cons, List.length_nil, sW]; omega) rfl rfl rfl rfl rfl rfl fun t' q0 q7 q8 q11 => ?_;refine hk t' q0 q7 q8 ?_;rw [q11];simp only [List.append_assoc]
  · refine sP (a := s) (b := wX ++ [10]) (by simp; omega) ?_;refine hins_loop lb _ q1 q2 hr.1 hby w most line u _ y.length 0 (Nat.add_zero _) _ (s ++ (wX ++ [10])) (by simp only [List.length_append, List.length_cons, List.length_nil]; omega) rfl rfl rfl rfl rfl rfl rfl fun t' r0 r6 r7 r8 r11 r14 => ?_;simp only [↓zP, ↓zQ];simp only [r0, r6, r7, r8, r11, r14, ↓zC, ↓zE];refine zR ?_;exact hkk _ _ ⟨rfl, rfl, rfl, rfl, rfl, rfl, rfl⟩
def App (M : List Nat) (n : Nat) (h : zG) (v : Value) (e sz len : Nat) (vs : List Value) : Prop :=
 (Own 0 n h v e sz len vs ∧ ∀ b, xK v = some b → b ∉ M) ∨ (∃ b, v = .slice (some ⟨b, 0, none⟩) len len ∧ 0 < len ∧ len < inf ∧ RO M n h v e sz len vs)
theorem App.touch {M S : List Nat} {n n' : Nat} {h h' : zG} {v : Value} {e sz len : Nat} {vs : List Value} (a : App M n h v e sz len vs) (t : TouchE S h n h' n') (hS : ∀ x ∈ S, x ∈ M ∨ n ≤ x) : App M n' h' v e sz len vs := by
 rcases a with ⟨o, hM⟩ | ⟨b, e1, e2, e3, r⟩
 · refine .inl ⟨o.touch t fun b hb hx => ?_, hM⟩;rcases hS b hx with h1 | h1
   · exact hM b hb h1
   · have := (o.ge b hb).2; omega
 · exact .inr ⟨b, e1, e2, e3, r.step t hS fun x hx => .inl hx⟩
theorem App.ro {M : List Nat} {n : Nat} {h : zG} {v : Value} {e sz len : Nat} {vs : List Value} (a : App M n h v e sz len vs) (hsz : 1 ≤ sz) : RO [] n h v e sz len vs := by
 rcases a with ⟨o, hM⟩ | ⟨b, e1, e2, e3, r⟩
 · exact own_ro o hsz fun _ _ => by simp
 · exact r.any
theorem append_app {M : List Nat} {sT xT e sz n len m : Nat} {h : zG} {v x : Value} {vs new : List Value} {K : KH} (hT : apTB P sT xT e sz = true) (a : App M n h v e sz len vs) (hM : ∀ y ∈ M, y < n) (hm : 0 < m) (hvs : ∀ y ∈ vs, y.oneCell' = true) (hr : Row n h x e sz m new) (hnew : new.length = m * sz) (h1 : ∀ y ∈ new, y.oneCell' = true)
 (hlim : len + m < 1000000) (hK : ∀ v' h' n', App M n' h' v' e sz (len + m) (vs ++ new) → (∀ b, xK v' = some b → n ≤ b) → n ≤ n' → (∀ b, b < n → xK v ≠ some b → zT h' b = zT h b) → K h' n' v' = true) : xV P [sT, xT] [v, x] h n K = true := by
 rcases a with ⟨o, ha⟩ | ⟨b, rfl, e2, e3, r⟩
 · refine append_new hT o hm hr hnew h1 hlim fun v' h' n' o' nn k => ?_;exact hK v' h' n' (.inl ⟨o'.low (Nat.zero_le _), fun b hb hx => by have := (o'.ge b hb).1; have := hM b hx; omega⟩) (fun b hb => (o'.ge b hb).1) nn k
 · refine tT hT r.1 e3 hvs hm hr hnew h1 hlim fun v' h' o' x' => ?_;exact hK v' h' _ (.inl ⟨o'.low (Nat.zero_le _), fun b hb hx => by have := (o'.ge b hb).1; have := hM b hx; omega⟩) (fun b hb => (o'.ge b hb).1) x'.1 fun b hb _ => x'.2 b hb
def FB (fb n : Nat) (h : zG) (f : Fct) : Prop := fb < n ∧ ∃ vv pv bv, Cel h fb (43 + 1) [str f.name, vv, pv, str f.result, bv] ∧ FunAt n h (.agg ⟨[str f.name, vv, pv, str f.result, bv]⟩) f
theorem rep_succ {α : Type} (x : α) (n : Nat) : List.replicate n x ++ [x] = List.replicate (n + 1) x := (List.replicate_succ' ..).symm
def I0 (fb i : Nat) (bv : Value) (bl : Value) (h : zG) (n : Nat) : Prop := fb < n ∧ 8 ≤ fb ∧ ∃ vv, Cel h fb (43 + 1) [str tF, vv, .slice none 0 0, str tG, bv] ∧ App [fb] n h vv 9 1 i (List.replicate i (str tG)) ∧ RO [fb] n h bv 51 1 1 [bl] ∧ BlkRO [fb] n h bl [retI] ∧
 (∀ b, xK vv = some b → xK bv ≠ some b ∧ fb ≤ b)
theorem App.one {M : List Nat} {n : Nat} {h : zG} {v : Value} {e sz len : Nat} {vs : List Value} (a : App M n h v e sz len vs) : v.oneCell' = true := by
 rcases a with ⟨o, _⟩ | ⟨b, rfl, _⟩
 · exact o.one
 · rfl
theorem iota_succ (i : Nat) : ((List.range i).map fun y : Nat => I64 (y : Int)) ++ [I64 (i : Nat)] = (List.range (i + 1)).map fun y : Nat => I64 (y : Int) := by
 rw [List.range_succ, List.map_append]; rfl
def J0 (fb i : Nat) (bv bl : Value) (h : zG) (n : Nat) : Prop := fb < n ∧ ∃ vv, Cel h fb (43 + 1) [str tF, vv, .slice none 0 0, str tG, bv] ∧ App [fb] n h vv 9 1 i (List.replicate i (str tG)) ∧ RO [] fb h bv 51 1 1 [bl] ∧ BlkRO [] fb h bl [retI] ∧ ∀ b, xK vv = some b → fb < b
theorem fill0 (N : Nat) (hN : N ≤ 520) (fb : Nat) (most line : Int) (bv bl : Value) (u : Option zX) (ka : KX) : ∀ (m i : Nat), m + i = N → ∀ (t : Fr) (h : zG) (n : Nat), J0 fb i bv bl h n → zA t 0 = I64 0 → zA t 1 = I64 (N : Nat) → zA t 6 = ptr fb 0 → zA t 7 = I64 most → zA t 8 = I64 line → zA t 9 = I64 (i : Nat) →
 (∀ t' h' n', n ≤ n' → (∀ x, x < fb → zT h' x = zT h x) → J0 fb N bv bl h' n' → zA t' 0 = I64 0 → zA t' 1 = I64 (N : Nat) → zA t' 6 = ptr fb 0 → zA t' 7 = I64 most → zA t' 8 = I64 line → ka (.exit 0) t' ⟨[], u, h', n'⟩ = true) →
 lpS P 8 1000008 ⟨7, none, false⟩ t ⟨[], u, h, n⟩ ka = true := by
 intro m
 induction m with
 | zero =>
  intro i hi t h n I t0 t1 t6 t7 t8 t9 hk;refine yO zM mixed (hint := pA) l7 tB ?_;rw [uD];unfold tE;rw [t0, t1, t6, t7, t8, t9];have e3 : wO (i : Nat) (N : Nat) = false := by rw [zV]; exact decide_eq_false (by omega)
  simp only [↓zC, ↓zE];refine zR ?_;simp only [↓e3, ↓zY, ↓zI, ↓uS];obtain rfl : i = N := by omega
  exact hk _ h n (Nat.le_refl _) (fun _ _ => rfl) I rfl rfl rfl rfl rfl
 | succ m ih =>
  intro i hi t h n I t0 t1 t6 t7 t8 t9 hk;refine yO zM mixed (hint := pA) l7 tB ?_;rw [uD];unfold tE;rw [t0, t1, t6, t7, t8, t9];have e3 : wO (i : Nat) (N : Nat) = true := by rw [zV]; exact decide_eq_true (by omega)
  simp only [↓zC, ↓zE];refine zR ?_;simp only [↓e3, ↓zY, ↓zI, ↓uK];obtain ⟨Q, hQ⟩ : ∃ Q : Fr → W → Prop, Q = fun t w' => zA t 0 = I64 0 ∧ zA t 1 = I64 (N : Nat) ∧ zA t 6 = ptr fb 0 ∧ zA t 7 = I64 most ∧ zA t 8 = I64 line ∧ zA t 9 = I64 (i : Nat) ∧ ∃ h' n', w' = ⟨[], u, h', n'⟩ ∧ J0 fb (i + 1) bv bl h' n' ∧ n ≤ n' ∧ ∀ x, x < fb → zT h' x = zT h x := ⟨_, rfl⟩;refine wN Q (fun t w' q => ?_) (fun k1 hk1 => ?_)
  · rw [hQ] at q;obtain ⟨p0, p1, p6, p7, p8, p9, h', n', rfl, I', nn, sm⟩ := q;simp only [p0, p1, p6, p7, p8, p9, ↓zC, ↓zE];refine zR ?_;refine uH (by omega) ?_;refine ih (i + 1) (by omega) _ h' n' I' rfl rfl rfl rfl rfl rfl fun t2 h2 n2 nn2 sm2 I2 q0 q1 q6 q7 q8 => ?_;exact hk t2 h2 n2 (Nat.le_trans nn nn2) (fun x hx => (sm2 x hx).trans (sm x hx)) I2 q0 q1 q6 q7 q8
  refine wN Q (fun t w' q => ?_) (fun k2 hk2 => ?_)
  · rw [hQ] at q;obtain ⟨p0, p1, p6, p7, p8, p9, h', n', rfl, q'⟩ := q;simp only [p0, p1, p6, p7, p8, p9, ↓zC, ↓zE];refine zR ?_;refine hk1 _ _ ?_;rw [hQ];exact ⟨rfl, rfl, rfl, rfl, rfl, rfl, h', n', rfl, q'⟩
  have d0 : xZ 0 0 = true := rfl;simp only [↓d0, ↓zY, ↓zI];refine wE Q (fun t w' q => ?_) (fun hc k3 hk3 => ?_) (fun hc k3 _ => ?_)
  · rw [hQ] at q;obtain ⟨p0, p1, p6, p7, p8, p9, h', n', rfl, q'⟩ := q;simp only [p0, p1, p6, p7, p8, p9, ↓zC, ↓zE];refine zR ?_;refine hk2 _ _ ?_;rw [hQ];exact ⟨rfl, rfl, rfl, rfl, rfl, rfl, h', n', rfl, q'⟩
  rotate_left
  · cases hc
  obtain ⟨hfb, vv, c, a, r, rb, hlow⟩ := I;have l1 : zF P 23 h (.pointer (some ⟨fb, 1, none⟩)) = some vv := zH c sh23 rfl;simp only [↓sX, ↓l1, ↓zD];refine vK on23 (sZ tG) fun h1 c1 x1 => ?_;have a1 := a.touch (x1.touch []) (by simp);refine append_app ap23 a1 (by simp; omega) (by decide) (fun y hy => ?_) c1 rfl (fun y hy => ?_) (by omega) fun v2 h2 n2 a2 b2 nn k2 => ?_
  · have := List.eq_of_mem_replicate hy; subst this; rfl
  · simp only [List.mem_cons, List.not_mem_nil, or_false] at hy;subst hy; rfl
  have c2 : Cel h2 fb (43 + 1) [str tF, vv, .slice none 0 0, str tG, bv] := (c.touch (x1.touch []) hfb (by simp)).keep (k2 fb (by omega) (fun e => by have := hlow fb e; omega));try simp only [↓sX, ↓zD]
  refine xH c2 sh23 (by simp) a2.one fun h3 c3 k3 => ?_
  have E : ∀ x, x < fb → zT h3 x = zT h x := fun x hx => by
   rw [k3 x (by omega), k2 x (by omega) (fun e => by have := hlow x e; omega), x1.2 x (by omega)]
  have E' : Ext h fb h3 fb := ⟨Nat.le_refl _, E⟩;have a3 := a2.touch (zS k3 (S := [fb]) (by simp)) (by simp);rw [rep_succ] at a3;refine hk3 _ _ ?_;rw [hQ];exact ⟨rfl, rfl, rfl, rfl, rfl, rfl, h3, n2, rfl, ⟨by omega, v2, c3, a3, r.ext E', rb.ext E', fun b hb => by have := b2 b hb; omega⟩, by omega, E⟩
def J1 (fb i : Nat) (bv bl : Value) (h : zG) (n : Nat) : Prop := fb < n ∧ ∃ vv, Cel h fb (43 + 1) [str tF, .slice none 0 0, vv, str tG, bv] ∧ App [fb] n h vv 3 1 i ((List.range i).map fun y : Nat => I64 (y : Int)) ∧ RO [] fb h bv 51 1 1 [bl] ∧ BlkRO [] fb h bl [retI] ∧ ∀ b, xK vv = some b → fb < b
theorem fill1 (N : Nat) (hN : N ≤ 520) (fb : Nat) (most line : Int) (bv bl : Value) (u : Option zX) (ka : KX) : ∀ (m i : Nat), m + i = N → ∀ (t : Fr) (h : zG) (n : Nat), J1 fb i bv bl h n → zA t 0 = I64 1 → zA t 1 = I64 (N : Nat) → zA t 6 = ptr fb 0 → zA t 7 = I64 most → zA t 8 = I64 line → zA t 9 = I64 (i : Nat) →
 (∀ t' h' n', n ≤ n' → (∀ x, x < fb → zT h' x = zT h x) → J1 fb N bv bl h' n' → zA t' 0 = I64 1 → zA t' 1 = I64 (N : Nat) → zA t' 6 = ptr fb 0 → zA t' 7 = I64 most → zA t' 8 = I64 line → ka (.exit 0) t' ⟨[], u, h', n'⟩ = true) →
 lpS P 8 1000008 ⟨7, none, false⟩ t ⟨[], u, h, n⟩ ka = true := by
 intro m
 induction m with
 | zero =>
  intro i hi t h n I t0 t1 t6 t7 t8 t9 hk;refine yO zM mixed (hint := pA) l7 tB ?_;rw [uD];unfold tE;rw [t0, t1, t6, t7, t8, t9];have e3 : wO (i : Nat) (N : Nat) = false := by rw [zV]; exact decide_eq_false (by omega)
  simp only [↓zC, ↓zE];refine zR ?_;simp only [↓e3, ↓zY, ↓zI, ↓uS];obtain rfl : i = N := by omega
  exact hk _ h n (Nat.le_refl _) (fun _ _ => rfl) I rfl rfl rfl rfl rfl
 | succ m ih =>
  intro i hi t h n I t0 t1 t6 t7 t8 t9 hk;refine yO zM mixed (hint := pA) l7 tB ?_;rw [uD];unfold tE;rw [t0, t1, t6, t7, t8, t9];have e3 : wO (i : Nat) (N : Nat) = true := by rw [zV]; exact decide_eq_true (by omega)
  simp only [↓zC, ↓zE];refine zR ?_;simp only [↓e3, ↓zY, ↓zI, ↓uK];obtain ⟨Q, hQ⟩ : ∃ Q : Fr → W → Prop, Q = fun t w' => zA t 0 = I64 1 ∧ zA t 1 = I64 (N : Nat) ∧ zA t 6 = ptr fb 0 ∧ zA t 7 = I64 most ∧ zA t 8 = I64 line ∧ zA t 9 = I64 (i : Nat) ∧ ∃ h' n', w' = ⟨[], u, h', n'⟩ ∧ J1 fb (i + 1) bv bl h' n' ∧ n ≤ n' ∧ ∀ x, x < fb → zT h' x = zT h x := ⟨_, rfl⟩;refine wN Q (fun t w' q => ?_) (fun k1 hk1 => ?_)
  · rw [hQ] at q;obtain ⟨p0, p1, p6, p7, p8, p9, h', n', rfl, I', nn, sm⟩ := q;simp only [p0, p1, p6, p7, p8, p9, ↓zC, ↓zE];refine zR ?_;refine uH (by omega) ?_;refine ih (i + 1) (by omega) _ h' n' I' rfl rfl rfl rfl rfl rfl fun t2 h2 n2 nn2 sm2 I2 q0 q1 q6 q7 q8 => ?_;exact hk t2 h2 n2 (Nat.le_trans nn nn2) (fun x hx => (sm2 x hx).trans (sm x hx)) I2 q0 q1 q6 q7 q8
  refine wN Q (fun t w' q => ?_) (fun k2 hk2 => ?_)
  · rw [hQ] at q;obtain ⟨p0, p1, p6, p7, p8, p9, h', n', rfl, q'⟩ := q;simp only [p0, p1, p6, p7, p8, p9, ↓zC, ↓zE];refine zR ?_;refine hk1 _ _ ?_;rw [hQ];exact ⟨rfl, rfl, rfl, rfl, rfl, rfl, h', n', rfl, q'⟩
  have d0 : xZ 1 0 = false := rfl;simp only [↓d0, ↓zY, ↓zI];refine wE Q (fun t w' q => ?_) (fun hc k3 _ => ?_) (fun hc k3 hk3 => ?_)
  · rw [hQ] at q;obtain ⟨p0, p1, p6, p7, p8, p9, h', n', rfl, q'⟩ := q;simp only [p0, p1, p6, p7, p8, p9, ↓zC, ↓zE];refine zR ?_;refine hk2 _ _ ?_;rw [hQ];exact ⟨rfl, rfl, rfl, rfl, rfl, rfl, h', n', rfl, q'⟩
  · cases hc
  have d1 : xZ 1 1 = true := rfl;simp only [↓d1, ↓zY, ↓zI];refine wE Q (fun t w' q => ?_) (fun hc k4 hk4 => ?_) (fun hc k4 _ => ?_)
  · rw [hQ] at q;obtain ⟨p0, p1, p6, p7, p8, p9, h', n', rfl, q'⟩ := q;simp only [p0, p1, p6, p7, p8, p9, ↓zC, ↓zE];refine zR ?_;refine hk3 _ _ ?_;rw [hQ];exact ⟨rfl, rfl, rfl, rfl, rfl, rfl, h', n', rfl, q'⟩
  rotate_left
  · cases hc
  obtain ⟨hfb, vv, c, a, r, rb, hlow⟩ := I;have l1 : zF P 40 h (.pointer (some ⟨fb, 2, none⟩)) = some vv := zH c sh40 rfl;simp only [↓fa43_2, ↓l1, ↓zD];refine vK on40 (v := I64 (i : Nat)) rfl fun h1 c1 x1 => ?_;have a1 := a.touch (x1.touch []) (by simp);refine append_app ap40 a1 (by simp; omega) (by decide) (fun y hy => ?_) c1 rfl (fun y hy => ?_) (by omega) fun v2 h2 n2 a2 b2 nn k2 => ?_
  · obtain ⟨z, _, rfl⟩ := List.mem_map.1 hy; rfl
  · simp only [List.mem_cons, List.not_mem_nil, or_false] at hy;subst hy; rfl
  have c2 : Cel h2 fb (43 + 1) [str tF, .slice none 0 0, vv, str tG, bv] := (c.touch (x1.touch []) hfb (by simp)).keep (k2 fb (by omega) (fun e => by have := hlow fb e; omega));try simp only [↓fa43_2, ↓zD]
  refine xH c2 sh40 (by simp) a2.one fun h3 c3 k3 => ?_
  have E : ∀ x, x < fb → zT h3 x = zT h x := fun x hx => by
   rw [k3 x (by omega), k2 x (by omega) (fun e => by have := hlow x e; omega), x1.2 x (by omega)]
  have E' : Ext h fb h3 fb := ⟨Nat.le_refl _, E⟩;have a3 := a2.touch (zS k3 (S := [fb]) (by simp)) (by simp);rw [iota_succ] at a3;refine hk4 _ _ ?_;rw [hQ];exact ⟨rfl, rfl, rfl, rfl, rfl, rfl, h3, n2, rfl, ⟨by omega, v2, c3, a3, r.ext E', rb.ext E', fun b hb => by have := b2 b hb; omega⟩, by omega, E⟩
abbrev pE : Value := .slice none 0 0
theorem ro_nilM {M : List Nat} {n : Nat} {h : zG} {e sz : Nat} : RO M n h pE e sz 0 [] := ⟨.inl ⟨rfl, rfl, rfl⟩, fun _ hb => (by cases hb), fun _ _ _ hb => (by cases hb)⟩
theorem z_ret : vR P 50 [(0, .int .i64 9)] = some (.agg ⟨uY retI pE⟩) := by kernel_rfl
theorem build_ret {M : List Nat} {h : zG} {n : Nat} {K : KH} (hM : ∀ y ∈ M, y < n) (hK : ∀ h', BlkRO M (n + 1) h' (.slice (some ⟨n, 0, none⟩) 1 1) [retI] → Row (n + 1) h' (.slice (some ⟨n, 0, none⟩) 1 1) 50 9 1 (uY retI pE) → Ext h n h' (n + 1) → K h' (n + 1) (.slice (some ⟨n, 0, none⟩) 1 1) = true) :
 zN P 51 1 [(0, .agg ⟨uY retI pE⟩)] h n K = true := by
 have z : yW P 51 1 [(0, .agg ⟨uY retI pE⟩)] = some (uE (uY retI pE) 0) := rfl;refine pV (e := 50) (sz := 9) z rfl (by unfold inf; omega) fun h' r hi x => hK h' ⟨[pE], ⟨rfl, fun j i' a h1 h2 => ?_⟩, ?_⟩ r x
 · cases j with
   | zero =>
    simp only [List.getElem?_cons_zero, Option.some.injEq] at h1 h2;subst h1 h2;exact ro_nilM
   | succ j => simp at h1
 · have e : vM [retI] [pE] = uY retI pE := by simp [vM]
   rw [e];have q := ro_built r hi;refine ⟨q.1, fun b hb hx => ?_, q.2.2⟩;injection hb with hb
   subst hb;exact Nat.lt_irrefl n (hM _ hx)
theorem flat_app (l : List Ins) (av : List Value) (h : av.length = l.length) (i : Ins) (a : Value) : vM (l ++ [i]) (av ++ [a]) = vM l av ++ uY i a := by
 unfold vM;rw [List.zip_append h.symm, List.flatMap_append];simp
theorem flat_rep (n : Nat) : vM (List.replicate (n + 1) retI) (List.replicate (n + 1) pE) = vM (List.replicate n retI) (List.replicate n pE) ++ uY retI pE := by
 rw [← rep_succ, ← rep_succ, flat_app _ _ (by simp)]
theorem flat_one (n : Nat) : ∀ y ∈ vM (List.replicate n retI) (List.replicate n pE), y.oneCell' = true := by
 induction n with
 | zero => intro y hy; simp [vM] at hy
 | succ n ih =>
  intro y hy;rw [flat_rep, List.mem_append] at hy;rcases hy with hy | hy
  · exact ih y hy
  · exact rA rfl y hy
def J2 (lo fb i : Nat) (h : zG) (n : Nat) : Prop := fb < n ∧ lo ≤ fb ∧ ∃ bv svs, Cel h fb (43 + 1) [str tF, pE, pE, str tG, bv] ∧ App [fb] n h bv 51 1 (i + 1) svs ∧ svs.length = i + 1 ∧ (∀ v ∈ svs, v.oneCell' = true ∧ BlkRO (fb :: (xK bv).toList) n h v [retI]) ∧ ∀ b, xK bv = some b → lo ≤ b ∧ b ≠ fb
def J3 (lo fb bb i : Nat) (h : zG) (n : Nat) : Prop := fb < n ∧ bb < n ∧ bb ≠ fb ∧ lo ≤ fb ∧ lo ≤ bb ∧ ∃ lv, Cel h fb (43 + 1) [str tF, pE, pE, str tG, .slice (some ⟨bb, 0, none⟩) 1 1] ∧ Cel h bb 0 [lv] ∧ App [fb, bb] n h lv 50 9 (i + 1) (vM (List.replicate (i + 1) retI) (List.replicate (i + 1) pE)) ∧ ∀ b, xK lv = some b → lo ≤ b ∧ b ≠ fb ∧ b ≠ bb
theorem fill2 (N : Nat) (hN : N ≤ 520) (lo fb : Nat) (most line : Int) (u : Option zX) (ka : KX) : ∀ (m i : Nat), m + i = N → ∀ (t : Fr) (h : zG) (n : Nat), J2 lo fb i h n → zA t 0 = I64 2 → zA t 1 = I64 (N : Nat) → zA t 6 = ptr fb 0 → zA t 7 = I64 most → zA t 8 = I64 line → zA t 9 = I64 (i : Nat) →
 (∀ t' h' n', n ≤ n' → (∀ x, x < lo → zT h' x = zT h x) → J2 lo fb N h' n' → zA t' 0 = I64 2 → zA t' 1 = I64 (N : Nat) → zA t' 6 = ptr fb 0 → zA t' 7 = I64 most → zA t' 8 = I64 line → ka (.exit 0) t' ⟨[], u, h', n'⟩ = true) →
 lpS P 8 1000008 ⟨7, none, false⟩ t ⟨[], u, h, n⟩ ka = true := by
 intro m
 induction m with
 | zero =>
  intro i hi t h n I t0 t1 t6 t7 t8 t9 hk;refine yO zM mixed (hint := pA) l7 tB ?_;rw [uD];unfold tE;rw [t0, t1, t6, t7, t8, t9];have e3 : wO (i : Nat) (N : Nat) = false := by rw [zV]; exact decide_eq_false (by omega)
  simp only [↓zC, ↓zE];refine zR ?_;simp only [↓e3, ↓zY, ↓zI, ↓uS];obtain rfl : i = N := by omega
  exact hk _ h n (Nat.le_refl _) (fun _ _ => rfl) I rfl rfl rfl rfl rfl
 | succ m ih =>
  intro i hi t h n I t0 t1 t6 t7 t8 t9 hk;refine yO zM mixed (hint := pA) l7 tB ?_;rw [uD];unfold tE;rw [t0, t1, t6, t7, t8, t9];have e3 : wO (i : Nat) (N : Nat) = true := by rw [zV]; exact decide_eq_true (by omega)
  simp only [↓zC, ↓zE];refine zR ?_;simp only [↓e3, ↓zY, ↓zI, ↓uK];obtain ⟨Q, hQ⟩ : ∃ Q : Fr → W → Prop, Q = fun t w' => zA t 0 = I64 2 ∧ zA t 1 = I64 (N : Nat) ∧ zA t 6 = ptr fb 0 ∧ zA t 7 = I64 most ∧ zA t 8 = I64 line ∧ zA t 9 = I64 (i : Nat) ∧ ∃ h' n', w' = ⟨[], u, h', n'⟩ ∧ J2 lo fb (i + 1) h' n' ∧ n ≤ n' ∧ ∀ x, x < lo → zT h' x = zT h x := ⟨_, rfl⟩;refine wN Q (fun t w' q => ?_) (fun k1 hk1 => ?_)
  · rw [hQ] at q;obtain ⟨p0, p1, p6, p7, p8, p9, h', n', rfl, I', nn, sm⟩ := q;simp only [p0, p1, p6, p7, p8, p9, ↓zC, ↓zE];refine zR ?_;refine uH (by omega) ?_;refine ih (i + 1) (by omega) _ h' n' I' rfl rfl rfl rfl rfl rfl fun t2 h2 n2 nn2 sm2 I2 q0 q1 q6 q7 q8 => ?_;exact hk t2 h2 n2 (Nat.le_trans nn nn2) (fun x hx => (sm2 x hx).trans (sm x hx)) I2 q0 q1 q6 q7 q8
  refine wN Q (fun t w' q => ?_) (fun k2 hk2 => ?_)
  · rw [hQ] at q;obtain ⟨p0, p1, p6, p7, p8, p9, h', n', rfl, q'⟩ := q;simp only [p0, p1, p6, p7, p8, p9, ↓zC, ↓zE];refine zR ?_;refine hk1 _ _ ?_;rw [hQ];exact ⟨rfl, rfl, rfl, rfl, rfl, rfl, h', n', rfl, q'⟩
  have d0 : xZ 2 0 = false := rfl;simp only [↓d0, ↓zY, ↓zI];refine wE Q (fun t w' q => ?_) (fun hc k3 _ => ?_) (fun hc k3 hk3 => ?_)
  · rw [hQ] at q;obtain ⟨p0, p1, p6, p7, p8, p9, h', n', rfl, q'⟩ := q;simp only [p0, p1, p6, p7, p8, p9, ↓zC, ↓zE];refine zR ?_;refine hk2 _ _ ?_;rw [hQ];exact ⟨rfl, rfl, rfl, rfl, rfl, rfl, h', n', rfl, q'⟩
  · cases hc
  have d1 : xZ 2 1 = false := rfl;simp only [↓d1, ↓zY, ↓zI];refine wE Q (fun t w' q => ?_) (fun hc k4 _ => ?_) (fun hc k4 hk4 => ?_)
  · rw [hQ] at q;obtain ⟨p0, p1, p6, p7, p8, p9, h', n', rfl, q'⟩ := q;simp only [p0, p1, p6, p7, p8, p9, ↓zC, ↓zE];refine zR ?_;refine hk3 _ _ ?_;rw [hQ];exact ⟨rfl, rfl, rfl, rfl, rfl, rfl, h', n', rfl, q'⟩
  · cases hc
  have d2 : xZ 2 2 = true := rfl;simp only [↓d2, ↓zY, ↓zI];refine wE Q (fun t w' q => ?_) (fun hc k5 hk5 => ?_) (fun hc k5 _ => ?_)
  · rw [hQ] at q;obtain ⟨p0, p1, p6, p7, p8, p9, h', n', rfl, q'⟩ := q;simp only [p0, p1, p6, p7, p8, p9, ↓zC, ↓zE];refine zR ?_;refine hk4 _ _ ?_;rw [hQ];exact ⟨rfl, rfl, rfl, rfl, rfl, rfl, h', n', rfl, q'⟩
  rotate_left
  · cases hc
  obtain ⟨hfb, hlo, bv, svs, c, a, hsl, hel, hlow⟩ := I;have l1 : zF P 41 h (.pointer (some ⟨fb, 4, none⟩)) = some bv := zH c sh41 rfl;simp only [↓tA, ↓l1, ↓zD, ↓z_ret]
  have hM : ∀ y ∈ fb :: (xK bv).toList, y < n := fun y hy => by
   simp only [List.mem_cons, Option.mem_toList] at hy;rcases hy with rfl | hy
   · exact hfb
   · exact (a.ro (Nat.le_refl 1)).1.lt y hy
  refine build_ret hM fun h1 c1 _ x1 => ?_;refine vK on41 (v := .slice (some ⟨n, 0, none⟩) 1 1) rfl fun h2 c2 x2 => ?_;have x12 := x1.trans x2;have a1 := a.touch (x12.touch []) (by simp);refine append_app ap41 a1 (by simp; omega) (by decide) (fun y hy => (hel y hy).1) c2 rfl (fun y hy => ?_) (by omega) fun v3 h3 n3 a3 b3 nn k3 => ?_
  · simp only [List.mem_cons, List.not_mem_nil, or_false] at hy;subst hy; rfl
  have c3 : Cel h3 fb (43 + 1) [str tF, pE, pE, str tG, bv] := (c.touch (x12.touch []) hfb (by simp)).keep (k3 fb (by omega) (fun e => (hlow fb e).2 rfl));try simp only [↓tA, ↓zD]
  refine xH c3 sh41 (by simp) a3.one fun h4 c4 k4 => ?_
  have E : ∀ x, x < lo → zT h4 x = zT h x := fun x hx => by
   rw [k4 x (by omega), k3 x (by omega) (fun e => by have := hlow x e; omega), x12.2 x (by omega)]
  have a4 := a3.touch (zS k4 (S := [fb]) (by simp)) (by simp)
  have T1 : TouchE (fb :: (xK bv).toList) h1 (n + 1) h4 n3 := ⟨by omega, fun x hx hS => by
   simp only [List.mem_cons, Option.mem_toList, not_or] at hS;rw [k4 x hS.1, k3 x (by omega) hS.2, x2.2 x (by omega)]⟩
  have T0 : TouchE (fb :: (xK bv).toList) h n h4 n3 := ⟨by omega, fun x hx hS => by rw [T1.2 x (by omega) hS, x1.2 x hx]⟩
  have hM' : ∀ x ∈ fb :: (xK v3).toList, x ∈ fb :: (xK bv).toList ∨ n + 1 ≤ x := fun x hx => by
   simp only [List.mem_cons, Option.mem_toList] at hx;rcases hx with rfl | hx
   · exact .inl (by simp)
   · have := b3 x hx; exact .inr (by omega)
  refine hk5 _ _ ?_;rw [hQ];refine ⟨rfl, rfl, rfl, rfl, rfl, rfl, h4, n3, rfl, ⟨by omega, hlo, v3, svs ++ [.slice (some ⟨n, 0, none⟩) 1 1], c4, a4, by simp [hsl], fun v hv => ?_, fun b hb => by have := b3 b hb; omega⟩, by omega, E⟩;rcases List.mem_append.1 hv with hv | hv
  · exact ⟨(hel v hv).1, (hel v hv).2.step T0 (fun x hx => .inl hx) fun x hx => (hM' x hx).imp id (fun h => by omega)⟩
  · simp only [List.mem_cons, List.not_mem_nil, or_false] at hv;subst hv;exact ⟨rfl, c1.step T1 (fun x hx => .inl hx) hM'⟩
theorem fill3 (N : Nat) (hN : N ≤ 520) (lo fb bb : Nat) (most line : Int) (u : Option zX) (ka : KX) : ∀ (m i : Nat), m + i = N → ∀ (t : Fr) (h : zG) (n : Nat), J3 lo fb bb i h n → zA t 0 = I64 3 → zA t 1 = I64 (N : Nat) → zA t 6 = ptr fb 0 → zA t 7 = I64 most → zA t 8 = I64 line → zA t 9 = I64 (i : Nat) →
 (∀ t' h' n', n ≤ n' → (∀ x, x < lo → zT h' x = zT h x) → J3 lo fb bb N h' n' → zA t' 0 = I64 3 → zA t' 1 = I64 (N : Nat) → zA t' 6 = ptr fb 0 → zA t' 7 = I64 most → zA t' 8 = I64 line → ka (.exit 0) t' ⟨[], u, h', n'⟩ = true) →
 lpS P 8 1000008 ⟨7, none, false⟩ t ⟨[], u, h, n⟩ ka = true := by
 intro m
 induction m with
 | zero =>
  intro i hi t h n I t0 t1 t6 t7 t8 t9 hk;refine yO zM mixed (hint := pA) l7 tB ?_;rw [uD];unfold tE;rw [t0, t1, t6, t7, t8, t9];have e3 : wO (i : Nat) (N : Nat) = false := by rw [zV]; exact decide_eq_false (by omega)
  simp only [↓zC, ↓zE];refine zR ?_;simp only [↓e3, ↓zY, ↓zI, ↓uS];obtain rfl : i = N := by omega
  exact hk _ h n (Nat.le_refl _) (fun _ _ => rfl) I rfl rfl rfl rfl rfl
 | succ m ih =>
  intro i hi t h n I t0 t1 t6 t7 t8 t9 hk;refine yO zM mixed (hint := pA) l7 tB ?_;rw [uD];unfold tE;rw [t0, t1, t6, t7, t8, t9];have e3 : wO (i : Nat) (N : Nat) = true := by rw [zV]; exact decide_eq_true (by omega)
  simp only [↓zC, ↓zE];refine zR ?_;simp only [↓e3, ↓zY, ↓zI, ↓uK];obtain ⟨Q, hQ⟩ : ∃ Q : Fr → W → Prop, Q = fun t w' => zA t 0 = I64 3 ∧ zA t 1 = I64 (N : Nat) ∧ zA t 6 = ptr fb 0 ∧ zA t 7 = I64 most ∧ zA t 8 = I64 line ∧ zA t 9 = I64 (i : Nat) ∧ ∃ h' n', w' = ⟨[], u, h', n'⟩ ∧ J3 lo fb bb (i + 1) h' n' ∧ n ≤ n' ∧ ∀ x, x < lo → zT h' x = zT h x := ⟨_, rfl⟩;refine wN Q (fun t w' q => ?_) (fun k1 hk1 => ?_)
  · rw [hQ] at q;obtain ⟨p0, p1, p6, p7, p8, p9, h', n', rfl, I', nn, sm⟩ := q;simp only [p0, p1, p6, p7, p8, p9, ↓zC, ↓zE];refine zR ?_;refine uH (by omega) ?_;refine ih (i + 1) (by omega) _ h' n' I' rfl rfl rfl rfl rfl rfl fun t2 h2 n2 nn2 sm2 I2 q0 q1 q6 q7 q8 => ?_;exact hk t2 h2 n2 (Nat.le_trans nn nn2) (fun x hx => (sm2 x hx).trans (sm x hx)) I2 q0 q1 q6 q7 q8
  refine wN Q (fun t w' q => ?_) (fun k2 hk2 => ?_)
  · rw [hQ] at q;obtain ⟨p0, p1, p6, p7, p8, p9, h', n', rfl, q'⟩ := q;simp only [p0, p1, p6, p7, p8, p9, ↓zC, ↓zE];refine zR ?_;refine hk1 _ _ ?_;rw [hQ];exact ⟨rfl, rfl, rfl, rfl, rfl, rfl, h', n', rfl, q'⟩
  have d0 : xZ 3 0 = false := rfl;simp only [↓d0, ↓zY, ↓zI];refine wE Q (fun t w' q => ?_) (fun hc k3 _ => ?_) (fun hc k3 hk3 => ?_)
  · rw [hQ] at q;obtain ⟨p0, p1, p6, p7, p8, p9, h', n', rfl, q'⟩ := q;simp only [p0, p1, p6, p7, p8, p9, ↓zC, ↓zE];refine zR ?_;refine hk2 _ _ ?_;rw [hQ];exact ⟨rfl, rfl, rfl, rfl, rfl, rfl, h', n', rfl, q'⟩
  · cases hc
  have d1 : xZ 3 1 = false := rfl;simp only [↓d1, ↓zY, ↓zI];refine wE Q (fun t w' q => ?_) (fun hc k4 _ => ?_) (fun hc k4 hk4 => ?_)
  · rw [hQ] at q;obtain ⟨p0, p1, p6, p7, p8, p9, h', n', rfl, q'⟩ := q;simp only [p0, p1, p6, p7, p8, p9, ↓zC, ↓zE];refine zR ?_;refine hk3 _ _ ?_;rw [hQ];exact ⟨rfl, rfl, rfl, rfl, rfl, rfl, h', n', rfl, q'⟩
  · cases hc
  have d2 : xZ 3 2 = false := rfl;simp only [↓d2, ↓zY, ↓zI];refine wE Q (fun t w' q => ?_) (fun hc k5 _ => ?_) (fun hc k5 hk5 => ?_)
  · rw [hQ] at q;obtain ⟨p0, p1, p6, p7, p8, p9, h', n', rfl, q'⟩ := q;simp only [p0, p1, p6, p7, p8, p9, ↓zC, ↓zE];refine zR ?_;refine hk4 _ _ ?_;rw [hQ];exact ⟨rfl, rfl, rfl, rfl, rfl, rfl, h', n', rfl, q'⟩
  · cases hc
  obtain ⟨hfb, hbb, hne, hlo, hlb, lv, c, cb, a, hlow⟩ := I;have l1 : zF P 41 h (.pointer (some ⟨fb, 4, none⟩)) = some (.slice (some ⟨bb, 0, none⟩) 1 1) := zH c sh41 rfl;have qi : zU P 41 (.slice (some ⟨bb, 0, none⟩) 1 1) (.int .i64 0) = some (ptr bb 0) := index_sl (P := P) (k := .i64) (i := 0) ix41 (by decide);have l2 : zF P 51 h (ptr bb 0) = some lv := zH cb sh51 rfl;simp only [↓tA, ↓l1, ↓qi, ↓l2, ↓zD, ↓z_ret];refine build_ret (M := []) (by simp) fun h1 _ c1 x1 => ?_;have a1 := a.touch (x1.touch []) (by simp);refine append_app ap51 a1 (by simp; omega) (by decide) (flat_one _) c1 rfl (rA rfl) (by omega) fun v2 h2 n2 a2 b2 nn k2 => ?_;have c2 : Cel h2 fb (43 + 1) [str tF, pE, pE, str tG, .slice (some ⟨bb, 0, none⟩) 1 1] := (c.touch (x1.touch []) hfb (by simp)).keep (k2 fb (by omega) (fun e => (hlow fb e).2.1 rfl));have cb2 : Cel h2 bb 0 [lv] := (cb.touch (x1.touch []) hbb (by simp)).keep (k2 bb (by omega) (fun e => (hlow bb e).2.2 rfl));have l3 : zF P 41 h2 (.pointer (some ⟨fb, 4, none⟩)) = some (.slice (some ⟨bb, 0, none⟩) 1 1) := zH c2 sh41 rfl;rw [vJ nn, tJ];simp only [↓tA, ↓l3, ↓qi, ↓zD]
  refine xH cb2 sh51 (by simp) a2.one fun h3 cb3 k3 => ?_;have c3 : Cel h3 fb (43 + 1) [str tF, pE, pE, str tG, .slice (some ⟨bb, 0, none⟩) 1 1] := c2.keep (k3 fb (fun e => hne e.symm));rw [vJ (Nat.le_refl _), tJ, lks31 (lk_at (by omega) l3 (oC _ _ _ _)) (lk_at hfb l1 (oC _ _ _ _)) rfl, tJ]
  have E : ∀ x, x < lo → zT h3 x = zT h x := fun x hx => by
   rw [k3 x (by omega), k2 x (by omega) (fun e => by have := hlow x e; omega), x1.2 x (by omega)]
  have a3 := a2.touch (zS k3 (S := [bb]) (by simp)) (fun x hx => .inl (by simp at hx; subst hx; simp));rw [← flat_rep] at a3;refine hk5 _ _ ?_;rw [hQ];exact ⟨rfl, rfl, rfl, rfl, rfl, rfl, h3, n2, rfl, ⟨by omega, by omega, hne, hlo, hlb, v2, c3, cb3, a3, fun b hb => by have := b2 b hb; omega⟩, by omega, E⟩
theorem ext_up {n n' : Nat} {h : zG} (hn : n ≤ n') : Ext h n h n' := ⟨hn, fun _ _ => rfl⟩
theorem one_ro {b n e : Nat} {h : zG} {v : Value} (c : Cel h b 0 [v]) (hb : b < n) : RO [] n h (.slice (some ⟨b, 0, none⟩) 1 1) e 1 1 [v] := by
 refine ⟨.inr ⟨b, 0, 1, 1, 0, 0, hb, rfl, rfl, c.1, Nat.le_refl 1, ?_, .inl ⟨by unfold inf; omega, Nat.le_refl 1⟩⟩, fun _ _ => by simp, fun b' m z hb' hx => ?_⟩
 · intro i x hi;rw [Nat.zero_add];exact (c.2 i).trans hi
 · injection hb' with hb'
   subst hb';rw [c.1] at hx;cases hx
theorem j0_fb {fb N n : Nat} {bv bl : Value} {h : zG} (I : J0 fb N bv bl h n) : FB fb n h (uC 0 N) := by
 obtain ⟨hfb, vv, c, a, rb, rl, hl⟩ := I;have x := ext_up (h := h) (Nat.le_of_lt hfb);refine ⟨hfb, vv, pE, bv, c, vv, pE, bv, [bl], rfl, ?_, ro_nil, rb.ext x, rfl, fun k l v h1 h2 => ?_⟩
 · have e1 : (uC 0 N).vregs = List.replicate N tG := rfl;rw [e1, List.length_replicate, List.map_replicate];exact a.ro (Nat.le_refl 1)
 · cases k with
   | zero =>
    have e1 : (uC 0 N).blocks = [[retI]] := rfl;rw [e1] at h1;simp only [List.getElem?_cons_zero, Option.some.injEq] at h1 h2;subst h1 h2;exact rl.ext x
   | succ k => simp at h2
theorem j1_fb {fb N n : Nat} {bv bl : Value} {h : zG} (I : J1 fb N bv bl h n) : FB fb n h (uC 1 N) := by
 obtain ⟨hfb, vv, c, a, rb, rl, hl⟩ := I;have x := ext_up (h := h) (Nat.le_of_lt hfb);refine ⟨hfb, pE, vv, bv, c, pE, vv, bv, [bl], rfl, ro_nil, ?_, rb.ext x, rfl, fun k l v h1 h2 => ?_⟩
 · have e1 : (uC 1 N).params = (List.range N).map fun i : Nat => (i : Int) := rfl;rw [e1, List.length_map, List.length_range, List.map_map];exact a.ro (Nat.le_refl 1)
 · cases k with
   | zero =>
    have e1 : (uC 1 N).blocks = [[retI]] := rfl;rw [e1] at h1;simp only [List.getElem?_cons_zero, Option.some.injEq] at h1 h2;subst h1 h2;exact rl.ext x
   | succ k => simp at h2
theorem j2_fb {lo fb N n : Nat} {h : zG} (I : J2 lo fb N h n) : FB fb n h (uC 2 N) := by
 obtain ⟨hfb, hlo, bv, svs, c, a, hl, hb, hx⟩ := I;have e1 : (uC 2 N).blocks = List.replicate (N + 1) [retI] := rfl;refine ⟨hfb, pE, pE, bv, c, pE, pE, bv, svs, rfl, ro_nil, ro_nil, ?_, ?_, fun k l v h1 h2 => ?_⟩
 · rw [e1, List.length_replicate];exact a.ro (Nat.le_refl 1)
 · rw [e1, List.length_replicate]; exact hl
 · rw [e1] at h1;have := List.eq_of_mem_replicate (List.mem_of_getElem? h1);subst this;exact (hb v (List.mem_of_getElem? h2)).2.any
theorem j3_fb {lo fb bb N n : Nat} {h : zG} (I : J3 lo fb bb N h n) (hN : N + 1 < inf) : FB fb n h (uC 3 N) := by
 obtain ⟨hfb, hbb, hne, hlo, hlob, lv, c, cb, a, hx⟩ := I;have e1 : (uC 3 N).blocks = [List.replicate (N + 1) retI] := rfl;refine ⟨hfb, pE, pE, _, c, pE, pE, _, [lv], rfl, ro_nil, ro_nil, ?_, rfl, fun k l v h1 h2 => ?_⟩
 · rw [e1];exact one_ro cb hbb
 · rw [e1] at h1
   cases k with
   | zero =>
    simp only [List.getElem?_cons_zero, Option.some.injEq] at h1 h2;subst h1 h2;refine ⟨List.replicate (N + 1) pE, ⟨by simp, fun j i' a' h3 h4 => ?_⟩, ?_⟩
    · have := List.eq_of_mem_replicate (List.mem_of_getElem? h3);subst this;have := List.eq_of_mem_replicate (List.mem_of_getElem? h4);subst this;exact ro_nil
    · rw [List.length_replicate]; exact a.ro (by decide)
   | succ k => simp at h1
def JS (lo fb : Nat) (bv bl : Value) (h : zG) (n : Nat) : Prop := fb < n ∧ lo ≤ fb ∧ Cel h fb (43 + 1) [str tF, pE, pE, str tG, bv] ∧ RO [] fb h bv 51 1 1 [bl] ∧ ∃ bb lb, BlkRO [] bb h bl [retI] ∧ bv = .slice (some ⟨bb, 0, none⟩) 1 1 ∧ bl = .slice (some ⟨lb, 0, none⟩) 1 1 ∧ bb < fb ∧ lb < bb ∧ lo ≤ lb ∧ Cel h bb 0 [bl] ∧ (∀ m z, tM (zT h lb) ≠ some (m, z + 1, 0)) ∧ Row fb h bl 50 9 1 (uY retI pE)
theorem app_nil {M : List Nat} {n e sz : Nat} {h : zG} : App M n h pE e sz 0 [] := .inl ⟨.inl ⟨rfl, rfl, rfl⟩, fun _ hb => by cases hb⟩
theorem fill_any {w : Nat} (hw : w < 4) (N : Nat) (hN : N ≤ 520) {lo fb : Nat} {bv bl : Value} {h : zG} {n : Nat} (I : JS lo fb bv bl h n) (most line : Int) (u : Option zX) (ka : KX) (t : Fr) (t0 : zA t 0 = I64 (w : Nat)) (t1 : zA t 1 = I64 (N : Nat)) (t6 : zA t 6 = ptr fb 0) (t7 : zA t 7 = I64 most) (t8 : zA t 8 = I64 line) (t9 : zA t 9 = I64 0)
 (hk : ∀ t' h' n', n ≤ n' → (∀ x, x < lo → zT h' x = zT h x) → FB fb n' h' (uC w N) → zA t' 0 = I64 (w : Nat) → zA t' 1 = I64 (N : Nat) → zA t' 6 = ptr fb 0 → zA t' 7 = I64 most → zA t' 8 = I64 line → ka (.exit 0) t' ⟨[], u, h', n'⟩ = true) :
 lpS P 8 1000008 ⟨7, none, false⟩ t ⟨[], u, h, n⟩ ka = true := by
 obtain ⟨hfb, hlo, c, rb, bb, lb, rl0, rfl, rfl, hbb, hlb, hll, cb, hi, rr⟩ := I;have rl := rl0.ext (ext_up (h := h) (Nat.le_of_lt hbb));have hup := ext_up (h := h) (Nat.le_of_lt hfb)
 match w, hw with
 | 0, _ =>
  exact fill0 N hN fb most line _ _ u ka N 0 (Nat.add_zero _) t h n ⟨hfb, pE, c, app_nil, rb, rl, fun _ hb => by cases hb⟩ t0 t1 t6 t7 t8 t9 fun t' h' n' hn hx I' a b c d e => hk t' h' n' hn (fun x hl => hx x (by omega)) (j0_fb I') a b c d e
 | 1, _ =>
  exact fill1 N hN fb most line _ _ u ka N 0 (Nat.add_zero _) t h n ⟨hfb, pE, c, app_nil, rb, rl, fun _ hb => by cases hb⟩ t0 t1 t6 t7 t8 t9 fun t' h' n' hn hx I' a b c d e => hk t' h' n' hn (fun x hl => hx x (by omega)) (j1_fb I') a b c d e
 | 2, _ =>
  have hM : ∀ x, x ∈ [fb] → x ∈ ([] : List Nat) ∨ fb ≤ x := fun x hx => .inr (by simp only [List.mem_cons, List.not_mem_nil, or_false] at hx; omega);have rb2 := rb.step (M' := [fb]) (hup.touch []) (by simp) (fun x hx => hM x hx);have rl2 : BlkRO [fb, bb] n h (.slice (some ⟨lb, 0, none⟩) 1 1) [retI] := rl0.step ((ext_up (h := h) (Nat.le_of_lt (Nat.lt_trans hbb hfb))).touch []) (by simp) (fun x hx => .inr (by simp only [List.mem_cons, List.not_mem_nil, or_false] at hx; omega));refine fill2 N hN lo fb most line u ka N 0 (Nat.add_zero _) t h n ⟨hfb, hlo, _, [_], c, .inr ⟨bb, rfl, by decide, by unfold inf; omega, rb2⟩, rfl, fun v hv => ?_, fun b hb => ?_⟩ t0 t1 t6 t7 t8 t9 fun t' h' n' hn hx I' a b c d e => hk t' h' n' hn hx (j2_fb I') a b c d e
  · simp only [List.mem_cons, List.not_mem_nil, or_false] at hv;subst hv;exact ⟨rfl, rl2⟩
  · injection hb with hb
    subst hb;dsimp only;omega
 | 3, _ =>
  refine fill3 N hN lo fb bb most line u ka N 0 (Nat.add_zero _) t h n ⟨hfb, by omega, by omega, hlo, by omega, _, c, cb, .inr ⟨lb, rfl, by decide, by unfold inf; omega, ?_⟩, fun b hb => ?_⟩ t0 t1 t6 t7 t8 t9 fun t' h' n' hn hx I' a b c d e => hk t' h' n' hn hx (j3_fb I' (by unfold inf; omega)) a b c d e
  · refine ⟨?_, fun b hb hx => ?_, fun b m z hb hx => ?_⟩
    · have e : vM (List.replicate (0 + 1) retI) (List.replicate (0 + 1) pE) = uY retI pE := by simp [vM]
      rw [e];exact rr.ext hup
    · injection hb with hb
      subst hb;simp at hx;omega
    · injection hb with hb
      subst hb;exact hi m z hx
  · injection hb with hb
    subst hb;dsimp only;omega
theorem buildS_cel {ty : TypeId} {len : Nat} {parts : List (Nat × Value)} {h : zG} {n : Nat} {K : KH} {e sz : Nat} {cs : List Value} (hb : yW P ty len parts = some (uE cs 0)) (hl : cs.length = len * sz) (hlt : len < inf)
 (hK : ∀ h', Row (n + 1) h' (.slice (some ⟨n, 0, none⟩) len len) e sz len cs → Cel h' n 0 cs → Ext h n h' (n + 1) → K h' (n + 1) (.slice (some ⟨n, 0, none⟩) len len) = true) : zN P ty len parts h n K = true := by
 unfold zN;rw [hb];show yL h n (uE cs 0) (fun h' n' => K h' n' (.slice (some ⟨n, 0, none⟩) len len)) = true;rw [yM];refine hK _ (.inr ⟨n, 0, len, cs.length, 0, 0, Nat.lt_succ_self _, rfl, hl, ?_, by omega, fun j v ej => ?_, .inl ⟨hlt, Nat.le_refl _⟩⟩) cel_mkC pL
 · rw [zK, if_pos rfl]; rfl
 · unfold xO;rw [zK, if_pos rfl, Nat.zero_add];exact (uV cs 0 0 j).trans ej
theorem z_one (b : Nat) : yW P 41 1 [(0, .slice (some ⟨b, 0, none⟩) 1 1)] = some (uE [.slice (some ⟨b, 0, none⟩) 1 1] 0) := rfl
theorem z_four (a b c d : Int) : yW P 40 4 [(0, I64 a), (1, I64 b), (2, I64 c), (3, I64 d)] = some (uE [I64 a, I64 b, I64 c, I64 d] 0) := rfl
theorem cmp_neB (a b : Bool) (K : Bool → Bool) : yD ineB P .neq 4 false (.bool a) (.bool b) K = K (!(a == b)) := by cases a <;> cases b <;> kernel_rfl
def rW (w : Nat) : Int := if w = 0 then 500 else if w = 1 then 16 else if w = 2 then 200 else 400
def limL0 (w : Nat) : Int := if w = 0 then 2 else if w = 1 then 3 else 0
theorem limMost_ok {w N : Nat} : decide (((if 1 < w then N + 1 else N : Nat) : Int) ≤ rW w) = limOK w N := by
 unfold rW limOK;by_cases h0 : w = 0
 · subst h0;rw [if_pos rfl, if_pos rfl, if_neg (by omega), decide_eq_decide]; omega
 · by_cases h1 : w = 1
   · subst h1;rw [if_neg h0, if_pos rfl, if_neg h0, if_pos rfl, if_neg (by omega), decide_eq_decide]; omega
   · by_cases h2 : w = 2
     · subst h2;rw [if_neg h0, if_neg h1, if_pos rfl, if_neg h0, if_neg h1, if_pos rfl, if_pos (by omega), decide_eq_decide]; omega
     · rw [if_neg h0, if_neg h1, if_neg h2, if_neg h0, if_neg h1, if_neg h2, if_pos (by omega), decide_eq_decide]; omega
theorem limF_all {w N : Nat} (hN : N ≤ 520) : FctAll (uC w N) ∧ (wD (uT (uC w N))).length < 1000000 ∧ (uC w N).vregs.length ≤ 520 ∧ (uC w N).params.length ≤ 520 ∧ (uC w N).blocks.length ≤ 521 ∧ (∀ b ∈ (uC w N).blocks, b.length ≤ 521) ∧ (sG (uC w N).blocks).length ≤ 20000 := by
 obtain ⟨h1, h2, h3, h4, h5, h6, h7, h8, h9⟩ := limF_sizes (w := w) hN;have hs := limF_short (w := w) hN;have hr := insAll_of qH retI_go;have hi : ∀ b ∈ (uC w N).blocks, ∀ i ∈ b, InsAll i := fun b hb i hib => by rw [limF_ret b hb i hib]; exact hr
 refine ⟨⟨⟨by omega, by omega, by omega, fun b hb => ⟨by have := h4 b hb; omega, fun i hib => ?_⟩⟩, hi, by omega, h9, by omega⟩, by omega, h1, h2, h3, h4, h5⟩;rw [limF_ret b hb i hib];exact ⟨hr.1, by have := hr.2.2.2.2.2.2.2; omega⟩
theorem limits_rets {m : Int} {h : zG} {n : Nat} (hE : Env m h) (hn : 8 ≤ n) (c d : Int) : Rets P 8 7 [I64 c, I64 d] h n fun v _ _ => v = .bool true := by
 refine yQ zM mixed (hint := pA) l7 fun u k hk => ?_;rw [F7_eq];unfold F7;simp only [↓zE];refine yK (alive_pure hE hn) ?_;simp only [↓xX, ↓zD, ↓zJ, ↓Bool.not_true, ↓qU, ↓yZ, ↓cmp_lss, ↓zI, ↓xP];by_cases g1 : c < 0
 · simp only [↓decide_eq_true g1, ↓zJ, ↓pJ, ↓xW, ↓zI, ↓xF, ↓uK];exact yP r7 rfl (hk _ _ _ rfl)
 simp only [↓decide_eq_false g1, ↓zJ, ↓qU, ↓yZ, ↓zI, ↓xP, ↓cmp_gtr];by_cases g2 : 3 < c
 · simp only [↓decide_eq_true g2, ↓zJ, ↓pJ, ↓xW, ↓zI, ↓xF, ↓uK];exact yP r7 rfl (hk _ _ _ rfl)
 simp only [↓decide_eq_false g2, ↓zJ, ↓qU, ↓yZ, ↓zI, ↓xP, ↓cmp_lss];by_cases g3 : d < 0
 · simp only [↓decide_eq_true g3, ↓zJ, ↓pJ, ↓xW, ↓zI, ↓xF, ↓uK];exact yP r7 rfl (hk _ _ _ rfl)
 simp only [↓decide_eq_false g3, ↓zJ, ↓qU, ↓yZ, ↓zI, ↓xP, ↓cmp_gtr];by_cases g4 : 520 < d
 · simp only [↓decide_eq_true g4, ↓zJ, ↓uK];exact yP r7 rfl (hk _ _ _ rfl)
 simp only [↓decide_eq_false g4, ↓zJ, ↓uS, ↓z_ret, ↓zD];obtain ⟨w, rfl⟩ : ∃ w : Nat, c = (w : Nat) := ⟨c.toNat, by omega⟩;obtain ⟨N, rfl⟩ : ∃ N : Nat, d = (N : Nat) := ⟨d.toNat, by omega⟩;have hw : w < 4 := by omega
 have hN : N ≤ 520 := by omega
 refine build_ret (M := []) (by simp) fun h3 b3 r3 x3 => ?_;refine buildS_cel (sz := 1) (e := 51) (z_one n) rfl (by unfold inf; omega) fun h4 r4 c4 x4 => ?_
 have z2 : vR P 43 [(0, .string (ByteArray.mk #[102])), (3, .string (ByteArray.mk #[103])), (4, .slice (some ⟨n + 1, 0, none⟩) 1 1)] =
  some (.agg ⟨[str [102], .slice none 0 0, .slice none 0 0, str [103], .slice (some ⟨n + 1, 0, none⟩) 1 1]⟩) := by kernel_rfl
 simp only [↓z2, ↓zD];refine wR ze43 fun h5 c5 x5 => ?_;refine xQ c5 sh43 rfl rfl (by intro x hx; simp only [List.mem_cons, List.not_mem_nil, or_false] at hx; rcases hx with rfl | rfl | rfl | rfl | rfl <;> rfl) fun h6 c6 k6 => ?_;refine pV (sz := 1) (e := 3) (z_four _ _ _ _) rfl (by unfold inf; omega) fun h7 rr7 i7 x7 => ?_
 obtain ⟨q7, p7, l7⟩ := xU (P := P) (k := .i64) rr7 ix40 (tl := 3) sh3 (i := w) (x := I64 (rW w)) (by match w, hw with
  | 0, _ => rfl
  | 1, _ => rfl
  | 2, _ => rfl
  | 3, _ => rfl)
 simp only [↓p7, ↓l7, ↓zD, ↓zE];refine pV (sz := 1) (e := 3) (z_four _ _ _ _) rfl (by unfold inf; omega) fun h8 rr8 i8 x8 => ?_
 obtain ⟨q8, p8, l8⟩ := xU (P := P) (k := .i64) rr8 ix40 (tl := 3) sh3 (i := w) (x := I64 (limL0 w)) (by match w, hw with
  | 0, _ => rfl
  | 1, _ => rfl
  | 2, _ => rfl
  | 3, _ => rfl)
 simp only [↓p8, ↓l8, ↓zD, ↓zE]
 have e48 : ∀ b, b < n + 2 → zT h8 b = zT h4 b := fun b hb => by
  rw [x8.2 b (by omega), x7.2 b (by omega), k6 b (by omega), x5.2 b (by omega)]
 have e38 : ∀ b, b < n + 1 → zT h8 b = zT h3 b := fun b hb => by rw [e48 b (by omega), x4.2 b hb]
 have e08 : ∀ b, b < n → zT h8 b = zT h b := fun b hb => by rw [e38 b (by omega), x3.2 b hb]
 have hJ : JS n (n + 2) (.slice (some ⟨n + 1, 0, none⟩) 1 1) (.slice (some ⟨n, 0, none⟩) 1 1) h8 (n + 5) := by
  have E3 : Ext h3 (n + 1) h8 (n + 1) := ⟨Nat.le_refl _, e38⟩;have E3' : Ext h3 (n + 1) h8 (n + 2) := ⟨by omega, e38⟩;have E4 : Ext h4 (n + 2) h8 (n + 2) := ⟨Nat.le_refl _, e48⟩;have E6 : Ext h6 (n + 3) h8 (n + 5) := x7.trans x8;have b8 := b3.ext E3;refine ⟨by omega, by omega, c6.touch (E6.touch []) (by omega) (by simp), (ro_built r4 c4.1).ext E4, n + 1, n, b8, rfl, rfl, by omega, by omega, Nat.le_refl _, c4.touch (E4.touch []) (by omega) (by simp), fun m z hx => ?_, r3.ext E3'⟩;obtain ⟨av, _, q⟩ := b8;exact q.2.2 n m z rfl hx
 refine fill_any hw N hN hJ (rW w) (limL0 w) u _ _ rfl rfl rfl rfl rfl rfl fun t9 h9 n9 hn9 k9 fb9 t0 t1 t6 t7 t8 => ?_;simp only [↓zP, ↓zQ];simp only [t0, t1, t6, t7, t8, ↓zC, ↓zE];refine zR ?_;have e1 : wO 1 (w : Nat) = decide (1 < w) := by rw [zV]; rw [decide_eq_decide]; omega
 simp only [↓e1, ↓zY, ↓zI];obtain ⟨N', hN'⟩ : ∃ N', N' = (if 1 < w then N + 1 else N : Nat) := ⟨_, rfl⟩;refine wE (fun t w' => zA t 0 = I64 (w : Nat) ∧ zA t 1 = I64 (N' : Nat) ∧ zA t 6 = ptr (n + 2) 0 ∧ zA t 7 = I64 (rW w) ∧ zA t 8 = I64 (limL0 w) ∧ w' = ⟨[], u, h9, n9⟩) (fun t w' q => ?_) (fun hz kk hkk => ?_) (fun hz kk hkk => ?_)
 rotate_left
 · refine uH (by omega) ?_;rw [if_pos (of_decide_eq_true hz)] at hN';exact hkk _ _ ⟨rfl, by subst hN'; rfl, rfl, rfl, rfl, rfl⟩
 · rw [if_neg (of_decide_eq_false hz)] at hN';exact hkk _ _ ⟨rfl, by subst hN'; rfl, rfl, rfl, rfl, rfl⟩
 obtain ⟨p0, p1, p6, p7', p8', rfl⟩ := q;simp only [p0, p1, p6, p7', p8', ↓zC, ↓zE];try refine zR ?_
 have e2 : rU (N' : Nat) (rW w) = limOK w N := by rw [vF, hN', limMost_ok]
 have E9 : Ext h n h9 n9 := ⟨by omega, fun b hb => by rw [k9 b hb, e08 b hb]⟩;have hE9 : Env m h9 := hE.touch (E9.touch []) hn (by simp);obtain ⟨hfb9, vv, pv, bv, c9, fa9⟩ := fb9;have l9 : zF P 43 h9 (ptr (n + 2) 0) = some (.agg ⟨[str (uC w N).name, vv, pv, str (uC w N).result, bv]⟩) := xE c9 sh43 rfl (by decide);have hplain := limF_plain (w := w) hN;obtain ⟨hall, hplen, hvl, hpl, hbl, hbl', hhl⟩ := limF_all (w := w) hN;simp only [↓e2, ↓l9, ↓zY, ↓zD];refine yK (plain_pure (uC w N) _ h9 n9 fa9 hall.1) ?_;rw [hplain];have eb : ∀ b : Bool, (!(b == b)) = false := fun b => by cases b <;> rfl
 simp only [↓cmp_neB, ↓eb, ↓qU, ↓yZ, ↓l9, ↓zD];refine uO (print_pure hE9 (by omega) (uC w N) _ fa9 hall hplen) ?_;have es : ∀ (x : Tx) K, yD ineB P .neq 9 true (str x) (.string (ByteArray.mk #[])) K = K (!(x == [])) := fun x K => cmpSL_ne _ _ _ _ [] K
 have ep : (!(rZ (uC w N) == [])) = limOK w N := by
  rw [← hplain]
  cases e : sR (uC w N) with
  | true =>
   rw [printF_plain e]
   have : wD (uT (uC w N)) ≠ [] := by
    intro e';have := textL_len (uT (uC w N));rw [e'] at this;simp [uT, wG] at this
   simp [this]
  | false =>
   unfold rZ;rw [e]; rfl
 simp only [↓es, ↓ep, ↓cmp_neB, ↓eb, ↓zI, ↓xP, ↓zJ, ↓uS, ↓xX, ↓zD];refine wE (fun t w' => zA t 6 = ptr (n + 2) 0 ∧ limOK w N = true ∧ w' = ⟨[], u, h9, n9⟩) (fun t w' q => ?_) (fun hz kk hkk => ?_) (fun hz kk hkk => ?_)
 rotate_left
 · have hok : limOK w N = false := by simpa using hz
   clear kk hkk;have hbad := bad_at (fun _ _ _ h => ofOK_of h) hw hN hok
   obtain ⟨svs, r1, r2, r3, r4, r5⟩ : ∃ svs, RO [] n9 h9 vv 9 1 (uC w N).vregs.length ((uC w N).vregs.map str) ∧ RO [] n9 h9 pv 3 1 (uC w N).params.length ((uC w N).params.map I64) ∧ RO [] n9 h9 bv 51 1 (uC w N).blocks.length svs ∧ svs.length = (uC w N).blocks.length ∧ ∀ (k : Nat) (l : List Ins) (v : Value), (uC w N).blocks[k]? = some l → svs[k]? = some v → BlkRO [] n9 h9 v l := by
    obtain ⟨vv', pv', bv', svs, e, q⟩ := fa9;injection e with e
    injection e with e
    simp only [List.cons.injEq, and_true, true_and] at e;obtain ⟨rfl, rfl, rfl⟩ := e;exact ⟨svs, q⟩
   have lv : zF P 23 h9 (.pointer (some ⟨n + 2, 1, none⟩)) = some vv := zH c9 sh23 rfl;have lp : zF P 40 h9 (.pointer (some ⟨n + 2, 2, none⟩)) = some pv := zH c9 sh40 rfl;have lb : zF P 41 h9 (.pointer (some ⟨n + 2, 4, none⟩)) = some bv := zH c9 sh41 rfl;have n1 : hdF.length = 11 := rfl;have n2 : hdP.length = 7 := rfl;have n3 : hdR.length = 10 := rfl;refine regs_loop lv r1.1 (by omega) (w : Nat) (rW w) (limL0 w) u _ _ 0 (Nat.add_zero _) _ hdF (by rw [n1]; omega) rfl rfl rfl rfl rfl rfl fun ta a0 a6 a7 a8 a11 => ?_;simp only [↓zP, ↓zQ];simp only [a0, a6, a7, a8, a11, ↓zC, ↓zE];refine zR ?_;refine sP (a := hdF ++ vE (uC w N).vregs.length [32, 103]) (b := hdP) (by simp only [List.length_append, sW, n1, n2, List.length_cons, List.length_nil]; omega) ?_;refine params_loop lp r2.1 (by omega) (w : Nat) (rW w) (limL0 w) u _ _ 0 (Nat.add_zero _) _ (hdF ++ vE (uC w N).vregs.length [32, 103] ++ hdP) (by simp only [List.length_append, sW, n1, n2, List.length_cons, List.length_nil]; omega) rfl rfl rfl rfl rfl rfl fun tb b0 b6 b7 b8 b11 => ?_;simp only [↓zP, ↓zQ]
   simp only [b0, b6, b7, b8, b11, ↓zC, ↓zE];refine zR ?_;refine sP (a := hdF ++ vE (uC w N).vregs.length [32, 103] ++ hdP ++ vE (uC w N).params.length [32, 48]) (b := hdR) (by simp only [List.length_append, sW, n1, n2, n3, List.length_cons, List.length_nil]; omega) ?_;refine hblocks_loop lb ⟨r3.1, r4, r5⟩ (by omega) (fun b hb => by have := hbl' b hb; omega) (w : Nat) (rW w) (limL0 w) u _ _ 0 (Nat.add_zero _) _ (hdF ++ vE (uC w N).vregs.length [32, 103] ++ hdP ++ vE (uC w N).params.length [32, 48] ++ hdR) (by rw [List.drop_zero]; simp only [List.length_append, sW, n1, n2, n3, List.length_cons, List.length_nil]; omega) rfl rfl rfl rfl rfl rfl fun tc c0 c7 c8 c11 => ?_;rw [List.drop_zero] at c11;obtain ⟨TX, hTX⟩ : ∃ TX : Tx, TX = hdF ++ vE (uC w N).vregs.length [32, 103] ++ hdP ++ vE (uC w N).params.length [32, 48] ++ hdR ++ sG (uC w N).blocks := ⟨_, rfl⟩;rw [← hTX] at c11;have hTl : TX.length < 50000 := by rw [hTX]; simp only [List.length_append, sW, n1, n2, n3, List.length_cons, List.length_nil]; omega
   simp only [↓zP, ↓zQ];simp only [c0, c7, c8, c11, ↓zC, ↓zE];try refine zR ?_
   have e3 : xZ (w : Nat) 2 = decide (w = 2) := by rw [wS, decide_eq_decide]; omega
   simp only [↓e3, ↓zY, ↓zI];obtain ⟨L1, hL1⟩ : ∃ L1 : Int, L1 = if w = 2 then 405 else limL0 w := ⟨_, rfl⟩
   refine wE (fun t w' => zA t 0 = I64 (w : Nat) ∧ zA t 7 = I64 (rW w) ∧ zA t 8 = I64 L1 ∧ zA t 11 = str TX ∧ w' = ⟨[], u, h9, n9⟩) (fun t w' q => ?_) (fun hz kk hkk => ?_) (fun hz kk hkk => ?_)
   rotate_left
   · have hw2 := of_decide_eq_true hz;rw [if_pos hw2] at hL1;have e : wW .i64 (Int.mul 2 (rW w)) = 400 := by rw [hw2]; kernel_rfl
     have e5 : wW .i64 (pC 5 400) = 405 := by kernel_rfl
     simp only [↓e, ↓fi_ap, ↓e5];exact hkk _ _ ⟨rfl, rfl, by rw [hL1]; rfl, rfl, rfl⟩
   · rw [if_neg (of_decide_eq_false hz)] at hL1;exact hkk _ _ ⟨rfl, rfl, by rw [hL1]; rfl, rfl, rfl⟩
   obtain ⟨p0, p7, p8, p11, rfl⟩ := q;simp only [p0, p7, p8, p11, ↓zC, ↓zE];try refine zR ?_
   have e4 : xZ (w : Nat) 3 = decide (w = 3) := by rw [wS, decide_eq_decide]; omega
   simp only [↓e4, ↓zY, ↓zI];obtain ⟨L2, hL2⟩ : ∃ L2 : Int, L2 = if w = 3 then 406 else L1 := ⟨_, rfl⟩
   refine wE (fun t w' => zA t 8 = I64 L2 ∧ zA t 11 = str TX ∧ w' = ⟨[], u, h9, n9⟩) (fun t w' q => ?_) (fun hz kk hkk => ?_) (fun hz kk hkk => ?_)
   rotate_left
   · have hw3 := of_decide_eq_true hz;rw [if_pos hw3] at hL2;have e : rW w = 400 := by rw [hw3]; rfl
     simp only [e];refine uH (by omega) ?_;exact hkk _ _ ⟨by rw [hL2]; rfl, rfl, rfl⟩
   · rw [if_neg (of_decide_eq_false hz)] at hL2;exact hkk _ _ ⟨by rw [hL2]; rfl, rfl, rfl⟩
   obtain ⟨p8, p11, rfl⟩ := q
   have hLL : L2 = limLine w := by
    rw [hL2, hL1]
    match w, hw with
    | 0, _ => rfl
    | 1, _ => rfl
    | 2, _ => rfl
    | 3, _ => rfl
   simp only [p8, p11, ↓zC, ↓zE];refine zR ?_;refine sP (a := TX) (b := [101, 110, 100, 10]) (by simp only [List.length_cons, List.length_nil]; omega) ?_;have hHT : TX ++ [101, 110, 100, 10] = pZ (uC w N) := by rw [hTX]; rfl
   rw [hHT];have hHl : (pZ (uC w N)).length < 1000000 := by rw [← hHT, List.length_append]; simp only [List.length_cons, List.length_nil]; omega
   refine uJ (read_rets shp hE9 (by omega) (pZ (uC w N)) hHl (fun _ => hbad.2)) fun v h10 n10 ⟨x10, gv, e10, ga⟩ => ?_;rw [hbad.1] at e10 ga;subst e10;dsimp only at ga;obtain ⟨gl, rfl, -, -⟩ := fun_one ga;have y0 : ∀ a b : Int, yN 0 (.tuple ⟨[.agg ⟨gl⟩, I64 a, I64 b]⟩) = some (.agg ⟨gl⟩) := fun _ _ => rfl;have y1 : ∀ a b : Int, yN 1 (.tuple ⟨[.agg ⟨gl⟩, I64 a, I64 b]⟩) = some (I64 a) := fun _ _ => rfl;have y2 : ∀ a b : Int, yN 2 (.tuple ⟨[.agg ⟨gl⟩, I64 a, I64 b]⟩) = some (I64 b) := fun _ _ => rfl;simp only [↓y0, ↓y1, ↓y2, ↓zD, ↓zE];refine wR ze43 fun h11 c11 x11 => ?_;refine store_fun (ga.ext x11) ⟨_, _, c11, rfl⟩ (by omega) fun h12 k12 ld12 => ?_;refine tZ (num_pure 2 h12 (n10 + 1)) ?_;have ez : xZ 2 2 = true := rfl
   have ec : ∀ K, yD xZ P .eql 3 false (I64 (limLine w)) (I64 L2) K = K true := fun K => by
    have : xZ (limLine w) (limLine w) = true := by rw [wS]; exact decide_eq_true rfl
    rw [hLL];refine (cmpI _ _ _ _ _ _ _ _ _).trans ?_;rw [this]
   simp only [↓ez, ↓zY, ↓yZ, ↓ec];try simp only [↓zI, ↓xF, ↓zJ]
   exact yP r7 (v := .bool true) rfl (hk _ _ _ rfl)
 · exact hkk _ _ ⟨rfl, by simpa using hz, rfl⟩
 · obtain ⟨q6, hok, rfl⟩ := q;simp only [q6, ↓zC];try refine zR ?_
   simp only [↓l9, ↓zD];have hpF : sR (uC w N) = true := hplain.trans hok;refine uO (print_pure hE9 (by omega) (uC w N) _ fa9 hall hplen) ?_;have hpr : rZ (uC w N) = wD (uT (uC w N)) := printF_plain hpF;obtain ⟨er, eo⟩ := readS_print (Q := OfOK) (fun _ _ _ h => ofOK_of h) hpF limF_go (by rw [hpr]; exact limF_short hN);refine uJ (read_rets shp hE9 (by omega) _ (by rw [hpr]; exact hplen) (fun _ => eo)) fun v h10 n10 ⟨x10, gv, e10, ga⟩ => ?_;rw [er] at e10 ga;subst e10;dsimp only at ga;obtain ⟨gl, rfl, -, -⟩ := fun_one ga;have y0 : ∀ a b : Int, yN 0 (.tuple ⟨[.agg ⟨gl⟩, I64 a, I64 b]⟩) = some (.agg ⟨gl⟩) := fun _ _ => rfl;have y1 : ∀ a b : Int, yN 1 (.tuple ⟨[.agg ⟨gl⟩, I64 a, I64 b]⟩) = some (I64 a) := fun _ _ => rfl;have y2 : ∀ a b : Int, yN 2 (.tuple ⟨[.agg ⟨gl⟩, I64 a, I64 b]⟩) = some (I64 b) := fun _ _ => rfl;simp only [↓y0, ↓y1, ↓y2, ↓zD, ↓zE];refine wR ze43 fun h11 c11 x11 => ?_;refine store_fun (ga.ext x11) ⟨_, _, c11, rfl⟩ (by omega) fun h12 k12 ld12 => ?_;have x12 : Ext h10 n10 h12 (n10 + 1) := ⟨by omega, fun b hb => by rw [k12 b (by omega)]; exact x11.2 b hb⟩;have x92 := x10.trans x12
   have l1 : zF P 43 h12 (ptr (n + 2) 0) = some (.agg ⟨[str (uC w N).name, vv, pv, str (uC w N).result, bv]⟩) := xE (c9.touch (x92.touch []) (by omega) (by simp)) sh43 rfl (by decide);have l2 := ld12 (Ext.refl h12 (n10 + 1));refine tZ (num_pure 0 h12 (n10 + 1)) ?_;have ez : xZ 0 0 = true := rfl;simp only [↓ez, ↓zY, ↓yZ, ↓l1, ↓l2, ↓zD];refine yK (sameFunc_true (uC w N) _ _ h12 (n10 + 1) (fa9.ext x92) (ga.ext x12) hall.1) ?_;try simp only [↓zI, ↓xF, ↓zJ]
   exact yP r7 (v := .bool true) rfl (hk _ _ _ rfl)
open Go.Ex Go.ChangeShapes Go.WideShapes Go.ChangeAt Go.RowKit
set_option maxRecDepth 1000000
theorem own : ownKnob P.godebug = none := by kernel_rfl
theorem returns_and_shaped {H : Type} {enc : TypeId × Value → H} {a : Assume} {C : Checked} {os : Os} {f : FuncId} {fn : Func} {s : ChangeSpec} {conds : List PathCond} {apart fresh handsOn again : Bool} {X : World → Array Value → Prop}
 (hX : ∀ (w w' : World) (args : Array Value), w.heap = w'.heap → X w args → X w' args)
 (own : ownKnob C.prog.godebug = none) (started : os.Started) (noInit : C.prog.inits.idxOf? f = none) (hfn : C.prog.funcs[f]? = some fn)
 (witness : ∃ (w : World) (tape : Tape) (i : Input), w.os = os ∧ (w.forCall tape i).Shaped C.prog ∧ i.vars = [] ∧ Input.okWide C.prog (w.forCall tape i) .any w.heap.size f i ∧
  ((s.pre enc C.prog fn conds apart (w.forCall tape i).memory i.args ∧ X (w.forCall tape i).memory i.args) ∧ sizedMet enc C.prog fn (OpenSpec.ofChange s) apart (w.forCall tape i).memory i.args) ∧ a.holds C.prog (lone (Frame.enter C.prog f i.args .normal) [] (w.forCall tape i)))
 (contract : ∀ (W : World) (base : Nat) (args : Array Value) (ds gs : List (DataW H)) (before : List MemPlace),
  (∀ (j : Nat) t v, fn.params[j]? = some t → args[j]? = some v → Value.okWide C.prog W .any base t v) →
  DataW.Whole enc C.prog fn.params.toList s.vars apart W args.toList ds gs before →
  conds.all (PathCond.test C.prog ⟨fn.params.toList, ds, s.plain.varTypes C.prog, gs⟩) = true →
  (DataW.weightsEach C.prog (fn.params.toList ++ s.plain.varTypes C.prog) (ds ++ gs)).all (· ≤ reachBytes) = true → X W args → W.ShapedOpen C.prog →
  a.holds C.prog (lone (Frame.enter C.prog f args .normal) [] W) →
  Calls C.prog f args W fun e W' => ∃ v, e = .returned v ∧ s.post enc C.prog fn apart fresh handsOn again W args v W') :
 ReturnsInHanded a C os f .any (fun w args => (s.pre enc C.prog fn conds apart w args ∧ X w args) ∧ sizedMet enc C.prog fn (OpenSpec.ofChange s) apart w args) (s.post enc C.prog fn apart fresh handsOn again) := by
 refine returnsInHanded_of_calls own started noInit witness ?_;intro w tape i _ hsh _ hok hpre hholds;obtain ⟨_, _, _, fn', hfn', _, _, _, _, hval⟩ := hok;have e : fn' = fn := Option.some.inj (hfn'.symm.trans hfn);subst e;obtain ⟨⟨⟨ds, gs, before, hw, hc⟩, hx⟩, hz⟩ := hpre;have hw' := DataW.Whole.of_heap (w' := w.forCall tape i) (by rfl) hw;refine (contract (w.forCall tape i) w.heap.size i.args ds gs before hval hw' hc (hz.weights hw) (hX _ _ _ (by rfl) hx) hsh hholds).mono fun e W' ⟨v, he, hp⟩ => ?_;subst he;exact ChangeSpec.post_blind hp
theorem tabIs_of_reads {W : World} {name : String} {k : IntKind} {zs : List Int} {g : Nat} {t e : TypeId} {n : Nat}
 (hg : P.globalNamed name = some g) (hty : (P.globals[g]?).map (·.type) = some t) (ht : P.underlying t = some (.array n e)) (he : P.underlying e = some (.int k)) (hce : P.cellsOf e = 1) (hct : P.cellsOf t = n)
 (h : Lib.VarReads P W name (Lib.tabData k zs)) : Lib.TabIs P W name k zs := by
 obtain ⟨g', t', cs, fuel, p, hg', ht', hvar, hd⟩ := h;obtain rfl := Option.some.inj (hg.symm.trans hg');obtain rfl := Option.some.inj (hty.symm.trans ht');unfold Lib.TabIs;rw [hvar, ← Lib.cells_of_tab ht he hce hct hd]
theorem in_of_tabIs {W : World} {name : String} {k : IntKind} {zs : List Int} {g : Nat} (hT : Lib.TabIs P W name k zs) (hg : P.globalNamed name = some g) : ∃ el fr, W.heap[g]? = some (.cells ⟨zs.map fun z => Value.int k z⟩ el fr) := by
 unfold Lib.TabIs World.var? at hT;rw [hg] at hT;simp only [Option.bind_some] at hT;split at hT
 · rename_i cs el fr e;injection hT with hT
   exact ⟨el, fr, by rw [e, hT]⟩
 · cases hT
theorem max_in {W : World} (hs : W.ShapedOpen P) : ∃ (m : Int) (el : TypeId) (fr : Nat × Nat), W.heap[(0 : Nat)]? = some (.cells ⟨[.int .i64 m]⟩ el fr) := by
 have h0 : ((begin P (fun _ _ => 0) default).world.heap[(0 : Nat)]?).bind Obj.row? = some (#[.int .i64 0], 3) := by kernel_rfl
 obtain ⟨cs, hh, hsz, hr⟩ := hs.1 0 _ _ (of_decide_eq_true (by kernel_rfl)) h0;obtain ⟨m, hm⟩ := cell_of_shapedOpen_int (k := .i64) hs (of_decide_eq_true (by kernel_rfl)) h0 rfl (by kernel_rfl) (by kernel_rfl) Tryz.underlying3;refine ⟨m, 3, (0, 0), hh.trans ?_⟩;unfold World.cell? at hm;dsimp only at hm;rw [hh] at hm;have hm' : cs[0]? = some (.int .i64 m) := hm;have h1 : cs.size = 1 := hsz;congr 2
 apply Array.ext
 · exact h1
 · intro i i1 i2;obtain rfl : i = 0 := by omega
   rw [Array.getElem?_eq_getElem (by omega)] at hm';injection hm'
theorem tabs_in {W : World} (h1 : Lib.TabIs P W "internal/strconv.uint64pow10" .u64 Lib.pow10Tab) (hs : W.ShapedOpen P) : ∃ m, TabsIn W (tb m) := by
 obtain ⟨m, el, fr, e⟩ := max_in hs;refine ⟨m, fun p hp => ?_⟩;simp only [tb, List.mem_cons, List.not_mem_nil, or_false] at hp;rcases hp with rfl | rfl
 · exact ⟨el, fr, e⟩
 · exact in_of_tabIs (g := 1) h1 (by kernel_rfl)
theorem tb_all (m : Int) : tabsOK 8 (tb m) = true := by kernel_rfl
theorem tb_heap (m : Int) : TabsH (tb m) (heap0 (tb m)) := by
 intro p hp;simp only [tb, List.mem_cons, List.not_mem_nil, or_false] at hp
 have e0 : zT (heap0 (tb m)) 0 = mkC [.int .i64 m] 0 2 := by
  unfold tb heap0;rw [zK, if_pos rfl]; rfl
 have e1 : zT (heap0 (tb m)) 1 = mkC (Lib.pow10Tab.map fun z => Value.int .u64 z) 0 2 := by
  unfold tb heap0;rw [zK, if_neg (by decide)];unfold heap0;rw [zK, if_pos rfl]; rfl
 rcases hp with rfl | rfl
 · refine ⟨⟨0, ?_⟩, fun i => ?_⟩
   · dsimp only; rw [e0]; exact infoOf_mkC _ _ _
   · unfold xO; dsimp only; rw [e0]; exact uV _ _ _ _
 · refine ⟨⟨0, ?_⟩, fun i => ?_⟩
   · dsimp only; rw [e1]; exact infoOf_mkC _ _ _
   · unfold xO; dsimp only; rw [e1]; exact uV _ _ _ _
theorem row_es (u : TypeId) (h : P.typeName? 3 u = some "*errors.errorString") : u = 258 :=
 typeName_ptr_named (nm := "errors.errorString") (by rw [show "*" ++ "errors.errorString" = "*errors.errorString" by decide]; kernel_rfl) (by kernel_rfl) (by decide) u (by rw [show "*" ++ "errors.errorString" = "*errors.errorString" by decide]; exact h)
theorem err_in {W : World} {n : String} {text : List UInt8} {r : List (String × DataW Unit)} {g : Nat} (h : laidMet P ((n, .iface "*errors.errorString" (.ptr (.agg [.lit (.string text)]))) :: r) W)
 (hg : P.globalNamed n = some g) (ht : (P.globals[g]?).map (·.type) = some 99) :
 ∃ (t o b el : Nat) (f : Nat × Nat), W.heap[g]? = some (.cells ⟨[.iface t (.pointer (some ⟨b, o, none⟩))]⟩ el f) := by
 obtain ⟨a, s, hv, hc, _, _⟩ := laid_sentinel h hg ht Tryz.underlying99 row_es Tryz.underlying258 Tryz.underlying260 rfl rfl Tryz.underlying9 (by kernel_rfl) (by kernel_rfl);obtain ⟨b, o, sp⟩ := a
 have hsp : sp = none := by
  cases sp with
  | none => rfl
  | some x =>
   unfold World.cell? at hc;split at hc
   · rw [if_pos (by rfl)] at hc; cases hc
   · cases hc
 subst hsp;unfold World.var? at hv;rw [hg] at hv;simp only [Option.bind_some] at hv;split at hv
 · rename_i cs el fr e;injection hv with hv
   exact ⟨_, o, b, el, fr, by rw [e, hv]⟩
 · cases hv
theorem start {W : World} (h10 : Lib.VarReads P W "internal/strconv.uint64pow10" (Lib.tabData .u64 Lib.pow10Tab)) (hes : ∃ text r, laidMet P (("strconv.ErrSyntax", .iface "*errors.errorString" (.ptr (.agg [.lit (.string text)]))) :: r) W)
 (her : ∃ text r, laidMet P (("strconv.ErrRange", .iface "*errors.errorString" (.ptr (.agg [.lit (.string text)]))) :: r) W) (hs : W.ShapedOpen P) :
 ∃ (m : Int) (h : zG) (ρ : Inj), Env m h ∧ HeapR P 8 ρ W.heap.size W h (8 + 2) W := by
 obtain ⟨m, hm⟩ := tabs_in (tabIs_of_reads (g := 1) (t := 234) (e := 219) (n := 20) (by kernel_rfl) (by kernel_rfl) (by kernel_rfl) (by kernel_rfl) (by kernel_rfl) (by kernel_rfl) h10) hs;obtain ⟨_, _, h1⟩ := hes;obtain ⟨_, _, h2⟩ := her;obtain ⟨t1, o1, b1, el1, f1, e1⟩ := err_in (g := 2) h1 (by kernel_rfl) (by kernel_rfl);obtain ⟨t2, o2, b2, el2, f2, e2⟩ := err_in (g := 3) h2 (by kernel_rfl) (by kernel_rfl);obtain ⟨ρ, hρ⟩ := init_heapE (P := P) (tb_all m) hm (by decide) (by decide) e1 e2;refine ⟨m, _, ρ, ⟨tabsH_E (tb_heap m) fun p hp => ?_, errH_E1 (by decide), errH_E⟩, hρ⟩;simp only [tb, List.mem_cons, List.not_mem_nil, or_false] at hp;rcases hp with rfl | rfl
 · exact ⟨(by decide : (2 : Nat) ≠ 0), (by decide : (3 : Nat) ≠ 0)⟩
 · exact ⟨(by decide : (2 : Nat) ≠ 1), (by decide : (3 : Nat) ≠ 1)⟩
end Go.Proofs.YtapnnpoljobanaaGreatDoor
