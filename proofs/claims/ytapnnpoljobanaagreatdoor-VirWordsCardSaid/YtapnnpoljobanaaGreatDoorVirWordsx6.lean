/- What the law leans on: an executor of the model that is sound, deduction over it, and the walks through the code (part 6 of 6). Conditions: those that each theorem states. -/
import Derived.Test.YtapnnpoljobanaaGreatDoorVirWordsx5
import Derived.Lib.LaidTab
import Derived.ProofKit
import Derived.LaidMore
import Derived.OpenShut
import Derived.Stop.Joined
import Derived.Stop.LaidErr
import Derived.ChangeOld
import Derived.Lib.LaidU8
import Derived.Shelf.Vars
import Derived.HandedShaped
import Derived.Below

set_option linter.unusedVariables false
set_option linter.unusedSimpArgs false
namespace Go.Proofs.YtapnnpoljobanaaGreatDoor
open Go.Ex Go.Ex.Vir Go.RowKit
set_option maxRecDepth 100000
set_option maxHeartbeats 4000000
theorem itoa_zero : Lib.itoa 0 = [48] := by
 unfold Lib.itoa
 rw [if_neg (by decide), show (0 : Int).toNat = 0 from rfl, Lib.decDigits_one (by decide)]
 rfl
def exF : Fct := ⟨[102], [[103]], [0], [103], [[{ Ins.z with kind := 9 }]]⟩
def exT : Tx := [102, 117, 110, 99, 32, 102, 10, 114, 101, 103, 115, 32, 103, 10, 112, 97, 114, 97, 109, 115, 32, 48, 10, 114, 101, 115, 117, 108, 116, 32, 103, 10, 98, 108, 111, 99, 107, 10, 32, 32, 114, 101, 116, 32, 48, 10, 101, 110, 100, 10]
theorem exF_plain : qQ exF = true := by decide
theorem exF_text : vV (uR exF) = exT := by
 unfold uR pL sG exF
 simp [vV, uC, uY, rH, Ins.z, itoa_zero, Lib.join_cons, Lib.joinTail, exT]
theorem exF_print : pM exF = exT := by rw [qR exF_plain, exF_text]
theorem exF_ins : ∀ b ∈ exF.blocks, ∀ i ∈ b, Go64 i.n := by
 intro b hb i hi
 simp only [exF, List.mem_cons, List.not_mem_nil, or_false] at hb
 subst hb
 simp only [List.mem_cons, List.not_mem_nil, or_false] at hi
 subst hi
 exact ⟨by decide, by decide⟩
theorem exF_read : readS exT = (exF, 0, 0) ∧ RunOK (exT.length + 1) exT St.z OfOK := by
 have h := readS_print (Q := OfOK) (fun _ _ _ h => ofOK_of h) exF_plain exF_ins (by rw [exF_print]; decide)
 rw [exF_print] at h
 exact h
theorem insAll_of {i : Ins} (h : wI i = true) (hn : Go64 i.n) : InsAll i := by
 obtain ⟨_, _, ⟨sa, sb, st, sf⟩, hargs, hal, hk⟩ := plainI_of h
 have hd : Go64 i.d := by
  split at hk
  · simp only [Bool.and_eq_true] at hk; exact wK hk.2
  · split at hk
    · simp only [Bool.and_eq_true, Bool.or_eq_true, decide_eq_true_eq] at hk
      rcases hk.2 with e | e
      · rw [e]; exact ⟨by decide, by decide⟩
      · exact wK e
    · exact wK hk
 exact ⟨hd, wK sa, wK sb, hn, wK st, wK sf, fun x hx => wK (List.all_eq_true.1 hargs x hx), by omega⟩
theorem fctAll_of {f : Fct} (h : qQ f = true) (hn : ∀ b ∈ f.blocks, ∀ i ∈ b, Go64 i.n) : FctAll f := by
 obtain ⟨h1, h2, h3, h4, h5, h6, h7, h8⟩ := plainF_of h
 have hi : ∀ b ∈ f.blocks, ∀ i ∈ b, InsAll i := fun b hb i hi => insAll_of (List.all_eq_true.1 (h8 b hb).2 i hi) (hn b hb i hi)
 refine ⟨⟨by omega, by omega, by omega, fun b hb => ⟨by have := (h8 b hb).1; omega, fun i hib => ?_⟩⟩, hi, by omega, fun x hx => wK (List.all_eq_true.1 h6 x hx), by omega⟩
 have a := hi b hb i hib
 exact ⟨a.1, by have := a.2.2.2.2.2.2.2; omega⟩
theorem fun_one {n : Nat} {h : zD} {v : Value} {f : Fct} (a : FunAt n h v f) : ∃ l, v = .agg ⟨l⟩ ∧ l.length = 5 ∧ ∀ x ∈ l, x.oneCell' = true := by
 obtain ⟨vv, pv, bv, svs, rfl, r1, r2, r3, _⟩ := a
 refine ⟨_, rfl, rfl, fun x hx => ?_⟩
 simp only [List.mem_cons, List.not_mem_nil, or_false] at hx
 rcases hx with rfl | rfl | rfl | rfl | rfl
 · rfl
 · exact r1.1.one
 · exact r2.1.one
 · rfl
 · exact r3.1.one
theorem store_fun {n b : Nat} {h h0 : zD} {v : Value} {f : Fct} {K : KH} (a : FunAt n h v f) (c : ∃ z vs, Cel h0 b z vs ∧ vs.length = 5) (hb : b < n) (hK : ∀ h', (∀ x, x ≠ b → zU h' x = zU h0 x) → (∀ {h2 : zD} {n2 : Nat}, Ext h' n h2 n2 → zF P 43 h2 (ptr b 0) = some v) → K h' n undef = true) :
 zV P 43 (ptr b 0) v h0 n K = true := by
 obtain ⟨l, rfl, h5, hone⟩ := fun_one a
 obtain ⟨z, vs, c, hl⟩ := c
 refine xU c sh43 h5 hl hone fun h2 c2 k2 => hK h2 k2 fun x => ?_
 exact xJ (c2.touch (x.touch []) hb (by simp)) sh43 h5 (by decide)
theorem cmp_same {f : Int → Int → Bool} {ty : TypeId} {q : Bool} {a b : Tx} {K : Bool → Bool} (h : a = b) (hK : K true = true) : yB f P .eql ty q (str a) (str b) K = true := by
 rw [vB, h]
 simpa using hK
theorem shp : yG P 112 = .scal := by kernel_rfl
theorem alive_pure {m : Int} {h : zD} {n : Nat} (hE : Env m h) (hn : 8 ≤ n) : Pure P 8 16 [] h n (.bool true) := by
 refine Rets.pureE (yM zP mixed (hint := hint16) l16 fun u k hk => ?_) (.inl rfl)
 rw [F16_eq]
 unfold F16
 refine rE on23 (sR [103]) fun h1 r1 x1 => ?_
 refine rE on40 (v := I64 0) rfl fun h2 r2 x2 => ?_
 have z1 : xP P 50 [(0, .int .i64 9)] = some (.agg ⟨uM { Ins.z with kind := 9 } (.slice none 0 0)⟩) := by kernel_rfl
 simp only [↓z1, ↓zC]
 refine build_ins (i := { Ins.z with kind := 9 }) ro_nil fun h3 r3 x3 => ?_
 refine rE on41 (v := .slice (some ⟨n + 1 + 1, 0, none⟩) 1 1) rfl fun h4 r4 x4 => ?_
 have z2 : xP P 43 [(0, .string (ByteArray.mk #[102])), (1, .slice (some ⟨n, 0, none⟩) 1 1), (2, .slice (some ⟨n + 1, 0, none⟩) 1 1), (3, .string (ByteArray.mk #[103])), (4, .slice (some ⟨n + 1 + 1 + 1, 0, none⟩) 1 1)] =
  some (.agg ⟨[str [102], .slice (some ⟨n, 0, none⟩) 1 1, .slice (some ⟨n + 1, 0, none⟩) 1 1, str [103], .slice (some ⟨n + 1 + 1 + 1, 0, none⟩) 1 1]⟩) := by kernel_rfl
 simp only [↓z2, ↓zC]
 have x04 : Ext h n h4 (n + 1 + 1 + 1 + 1) := ((x1.trans x2).trans x3).trans x4
 have fa : FunAt (n + 1 + 1 + 1 + 1) h4 (.agg ⟨[str [102], .slice (some ⟨n, 0, none⟩) 1 1, .slice (some ⟨n + 1, 0, none⟩) 1 1, str [103], .slice (some ⟨n + 1 + 1 + 1, 0, none⟩) 1 1]⟩) exF := by
  refine ⟨_, _, _, [.slice (some ⟨n + 1 + 1, 0, none⟩) 1 1], rfl, r1.ext ((x2.trans x3).trans x4), r2.ext (x3.trans x4), r4, rfl, fun k l v h1 h2 => ?_⟩
  cases k with
  | zero =>
   simp only [exF, List.getElem?_cons_zero, Option.some.injEq] at h1 h2
   subst h1 h2
   exact r3.ext x4
  | succ k => simp [exF] at h1
 generalize (Value.agg ⟨[str [102], .slice (some ⟨n, 0, none⟩) 1 1, .slice (some ⟨n + 1, 0, none⟩) 1 1, str [103], .slice (some ⟨n + 1 + 1 + 1, 0, none⟩) 1 1]⟩) = fv at fa
 refine wS ze43 fun h5 c5 x5 => ?_
 refine store_fun (fa.ext x5) ⟨_, _, c5, rfl⟩ (by omega) fun h6 k6 ld6 => ?_
 have x6 : Ext h4 (n + 1 + 1 + 1 + 1) h6 (n + 1 + 1 + 1 + 1 + 1) := ⟨by omega, fun b hb => by rw [k6 b (by omega)]; exact x5.2 b hb⟩
 have x06 := x04.trans x6
 have hE6 : Env m h6 := hE.touch (x06.touch []) hn (by simp)
 obtain ⟨er, eo⟩ := exF_read
 refine uH (read_rets shp hE6 (by omega) exT (by decide) (fun _ => eo)) fun v h7 n7 ⟨x7, gv, e7, ga⟩ => ?_
 rw [er] at e7 ga
 subst e7
 dsimp only at ga
 obtain ⟨gl, rfl, -, -⟩ := fun_one ga
 have y0 : ∀ a b : Int, xD 0 (.tuple ⟨[.agg ⟨gl⟩, I64 a, I64 b]⟩) = some (.agg ⟨gl⟩) := fun _ _ => rfl
 have y1 : ∀ a b : Int, xD 1 (.tuple ⟨[.agg ⟨gl⟩, I64 a, I64 b]⟩) = some (I64 a) := fun _ _ => rfl
 have y2 : ∀ a b : Int, xD 2 (.tuple ⟨[.agg ⟨gl⟩, I64 a, I64 b]⟩) = some (I64 b) := fun _ _ => rfl
 simp only [↓y0, ↓y1, ↓y2, ↓zC, ↓zH]
 refine wS ze43 fun h8 c8 x8 => ?_
 refine store_fun (ga.ext x8) ⟨_, _, c8, rfl⟩ (by omega) fun h9 k9 ld9 => ?_
 have x9 : Ext h7 n7 h9 (n7 + 1) := ⟨by omega, fun b hb => by rw [k9 b (by omega)]; exact x8.2 b hb⟩
 have x69 := x7.trans x9
 have x49 := x6.trans x69
 have x09 := x04.trans x49
 have l1 := ld6 x69
 simp only [↓l1, ↓zC]
 have hall := fctAll_of exF_plain exF_ins
 refine wW (print_pure (hE.touch (x09.touch []) hn (by simp)) (by have := x09.1; omega) exF fv (fa.ext x49) hall (by rw [exF_text]; decide)) ?_
 rw [exF_print]
 have l2 := ld9 (Ext.refl h9 (n7 + 1))
 have ez : ∀ K, yB wJ P .eql 3 true (.int .i64 0) (.int .i64 0) K = K true := fun K => by rw [cmpI]; rfl
 refine cmp_same (a := exT) (b := exT) rfl ?_
 simp only [↓yZ]
 refine sP (num_pure 0 h9 (n7 + 1)) ?_
 simp only [↓yZ, ↓ez, ↓zM, ↓xA, ↓zJ, ↓l1, ↓l2, ↓zC]
 refine yN (sameFunc_true exF fv _ h9 (n7 + 1) (fa.ext x49) (ga.ext x9) hall.1) ?_
 try simp only [↓zM, ↓xA, ↓zJ]
 exact yF r16 (v := .bool true) rfl (hk _ _ _ ⟨rfl, x09⟩)
theorem cmp_lss (a b : Int) (q : Bool) (ty : TypeId) (K : Bool → Bool) : yB vD P .lss ty q (.int .i64 a) (.int .i64 b) K = K (decide (a < b)) := by rw [cmpI, yC]
theorem cmp_gtr (a b : Int) (q : Bool) (ty : TypeId) (K : Bool → Bool) : yB igtB P .gtr ty q (.int .i64 a) (.int .i64 b) K = K (decide (b < a)) := by rw [cmpI, igtB_ap]
theorem cmp_geq (a b : Int) (q : Bool) (ty : TypeId) (K : Bool → Bool) : yB igeB P .geq ty q (.int .i64 a) (.int .i64 b) K = K (decide (b ≤ a)) := by rw [cmpI, igeB_ap]
theorem one_fun {n : Nat} {h : zD} {i : Ins} (r3 : BlkRO [] n h (.slice (some ⟨n - 1, 0, none⟩) 1 1) [i]) {h4 : zD} (r4 : RO [] (n + 1) h4 (.slice (some ⟨n, 0, none⟩) 1 1) 51 1 1 [.slice (some ⟨n - 1, 0, none⟩) 1 1]) (x4 : Ext h n h4 (n + 1)) :
 FunAt (n + 1) h4 (.agg ⟨[str [102], .slice none 0 0, .slice none 0 0, str [103], .slice (some ⟨n, 0, none⟩) 1 1]⟩) (oneF [i]) := by
 refine ⟨_, _, _, [.slice (some ⟨n - 1, 0, none⟩) 1 1], rfl, ro_nil, ro_nil, r4, rfl, fun k l v h1 h2 => ?_⟩
 cases k with
 | zero =>
  simp only [oneF, List.getElem?_cons_zero, Option.some.injEq] at h1 h2
  subst h1 h2
  exact r3.ext x4
 | succ k => simp [oneF] at h1
theorem one_read {i : Ins} (h : wI i = true) (hn : Go64 i.n) : readS (vV (uR (oneF [i]))) = (oneF [i], 0, 0) ∧ RunOK ((vV (uR (oneF [i]))).length + 1) (vV (uR (oneF [i]))) St.z OfOK := by
 have hp := plainF_one h
 have hi : ∀ b ∈ (oneF [i]).blocks, ∀ j ∈ b, Go64 j.n := fun b hb j hj => by
  simp only [oneF, List.mem_cons, List.not_mem_nil, or_false] at hb
  subst hb
  simp only [List.mem_cons, List.not_mem_nil, or_false] at hj
  subst hj
  exact hn
 have hl := one_len h hn
 have h := readS_print (Q := OfOK) (fun _ _ _ h => ofOK_of h) hp hi (by rw [qR hp]; omega)
 rw [qR hp] at h
 exact h
theorem one_all {i : Ins} (h : wI i = true) (hn : Go64 i.n) : FctAll (oneF [i]) := fctAll_of (plainF_one h) fun b hb j hj => by
 simp only [oneF, List.mem_cons, List.not_mem_nil, or_false] at hb
 subst hb
 simp only [List.mem_cons, List.not_mem_nil, or_false] at hj
 subst hj
 exact hn
theorem digits_piece : ∀ k : Fin 10, ([48, 49, 50, 51, 52, 53, 54, 55, 56, 57].drop k.val).take 1 = [UInt8.ofNat (48 + k.val)] := by decide +kernel
theorem num10_pure : ∀ (u : Nat), u < 1000000 → ∀ (h : zD) (n : Nat), Pure P 8 27 [I64 (u : Nat)] h n (str (Lib.itoa (u : Nat))) := by
 intro u
 induction u using Nat.strongRecOn with
 | _ u ih =>
  intro hu h n
  refine yM zP mixed (hint := hint27) l27 fun v k hk => ?_
  rw [F27_eq]
  unfold F27
  have e1 : qBin P .rem 3 true (.int .i64 (u : Nat)) (.int .i64 10) = some (.int .i64 ((u % 10 : Nat) : Int)) := rfl
  have e2 : qBin P .quo 3 true (.int .i64 (u : Nat)) (.int .i64 10) = some (.int .i64 ((u / 10 : Nat) : Int)) := by
   show some (Value.int .i64 (vK .i64 (Int.tdiv (u : Nat) 10))) = _
   rw [uO, show Int.tdiv ((u : Nat) : Int) 10 = ((u / 10 : Nat) : Int) from rfl, IntWalk.i64_in _ (by omega)]
  have e3 : uW P h 9 (str [48, 49, 50, 51, 52, 53, 54, 55, 56, 57]) (some (.int .i64 ((u % 10 : Nat) : Int))) (some (.int .i64 (((u % 10 : Nat) : Int) + 1))) none = some (str (Lib.decDigits (u % 10))) := by
   have := slice_str (P := P) us9 (h := h) (l := [48, 49, 50, 51, 52, 53, 54, 55, 56, 57]) (k := .i64) (k' := .i64) (i := u % 10) (j := u % 10 + 1) (by simp; omega) (by omega)
   rw [show ((u % 10 + 1 : Nat) : Int) = ((u % 10 : Nat) : Int) + 1 by omega] at this
   rw [this, show u % 10 + 1 - u % 10 = 1 by omega, digits_piece ⟨u % 10, by omega⟩, Lib.decDigits_one (by omega)]
  simp only [↓zH, ↓e1, ↓zC]
  refine sF (by omega) ?_
  refine opt_of e3 ?_
  rw [itoa_nat] at hk
  by_cases g : 9 < u
  · have e4 : vD 9 (u : Nat) = true := by rw [yC]; exact decide_eq_true (by omega)
    have ld : (Lib.decDigits (u / 10)).length ≤ 20 := by rw [Lib.decDigits_length]; exact Lib.nDigits_le20 _ (by omega)
    have ld2 : (Lib.decDigits (u % 10)).length ≤ 20 := by rw [Lib.decDigits_length]; exact Lib.nDigits_le20 _ (by omega)
    simp only [↓e4, ↓yP, ↓uD, ↓e2, ↓zC, ↓zH]
    refine wW (ih (u / 10) (by omega) (by omega) h n) ?_
    rw [itoa_nat]
    refine yJ (by omega) ?_
    exact yF r27 (v := str _) rfl (hk _ _ _ ⟨by rw [decDigits_step (u := u) (by omega)], rfl, rfl⟩)
  · have e4 : vD 9 (u : Nat) = false := by rw [yC]; exact decide_eq_false (by omega)
    simp only [↓e4, ↓yP, ↓uL]
    exact yF r27 (v := str _) rfl (hk _ _ _ ⟨by rw [show u % 10 = u by omega], rfl, rfl⟩)
theorem build_insL {l : List Ins} {av : List Value} {parts : List (Nat × Value)} {h : zD} {n : Nat} {K : KH} (hp : yW P 51 l.length parts = some (vZ (uS l av) 0)) (ha : ArgsOK [] n h l av) (hl : l.length < 1000000)
 (hK : ∀ h', BlkRO [] (n + 1) h' (.slice (some ⟨n, 0, none⟩) l.length l.length) l → Ext h n h' (n + 1) → K h' (n + 1) (.slice (some ⟨n, 0, none⟩) l.length l.length) = true) : zN P 51 l.length parts h n K = true := by
 have hfl : ∀ (l : List Ins) (av : List Value), av.length = l.length → (uS l av).length = l.length * 9 := by
  intro l
  induction l with
  | nil => intro av h; cases av <;> simp [uS] at h ⊢
  | cons x r ih =>
   intro av h
   cases av with
   | nil => simp at h
   | cons y s =>
    have e : uS (x :: r) (y :: s) = uM x y ++ uS r s := by unfold uS; rw [List.zip_cons_cons, List.flatMap_cons]
    rw [e, List.length_append, ih s (by simpa using h), show (uM x y).length = 9 from rfl, List.length_cons]; omega
 refine pH (e := 50) (sz := 9) hp (hfl l av ha.1) (by unfold inf; omega) fun h' r hi x => hK h' ⟨av, ⟨ha.1, fun j i a h1 h2 => (ha.2 j i a h1 h2).ext x⟩, ro_built r hi⟩ x
theorem words_rets {m : Int} {h : zD} {n : Nat} (hE : Env m h) (hn : 8 ≤ n) (which d a b : Int) : Rets P 8 8 [I64 which, I64 d, I64 a, I64 b] h n fun v _ _ => v = .bool true := by
  refine yM zP mixed (hint := hint8) l8 fun u k hk => ?_
  rw [F8_eq]
  unfold F8
  simp only [↓zH]
  refine yN (alive_pure hE hn) ?_
  simp only [↓xR, ↓zC, ↓zJ, ↓Bool.not_true, ↓rI, ↓yZ, ↓cmp_lss, ↓zM, ↓xG]
  by_cases g0 : d < 0
  · simp only [↓decide_eq_true g0, ↓zJ, ↓qF, ↓xK, ↓zM, ↓xA, ↓uD]
    exact yF r8 rfl (hk _ _ _ rfl)
  simp only [↓decide_eq_false g0, ↓zJ, ↓rI, ↓yZ, ↓zM, ↓xG, ↓cmp_gtr, ↓cmp_lss, ↓uL]
  by_cases g1 : 99999 < d
  · simp only [↓decide_eq_true g1, ↓zJ, ↓qF, ↓xK, ↓zM, ↓xA, ↓uD]
    exact yF r8 rfl (hk _ _ _ rfl)
  simp only [↓decide_eq_false g1, ↓zJ, ↓rI, ↓yZ, ↓zM, ↓xG, ↓cmp_gtr, ↓cmp_lss, ↓uL]
  by_cases g2 : a < 0
  · simp only [↓decide_eq_true g2, ↓zJ, ↓qF, ↓xK, ↓zM, ↓xA, ↓uD]
    exact yF r8 rfl (hk _ _ _ rfl)
  simp only [↓decide_eq_false g2, ↓zJ, ↓rI, ↓yZ, ↓zM, ↓xG, ↓cmp_gtr, ↓cmp_lss, ↓uL]
  by_cases g3 : 99999 < a
  · simp only [↓decide_eq_true g3, ↓zJ, ↓qF, ↓xK, ↓zM, ↓xA, ↓uD]
    exact yF r8 rfl (hk _ _ _ rfl)
  simp only [↓decide_eq_false g3, ↓zJ, ↓rI, ↓yZ, ↓zM, ↓xG, ↓cmp_gtr, ↓cmp_lss, ↓uL]
  by_cases g4 : b < 0
  · simp only [↓decide_eq_true g4, ↓zJ, ↓qF, ↓xK, ↓zM, ↓xA, ↓uD]
    exact yF r8 rfl (hk _ _ _ rfl)
  simp only [↓decide_eq_false g4, ↓zJ, ↓rI, ↓yZ, ↓zM, ↓xG, ↓cmp_gtr, ↓cmp_lss, ↓uL]
  by_cases g5 : 99999 < b
  · simp only [↓decide_eq_true g5, ↓zJ, ↓qF, ↓xK, ↓zM, ↓xA, ↓uD]
    exact yF r8 rfl (hk _ _ _ rfl)
  simp only [↓decide_eq_false g5, ↓zJ, ↓rI, ↓yZ, ↓zM, ↓xG, ↓cmp_gtr, ↓cmp_lss, ↓uL]
  obtain ⟨d, rfl⟩ : ∃ x : Nat, d = (x : Int) := ⟨d.toNat, by omega⟩
  obtain ⟨a, rfl⟩ : ∃ x : Nat, a = (x : Int) := ⟨a.toNat, by omega⟩
  obtain ⟨b, rfl⟩ : ∃ x : Nat, b = (x : Int) := ⟨b.toNat, by omega⟩
  have sd : wU (d : Int) = true := decide_eq_true (by omega)
  have sa : wU (a : Int) = true := decide_eq_true (by omega)
  have sb : wU (b : Int) = true := decide_eq_true (by omega)
  refine wW (num10_pure d (by omega) h n) ?_
  refine wW (num10_pure a (by omega) h n) ?_
  refine wW (num10_pure b (by omega) h n) ?_
  have en : aUn .neg (.int .i64 (a : Int)) = some (.int .i64 (-(a : Int))) := by
    show some (Value.int .i64 (vK .i64 (isub 0 (a : Int)))) = _
    rw [uO, isub_eq, IntWalk.i64_in _ (by omega)]
    congr 2; omega
  have lN := uQ (wK sd)
  have lX := uQ (wK sa)
  have lY := uQ (wK sb)
  obtain ⟨D, hD⟩ : ∃ D : Int, D = (d : Int) := ⟨_, rfl⟩
  obtain ⟨A, hA⟩ : ∃ A : Int, A = (a : Int) := ⟨_, rfl⟩
  obtain ⟨B, hB⟩ : ∃ B : Int, B = (b : Int) := ⟨_, rfl⟩
  simp only [← hD, ← hA, ← hB] at *
  have z1 : xP P 50 [(0, .int .i64 1), (1, .int .i64 D), (4, .int .i64 (-A))] = some (.agg ⟨uM { Ins.z with kind := 1, d := D, n := -A } (.slice none 0 0)⟩) := by kernel_rfl
  have z2 : xP P 50 [(0, .int .i64 2), (1, .int .i64 D), (2, .int .i64 A)] = some (.agg ⟨uM { Ins.z with kind := 2, d := D, a := A } (.slice none 0 0)⟩) := by kernel_rfl
  have z3 : ∀ v : Nat, xP P 50 [(0, .int .i64 3), (1, .int .i64 D), (5, .string (ByteArray.mk #[115, 104, 108])), (6, .slice (some ⟨v, 0, none⟩) 2 2)] = some (.agg ⟨uM { Ins.z with kind := 3, d := D, name := tShl, args := [A, B] } (.slice (some ⟨v, 0, none⟩) 2 2)⟩) := fun v => by kernel_rfl
  have z4 : ∀ v : Nat, xP P 50 [(0, .int .i64 3), (1, .int .i64 D), (5, .string (ByteArray.mk #[110, 111, 116])), (6, .slice (some ⟨v, 0, none⟩) 1 1)] = some (.agg ⟨uM { Ins.z with kind := 3, d := D, name := tNot, args := [A] } (.slice (some ⟨v, 0, none⟩) 1 1)⟩) := fun v => by kernel_rfl
  have z5 : xP P 50 [(0, .int .i64 4), (1, .int .i64 D), (2, .int .i64 A)] = some (.agg ⟨uM { Ins.z with kind := 4, d := D, a := A } (.slice none 0 0)⟩) := by kernel_rfl
  have z6 : xP P 50 [(0, .int .i64 5), (2, .int .i64 A), (3, .int .i64 B)] = some (.agg ⟨uM { Ins.z with kind := 5, a := A, b := B } (.slice none 0 0)⟩) := by kernel_rfl
  have z7 : xP P 50 [(0, .int .i64 6), (1, .int .i64 (-1)), (5, .string (ByteArray.mk #[103, 111]))] = some (.agg ⟨uM { Ins.z with kind := 6, d := -1, name := tGo } (.slice none 0 0)⟩) := by kernel_rfl
  have z8 : ∀ v : Nat, xP P 50 [(0, .int .i64 6), (1, .int .i64 D), (5, .string (ByteArray.mk #[103, 111])), (6, .slice (some ⟨v, 0, none⟩) 3 3)] = some (.agg ⟨uM { Ins.z with kind := 6, d := D, name := tGo, args := [A, B, A] } (.slice (some ⟨v, 0, none⟩) 3 3)⟩) := fun v => by kernel_rfl
  have z9 : xP P 50 [(0, .int .i64 7), (2, .int .i64 D), (7, .int .i64 A), (8, .int .i64 B)] = some (.agg ⟨uM { Ins.z with kind := 7, a := D, t := A, f := B } (.slice none 0 0)⟩) := by kernel_rfl
  have z10 : xP P 50 [(0, .int .i64 8), (7, .int .i64 A)] = some (.agg ⟨uM { Ins.z with kind := 8, t := A } (.slice none 0 0)⟩) := by kernel_rfl
  have z11 : xP P 50 [(0, .int .i64 9), (2, .int .i64 A)] = some (.agg ⟨uM { Ins.z with kind := 9, a := A } (.slice none 0 0)⟩) := by kernel_rfl
  have y1 : yW P 40 2 [(0, .int .i64 A), (1, .int .i64 B)] = some (vZ ([A, B].map I64) 0) := rfl
  have y3 : yW P 40 3 [(0, .int .i64 A), (1, .int .i64 B), (2, .int .i64 A)] = some (vZ ([A, B, A].map I64) 0) := rfl
  simp only [↓en, ↓zC, ↓zH, ↓z1, ↓z2]
  refine pH (e := 3) (sz := 1) y1 rfl (by unfold inf; omega) fun h1 r1' i1 x1 => ?_
  have r1 := ro_built r1' i1
  simp only [↓z3, ↓zC]
  refine rE on40 (v := I64 A) rfl fun h2 r2 x2 => ?_
  simp only [↓z4, ↓z5, ↓z6, ↓z7, ↓zC]
  refine pH (e := 3) (sz := 1) y3 rfl (by unfold inf; omega) fun h3 r3' i3 x3 => ?_
  have r3 := ro_built r3' i3
  simp only [↓z8, ↓z9, ↓z10, ↓z11, ↓zC]
  have nl : Value.slice none 0 0 = Value.slice none 0 0 := rfl
  have hArgs : ArgsOK [] (n + 1 + 1 + 1) h3 (insL D A B) [.slice none 0 0, .slice none 0 0, .slice (some ⟨n, 0, none⟩) 2 2, .slice (some ⟨n + 1, 0, none⟩) 1 1, .slice none 0 0, .slice none 0 0, .slice none 0 0, .slice (some ⟨n + 1 + 1, 0, none⟩) 3 3, .slice none 0 0, .slice none 0 0, .slice none 0 0] := by
    refine ⟨rfl, fun j i s h1 h2 => ?_⟩
    have hk : j < 11 := by
      have := (List.getElem?_eq_some_iff.1 h1).1
      simpa [insL] using this
    rcases j with _ | _ | _ | _ | _ | _ | _ | _ | _ | _ | _ | j
    all_goals first
      | omega
      | (simp only [insL, List.getElem?_cons_zero, List.getElem?_cons_succ, Option.some.injEq] at h1 h2
         subst h1 h2
         first
          | exact ro_nil
          | exact r1.ext (x2.trans x3)
          | exact r2.ext x3
          | exact r3)
  refine build_insL (l := insL D A B) (by kernel_rfl) hArgs (by simp [insL]) fun h4 r4 x4 => ?_
  have x04 := ((x1.trans x2).trans x3).trans x4
  have z12 : ∀ l : Tx, l.length < 100 → ∀ K, (K (str (45 :: l)) = true → wD tH P .add 9 true (.string (ByteArray.mk #[45])) (str l) K = true) := fun l hl K hK => yJ (a := [45]) (b := l) (by simp; omega) hK
  refine z12 _ (by omega) _ ?_
  obtain ⟨M, hM⟩ : ∃ M : Tx, M = if A = 0 then [48] else 45 :: Lib.itoa A := ⟨_, rfl⟩
  have lM : M.length ≤ 22 := by
    rw [hM]
    split
    · decide
    · rw [List.length_cons]; omega
  have ib : wJ A 0 = decide (A = 0) := wX _ _
  simp only [↓ib, ↓yP]
  refine vF (fun t w => zA t 0 = I64 which ∧ zA t 10 = str (Lib.itoa D) ∧ zA t 11 = str (Lib.itoa A) ∧ zA t 12 = str (Lib.itoa B) ∧ zA t 13 = .slice (some ⟨n + 1 + 1 + 1, 0, none⟩) 11 11 ∧ zA t 14 = str M ∧ w = ⟨[], u, h4, n + 1 + 1 + 1 + 1⟩) (fun t w q => ?_) (fun hc kk hkk => ?_) (fun hc kk hkk => ?_)
  rotate_left
  · exact hkk _ _ ⟨rfl, rfl, rfl, rfl, rfl, by rw [hM, if_pos (of_decide_eq_true hc)]; rfl, rfl⟩
  · exact hkk _ _ ⟨rfl, rfl, rfl, rfl, rfl, by rw [hM, if_neg (of_decide_eq_false hc)]; rfl, rfl⟩
  · obtain ⟨p0, p10, p11, p12, p13, p14, rfl⟩ := q
    simp only [p0, p10, p11, p12, p13, p14, ↓zG, ↓zH]
    refine zW ?_
    have hwords := fun k i w => words_of (k := k) (i := i) (w := w) sd sa sb
    rw [← hM] at hwords
    generalize Lib.itoa D = N at *
    generalize Lib.itoa A = X at *
    generalize Lib.itoa B = Y at *
    refine yJ (a := N) (b := [32, 61, 32, 99, 111, 110, 115, 116, 32]) (by simp only [List.length_append, List.length_cons, List.length_nil]; omega) ?_
    refine yJ (a := N ++ [32, 61, 32, 99, 111, 110, 115, 116, 32]) (b := M) (by simp only [List.length_append, List.length_cons, List.length_nil]; omega) ?_
    refine yJ (a := N) (b := [32, 61, 32, 99, 111, 112, 121, 32]) (by simp only [List.length_append, List.length_cons, List.length_nil]; omega) ?_
    refine yJ (a := N ++ [32, 61, 32, 99, 111, 112, 121, 32]) (b := X) (by simp only [List.length_append, List.length_cons, List.length_nil]; omega) ?_
    refine yJ (a := N) (b := [32, 61, 32, 115, 104, 108, 32]) (by simp only [List.length_append, List.length_cons, List.length_nil]; omega) ?_
    refine yJ (a := N ++ [32, 61, 32, 115, 104, 108, 32]) (b := X) (by simp only [List.length_append, List.length_cons, List.length_nil]; omega) ?_
    refine yJ (a := N ++ [32, 61, 32, 115, 104, 108, 32] ++ X) (b := [32]) (by simp only [List.length_append, List.length_cons, List.length_nil]; omega) ?_
    refine yJ (a := N ++ [32, 61, 32, 115, 104, 108, 32] ++ X ++ [32]) (b := Y) (by simp only [List.length_append, List.length_cons, List.length_nil]; omega) ?_
    refine yJ (a := N) (b := [32, 61, 32, 110, 111, 116, 32]) (by simp only [List.length_append, List.length_cons, List.length_nil]; omega) ?_
    refine yJ (a := N ++ [32, 61, 32, 110, 111, 116, 32]) (b := X) (by simp only [List.length_append, List.length_cons, List.length_nil]; omega) ?_
    refine yJ (a := N) (b := [32, 61, 32, 108, 111, 97, 100, 32]) (by simp only [List.length_append, List.length_cons, List.length_nil]; omega) ?_
    refine yJ (a := N ++ [32, 61, 32, 108, 111, 97, 100, 32]) (b := X) (by simp only [List.length_append, List.length_cons, List.length_nil]; omega) ?_
    refine yJ (a := [115, 116, 111, 114, 101, 32]) (b := X) (by simp only [List.length_append, List.length_cons, List.length_nil]; omega) ?_
    refine yJ (a := [115, 116, 111, 114, 101, 32] ++ X) (b := [32]) (by simp only [List.length_append, List.length_cons, List.length_nil]; omega) ?_
    refine yJ (a := [115, 116, 111, 114, 101, 32] ++ X ++ [32]) (b := Y) (by simp only [List.length_append, List.length_cons, List.length_nil]; omega) ?_
    refine yJ (a := N) (b := [32, 61, 32, 99, 97, 108, 108, 32, 103, 111, 32]) (by simp only [List.length_append, List.length_cons, List.length_nil]; omega) ?_
    refine yJ (a := N ++ [32, 61, 32, 99, 97, 108, 108, 32, 103, 111, 32]) (b := X) (by simp only [List.length_append, List.length_cons, List.length_nil]; omega) ?_
    refine yJ (a := N ++ [32, 61, 32, 99, 97, 108, 108, 32, 103, 111, 32] ++ X) (b := [32]) (by simp only [List.length_append, List.length_cons, List.length_nil]; omega) ?_
    refine yJ (a := N ++ [32, 61, 32, 99, 97, 108, 108, 32, 103, 111, 32] ++ X ++ [32]) (b := Y) (by simp only [List.length_append, List.length_cons, List.length_nil]; omega) ?_
    refine yJ (a := N ++ [32, 61, 32, 99, 97, 108, 108, 32, 103, 111, 32] ++ X ++ [32] ++ Y) (b := [32]) (by simp only [List.length_append, List.length_cons, List.length_nil]; omega) ?_
    refine yJ (a := N ++ [32, 61, 32, 99, 97, 108, 108, 32, 103, 111, 32] ++ X ++ [32] ++ Y ++ [32]) (b := X) (by simp only [List.length_append, List.length_cons, List.length_nil]; omega) ?_
    refine yJ (a := [98, 114, 32]) (b := N) (by simp only [List.length_append, List.length_cons, List.length_nil]; omega) ?_
    refine yJ (a := [98, 114, 32] ++ N) (b := [32]) (by simp only [List.length_append, List.length_cons, List.length_nil]; omega) ?_
    refine yJ (a := [98, 114, 32] ++ N ++ [32]) (b := X) (by simp only [List.length_append, List.length_cons, List.length_nil]; omega) ?_
    refine yJ (a := [98, 114, 32] ++ N ++ [32] ++ X) (b := [32]) (by simp only [List.length_append, List.length_cons, List.length_nil]; omega) ?_
    refine yJ (a := [98, 114, 32] ++ N ++ [32] ++ X ++ [32]) (b := Y) (by simp only [List.length_append, List.length_cons, List.length_nil]; omega) ?_
    refine yJ (a := [106, 117, 109, 112, 32]) (b := X) (by simp only [List.length_append, List.length_cons, List.length_nil]; omega) ?_
    refine yJ (a := [114, 101, 116, 32]) (b := X) (by simp only [List.length_append, List.length_cons, List.length_nil]; omega) ?_
    have zw : yW P 23 11 [(0, str (N ++ [32, 61, 32, 99, 111, 110, 115, 116, 32] ++ M)), (1, str (N ++ [32, 61, 32, 99, 111, 112, 121, 32] ++ X)), (2, str (N ++ [32, 61, 32, 115, 104, 108, 32] ++ X ++ [32] ++ Y)), (3, str (N ++ [32, 61, 32, 110, 111, 116, 32] ++ X)),
        (4, str (N ++ [32, 61, 32, 108, 111, 97, 100, 32] ++ X)), (5, str ([115, 116, 111, 114, 101, 32] ++ X ++ [32] ++ Y)), (6, str [99, 97, 108, 108, 32, 103, 111]), (7, str (N ++ [32, 61, 32, 99, 97, 108, 108, 32, 103, 111, 32] ++ X ++ [32] ++ Y ++ [32] ++ X)),
        (8, str ([98, 114, 32] ++ N ++ [32] ++ X ++ [32] ++ Y)), (9, str ([106, 117, 109, 112, 32] ++ X)), (10, str ([114, 101, 116, 32] ++ X))] = some (vZ ((wordL N X Y M).map str) 0) := by kernel_rfl
    refine rB (e := 9) (sz := 1) zw rfl (by unfold inf; omega) fun h5 r5 x5 => ?_
    have r5 : Row (n + 1 + 1 + 1 + 1 + 1) h5 (.slice (some ⟨n + 1 + 1 + 1 + 1, 0, none⟩) 11 11) 9 1 (wordL N X Y M).length ((wordL N X Y M).map str) := r5
    have r4 := r4.ext x5
    have x05 := x04.trans x5
    obtain ⟨av, ⟨ha1, ha2⟩, hr⟩ := id r4
    have fl := xL (P := P) us51 hr.1 [] h5
    have fl : yL P .len [51] [.slice (some ⟨n + 1 + 1 + 1, 0, none⟩) 11 11] h5 = some (.int .i64 11) := fl
    have il : vD which 0 = decide (which < 0) := yC _ _
    simp only [↓il, ↓yP]
    by_cases w0 : which < 0
    · simp only [↓decide_eq_true w0, ↓qF, ↓xK, ↓zM, ↓xA, ↓zJ, ↓uD]
      exact yF r8 rfl (hk _ _ _ rfl)
    simp only [↓decide_eq_false w0, ↓rI, ↓yZ, ↓fl, ↓zC, ↓zH, ↓cmp_geq, ↓zM, ↓xG]
    by_cases w1 : 11 ≤ which
    · simp only [↓decide_eq_true w1, ↓zJ, ↓uD]
      exact yF r8 rfl (hk _ _ _ rfl)
    obtain ⟨j, rfl⟩ : ∃ x : Nat, which = (x : Int) := ⟨which.toNat, by omega⟩
    have hj : j < (insL D A B).length := by show j < 11; omega
    have hjw : j < (wordL N X Y M).length := by show j < 11; omega
    have hgt : (insL D A B)[j]? = some (insL D A B)[j] := List.getElem?_eq_getElem hj
    have hgw : (wordL N X Y M)[j]? = some (wordL N X Y M)[j] := List.getElem?_eq_getElem hjw
    have hga : av[j]? = some (av[j]'(by omega)) := List.getElem?_eq_getElem (by omega)
    obtain ⟨q, q1, q2⟩ := tE (P := P) (k := .i64) hr.1 ix51 (tl := 50) sh50 (by decide) hj
    rw [pP ha1 hgt hga] at q2
    have hra := (ha2 j _ _ hgt hga).1
    have hra' := ha2 j _ _ hgt hga
    obtain ⟨pp, pin, pw⟩ := hwords j _ _ hgt hgw
    have q1 : zT P 51 (.slice (some ⟨n + 1 + 1 + 1, 0, none⟩) 11 11) (.int .i64 (j : Int)) = some q := q1
    simp only [↓decide_eq_false w1, ↓zJ, ↓uL, ↓q1, ↓q2, ↓zC]
    generalize (insL D A B)[j] = i at hra hra' pp pin pw
    generalize av[j]'(by omega) = sv at hra hra'
    refine build_ins (i := i) hra' fun h6 r6 x6 => ?_
    refine rE on41 (v := .slice (some ⟨n + 1 + 1 + 1 + 1 + 1, 0, none⟩) 1 1) rfl fun h7 r7 x7 => ?_
    have z2' : xP P 43 [(0, .string (ByteArray.mk #[102])), (3, .string (ByteArray.mk #[103])), (4, .slice (some ⟨n + 1 + 1 + 1 + 1 + 1 + 1, 0, none⟩) 1 1)] =
        some (.agg ⟨[str [102], .slice none 0 0, .slice none 0 0, str [103], .slice (some ⟨n + 1 + 1 + 1 + 1 + 1 + 1, 0, none⟩) 1 1]⟩) := by kernel_rfl
    simp only [↓z2', ↓zC]
    have fa := one_fun (n := n + 1 + 1 + 1 + 1 + 1 + 1) r6 r7 x7
    have x57 := x6.trans x7
    generalize (Value.agg ⟨[str [102], .slice none 0 0, .slice none 0 0, str [103], .slice (some ⟨n + 1 + 1 + 1 + 1 + 1 + 1, 0, none⟩) 1 1]⟩) = fv at fa
    refine wS ze43 fun h8 c8 x8 => ?_
    refine store_fun (fa.ext x8) ⟨_, _, c8, rfl⟩ (by omega) fun h9 k9 ld9 => ?_
    have x79 : Ext h7 (n + 1 + 1 + 1 + 1 + 1 + 1 + 1) h9 (n + 1 + 1 + 1 + 1 + 1 + 1 + 1 + 1) := ⟨by omega, fun b hb => by rw [k9 b (by omega)]; exact x8.2 b hb⟩
    have x59 := x57.trans x79
    have x09 := x05.trans x59
    have hE9 : Env m h9 := hE.touch (x09.touch []) hn (by simp)
    obtain ⟨s1, t1, t2⟩ := xX (P := P) (k := .i64) (r5.ext x59) ix23 (tl := 9) sh9 (i := j) (x := str (wordL N X Y M)[j]) (by rw [List.getElem?_map, hgw]; rfl)
    have t1 : zT P 23 (.slice (some ⟨n + 1 + 1 + 1 + 1, 0, none⟩) 11 11) (.int .i64 (j : Int)) = some s1 := t1
    simp only [↓t1, ↓t2, ↓zC]
    have hl := one_len pp pin
    rw [text_one] at hl
    simp only [List.length_append] at hl
    rw [pw]
    refine yJ (a := hd1) (b := Lib.join (rH i) [32]) (by omega) ?_
    refine yJ (a := hd1 ++ Lib.join (rH i) [32]) (b := tl1) (by rw [List.length_append]; omega) ?_
    rw [List.append_assoc, ← text_one]
    have hl := one_len pp pin
    have hpF := plainF_one pp
    obtain ⟨er, eo⟩ := one_read pp pin
    refine uH (read_rets shp hE9 (by omega) _ (by omega) (fun _ => eo)) fun v h10 n10 ⟨x10, gv, e7, ga⟩ => ?_
    rw [er] at e7 ga
    subst e7
    dsimp only at ga
    obtain ⟨gl, rfl, -, -⟩ := fun_one ga
    have y0 : ∀ a b : Int, xD 0 (.tuple ⟨[.agg ⟨gl⟩, I64 a, I64 b]⟩) = some (.agg ⟨gl⟩) := fun _ _ => rfl
    have y1 : ∀ a b : Int, xD 1 (.tuple ⟨[.agg ⟨gl⟩, I64 a, I64 b]⟩) = some (I64 a) := fun _ _ => rfl
    have y2 : ∀ a b : Int, xD 2 (.tuple ⟨[.agg ⟨gl⟩, I64 a, I64 b]⟩) = some (I64 b) := fun _ _ => rfl
    simp only [↓y0, ↓y1, ↓y2, ↓zC, ↓zH]
    refine wS ze43 fun h11 c11 x11 => ?_
    refine store_fun (ga.ext x11) ⟨_, _, c11, rfl⟩ (by omega) fun h12 k12 ld12 => ?_
    have x12 : Ext h10 n10 h12 (n10 + 1) := ⟨by omega, fun b hb => by rw [k12 b (by omega)]; exact x11.2 b hb⟩
    have x912 := x10.trans x12
    have x712 := x79.trans x912
    have x012 := x09.trans x912
    have l1 := ld9 x912
    have l2 := ld12 (Ext.refl h12 (n10 + 1))
    simp only [↓l1, ↓zC]
    refine wW (print_pure (hE.touch (x012.touch []) hn (by simp)) (by have := x012.1; omega) (oneF [i]) fv (fa.ext x712) (one_all pp pin) (by omega)) ?_
    rw [qR hpF]
    refine cmp_same rfl ?_
    simp only [↓yZ]
    refine sP (num_pure 0 h12 (n10 + 1)) ?_
    have ez : ∀ K, yB wJ P .eql 3 true (.int .i64 0) (.int .i64 0) K = K true := fun K => by rw [cmpI]; rfl
    simp only [↓yZ, ↓ez, ↓zM, ↓xA, ↓zJ, ↓l1, ↓l2, ↓zC]
    refine yN (sameFunc_true (oneF [i]) fv _ h12 (n10 + 1) (fa.ext x712) (ga.ext x12) (one_all pp pin).1) ?_
    try simp only [↓zM, ↓xA, ↓zJ]
    exact yF r8 (v := .bool true) rfl (hk _ _ _ rfl)
open Go.Ex Go.ChangeShapes Go.WideShapes Go.ChangeAt Go.RowKit
set_option maxRecDepth 1000000
theorem own : ownKnob P.godebug = none := by kernel_rfl
theorem returns_and_shaped {H : Type} {enc : TypeId × Value → H} {a : Assume} {C : Checked} {os : Os} {f : FuncId} {fn : Func} {s : ChangeSpec} {conds : List PathCond} {apart fresh handsOn again : Bool} {X : World → Array Value → Prop}
 (hX : ∀ (w w' : World) (args : Array Value), w.heap = w'.heap → X w args → X w' args)
 (own : ownKnob C.prog.godebug = none) (started : os.Started) (noInit : C.prog.inits.idxOf? f = none) (hfn : C.prog.funcs[f]? = some fn)
 (witness : ∃ (w : World) (tape : Tape) (i : Input), w.os = os ∧ (w.forCall tape i).Shaped C.prog ∧ i.vars = [] ∧ Input.okWide C.prog (w.forCall tape i) .any w.heap.size f i ∧
  ((s.pre enc C.prog fn conds apart (w.forCall tape i).memory i.args ∧ X (w.forCall tape i).memory i.args) ∧ sizedMet enc C.prog fn (OpenSpec.ofChange s) apart (w.forCall tape i).memory i.args) ∧ a.holds C.prog (lone (Frame.enter C.prog f i.args .normal) [] (w.forCall tape i)))
 (contract : ∀ (W : World) (base : Nat) (args : Array Value) (ds gs : List (DataW H)) (before : List MemPlace),
  (∀ (j : Nat) t v, fn.params[j]? = some t → args[j]? = some v → Value.okWide C.prog W .any base t v) →
  DataW.Whole enc C.prog fn.params.toList s.vars apart W args.toList ds gs before →
  conds.all (PathCond.test C.prog ⟨fn.params.toList, ds, s.plain.varTypes C.prog, gs⟩) = true →
  (DataW.weightsEach C.prog (fn.params.toList ++ s.plain.varTypes C.prog) (ds ++ gs)).all (· ≤ reachBytes) = true → X W args → W.ShapedOpen C.prog →
  a.holds C.prog (lone (Frame.enter C.prog f args .normal) [] W) →
  Calls C.prog f args W fun e W' => ∃ v, e = .returned v ∧ s.post enc C.prog fn apart fresh handsOn again W args v W') :
 ReturnsInHanded a C os f .any (fun w args => (s.pre enc C.prog fn conds apart w args ∧ X w args) ∧ sizedMet enc C.prog fn (OpenSpec.ofChange s) apart w args) (s.post enc C.prog fn apart fresh handsOn again) := by
 refine returnsInHanded_of_calls own started noInit witness ?_
 intro w tape i _ hsh _ hok hpre hholds
 obtain ⟨_, _, _, fn', hfn', _, _, _, _, hval⟩ := hok
 have e : fn' = fn := Option.some.inj (hfn'.symm.trans hfn)
 subst e
 obtain ⟨⟨⟨ds, gs, before, hw, hc⟩, hx⟩, hz⟩ := hpre
 have hw' := DataW.Whole.of_heap (w' := w.forCall tape i) (by rfl) hw
 refine (contract (w.forCall tape i) w.heap.size i.args ds gs before hval hw' hc (hz.weights hw) (hX _ _ _ (by rfl) hx) hsh hholds).mono fun e W' ⟨v, he, hp⟩ => ?_
 subst he
 exact ChangeSpec.post_blind hp
theorem tabIs_of_reads {W : World} {name : String} {k : IntKind} {zs : List Int} {g : Nat} {t e : TypeId} {n : Nat}
 (hg : P.globalNamed name = some g) (hty : (P.globals[g]?).map (·.type) = some t) (ht : P.underlying t = some (.array n e)) (he : P.underlying e = some (.int k)) (hce : P.cellsOf e = 1) (hct : P.cellsOf t = n)
 (h : Lib.VarReads P W name (Lib.tabData k zs)) : Lib.TabIs P W name k zs := by
 obtain ⟨g', t', cs, fuel, p, hg', ht', hvar, hd⟩ := h
 obtain rfl := Option.some.inj (hg.symm.trans hg')
 obtain rfl := Option.some.inj (hty.symm.trans ht')
 unfold Lib.TabIs
 rw [hvar, ← Lib.cells_of_tab ht he hce hct hd]
theorem in_of_tabIs {W : World} {name : String} {k : IntKind} {zs : List Int} {g : Nat} (hT : Lib.TabIs P W name k zs) (hg : P.globalNamed name = some g) : ∃ el fr, W.heap[g]? = some (.cells ⟨zs.map fun z => Value.int k z⟩ el fr) := by
 unfold Lib.TabIs World.var? at hT
 rw [hg] at hT
 simp only [Option.bind_some] at hT
 split at hT
 · rename_i cs el fr e
   injection hT with hT
   exact ⟨el, fr, by rw [e, hT]⟩
 · cases hT
theorem max_in {W : World} (hs : W.ShapedOpen P) : ∃ (m : Int) (el : TypeId) (fr : Nat × Nat), W.heap[(0 : Nat)]? = some (.cells ⟨[.int .i64 m]⟩ el fr) := by
 have h0 : ((begin P (fun _ _ => 0) default).world.heap[(0 : Nat)]?).bind Obj.row? = some (#[.int .i64 0], 3) := by kernel_rfl
 obtain ⟨cs, hh, hsz, hr⟩ := hs.1 0 _ _ (of_decide_eq_true (by kernel_rfl)) h0
 obtain ⟨m, hm⟩ := cell_of_shapedOpen_int (k := .i64) hs (of_decide_eq_true (by kernel_rfl)) h0 rfl (by kernel_rfl) (by kernel_rfl) Tryz.underlying3
 refine ⟨m, 3, (0, 0), hh.trans ?_⟩
 unfold World.cell? at hm
 dsimp only at hm
 rw [hh] at hm
 have hm' : cs[0]? = some (.int .i64 m) := hm
 have h1 : cs.size = 1 := hsz
 congr 2
 apply Array.ext
 · exact h1
 · intro i i1 i2
   obtain rfl : i = 0 := by omega
   rw [Array.getElem?_eq_getElem (by omega)] at hm'
   injection hm'
theorem tabs_in {W : World} (h1 : Lib.TabIs P W "internal/strconv.uint64pow10" .u64 Lib.pow10Tab) (hs : W.ShapedOpen P) : ∃ m, TabsIn W (tb m) := by
 obtain ⟨m, el, fr, e⟩ := max_in hs
 refine ⟨m, fun p hp => ?_⟩
 simp only [tb, List.mem_cons, List.not_mem_nil, or_false] at hp
 rcases hp with rfl | rfl
 · exact ⟨el, fr, e⟩
 · exact in_of_tabIs (g := 1) h1 (by kernel_rfl)
theorem tb_all (m : Int) : tabsOK 8 (tb m) = true := by kernel_rfl
theorem tb_heap (m : Int) : TabsH (tb m) (heap0 (tb m)) := by
 intro p hp
 simp only [tb, List.mem_cons, List.not_mem_nil, or_false] at hp
 have e0 : zU (heap0 (tb m)) 0 = mkC [.int .i64 m] 0 2 := by
  unfold tb heap0
  rw [zK, if_pos rfl]; rfl
 have e1 : zU (heap0 (tb m)) 1 = mkC (Lib.pow10Tab.map fun z => Value.int .u64 z) 0 2 := by
  unfold tb heap0
  rw [zK, if_neg (by decide)]
  unfold heap0
  rw [zK, if_pos rfl]; rfl
 rcases hp with rfl | rfl
 · refine ⟨⟨0, ?_⟩, fun i => ?_⟩
   · dsimp only; rw [e0]; exact infoOf_mkC _ _ _
   · unfold xM; dsimp only; rw [e0]; exact uV _ _ _ _
 · refine ⟨⟨0, ?_⟩, fun i => ?_⟩
   · dsimp only; rw [e1]; exact infoOf_mkC _ _ _
   · unfold xM; dsimp only; rw [e1]; exact uV _ _ _ _
theorem row_es (u : TypeId) (h : P.typeName? 3 u = some "*errors.errorString") : u = 258 :=
 typeName_ptr_named (nm := "errors.errorString") (by rw [show "*" ++ "errors.errorString" = "*errors.errorString" by decide]; kernel_rfl) (by kernel_rfl) (by decide) u (by rw [show "*" ++ "errors.errorString" = "*errors.errorString" by decide]; exact h)
theorem err_in {W : World} {n : String} {text : List UInt8} {r : List (String × DataW Unit)} {g : Nat} (h : laidMet P ((n, .iface "*errors.errorString" (.ptr (.agg [.lit (.string text)]))) :: r) W)
 (hg : P.globalNamed n = some g) (ht : (P.globals[g]?).map (·.type) = some 99) :
 ∃ (t o b el : Nat) (f : Nat × Nat), W.heap[g]? = some (.cells ⟨[.iface t (.pointer (some ⟨b, o, none⟩))]⟩ el f) := by
 obtain ⟨a, s, hv, hc, _, _⟩ := laid_sentinel h hg ht Tryz.underlying99 row_es Tryz.underlying258 Tryz.underlying260 rfl rfl Tryz.underlying9 (by kernel_rfl) (by kernel_rfl)
 obtain ⟨b, o, sp⟩ := a
 have hsp : sp = none := by
  cases sp with
  | none => rfl
  | some x =>
   unfold World.cell? at hc
   split at hc
   · rw [if_pos (by rfl)] at hc; cases hc
   · cases hc
 subst hsp
 unfold World.var? at hv
 rw [hg] at hv
 simp only [Option.bind_some] at hv
 split at hv
 · rename_i cs el fr e
   injection hv with hv
   exact ⟨_, o, b, el, fr, by rw [e, hv]⟩
 · cases hv
theorem start {W : World} (h10 : Lib.VarReads P W "internal/strconv.uint64pow10" (Lib.tabData .u64 Lib.pow10Tab)) (hes : ∃ text r, laidMet P (("strconv.ErrSyntax", .iface "*errors.errorString" (.ptr (.agg [.lit (.string text)]))) :: r) W)
 (her : ∃ text r, laidMet P (("strconv.ErrRange", .iface "*errors.errorString" (.ptr (.agg [.lit (.string text)]))) :: r) W) (hs : W.ShapedOpen P) :
 ∃ (m : Int) (h : zD) (ρ : Inj), Env m h ∧ HeapR P 8 ρ W.heap.size W h (8 + 2) W := by
 obtain ⟨m, hm⟩ := tabs_in (tabIs_of_reads (g := 1) (t := 234) (e := 219) (n := 20) (by kernel_rfl) (by kernel_rfl) (by kernel_rfl) (by kernel_rfl) (by kernel_rfl) (by kernel_rfl) h10) hs
 obtain ⟨_, _, h1⟩ := hes
 obtain ⟨_, _, h2⟩ := her
 obtain ⟨t1, o1, b1, el1, f1, e1⟩ := err_in (g := 2) h1 (by kernel_rfl) (by kernel_rfl)
 obtain ⟨t2, o2, b2, el2, f2, e2⟩ := err_in (g := 3) h2 (by kernel_rfl) (by kernel_rfl)
 obtain ⟨ρ, hρ⟩ := init_heapE (P := P) (tb_all m) hm (by decide) (by decide) e1 e2
 refine ⟨m, _, ρ, ⟨tabsH_E (tb_heap m) fun p hp => ?_, errH_E1 (by decide), errH_E⟩, hρ⟩
 simp only [tb, List.mem_cons, List.not_mem_nil, or_false] at hp
 rcases hp with rfl | rfl
 · exact ⟨(by decide : (2 : Nat) ≠ 0), (by decide : (3 : Nat) ≠ 0)⟩
 · exact ⟨(by decide : (2 : Nat) ≠ 1), (by decide : (3 : Nat) ≠ 1)⟩
end Go.Proofs.YtapnnpoljobanaaGreatDoor
