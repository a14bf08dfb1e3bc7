/- What the law leans on: an executor of the model that is sound, deduction over it, and the walks through the code (part 3 of 6). Conditions: those that each theorem states. -/
import Derived.Test.YtapnnpoljobanaaGreatDoorVirWordsx2
import Derived.Calls
import Derived.Lib.IndexMore
import Derived.Lib.Split
import Derived.Lib.CountLaws
import Derived.Shelf.Strings.Builder1
import Derived.Lib.AtoiAll
import Derived.Lib.AppendIntMem
import Derived.Lib.ItoaLen
import Derived.Lib.Join
import Derived.Shelf.Strings.Builder2
import Derived.Shelf.Strings.OnBuilder
import Derived.Shelf.Small.Wraps
import Derived.Shelf.Utf8.RuneCount
import Derived.Shelf.Strconv.Atoi
import Derived.Shelf.Strconv.Itoa0
import Derived.Shelf.Strconv.Itoa1
import Derived.Shelf.LaysM
import Derived.Shelf.Strconv.Itoa2
import Derived.Shelf.Strconv.Itoa3
import Derived.Shelf.Strconv.AtoiErrFast
import Derived.Shelf.Strconv.ParseIntEmpty
import Derived.Shelf.Strconv.AtoiFail
import Derived.Shelf.Strconv.Clone
import Derived.Shelf.Strconv.SyntaxError
import Derived.Shelf.LaysC
import Derived.Shelf.Strconv.ToError
import Derived.Shelf.Strconv.AtoiErr
import Derived.Shelf.Strconv.ErrVar
import Derived.Shelf.Strconv.Lower
import Derived.Shelf.Strconv.ParseUint10
import Derived.Shelf.Strconv.ParseUint10Empty
import Derived.Shelf.Strconv.ParseUint10Any
import Derived.Shelf.Strconv.ParseInt10
import Derived.Shelf.Strconv.AtoiLong
import Derived.Shelf.Strconv.AtoiInnerAll
import Derived.Shelf.Strconv.RangeError
import Derived.Shelf.Strconv.ToErrorRange
import Derived.Shelf.Strconv.AtoiAll
import Derived.Shelf.Strings.Search1
import Derived.Shelf.Strings.Search2
import Derived.Shelf.Strings.Search3
import Derived.Shelf.Strings.Cut
import Derived.Shelf.Strings.Count
import Derived.Shelf.Strings.Shaped
import Derived.Shelf.Strings.Prefix
import Derived.Shelf.Strings.Split
import Derived.Shelf.Strings.SplitShaped
import Derived.Shelf.Unicode.Decode
import Derived.Shelf.Strings.RuneCount
import Derived.Shelf.Strings.Explode
import Derived.Shelf.Bits.Mul64
import Derived.Shelf.Unicode.DecodeSlow
import Derived.Shelf.Unicode.DecodeAny
import Derived.Test.YtapnnpoljobanaaGreatDoorProg
import Derived.Test.YtapnnpoljobanaaGreatDoorRows
import Derived.KernelRfl
import Derived.Lib.AtoiErrMem
import Derived.WalkSmall

namespace Go.Ex
section
variable {P : Program} {ng : Nat}
noncomputable def isSo (p : Prop) : Bool := @decide p (Classical.propDecidable p)
theorem isSo_iff {p : Prop} : isSo p = true ↔ p := @decide_eq_true_iff p (Classical.propDecidable p)
theorem args0_eq {t : Fr} {i : Nat} {l : List Value} {k : Fr → Bool} : args0 t i l k = k (Tr.ofListFrom undef t i l) := by
 induction l generalizing t i with
 | nil => rfl
 | cons v r ih =>
  show (zO v fun v => fsetK t i v fun t => args0 t (Nat.succ i) r k) = _
  rw [wV]
  unfold fsetK
  rw [Tr.setK_eq, ih]
  rfl
noncomputable def loS (P : Program) (ng : Nat) : Lo where
 code c cx t w k := isSo (∃ x t' w', k x t' w' = true ∧ CodeTo P ng c cx t w x t' w')
 call f args df u h n k := isSo (∃ o u' h' n', k o u' h' n' = true ∧ CallTo P ng f args df u h n o u' h' n')
 round l args h n k := isSo (∃ o h' n', k o h' n' = true ∧ RoundTo P ng l args h n o h' n')
 leave fn mode t w k := isSo (∃ o u' h' n', k o u' h' n' = true ∧ LeaveTo P ng fn mode t w o u' h' n')
theorem loS_code {c : Code} {cx : Cx} {t : Fr} {w : W} {k : KX} : (loS P ng).code c cx t w k = true ↔ ∃ x t' w', k x t' w' = true ∧ CodeTo P ng c cx t w x t' w' := by
 unfold loS; exact isSo_iff
theorem loS_call {f : FuncId} {args : List Value} {df : Bool} {u : Option zL} {h : zD} {n : Nat} {k : KO} : (loS P ng).call f args df u h n k = true ↔ ∃ o u' h' n', k o u' h' n' = true ∧ CallTo P ng f args df u h n o u' h' n' := by
 unfold loS; exact isSo_iff
theorem loS_round {l : Nat} {args : List Value} {h : zD} {n : Nat} {k : Out → zD → Nat → Bool} : (loS P ng).round l args h n k = true ↔ ∃ o h' n', k o h' n' = true ∧ RoundTo P ng l args h n o h' n' := by
 unfold loS; exact isSo_iff
theorem loS_leave {fn : Func} {mode : Option zL} {t : Fr} {w : W} {k : KO} : (loS P ng).leave fn mode t w k = true ↔ ∃ o u' h' n', k o u' h' n' = true ∧ LeaveTo P ng fn mode t w o u' h' n' := by
 unfold loS; exact isSo_iff
theorem qD : Sound P ng (loS P ng) where
 code _ _ _ _ _ h := loS_code.1 h
 call _ _ _ _ _ _ _ h := loS_call.1 h
 round _ _ _ _ _ h := loS_round.1 h
 leave _ _ _ _ _ h := loS_leave.1 h
noncomputable def lpS (P : Program) (ng : Nat) : LP := fun i cx t w k => isSo (∃ x t' w', k x t' w' = true ∧ CodeTo P ng (yD P cx.fn i) cx t w x t' w')
theorem lpS_iff {i : Nat} {cx : Cx} {t : Fr} {w : W} {k : KX} : lpS P ng i cx t w k = true ↔ ∃ x t' w', k x t' w' = true ∧ CodeTo P ng (yD P cx.fn i) cx t w x t' w' := by
 unfold lpS; exact isSo_iff
theorem lpOK_lpS : LpOK P ng (lpS P ng) := fun _ _ _ _ _ h => lpS_iff.1 h
theorem argsGo_true {N : Nat} : ∀ {args : List Value} {l : List Ty} {i : Nat} {t : Fr} {K : Fr → Bool} , argsGo l args i t K = true → ∃ t', SameF N (Tr.ofListFrom undef t i args) t' ∧ K t' = true := by
 intro args
 induction args with
 | nil => intro l i t K h; exact ⟨t, SameF.refl _ _, h⟩
 | cons v r ih =>
  intro l i t K h
  cases l with
  | nil =>
   have h' : (fsetK t i v fun t => argsGo [] r (Nat.succ i) t K) = true := h
   exact ih (pD h')
  | cons T l =>
   have h' : (rtS T v fun v => fsetK t i v fun t => argsGo l r (Nat.succ i) t K) = true := h
   have := uP h'
   exact ih (pD this)
theorem yCall_ok {lo : Lo} {lp : LP} (hP : xF ng P = true) (hmix : P.follows .mixedOrders = true) (hS : Sound P ng lo) (hL : LpOK P ng lp) (hint : tJ)
 {f : FuncId} (hlo : ∀ fb, sX P f = some fb → Loops P f fb.2) {args : List Value} {df : Bool} {u : Option zL} {h : zD} {n : Nat} {k : KO} (hx : wQ P hint lo lp f args df u h n k = true) :
 ∃ o u' h' n', k o u' h' n' = true ∧ CallTo P ng f args df u h n o u' h' n' := by
 refine xcall_ok hP qD ?_
 unfold wQ at hx
 unfold xcall
 cases hb : sX P f with
 | none => rw [hb] at hx; cases hx
 | some p =>
  obtain ⟨fn, body⟩ := p
  rw [hb] at hx
  have hx1 : (Bool.rec false (argsGo (hint 4 f 0) args 0 (full (ntmX P f) (fun _ => undef) (ntmX P f)) fun t =>
   yCode P hint lo lp body ⟨f, none, df⟩ t ⟨[], u, h, n⟩ (fun t w => zE P lo f k .ret t w) (zE P lo f k)) (Nat.ble args.length (ntmX P f)) : Bool) = true := hx
  have hn : ntmX P f = fn.ntmps := by
   rw [ntmX_all P f ⟨fn, (bodyOf_some hb).1⟩, ntm_eq (bodyOf_some hb).1]
  rw [hn] at hx1
  have hlen : Nat.ble args.length fn.ntmps = true := by
   cases e : Nat.ble args.length fn.ntmps with
   | true => rfl
   | false => rw [e] at hx1; cases hx1
  rw [hlen] at hx1
  show (Bool.rec false (args0 fr0 0 args fun t =>
   (loS P ng).code body ⟨f, none, df⟩ t ⟨[], u, h, n⟩ fun x t w => AX.rec ((loS P ng).leave fn none t w k) (fun _ => false) (fun _ => false) ((loS P ng).leave fn none t w k) (fun c => (loS P ng).leave fn (some c) t w k) x) (Nat.ble args.length fn.ntmps) : Bool) = true
  rw [hlen]
  show (args0 fr0 0 args fun t =>
   (loS P ng).code body ⟨f, none, df⟩ t ⟨[], u, h, n⟩ fun x t w => AX.rec ((loS P ng).leave fn none t w k) (fun _ => false) (fun _ => false) ((loS P ng).leave fn none t w k) (fun c => (loS P ng).leave fn (some c) t w k) x) = true
  obtain ⟨t0, s1, hx2⟩ := argsGo_true (N := ntmX P f) hx1
  obtain ⟨x, t', w', hk, hc⟩ := yCode_ok hP hmix hS hL hint body _ _ _ _ _ (hlo _ hb) hx2
  have hfr : SameF (ntmX P f) (Tr.ofListFrom undef fr0 0 args) t0 := by
   refine SameF.trans ?_ s1
   intro i hi
   unfold zA
   rw [Tr.get_ofListFrom, Tr.get_ofListFrom]
   have h1 := full_get fn.ntmps (fun _ => undef) fn.ntmps i (Nat.le_refl _)
   have h2 : zA fr0 i = undef := Tr.get_leaf _ _
   unfold zA at h1 h2
   rw [h1, h2]
   simp
  have hc2 := rV (cx := ⟨f, none, df⟩) hfr hc
  rw [args0_eq]
  have lift : ∀ mode, tB P lo fn mode t' w' k = true → (loS P ng).leave fn mode t' w' k = true := fun mode h => loS_leave.2 (xleave_ok hP hS h)
  have hk' : zE P lo f k x t' w' = true := by cases x <;> exact hk
  unfold zE at hk'
  rw [hb] at hk'
  refine loS_code.2 ⟨x, t', w', ?_, hc2⟩
  cases x with
  | normal => exact lift _ hk'
  | exit i => cases hk'
  | goto i => cases hk'
  | ret => exact lift _ hk'
  | panic c => exact lift _ hk'
end
noncomputable def sel (b : Bool) (x y : Value) : Value := Bool.rec y x b
noncomputable def letV (v : Value) (K : Value → Bool) : Bool := K v
noncomputable def ineB (a b : Int) : Bool := Bool.rec true false (wJ a b)
noncomputable def igtB (a b : Int) : Bool := vD b a
noncomputable def igeB (a b : Int) : Bool := rM b a
noncomputable def yX (lo : Lo) (g : FuncId) (args : List Value) (h : zD) (n : Nat) (Kp : KC) (K : Value → zD → Nat → Bool) : Bool :=
 lo.call g args false none h n fun o _ h n => Out.rec (fun v => K v h n) (fun c => Kp c h n) o
noncomputable def qN (lo : Lo) (kd : IntKind) (g : FuncId) (args : List Value) (h : zD) (n : Nat) (Kp : KC) (K : Int → zD → Nat → Bool) : Bool :=
 lo.call g args false none h n fun o _ h n => Out.rec (fun v => rtI kd v fun a => K a h n) (fun c => Kp c h n) o
noncomputable def sJ (lo : Lo) (g : FuncId) (args : List Value) (h : zD) (n : Nat) (Kp : KC) (K : Bool → zD → Nat → Bool) : Bool :=
 lo.call g args false none h n fun o _ h n => Out.rec (fun v => rtB v fun a => K a h n) (fun c => Kp c h n) o
noncomputable def wZ (lo : Lo) (f : Value) (args : List Value) (h : zD) (n : Nat) (Kp : KC) (K : Value → zD → Nat → Bool) : Bool :=
 rZ lo f args h n (fun v h n => K v h n) (fun c h n => Kp c h n)
noncomputable def invokeI (lo : Lo) (kd : IntKind) (f : Value) (args : List Value) (h : zD) (n : Nat) (Kp : KC) (K : Int → zD → Nat → Bool) : Bool :=
 rZ lo f args h n (fun v h n => rtI kd v fun a => K a h n) (fun c h n => Kp c h n)
noncomputable def invokeB (lo : Lo) (f : Value) (args : List Value) (h : zD) (n : Nat) (Kp : KC) (K : Bool → zD → Nat → Bool) : Bool :=
 rZ lo f args h n (fun v h n => rtB v fun a => K a h n) (fun c h n => Kp c h n)
noncomputable def rfs (c : Code) : List (Array Tmp × Code × Code) :=
 Code.rec (motive := fun _ => List (Array Tmp × Code × Code)) [] (fun _ _ _ => []) (fun _ _ a b => a ++ b) (fun _ _ _ a b => a ++ b) (fun _ _ a => a) (fun _ a => a)
  (fun _ ps x y a b => (ps, x, y) :: (a ++ b)) (fun _ => []) (fun _ a => a) (fun _ => []) (fun _ => []) [] (fun _ => []) c
noncomputable def rfOf (P : Program) (f : FuncId) (i : Nat) : Array Tmp × Code × Code :=
 Option.rec (#[], .skip, .skip) (fun fb => List.rec (#[], .skip, .skip) (fun p _ ih => Bool.rec ih p (Nat.beq (qT p.2.2) i)) (rfs fb.2)) (sX P f)
noncomputable def rfP (P : Program) (f : FuncId) (i : Nat) : Array Tmp := (rfOf P f i).1
noncomputable def rfA (P : Program) (f : FuncId) (i : Nat) : Code := (rfOf P f i).2.1
noncomputable def rfB (P : Program) (f : FuncId) (i : Nat) : Code := (rfOf P f i).2.2
noncomputable def unL (c : Code) : Code := Code.rec (motive := fun _ => Code) .skip (fun _ _ _ => .skip) (fun _ _ _ _ => .skip) (fun _ _ _ _ _ => .skip) (fun _ _ _ => .skip) (fun b _ => b)
 (fun _ _ _ _ _ _ => .skip) (fun _ => .skip) (fun _ _ => .skip) (fun _ => .skip) (fun _ => .skip) .skip (fun _ => .skip) c
noncomputable def notIn (i : Nat) (l : List Code) : Bool := List.rec true (fun c _ ih => Bool.rec ih false (Nat.beq (qT c) i)) l
noncomputable def freshB (l : List Code) : Bool := List.rec true (fun c r ih => Bool.rec false ih (notIn (qT c) r)) l
theorem findC_of {l : List Code} (h : freshB l = true) : ∀ c ∈ l, findC (qT c) l = c := by
 induction l with
 | nil => intro c hc; simp at hc
 | cons x r ih =>
  intro c hc
  have h' : (Bool.rec false (freshB r) (notIn (qT x) r) : Bool) = true := h
  cases hn : notIn (qT x) r with
  | false => rw [hn] at h'; cases h'
  | true =>
   rw [hn] at h'
   show (Bool.rec (findC (qT c) r) x (Nat.beq (qT x) (qT c)) : Code) = c
   rcases List.mem_cons.1 hc with rfl | hc
   · rw [Nat.beq_refl]
   · have hne : Nat.beq (qT x) (qT c) = false := by
      have : ∀ r : List Code, c ∈ r → notIn (qT x) r = true → Nat.beq (qT x) (qT c) = false := by
       intro r
       induction r with
       | nil => intro hc; simp at hc
       | cons y r ih2 =>
        intro hc hn
        have hn' : (Bool.rec (notIn (qT x) r) false (Nat.beq (qT y) (qT x)) : Bool) = true := hn
        cases hb : Nat.beq (qT y) (qT x) with
        | true => rw [hb] at hn'; cases hn'
        | false =>
         rw [hb] at hn'
         rcases List.mem_cons.1 hc with rfl | hc
         · cases h9 : Nat.beq (qT x) (qT c) with
           | false => rfl
           | true => rw [zX h9, Nat.beq_refl] at hb; cases hb
         · exact ih2 hc hn'
      exact this r hc hn
     rw [hne]
     exact ih h' c hc
theorem loopsOf_sub {c b : Code} (hm : Code.loop b ∈ wY c) : ∀ l ∈ wY b, l ∈ wY c := by
 induction c with
 | skip => simp [wY] at hm
 | region id ops draw => simp [wY] at hm
 | seq x y ihx ihy =>
  have e : wY (.seq x y) = wY x ++ wY y := rfl
  rw [e] at hm ⊢
  intro l hl
  rcases List.mem_append.1 hm with h | h
  · exact List.mem_append.2 (.inl (ihx h l hl))
  · exact List.mem_append.2 (.inr (ihy h l hl))
 | cond z x y ihx ihy =>
  have e : wY (.cond z x y) = wY x ++ wY y := rfl
  rw [e] at hm ⊢
  intro l hl
  rcases List.mem_append.1 hm with h | h
  · exact List.mem_append.2 (.inl (ihx h l hl))
  · exact List.mem_append.2 (.inr (ihy h l hl))
 | block id x ih => exact ih hm
 | loop x ih =>
  have e : wY (.loop x) = .loop x :: wY x := rfl
  rw [e] at hm ⊢
  intro l hl
  rcases List.mem_cons.1 hm with h | h
  · injection h with h; subst h; exact List.mem_cons_of_mem _ hl
  · exact List.mem_cons_of_mem _ (ih h l hl)
 | rangeFunc f ps x y ihx ihy =>
  have e : wY (.rangeFunc f ps x y) = wY x ++ wY y := rfl
  rw [e] at hm ⊢
  intro l hl
  rcases List.mem_append.1 hm with h | h
  · exact List.mem_append.2 (.inl (ihx h l hl))
  · exact List.mem_append.2 (.inr (ihy h l hl))
 | exit id => simp [wY] at hm
 | scope x ih => exact ih hm
 | label l => simp [wY] at hm
 | goto l => simp [wY] at hm
 | ret => simp [wY] at hm
 | refuse w => simp [wY] at hm
noncomputable def xB (P : Program) (f : FuncId) : Bool := Option.rec true (fun fb => freshB (wY fb.2)) (sX P f)
theorem loops_of {P : Program} {f : FuncId} (h : xB P f = true) : ∀ fb, sX P f = some fb → Loops P f fb.2 := by
 intro fb hb l hl
 unfold xB at h
 rw [hb] at h
 unfold yD
 rw [hb]
 exact findC_of h l hl
abbrev CF := Lo → LP → List Value → Bool → Option zL → zD → Nat → KO → Bool
abbrev BF := Lo → LP → Option Nat → Bool → Fr → W → KX → Bool
structure EntF (P : Program) (ng : Nat) where
 f : FuncId
 F : CF
 ok : ∀ lo lp, Sound P ng lo → LpOK P ng lp → ∀ args df u h n k, F lo lp args df u h n k = true → ∃ o u' h' n', k o u' h' n' = true ∧ CallTo P ng f args df u h n o u' h' n'
structure EntL (P : Program) (ng : Nat) where
 f : FuncId
 i : Nat
 B : BF
 ok : ∀ lo lp, Sound P ng lo → LpOK P ng lp → ∀ rd df t w k, B lo lp rd df t w k = true → ∃ x t' w', k x t' w' = true ∧ CodeTo P ng (yD P f i) ⟨f, rd, df⟩ t w x t' w'
section
variable {P : Program} {ng : Nat}
structure Two where
 lo : Lo
 lp : LP
end
section
variable {P : Program} {ng : Nat}
theorem RV.back {ρ ρ' : Inj} (ha : ∀ b B, ρ b = some B → ρ' b = ρ b) {v x : Value} (r : RV ρ v x) : ∀ {v'}, RV ρ' v v' → RV ρ v v' := by
 induction r with
 | bool b => intro v' h; cases h; exact .bool b
 | int k n => intro v' h; cases h; exact .int k n
 | float k n => intro v' h; cases h; exact .float k n
 | complex k n m => intro v' h; cases h; exact .complex k n m
 | string s => intro v' h; cases h; exact .string s
 | nilPtr => intro v' h; cases h; exact .nilPtr
 | ptr e => intro v' h; cases h with
  | ptr e' => rw [ha _ _ e] at e'; exact .ptr e'
 | nilSlice l c e => intro v' h; cases h with
  | nilSlice _ _ e' => exact .nilSlice l c e'
 | slice e hc hl ho => intro v' h; cases h with
  | slice e' hc' hl' ho' => rw [ha _ _ e] at e'; exact .slice e' hc' hl' ho'
  | opened e' hl' ho' => exact absurd rfl hc
 | opened e hl ho => intro v' h; cases h with
  | slice e' hc' hl' ho' => exact absurd rfl hc'
  | opened e' hl' ho' => rw [ha _ _ e] at e'; exact .opened e' hl' ho'
 | nilMap => intro v' h; cases h; exact .nilMap
 | map e => intro v' h; cases h with
  | map e' => rw [ha _ _ e] at e'; exact .map e'
 | func hy hf hc f1 c1 f2 c2 => intro v' h; cases h with
  | func hy' hf' hc' f1' c1' =>
   refine .func hy' hf' hc' (fun i w w' a b => ?_) (fun i w w' a b => ?_)
   · obtain ⟨w0, hw0⟩ : ∃ w0, (_ : List Value)[i]? = some w0 := ⟨_, List.getElem?_eq_getElem (hf ▸ (List.getElem?_eq_some_iff.1 a).1)⟩
     exact f2 i w w0 a hw0 (f1' i w w' a b)
   · obtain ⟨w0, hw0⟩ : ∃ w0, (_ : List Value)[i]? = some w0 := ⟨_, List.getElem?_eq_getElem (hc ▸ (List.getElem?_eq_some_iff.1 a).1)⟩
     exact c2 i w w0 a hw0 (c1' i w w' a b)
  | yield e => exact absurd rfl (hy _)
 | yield e => intro v' h; cases h with
  | func hy' hf' hc' f1' c1' => exact absurd rfl (hy' _)
  | yield e' => rw [ha _ _ e] at e'; exact .yield e'
 | nilFunc => intro v' h; cases h; exact .nilFunc
 | iface r ih => intro v' h; cases h with
  | iface r' => exact .iface (ih r')
 | nilIface => intro v' h; cases h; exact .nilIface
 | agg hc c1 ih => intro v' h; cases h with
  | agg hc' c1' =>
   refine .agg hc' fun i w w' a b => ?_
   obtain ⟨w0, hw0⟩ : ∃ w0, (_ : List Value)[i]? = some w0 := ⟨_, List.getElem?_eq_getElem (hc ▸ (List.getElem?_eq_some_iff.1 a).1)⟩
   exact ih i w w0 a hw0 (c1' i w w' a b)
 | tuple hc c1 ih => intro v' h; cases h with
  | tuple hc' c1' =>
   refine .tuple hc' fun i w w' a b => ?_
   obtain ⟨w0, hw0⟩ : ∃ w0, (_ : List Value)[i]? = some w0 := ⟨_, List.getElem?_eq_getElem (hc ▸ (List.getElem?_eq_some_iff.1 a).1)⟩
   exact ih i w w0 a hw0 (c1' i w w' a b)
theorem ObjR.back {ρ ρ' : Inj} (ha : ∀ b B, ρ b = some B → ρ' b = ρ b) {base : Nat} {B : Bl} {o : AObj} {o0 o' : Obj} (r0 : ObjR P ng ρ base B o o0) (r : ObjR P ng ρ' base B o o') : ObjR P ng ρ base B o o' := by
 cases r with
 | cells hn hs hk hz hv hb hf =>
  rename_i c n z kd c' el lo hi
  cases r0 with
  | cells hn0 hs0 hk0 hz0 hv0 hb0 hf0 =>
   rename_i c0 el0 lo0 hi0
   refine .cells hn hs hk hz (fun i v' hi2 e => ?_) hb hf
   have hlt : i < c0.size := by rw [hs0]; omega
   exact (hv0 i _ hi2 (Array.getElem?_eq_getElem hlt)).back ha (hv i v' hi2 e)
 | map he hb =>
  cases r0 with
  | map he0 hb0 =>
   rename_i es es' clock es0
   refine .map ⟨he.1, fun i e e' a b => ?_⟩ hb
   obtain ⟨e0, hw0⟩ : ∃ e0, es0[i]? = some e0 := ⟨_, List.getElem?_eq_getElem (he0.1 ▸ (List.getElem?_eq_some_iff.1 a).1)⟩
   obtain ⟨k1, k2, k3⟩ := he.2 i e e' a b
   obtain ⟨q1, q2, q3⟩ := he0.2 i e e0 a hw0
   exact ⟨k1, q2.back ha k2, k3⟩
 | loop h1 h2 h3 h4 h5 h6 h7 h8 h9 h10 h11 h12 hb =>
  cases r0 with
  | loop g1 g2 g3 g4 g5 g6 g7 g8 g9 g10 g11 g12 gb =>
   rename_i l l' t l0
   obtain ⟨D, e1, e2⟩ := h7
   obtain ⟨D0, e3, e4⟩ := g7
   rw [ha _ _ e3] at e1
   refine .loop h1 h2 h3 h4 h5 h6 ⟨D, e1, e2⟩ ⟨h8.sz, fun i v e => ?_⟩ h9 h10 h11 h12 hb
   have hlt : i < l0.tmps.size := by
    have := g8.sz
    have h8s := h8.sz
    have : i < l'.tmps.size := (Array.getElem?_eq_some_iff.1 e).1
    omega
   exact (g8.tm i _ (Array.getElem?_eq_getElem hlt)).back ha (h8.tm i v e)
 | ready hb => exact .ready hb
 | taken hb => exact .taken hb
def uB : Value → Bool
 | .int _ _ | .bool _ | .string _ | .nilIface | .nilFunc => true
 | _ => false
theorem RV.scal {ρ ρ' : Inj} {v v' : Value} (hv : uB v = true) (r : RV ρ v v') : RV ρ' v v' := by
 cases r <;> first | (cases hv; done) | skip
 · exact .bool _
 · exact .int _ _
 · exact .string _
 · exact .nilFunc
 · exact .nilIface
theorem RV.scals {ρ ρ' : Inj} {v v' : Value} (hv : uB v = true ∨ ∃ l : List Value, v = .tuple ⟨l⟩ ∧ l.all uB = true) (r : RV ρ v v') : RV ρ' v v' := by
 rcases hv with hv | ⟨l, rfl, hl⟩
 · exact r.scal hv
 · cases r with
   | tuple hc c1 => exact .tuple hc fun i w w' a b => (c1 i w w' a b).scal (List.all_eq_true.1 hl w (List.mem_iff_getElem?.2 ⟨i, a⟩))
def Rets (P : Program) (ng : Nat) (f : FuncId) (args : List Value) (h : zD) (n : Nat) (Q : Value → zD → Nat → Prop) : Prop :=
 ∀ (u : Option zL) (k : KO), (∀ v h' n', Q v h' n' → k (.ret v) u h' n' = true) → (loS P ng).call f args false u h n k = true
abbrev Pure (P : Program) (ng : Nat) (f : FuncId) (args : List Value) (h : zD) (n : Nat) (v : Value) : Prop :=
 Rets P ng f args h n fun v' h' n' => v' = v ∧ h' = h ∧ n' = n
theorem Rets.mono {f : FuncId} {args : List Value} {h : zD} {n : Nat} {Q Q' : Value → zD → Nat → Prop} (r : Rets P ng f args h n Q) (hq : ∀ v h' n', Q v h' n' → Q' v h' n') : Rets P ng f args h n Q' :=
 fun u k hk => r u k fun v h' n' q => hk v h' n' (hq v h' n' q)
theorem yM (hP : xF ng P = true) (hmix : P.follows .mixedOrders = true) {hint : tJ} {f : FuncId} (hl : xB P f = true) {args : List Value} {h : zD} {n : Nat} {Q : Value → zD → Nat → Prop}
 (hF : ∀ u k, (∀ v h' n', Q v h' n' → k (.ret v) u h' n' = true) → wQ P hint (loS P ng) (lpS P ng) f args false u h n k = true) : Rets P ng f args h n Q :=
 fun u k hk => loS_call.2 (yCall_ok hP hmix qD lpOK_lpS hint (loops_of hl) (hF u k hk))
theorem Rets.does {f : FuncId} {args : List Value} {h : zD} {n : Nat} {Q : Value → zD → Nat → Prop} (r : Rets P ng f args h n Q) (u : Option zL) : ∃ v h' n', Q v h' n' ∧ CallTo P ng f args false u h n (.ret v) u h' n' := by
 have := r u (fun o u' h' n' => isSo (∃ v, o = .ret v ∧ u' = u ∧ Q v h' n')) (fun v h' n' q => isSo_iff.2 ⟨v, rfl, rfl, q⟩)
 obtain ⟨o, u', h', n', hk, hc⟩ := loS_call.1 this
 obtain ⟨v, rfl, rfl, q⟩ := isSo_iff.1 hk
 exact ⟨v, h', n', q, hc⟩
theorem uH {g : FuncId} {args : List Value} {h : zD} {n : Nat} {Q : Value → zD → Nat → Prop} {Kp : KC} {K : Value → zD → Nat → Bool} (r : Rets P ng g args h n Q) (hK : ∀ v h' n', Q v h' n' → K v h' n' = true) :
 yX (loS P ng) g args h n Kp K = true := r none _ hK
theorem callI_ok {kd : IntKind} {g : FuncId} {args : List Value} {h : zD} {n : Nat} {Q : Value → zD → Nat → Prop} {Kp : KC} {K : Int → zD → Nat → Bool} (r : Rets P ng g args h n Q) (hK : ∀ v h' n', Q v h' n' → rtI kd v (fun a => K a h' n') = true) :
 qN (loS P ng) kd g args h n Kp K = true := r none _ hK
theorem callB_ok {g : FuncId} {args : List Value} {h : zD} {n : Nat} {Q : Value → zD → Nat → Prop} {Kp : KC} {K : Bool → zD → Nat → Bool} (r : Rets P ng g args h n Q) (hK : ∀ v h' n', Q v h' n' → rtB v (fun a => K a h' n') = true) :
 sJ (loS P ng) g args h n Kp K = true := r none _ hK
theorem wW {g : FuncId} {args : List Value} {h : zD} {n : Nat} {v : Value} {Kp : KC} {K : Value → zD → Nat → Bool} (r : Pure P ng g args h n v) (hK : K v h n = true) :
 yX (loS P ng) g args h n Kp K = true := uH r fun v' h' n' ⟨e1, e2, e3⟩ => by rw [e1, e2, e3]; exact hK
theorem sP {kd : IntKind} {g : FuncId} {args : List Value} {h : zD} {n : Nat} {a : Int} {Kp : KC} {K : Int → zD → Nat → Bool} (r : Pure P ng g args h n (.int kd a)) (hK : K a h n = true) :
 qN (loS P ng) kd g args h n Kp K = true := callI_ok r fun v' h' n' ⟨e1, e2, e3⟩ => by
  rw [e1, e2, e3]; cases kd <;> exact hK
theorem yN {g : FuncId} {args : List Value} {h : zD} {n : Nat} {b : Bool} {Kp : KC} {K : Bool → zD → Nat → Bool} (r : Pure P ng g args h n (.bool b)) (hK : K b h n = true) :
 sJ (loS P ng) g args h n Kp K = true := callB_ok r fun v' h' n' ⟨e1, e2, e3⟩ => by rw [e1, e2, e3]; exact hK
theorem findC_mem {i : Nat} {l : List Code} {b : Code} (h : findC i l = .loop b) : Code.loop b ∈ l := by
 induction l with
 | nil => cases h
 | cons c r ih =>
  have h' : (Bool.rec (findC i r) c (Nat.beq (qT c) i) : Code) = .loop b := h
  cases e : Nat.beq (qT c) i with
  | true => rw [e] at h'; exact List.mem_cons.2 (.inl h'.symm)
  | false => rw [e] at h'; exact List.mem_cons_of_mem _ (ih h')
theorem unL_of {c : Code} (h : uX c = true) : c = .loop (unL c) := by
 cases c <;> first | (cases h; done) | rfl
theorem xW (hP : xF ng P = true) (hmix : P.follows .mixedOrders = true) {hint : tJ} {f : FuncId} (hl : xB P f = true) {i : Nat} (hi : uX (yD P f i) = true) {rd : Option Nat} {df : Bool} {t : Fr} {w : W} {ka : KX}
 (hx : pC P hint (loS P ng) (lpS P ng) (unL (yD P f i)) ⟨f, rd, df⟩ t w ka = true) : lpS P ng i ⟨f, rd, df⟩ t w ka = true := by
 refine lpS_iff.2 ?_
 have hb := unL_of hi
 cases hf : sX P f with
 | none =>
  unfold yD at hi
  rw [hf] at hi
  cases hi
 | some fb =>
  have hm : Code.loop (unL (yD P f i)) ∈ wY fb.2 := by
   unfold yD at hb
   rw [hf] at hb
   have := findC_mem hb
   unfold yD
   rw [hf]
   exact this
  rw [hb]
  refine yLoop_ok hP hmix qD lpOK_lpS hint (b := unL (yD P f i)) ?_ hx
  have h9 := loops_of hl fb hf
  intro l hl2
  refine h9 l ?_
  rcases List.mem_cons.1 hl2 with rfl | h3
  · exact hm
  · exact loopsOf_sub hm l h3
noncomputable def wA (P : Program) (f : FuncId) : Option (List ResultVar) := (sX P f).map fun fb => fb.1.results.toList
theorem leave_res {L : Lo} {f : FuncId} {rs : List ResultVar} (hr : wA P f = some rs) {k : KO} {t : Fr} {u : Option zL} {h : zD} {n : Nat} {l : List Value} (hl : xV P t h rs = some l) :
 zE P L f k .ret t ⟨[], u, h, n⟩ = k (.ret (tupled l)) u h n := by
 unfold wA at hr
 cases hb : sX P f with
 | none => rw [hb] at hr; cases hr
 | some fb =>
  rw [hb] at hr
  injection hr with hr
  unfold zE
  rw [hb]
  show tB P L fb.1 none t ⟨[], u, h, n⟩ k = _
  unfold tB
  dsimp only at hr ⊢
  rw [hr, hl]
  dsimp only
  rw [wV]
theorem yF {L : Lo} {f : FuncId} {i : Nat} (hr : wA P f = some [.tmp i]) {k : KO} {t : Fr} {u : Option zL} {h : zD} {n : Nat} {v : Value} (hv : zA t i = v) (hk : k (.ret v) u h n = true) :
 zE P L f k .ret t ⟨[], u, h, n⟩ = true := by
 subst hv
 rw [leave_res hr (l := [zA t i]) rfl]
 exact hk
theorem leave2 {L : Lo} {f : FuncId} {i j : Nat} (hr : wA P f = some [.tmp i, .tmp j]) {k : KO} {t : Fr} {u : Option zL} {h : zD} {n : Nat} {v w : Value} (hv : zA t i = v) (hw : zA t j = w) (hk : k (.ret (.tuple ⟨[v, w]⟩)) u h n = true) :
 zE P L f k .ret t ⟨[], u, h, n⟩ = true := by
 subst hv hw
 rw [leave_res hr (l := [zA t i, zA t j]) rfl]
 exact hk
theorem qE {L : Lo} {f : FuncId} (hr : wA P f = some []) {k : KO} {t : Fr} {u : Option zL} {h : zD} {n : Nat} (hk : k (.ret (.tuple ⟨[]⟩)) u h n = true) :
 zE P L f k .ret t ⟨[], u, h, n⟩ = true := by
 rw [leave_res hr (l := []) rfl]
 exact hk
end
theorem zG {R : Type} (v : Value) (K : Value → R) : zO v K = K v := wV v K
theorem yP (x : Bool) (K : Bool → Bool) : fb x K = K x := fb_eq x K
theorem xE (v : Value) (K : Value → Bool) : letV v K = K v := rfl
theorem zC {α : Type} (x : α) (K : α → Bool) : opt (some x) K = K x := rfl
theorem zH (k : IntKind) (a : Int) (K : Int → Bool) : rtI k (.int k a) K = K a := by cases k <;> rfl
theorem zJ (b : Bool) (K : Bool → Bool) : rtB (.bool b) K = K b := rfl
theorem zM {R : Type} (b : Bool) (f : Bool → R) (d : R) : wG (.bool b) f d = f b := rfl
theorem xC (d : List Deferred) (u : Option zL) (h : zD) (n : Nat) (f : List Deferred → Option zL → zD → Nat → Bool) : onW ⟨d, u, h, n⟩ f = f d u h n := rfl
theorem yZ (d : KH → Bool) (kv : KH) (h : zD) (n : Nat) : grd true d kv h n = d kv := rfl
theorem xK (d : KH → Bool) (kv : KH) (h : zD) (n : Nat) : grd false d kv h n = kv h n undef := rfl
theorem uD (a b : Bool) : br true a b = a := rfl
theorem uL (a b : Bool) : br false a b = b := rfl
theorem tK (x : Bool) : gt true x = x := rfl
theorem qF : nt true = false := rfl
theorem rI : nt false = true := rfl
theorem xA (x y : Value) : sel true x y = x := rfl
theorem xG (x y : Value) : sel false x y = y := rfl
theorem xN (hs : List W) : lks hs [] = true := rfl
theorem xR (b : Bool) : aUn .not (.bool b) = some (.bool (!b)) := rfl
theorem qU (a b : Int) : ineB a b = !decide (a = b) := by unfold ineB; rw [wX]; cases decide (a = b) <;> rfl
theorem igtB_ap (a b : Int) : igtB a b = decide (b < a) := yC b a
theorem igeB_ap (a b : Int) : igeB a b = decide (b ≤ a) := vA b a
theorem cmpI (f : Int → Int → Bool) (P : Program) (op : BinOp) (ty : TypeId) (q : Bool) (k : IntKind) (a b : Int) (K : Bool → Bool) : yB f P op ty q (.int k a) (.int k b) K = K (f a b) := by
 show (Bool.rec false (fb (f a b) fun c => K c) (vT k k) : Bool) = _
 have : vT k k = true := by cases k <;> rfl
 rw [this, fb_eq]
theorem cmpS_eq (f : Int → Int → Bool) (P : Program) (ty : TypeId) (q : Bool) (a b : ByteArray) (K : Bool → Bool) : yB f P .eql ty q (.string a) (.string b) K = K (a.data.toList == b.data.toList) := by
 show rtB (.bool (bytesEq a.data.toList b.data.toList)) (fun c => K c) = _
 rw [sN]; rfl
theorem cmpS_ne (f : Int → Int → Bool) (P : Program) (ty : TypeId) (q : Bool) (a b : ByteArray) (K : Bool → Bool) : yB f P .neq ty q (.string a) (.string b) K = K (!(a.data.toList == b.data.toList)) := by
 show rtB (.bool (!bytesEq a.data.toList b.data.toList)) (fun c => K c) = _
 rw [sN]; rfl
theorem len_str {P : Program} {ty : TypeId} (hu : und P ty = some .string) (s : ByteArray) (r : List Value) (h : zD) : yL P .len [ty] (.string s :: r) h = some (.int .i64 (.ofNat s.data.toList.length)) := by
 show aLen P h ty (.string s) = _
 unfold aLen; rw [hu]
theorem len_sl {P : Program} {ty e : TypeId} (hu : und P ty = some (.slice e)) (p : Option Addr) (n c : Nat) (r : List Value) (h : zD) : yL P .len [ty] (.slice p n c :: r) h = some (.int .i64 (.ofNat n)) := by
 show aLen P h ty (.slice p n c) = _
 unfold aLen; rw [hu]
theorem index_str {P : Program} {ty : TypeId} (hu : und P ty = some .string) (s : ByteArray) (k : IntKind) (i : Nat) (b : UInt8) (hb : s.data.toList[i]? = some b) : qX P ty (.string s) (.int k (.ofNat i)) = some (.int .u8 (.ofNat b.toNat)) := by
 unfold qX; dsimp only; rw [hu]; dsimp only; rw [hb]
theorem addI (a b : Int) (K : Int → Bool) (h : -9223372036854775808 ≤ a + b ∧ a + b < 9223372036854775808) : fi (vK .i64 (tH a b)) K = K (a + b) := by
 rw [fi_eq, iadd_eq, uO]
 have : IntKind.i64.wrap (a + b) = a + b := by
  unfold IntKind.wrap
  simp [IntKind.bits, IntKind.signed]
  omega
 rw [this]
theorem fb_split {x : Bool} {K : Bool → Bool} (ht : x = true → K true = true) (hf : x = false → K false = true) : fb x K = true := by
 rw [fb_eq]; cases x with
 | true => exact ht rfl
 | false => exact hf rfl
theorem le_t {a b : Int} (h : rM a b = true) : a ≤ b := by rw [vA] at h; exact of_decide_eq_true h
theorem le_f {a b : Int} (h : rM a b = false) : b < a := by rw [vA] at h; have := of_decide_eq_false h; omega
theorem lt_t {a b : Int} (h : vD a b = true) : a < b := by rw [yC] at h; exact of_decide_eq_true h
theorem lt_f {a b : Int} (h : vD a b = false) : b ≤ a := by rw [yC] at h; have := of_decide_eq_false h; omega
theorem eq_t {a b : Int} (h : wJ a b = true) : a = b := by rw [wX] at h; exact of_decide_eq_true h
theorem eq_f {a b : Int} (h : wJ a b = false) : a ≠ b := by rw [wX] at h; exact of_decide_eq_false h
theorem ne_t {a b : Int} (h : ineB a b = true) : a ≠ b := by rw [qU] at h; simpa using h
theorem ne_f {a b : Int} (h : ineB a b = false) : a = b := by rw [qU] at h; simpa using h
theorem vL {P : Program} {op : BinOp} {ty : TypeId} {q : Bool} {k : IntKind} {a b : Int} {K : Bool → Bool} (ht : a ≤ b → K true = true) (hf : b < a → K false = true) : yB rM P op ty q (.int k a) (.int k b) K = true := by
 rw [cmpI]; cases e : rM a b with
 | true => exact ht (le_t e)
 | false => exact hf (le_f e)
theorem vM {P : Program} {op : BinOp} {ty : TypeId} {q : Bool} {k : IntKind} {a b : Int} {K : Bool → Bool} (ht : a < b → K true = true) (hf : b ≤ a → K false = true) : yB vD P op ty q (.int k a) (.int k b) K = true := by
 rw [cmpI]; cases e : vD a b with
 | true => exact ht (lt_t e)
 | false => exact hf (lt_f e)
theorem vN {P : Program} {op : BinOp} {ty : TypeId} {q : Bool} {k : IntKind} {a b : Int} {K : Bool → Bool} (ht : b < a → K true = true) (hf : a ≤ b → K false = true) : yB igtB P op ty q (.int k a) (.int k b) K = true := by
 rw [cmpI]; cases e : igtB a b with
 | true => exact ht (lt_t e)
 | false => exact hf (lt_f e)
theorem vO {P : Program} {op : BinOp} {ty : TypeId} {q : Bool} {k : IntKind} {a b : Int} {K : Bool → Bool} (ht : b ≤ a → K true = true) (hf : a < b → K false = true) : yB igeB P op ty q (.int k a) (.int k b) K = true := by
 rw [cmpI]; cases e : igeB a b with
 | true => exact ht (le_t e)
 | false => exact hf (le_f e)
theorem vP {P : Program} {op : BinOp} {ty : TypeId} {q : Bool} {k : IntKind} {a b : Int} {K : Bool → Bool} (ht : a = b → K true = true) (hf : a ≠ b → K false = true) : yB wJ P op ty q (.int k a) (.int k b) K = true := by
 rw [cmpI]; cases e : wJ a b with
 | true => exact ht (eq_t e)
 | false => exact hf (eq_f e)
theorem vQ {P : Program} {op : BinOp} {ty : TypeId} {q : Bool} {k : IntKind} {a b : Int} {K : Bool → Bool} (ht : a ≠ b → K true = true) (hf : a = b → K false = true) : yB ineB P op ty q (.int k a) (.int k b) K = true := by
 rw [cmpI]; cases e : ineB a b with
 | true => exact ht (ne_t e)
 | false => exact hf (ne_f e)
theorem tV {a b : Int} {K : Bool → Bool} (ht : a ≤ b → K true = true) (hf : b < a → K false = true) : fb (rM a b) K = true := fb_split (fun h => ht (le_t h)) (fun h => hf (le_f h))
theorem tW {a b : Int} {K : Bool → Bool} (ht : a < b → K true = true) (hf : b ≤ a → K false = true) : fb (vD a b) K = true := fb_split (fun h => ht (lt_t h)) (fun h => hf (lt_f h))
theorem vR {a b : Int} {K : Bool → Bool} (ht : a = b → K true = true) (hf : a ≠ b → K false = true) : fb (wJ a b) K = true := fb_split (fun h => ht (eq_t h)) (fun h => hf (eq_f h))
theorem vS {a b : Int} {K : Bool → Bool} (ht : a ≠ b → K true = true) (hf : a = b → K false = true) : fb (ineB a b) K = true := fb_split (fun h => ht (ne_t h)) (fun h => hf (ne_f h))
theorem wF (b : Bool) : gv (.bool b) = b := rfl
theorem xH (b : Bool) : gnv (.bool b) = nt b := rfl
theorem xI : gv undef = false := rfl
theorem yU : gnv undef = false := rfl
theorem zZ (n : Nat) : Int.ofNat n = (n : Int) := rfl
theorem xO (A : KN → Bool) (kn : KN) : blkJ A kn = A kn := rfl
theorem zQ (kn : KN) (ka : KX) (i : Nat) (t : Fr) (w : W) : endA kn ka (.exit i) t w = ka (.exit i) t w := rfl
theorem yH (kn : KN) (ka : KX) (t : Fr) (w : W) : endA kn ka .ret t w = ka .ret t w := rfl
theorem zR (id : Nat) (kn : KN) (ka : KX) (t : Fr) (w : W) : blkA id kn ka (.exit id) t w = kn t w := by
 show (Bool.rec (ka (.exit id) t w) (kn t w) (Nat.beq id id) : Bool) = _
 rw [Nat.beq_refl]
theorem yI (id : Nat) (kn : KN) (ka : KX) (t : Fr) (w : W) : blkA id kn ka .ret t w = ka .ret t w := rfl
theorem sF {a b : Int} {K : Int → Bool} (h : -9223372036854775808 ≤ a + b ∧ a + b < 9223372036854775808) (hK : K (a + b) = true) : fi (vK .i64 (tH a b)) K = true := by rw [addI a b K h]; exact hK
theorem fi_sub {a b : Int} {K : Int → Bool} (h : -9223372036854775808 ≤ a - b ∧ a - b < 9223372036854775808) (hK : K (a - b) = true) : fi (vK .i64 (isub a b)) K = true := by
 rw [fi_eq, isub_eq, uO]
 have : IntKind.i64.wrap (a - b) = a - b := by
  unfold IntKind.wrap
  simp [IntKind.bits, IntKind.signed]
  omega
 rw [this]; exact hK
theorem yV (n : Nat) : Int.ofNat (no_index (OfNat.ofNat n)) = (OfNat.ofNat n : Int) := rfl
section
variable {v : Value}
theorem fg0 {a0 b0 : Fr} : zA (.node a0 v b0) 0 = v := rfl
theorem fg1 {a1 b1 b0 : Fr} {w0 : Value} : zA (.node (.node a1 v b1) w0 b0) 1 = v := rfl
theorem fg3 {a2 b2 b1 b0 : Fr} {w1 w0 : Value} : zA (.node (.node (.node a2 v b2) w1 b1) w0 b0) 3 = v := rfl
theorem fg5 {a2 b2 a1 b0 : Fr} {w1 w0 : Value} : zA (.node (.node a1 w1 (.node a2 v b2)) w0 b0) 5 = v := rfl
theorem fg6 {a2 b2 a1 a0 : Fr} {w1 w0 : Value} : zA (.node a0 w0 (.node a1 w1 (.node a2 v b2))) 6 = v := rfl
theorem fg7 {a3 b3 b2 b1 b0 : Fr} {w2 w1 w0 : Value} : zA (.node (.node (.node (.node a3 v b3) w2 b2) w1 b1) w0 b0) 7 = v := rfl
theorem fg8 {a3 b3 b2 b1 a0 : Fr} {w2 w1 w0 : Value} : zA (.node a0 w0 (.node (.node (.node a3 v b3) w2 b2) w1 b1)) 8 = v := rfl
theorem fg18 {a4 b4 b3 b2 a1 a0 : Fr} {w3 w2 w1 w0 : Value} : zA (.node a0 w0 (.node a1 w1 (.node (.node (.node a4 v b4) w3 b3) w2 b2))) 18 = v := rfl
theorem fg19 {a4 b4 b3 a2 b1 b0 : Fr} {w3 w2 w1 w0 : Value} : zA (.node (.node (.node a2 w2 (.node (.node a4 v b4) w3 b3)) w1 b1) w0 b0) 19 = v := rfl
theorem fg29 {a4 b4 a3 a2 a1 b0 : Fr} {w3 w2 w1 w0 : Value} : zA (.node (.node a1 w1 (.node a2 w2 (.node a3 w3 (.node a4 v b4)))) w0 b0) 29 = v := rfl
theorem fg30 {a4 b4 a3 a2 a1 a0 : Fr} {w3 w2 w1 w0 : Value} : zA (.node a0 w0 (.node a1 w1 (.node a2 w2 (.node a3 w3 (.node a4 v b4))))) 30 = v := rfl
theorem fg31 {a5 b5 b4 b3 b2 b1 b0 : Fr} {w4 w3 w2 w1 w0 : Value} : zA (.node (.node (.node (.node (.node (.node a5 v b5) w4 b4) w3 b3) w2 b2) w1 b1) w0 b0) 31 = v := rfl
end
noncomputable def rJ (o : AObj) (i : Nat) : Option Value := match o with
 | .cells c n _ _ => if i < n then some (Tr.get undef c i) else none
 | _ => none
def tS (o : AObj) : Option (Nat × Nat × Nat) := match o with
 | .cells _ n z kd => some (n, z, kd)
 | _ => none
noncomputable def mkC (l : List Value) (z kd : Nat) : AObj := .cells (Tr.ofListFrom undef .leaf 0 l) l.length z kd
noncomputable def stC (o : AObj) (off : Nat) (vs : List Value) : AObj := match o with
 | .cells c n z kd => .cells (Tr.ofListFrom undef c off vs) n z kd
 | o => o
theorem uV (l : List Value) (z kd i : Nat) : rJ (mkC l z kd) i = l[i]? := by
 unfold rJ mkC
 dsimp only
 by_cases h : i < l.length
 · rw [if_pos h, Tr.get_ofListFrom, if_pos (by omega)]
   simp [List.getElem?_eq_getElem h, List.getD_eq_getElem?_getD]
 · rw [if_neg h, List.getElem?_eq_none (by omega)]
theorem infoOf_mkC (l : List Value) (z kd : Nat) : tS (mkC l z kd) = some (l.length, z, kd) := rfl
theorem pE (o : AObj) (off : Nat) (vs : List Value) {n z kd : Nat} (hi : tS o = some (n, z, kd)) (hl : off + vs.length ≤ n) (i : Nat) :
 rJ (stC o off vs) i = if off ≤ i ∧ i < off + vs.length then vs[i - off]? else rJ o i := by
 cases o <;> first | (cases hi; done) | skip
 rename_i c n' z' kd'
 injection hi with hi
 injection hi with h1 h2
 subst h1
 unfold rJ stC
 dsimp only
 by_cases h : off ≤ i ∧ i < off + vs.length
 · rw [if_pos h, if_pos (by omega), Tr.get_ofListFrom, if_pos h]
   simp [List.getElem?_eq_getElem (show i - off < vs.length by omega), List.getD_eq_getElem?_getD]
 · rw [if_neg h]
   by_cases h2 : i < n'
   · rw [if_pos h2, if_pos h2, Tr.get_ofListFrom, if_neg h]
   · rw [if_neg h2, if_neg h2]
theorem pF (o : AObj) (off : Nat) (vs : List Value) : tS (stC o off vs) = tS o := by cases o <;> rfl
noncomputable def xM (h : zD) (b i : Nat) : Option Value := rJ (zU h b) i
def rowAt (h : zD) (b off : Nat) (vs : List Value) : Prop := ∀ j v, vs[j]? = some v → xM h b (off + j) = some v
def Ext (h : zD) (n : Nat) (h' : zD) (n' : Nat) : Prop := n ≤ n' ∧ ∀ b, b < n → zU h' b = zU h b
theorem Ext.refl (h : zD) (n : Nat) : Ext h n h n := ⟨Nat.le_refl _, fun _ _ => rfl⟩
theorem Ext.trans {h h1 h2 : zD} {n n1 n2 : Nat} (a : Ext h n h1 n1) (b : Ext h1 n1 h2 n2) : Ext h n h2 n2 :=
 ⟨Nat.le_trans a.1 b.1, fun x hx => (b.2 x (Nat.lt_of_lt_of_le hx a.1)).trans (a.2 x hx)⟩
theorem Ext.set {h h1 : zD} {n n1 m b : Nat} {o : AObj} (a : Ext h n h1 n1) (hb : n ≤ b) (hm : n1 ≤ m) : Ext h n (h1.set .dead o b) m :=
 ⟨Nat.le_trans a.1 hm, fun x hx => by rw [zK, if_neg (by omega)]; exact a.2 x hx⟩
theorem Ext.cell {h h' : zD} {n n' : Nat} (a : Ext h n h' n') {b i : Nat} (hb : b < n) : xM h' b i = xM h b i := by
 unfold xM; rw [a.2 b hb]
theorem Ext.row {h h' : zD} {n n' : Nat} (a : Ext h n h' n') {b off : Nat} {vs : List Value} (hb : b < n) (r : rowAt h b off vs) : rowAt h' b off vs :=
 fun j v e => by rw [a.cell hb]; exact r j v e
section
variable {P : Program} {ng : Nat}
theorem CallTo.pureE {f : FuncId} {args : List Value} {u' : Option zL} {h h' : zD} {n n' : Nat} {v : Value} (c : CallTo P ng f args false none h n (.ret v) u' h' n') (hs : Ext h n h' n')
 (hv : uB v = true ∨ ∃ l : List Value, v = .tuple ⟨l⟩ ∧ l.all uB = true) (u : Option zL) : CallTo P ng f args false u h n (.ret v) u h n := by
 refine ⟨c.1, fun ρ base w0 wd args' cs hH ha hu => ?_⟩
 obtain ⟨ρ', wd', fr, cs', s1, s2, s3, s4, s5, s6, s7⟩ := c.2 ρ base w0 wd args' cs hH ha (fun e => by cases e)
 have hcs : cs' = cs := by
  rcases s4 with e | ⟨e, _⟩
  · exact e
  · cases e
 subst hcs
 have hlt : ∀ {b B}, ρ b = some B → b < n := fun {b B} e => by
  rcases Nat.lt_or_ge b n with h1 | h1
  · exact h1
  · rw [hH.dom b h1] at e; cases e
 have hag : ∀ b B, ρ b = some B → ρ' b = ρ b := fun b B e => s3.old b (hlt e)
 refine ⟨ρ, wd', fr, cs', s1, ⟨hH.dom, fun b B e hl => ?_, hH.inj, s2.below, s2.size, hH.glob, hH.ngn⟩, ⟨Nat.le_refl _, fun _ _ => rfl, fun b B h1 e => (by rw [hH.dom b h1] at e; cases e), s3.keep, s3.size, fun _ _ e => e, s3.tape⟩, CsTo.refl _ _, (fun e => Bool.noConfusion e), s6, ?_⟩
 · obtain ⟨o0, q1, q2⟩ := hH.obj b B e hl
   have live := hs.2 b (hlt e)
   obtain ⟨o, p1, p2⟩ := s2.obj b B (by rw [hag b B e]; exact e) (by rw [live]; exact hl)
   rw [live] at p2
   exact ⟨o, p1, q2.back hag p2⟩
 · obtain ⟨v', y1, y2, y3, y4, y5⟩ := s7
   exact ⟨v', y1, y2, y3, y4, y5.scals hv⟩
theorem Rets.pureE {f : FuncId} {args : List Value} {h : zD} {n : Nat} {v : Value} (r : Rets P ng f args h n fun v' h' n' => v' = v ∧ Ext h n h' n')
 (hv : uB v = true ∨ ∃ l : List Value, v = .tuple ⟨l⟩ ∧ l.all uB = true) : Pure P ng f args h n v := by
 obtain ⟨v', h', n', ⟨rfl, hs⟩, hc⟩ := r.does none
 exact fun u k hk => loS_call.2 ⟨_, u, h, n, hk _ _ _ ⟨rfl, rfl, rfl⟩, hc.pureE hs hv u⟩
theorem cellOf_some {o : AObj} {i : Nat} {v : Value} (h : rJ o i = some v) : ∃ c n z kd, o = .cells c n z kd ∧ i < n ∧ Tr.get undef c i = v := by
 cases o <;> first | (cases h; done) | skip
 rename_i c n z kd
 unfold rJ at h
 dsimp only at h
 by_cases hi : i < n
 · rw [if_pos hi] at h; injection h with h; exact ⟨c, n, z, kd, rfl, hi, h⟩
 · rw [if_neg hi] at h; cases h
theorem rK {a b : Nat} (h : a < b) : Nat.blt a b = true := by rw [Nat.blt_eq]; exact h
theorem vE {a b : Nat} (h : a ≤ b) : Nat.ble a b = true := Nat.ble_eq_true_of_le h
theorem load_scal {ty : TypeId} {h : zD} {b off : Nat} {v : Value} (hs : yG P ty = .scal) (hc : xM h b off = some v) : zF P ty h (.pointer (some ⟨b, off, none⟩)) = some v := by
 obtain ⟨c, n, z, kd, e1, e2, e3⟩ := cellOf_some hc
 show qS (zU h b) (fun c kn _ _ =>
  Sh.rec none (Bool.rec none (zO (Tr.get undef c off) some) (Nat.blt off kn))
   (fun sz => Bool.rec none (some (.agg ⟨c.toListFrom undef off sz⟩)) (Nat.ble (Nat.add off sz) kn)) (yG P ty)) none = _
 rw [e1, hs]
 show (Bool.rec none (zO (Tr.get undef c off) some) (Nat.blt off n) : Option Value) = _
 rw [rK e2]
 show zO (Tr.get undef c off) some = _
 rw [wV, e3]
theorem load_agg {ty : TypeId} {h : zD} {b off sz : Nat} {vs : List Value} (hs : yG P ty = .agg sz) (hl : vs.length = sz) (h0 : 0 < sz) (hr : rowAt h b off vs) : zF P ty h (.pointer (some ⟨b, off, none⟩)) = some (.agg ⟨vs⟩) := by
 have hlast := hr (sz - 1) (vs[sz - 1]'(by omega)) (List.getElem?_eq_getElem _)
 obtain ⟨c, n, z, kd, e1, e2, e3⟩ := cellOf_some hlast
 show qS (zU h b) (fun c kn _ _ =>
  Sh.rec none (Bool.rec none (zO (Tr.get undef c off) some) (Nat.blt off kn))
   (fun sz => Bool.rec none (some (.agg ⟨c.toListFrom undef off sz⟩)) (Nat.ble (Nat.add off sz) kn)) (yG P ty)) none = _
 rw [e1, hs]
 show (Bool.rec none (some (.agg ⟨c.toListFrom undef off sz⟩)) (Nat.ble (Nat.add off sz) n) : Option Value) = _
 rw [vE (show Nat.add off sz ≤ n by show off + sz ≤ n; omega)]
 show some (Value.agg ⟨c.toListFrom undef off sz⟩) = _
 congr 3
 apply List.ext_getElem?
 intro j
 rw [Tr.getElem?_toListFrom]
 by_cases hj : j < sz
 · rw [if_pos hj, List.getElem?_eq_getElem (by omega)]
   have := hr j (vs[j]'(by omega)) (List.getElem?_eq_getElem _)
   obtain ⟨c', n', z', kd', e1', e2', e3'⟩ := cellOf_some this
   rw [e1] at e1'
   injection e1' with e1' _ _ _
   subst e1'
   rw [e3']
 · rw [if_neg hj, List.getElem?_eq_none (by omega)]
theorem index_sl {ty : TypeId} {sz b off len cap i : Nat} {k : IntKind} (hx : ixOf P ty = .slice sz) (hi : i < len) : zT P ty (.slice (some ⟨b, off, none⟩) len cap) (.int k (i : Nat)) = some (.pointer (some ⟨b, off + i * sz, none⟩)) := by
 show (Ix.rec none
  (fun sz => onSlice (.slice (some ⟨b, off, none⟩) len cap) (fun b off len _ => Bool.rec none (some (.pointer (some ⟨b, Nat.add off (Nat.mul i sz), none⟩))) (Nat.blt i len)) none)
  (fun len' sz => onPtr (.slice (some ⟨b, off, none⟩) len cap) (fun b off => Bool.rec none (some (.pointer (some ⟨b, Nat.add off (Nat.mul i sz), none⟩))) (Nat.blt i len')) none) (ixOf P ty) : Option Value) = _
 rw [hx]
 show (Bool.rec none (some (.pointer (some ⟨b, Nat.add off (Nat.mul i sz), none⟩))) (Nat.blt i len) : Option Value) = _
 rw [rK hi]
 rfl
theorem yE {ty : TypeId} {f o b off : Nat} (ho : offOf P ty f = some o) : zB P ty f (.pointer (some ⟨b, off, none⟩)) = some (.pointer (some ⟨b, off + o, none⟩)) := by
 show (Option.rec none (fun o => some (.pointer (some ⟨b, Nat.add off o, none⟩))) (offOf P ty f) : Option Value) = _
 rw [ho]; rfl
theorem tT {c : Tr Value} {i : Nat} {l : List Value} {k : Tr Value → Bool} (h1 : ∀ v ∈ l, v.oneCell' = true) (hk : k (Tr.ofListFrom undef c i l) = true) : vW c i l k = true := by
 induction l generalizing c i with
 | nil => exact hk
 | cons v r ih =>
  show (forceOne v fun v => c.setK undef v i fun c' => vW c' (Nat.succ i) r k) = true
  have e : ∀ K : Value → Bool, forceOne v K = K v := fun K => by
   have := h1 v (List.mem_cons_self ..)
   cases v <;> first | rfl | cases this
  rw [e, Tr.setK_eq]
  exact ih (fun x hx => h1 x (List.mem_cons_of_mem _ hx)) hk
theorem eAlloc_ok {el : TypeId} {h : zD} {n : Nat} {K : KH} {z : Value} (hz : wM P el = some z) (hK : K (h.set .dead (mkC (cellsOf z) (el + 1) 0) n) (n + 1) (.pointer (some ⟨n, 0, none⟩)) = true) : tD P el h n K = true := by
 unfold tD
 rw [hz]
 show yO h n (vI (cellsOf z) el) (fun h' n' => K h' n' (.pointer (some ⟨n, 0, none⟩))) = true
 rw [yQ]
 exact hK
theorem eBox_ok {v : Value} {h : zD} {n : Nat} {K : KH} (h1 : ∀ x ∈ cellsOf v, x.oneCell' = true) (hK : K (h.set .dead (mkC (cellsOf v) 0 0) n) (n + 1) (.pointer (some ⟨n, 0, none⟩)) = true) : eBox v h n K = true := by
 unfold eBox
 refine tT h1 ?_
 rw [yQ]
 exact hK
theorem eStore_ok {ty : TypeId} {b off sz m z kd : Nat} {v : Value} {h : zD} {n : Nat} {K : KH} (hs : yG P ty = .scal ∧ sz = 1 ∨ yG P ty = .agg sz) (hl : (cellsOf v).length = sz) (h1 : ∀ x ∈ cellsOf v, x.oneCell' = true)
 (hi : tS (zU h b) = some (m, z, kd)) (hk : kd ≠ 2) (hle : off + sz ≤ m) (hK : K (h.set .dead (stC (zU h b) off (cellsOf v)) b) n undef = true) : zV P ty (.pointer (some ⟨b, off, none⟩)) v h n K = true := by
 have main : storeAt h b off (cellsOf v) (fun h' => K h' n undef) = true := by
  cases ho : zU h b <;> rw [ho] at hi <;> first | (cases hi; done) | skip
  rename_i c n' z' kd'
  injection hi with hi
  injection hi with e1 hi
  injection hi with e2 e3
  subst e1 e2 e3
  unfold storeAt
  rw [ho]
  show (Bool.rec (Bool.rec false (vW c off (cellsOf v) fun c' => h.setK .dead (.cells c' n' z' kd') b fun h' => K h' n undef) (Nat.ble (Nat.add off (cellsOf v).length) n')) false (Nat.beq kd' 2) : Bool) = true
  have e4 : Nat.beq kd' 2 = false := by
   cases e : Nat.beq kd' 2 with
   | false => rfl
   | true => exact absurd (zX e) hk
  rw [e4]
  show (Bool.rec false (vW c off (cellsOf v) fun c' => h.setK .dead (.cells c' n' z' kd') b fun h' => K h' n undef) (Nat.ble (Nat.add off (cellsOf v).length) n') : Bool) = true
  rw [vE (show Nat.add off (cellsOf v).length ≤ n' by show off + _ ≤ _; omega)]
  refine tT h1 ?_
  rw [Tr.setK_eq]
  rw [ho] at hK
  exact hK
 unfold zV
 show (Sh.rec false
  (Bool.rec false (storeAt h b off (cellsOf v) fun h' => K h' n undef) (Nat.beq (cellsOf v).length 1))
  (fun sz => Bool.rec false (storeAt h b off (cellsOf v) fun h' => K h' n undef) (Nat.beq (cellsOf v).length sz)) (yG P ty) : Bool) = true
 rcases hs with ⟨hs, rfl⟩ | hs
 · rw [hs, hl]; exact main
 · rw [hs, hl]
   show (Bool.rec false (storeAt h b off (cellsOf v) fun h' => K h' n undef) (Nat.beq sz sz) : Bool) = true
   rw [Nat.beq_refl]; exact main
end
noncomputable def apTB (P : Program) (sT xT el sz : Nat) : Bool :=
 match und P sT, und P xT with
 | some (.slice e), some xd => match xd with
  | .int _ => false
  | _ => match inf? P e, wM P e with
   | some ei, some z => Nat.beq e el && (Nat.beq ei.size sz && (Nat.beq (cellsOf z).length sz && (Nat.blt 0 sz && Nat.blt ei.bytes 100000)))
   | _, _ => false
 | _, _ => false
theorem apTB_of {P : Program} {sT xT e sz : Nat} (h : apTB P sT xT e sz = true) : ∃ xd ei z, und P sT = some (.slice e) ∧ und P xT = some xd ∧ (∀ k, xd ≠ .int k) ∧ inf? P e = some ei ∧ wM P e = some z ∧ ei.size = sz ∧ (cellsOf z).length = sz ∧ 0 < sz ∧ ei.bytes < 100000 := by
 unfold apTB at h
 split at h
 · rename_i e' xd h1 h2
   split at h
   · cases h
   · rename_i hne
     split at h
     · rename_i ei z h3 h4
       obtain ⟨a0, hrest⟩ := Bool.and_eq_true_iff.1 h
       obtain rfl := zX a0
       obtain ⟨a1, a2⟩ := Bool.and_eq_true_iff.1 hrest
       obtain ⟨a2, a3⟩ := Bool.and_eq_true_iff.1 a2
       obtain ⟨a3, a4⟩ := Bool.and_eq_true_iff.1 a3
       exact ⟨xd, ei, z, h1, h2, fun k hk => hne k hk, h3, h4, zX a1, zX a2, wP a3, wP a4⟩
     · cases h
 · cases h
def Own (lo n : Nat) (h : zD) (v : Value) (e sz : Nat) (len : Nat) (vs : List Value) : Prop :=
 (v = .slice none 0 0 ∧ len = 0 ∧ vs = []) ∨ ∃ b, lo ≤ b ∧ b < n ∧ v = .slice (some ⟨b, 0, none⟩) len inf ∧ tS (zU h b) = some (vs.length, zc e sz, 1) ∧ vs.length = len * sz ∧ 0 < len ∧ ∀ i, xM h b i = vs[i]?
def Row (n : Nat) (h : zD) (v : Value) (e sz len : Nat) (vs : List Value) : Prop :=
 (v = .slice none 0 0 ∧ len = 0 ∧ vs = []) ∨ ∃ b off cap m z kd, b < n ∧ v = .slice (some ⟨b, off, none⟩) len cap ∧ vs.length = len * sz ∧ tS (zU h b) = some (m, z, kd) ∧ off + vs.length ≤ m ∧ rowAt h b off vs ∧ ((cap < inf ∧ len ≤ cap) ∨ (cap = inf ∧ kd = 1 ∧ z = zc e sz ∧ 1 ≤ sz))
def wB : Value → Option Nat
 | .slice (some a) _ _ => some a.block
 | _ => none
theorem toList_row {c : Tr Value} {n off : Nat} {vs : List Value} (h : ∀ j v, vs[j]? = some v → (if off + j < n then some (Tr.get undef c (off + j)) else none) = some v) : c.toListFrom undef off vs.length = vs := by
 apply List.ext_getElem?
 intro j
 rw [Tr.getElem?_toListFrom]
 by_cases hj : j < vs.length
 · rw [if_pos hj, List.getElem?_eq_getElem hj]
   have := h j _ (List.getElem?_eq_getElem hj)
   split at this
   · exact this
   · cases this
 · rw [if_neg hj, List.getElem?_eq_none (by omega)]
theorem row_of {n : Nat} {h : zD} {v : Value} {e sz len : Nat} {vs : List Value} (r : Row n h v e sz len vs) : rowOf h sz len v = some vs ∧ lenV v = some len ∧ strFits sz v = true := by
 rcases r with ⟨rfl, rfl, rfl⟩ | ⟨b, off, cap, m, z, kd, hb, rfl, hl, hi, hm, hr⟩
 · exact ⟨rfl, rfl, rfl⟩
 · refine ⟨?_, rfl, rfl⟩
   obtain ⟨hr, hcap⟩ := hr
   unfold rowAt xM at hr
   unfold rowOf
   dsimp only
   cases hg : zU h b <;> rw [hg] at hi <;> first | (cases hi; done) | skip
   rename_i c kn z' kd'
   injection hi with hi
   injection hi with h1 h2
   subst h1
   rw [hg] at hr
   dsimp only
   have e1 : Nat.mul len sz = vs.length := hl.symm
   have e : (Nat.ble len len && Nat.ble (Nat.add off (Nat.mul len sz)) kn) = true := by
    rw [e1, vE (Nat.le_refl _), vE (show Nat.add off vs.length ≤ kn from hm)]; rfl
   rw [e, e1]
   show some (c.toListFrom undef off vs.length) = some vs
   rw [toList_row (n := kn) hr]
section
variable {P : Program}
theorem appended_of {sz n : Nat} {h : zD} {e : TypeId} {xd : TypeDesc} (hne : ∀ k, xd ≠ .int k) {x : Value} {m : Nat} {new : List Value} (r : Row n h x e sz m new) : uF P h e sz xd x = some (m, new) := by
 obtain ⟨r1, r2, r3⟩ := row_of r
 unfold uF
 split
 · rename_i k; exact absurd rfl (hne k)
 · rw [r2]; dsimp only; rw [r3, r1]; rfl
theorem append_own0 {sT xT e sz lo n len m : Nat} {h : zD} {v x : Value} {vs new : List Value} {K : KH} (hT : apTB P sT xT e sz = true) (ho : Own lo n h v e sz len vs) (hlo : lo ≤ n) (hap0 : ∀ xd, (∀ k, xd ≠ .int k) → uF P h e sz xd x = some (m, new)) (hnew : new.length = m * sz) (h1 : ∀ y ∈ new, y.oneCell' = true)
 (hlim : len + m < 1000000) (hK : ∀ v' h' n', Own lo n' h' v' e sz (len + m) (vs ++ new) → n ≤ n' → (∀ b, b < n → wB v ≠ some b → zU h' b = zU h b) → K h' n' v' = true) : wE P [sT, xT] [v, x] h n K = true := by
 obtain ⟨xd, ei, z, t1, t2, t3, t4, t5, t6, t7, t8, t9⟩ := apTB_of hT
 have hap : uF P h e ei.size xd x = some (m, new) := by rw [t6]; exact hap0 _ t3
 unfold wE xappend
 obtain ⟨base, cap, hv⟩ : ∃ base cap, v = .slice base len cap := by
  rcases ho with ⟨rfl, rfl, rfl⟩ | ⟨b, _, _, rfl, _⟩
  · exact ⟨_, _, rfl⟩
  · exact ⟨_, _, rfl⟩
 subst hv
 dsimp only
 rw [t1, t2]
 dsimp only
 rw [t4, t5]
 dsimp only
 rw [hap]
 dsimp only
 have c1 : (Nat.beq ei.size 0 || !Nat.beq (cellsOf z).length ei.size || !Nat.blt (Nat.add len m) 1000000 || !Nat.blt ei.bytes 100000) = false := by
  have a1 : Nat.beq ei.size 0 = false := by
   cases e9 : Nat.beq ei.size 0 with
   | false => rfl
   | true => have := zX e9; omega
  have a2 : Nat.beq (cellsOf z).length ei.size = true := by rw [t7, t6]; exact Nat.beq_refl _
  rw [a1, a2, rK (show Nat.add len m < 1000000 from hlim), rK t9]; rfl
 rw [c1]
 show cond (Nat.beq m 0 && !Nat.beq cap 0 && (Nat.beq cap inf || Nat.ble len cap)) _ _ = true
 by_cases hm : m = 0
 · subst hm
   have hn0 : new = [] := List.length_eq_zero_iff.1 (by simpa using hnew)
   subst hn0
   rcases ho with ⟨hv, rfl, rfl⟩ | ⟨b, q1, q2, hv, q3, q4, q5, q6⟩
   · injection hv with hv1 _ hv2
     subst hv1 hv2
     show K h n (.slice none 0 0) = true
     exact hK _ _ _ (.inl ⟨rfl, rfl, rfl⟩) (Nat.le_refl _) fun _ _ _ => rfl
   · injection hv with hv1 _ hv2
     subst hv1 hv2
     show K h n (.slice (some ⟨b, 0, none⟩) len inf) = true
     refine hK _ _ _ (.inr ⟨b, q1, q2, rfl, ?_⟩) (Nat.le_refl _) fun _ _ _ => rfl
     rw [List.append_nil]; exact ⟨q3, q4, q5, q6⟩
 · have hm0 : Nat.beq m 0 = false := by
    cases e9 : Nat.beq m 0 with
    | false => rfl
    | true => exact absurd (zX e9) hm
   rw [hm0]
   show cond (Nat.beq cap inf) _ _ = true
   rcases ho with ⟨hv, rfl, rfl⟩ | ⟨b, q1, q2, hv, q3, q4, q5, q6⟩
   · injection hv with hv1 _ hv2
     subst hv1 hv2
     have hb0 : Nat.beq 0 inf = false := by decide
     rw [hb0]
     dsimp only [cond_false]
     unfold growEx
     have b1 : Nat.ble (Nat.add 0 m) 0 = false := by
      cases e9 : Nat.ble (Nat.add 0 m) 0 with
      | false => rfl
      | true =>
       have h9 : Nat.add 0 m ≤ 0 := uN e9
       have h10 : 0 + m ≤ 0 := h9
       omega
     rw [b1]
     show vW .leaf 0 ([] ++ new) _ = true
     refine tT h1 ?_
     rw [yQ]
     have hne : Nat.mul (Nat.add 0 m) ei.size = new.length := by
      have : Nat.add 0 m = m := Nat.zero_add m
      rw [this, t6]; exact hnew.symm
     rw [hne, t6]
     have hz : Nat.add 0 m = m := Nat.zero_add m
     rw [hz]
     have hpos : 0 < m := by omega
     refine hK _ _ _ (.inr ⟨n, hlo, Nat.lt_succ_self n, by rw [Nat.zero_add], ?_, ?_, by omega, fun i => ?_⟩) (Nat.le_succ n) fun b hb _ => ?_
     · rw [zK, if_pos rfl]; rfl
     · simpa using hnew
     · unfold xM
       rw [zK, if_pos rfl]
       exact uV new (zc e sz) 1 i
     · rw [zK, if_neg (by omega)]
   · injection hv with hv1 _ hv2
     subst hv1 hv2
     have hb1 : Nat.beq inf inf = true := Nat.beq_refl inf
     rw [hb1]
     show growOpen h n b len m ei.size (zc e ei.size) new (fun v h n => K h n v) = true
     unfold growOpen
     cases hg : zU h b <;> rw [hg] at q3 <;> first | (cases q3; done) | skip
     rename_i c kn z' kd'
     have q3' : some (kn, z', kd') = some (vs.length, zc e sz, 1) := q3
     simp only [Option.some.injEq, Prod.mk.injEq] at q3'
     obtain ⟨rfl, rfl, rfl⟩ := q3'
     show cond (Nat.beq (zc e sz) (zc e ei.size)) _ _ = true
     have e5 : Nat.beq (zc e sz) (zc e ei.size) = true := by rw [t6]; exact Nat.beq_refl _
     rw [e5]
     have hml : Nat.mul len ei.size = vs.length := by rw [t6]; exact q4.symm
     have e6 : Nat.ble (Nat.mul (Nat.add len m) ei.size) vs.length = false := by
      cases e9 : Nat.ble (Nat.mul (Nat.add len m) ei.size) vs.length with
      | false => rfl
      | true =>
       have h9 : (len + m) * ei.size ≤ vs.length := uN e9
       rw [t6, q4, Nat.add_mul] at h9
       have : 0 < m * sz := Nat.mul_pos (by omega) t8
       omega
     rw [e6, hml, vE (Nat.le_refl _)]
     show vW c vs.length new _ = true
     refine tT h1 ?_
     rw [Tr.setK_eq, yQ]
     have hmm : Nat.mul (Nat.add len m) ei.size = (vs ++ new).length := by
      rw [t6, List.length_append, q4, hnew]; exact Nat.add_mul len m sz
     rw [hmm]
     refine hK _ _ _ (.inr ⟨n, hlo, Nat.lt_succ_self n, rfl, ?_, ?_, by omega, fun i => ?_⟩) (Nat.le_succ n) fun b' hb hne => ?_
     · rw [zK, if_pos rfl]; rfl
     · rw [List.length_append, q4, hnew, Nat.add_mul]
     · unfold xM
       rw [zK, if_pos rfl]
       unfold rJ
       dsimp only
       have q6' := q6 i
       unfold xM at q6'
       rw [hg] at q6'
       unfold rJ at q6'
       dsimp only at q6'
       by_cases hi : i < vs.length
       · rw [if_pos hi] at q6'
         rw [if_pos (by rw [List.length_append]; omega), Tr.get_ofListFrom, if_neg (by omega), q6', List.getElem?_append_left hi]
       · rw [List.getElem?_append_right (by omega)]
         by_cases hi2 : i < (vs ++ new).length
         · rw [List.length_append] at hi2
           rw [if_pos (by rw [List.length_append]; omega), Tr.get_ofListFrom, if_pos (by omega)]
           simp [List.getElem?_eq_getElem (show i - vs.length < new.length by omega), List.getD_eq_getElem?_getD]
         · rw [List.length_append] at hi2
           rw [if_neg (by rw [List.length_append]; omega), List.getElem?_eq_none (by omega)]
     · have hbb : b ≠ b' := fun e => hne (by rw [e]; rfl)
       rw [zK, if_neg (by omega), zK, if_neg hbb]
theorem pG {sT xT e sz lo n len m : Nat} {h : zD} {v x : Value} {vs new : List Value} {K : KH} (hT : apTB P sT xT e sz = true) (ho : Own lo n h v e sz len vs) (hlo : lo ≤ n) (hr : Row n h x e sz m new) (hnew : new.length = m * sz) (h1 : ∀ y ∈ new, y.oneCell' = true)
 (hlim : len + m < 1000000) (hK : ∀ v' h' n', Own lo n' h' v' e sz (len + m) (vs ++ new) → n ≤ n' → (∀ b, b < n → wB v ≠ some b → zU h' b = zU h b) → K h' n' v' = true) : wE P [sT, xT] [v, x] h n K = true :=
 append_own0 hT ho hlo (fun _ hne => appended_of hne hr) hnew h1 hlim hK
theorem append_text {sT xT e lo n len : Nat} {h : zD} {v : Value} {vs : List Value} {l : List UInt8} {K : KH} (hT : apTB P sT xT e 1 = true) (ho : Own lo n h v e 1 len vs) (hlo : lo ≤ n)
 (hlim : len + l.length < 1000000) (hK : ∀ v' h' n', Own lo n' h' v' e 1 (len + l.length) (vs ++ l.map fun b => Value.int .u8 (b.toNat : Nat)) → n ≤ n' → (∀ b, b < n → wB v ≠ some b → zU h' b = zU h b) → K h' n' v' = true) : wE P [sT, xT] [v, .string ⟨⟨l⟩⟩] h n K = true := by
 refine append_own0 hT ho hlo (fun xd hne => ?_) (by simp) (fun y hy => ?_) hlim hK
 · unfold uF
   split
   · rename_i k; exact absurd rfl (hne k)
   · have e1 : lenV (.string ⟨⟨l⟩⟩) = some l.length := rfl
     have e2 : rowOf h 1 l.length (.string ⟨⟨l⟩⟩) = some (l.map fun b => Value.int .u8 (b.toNat : Nat)) := by
      show some ((l.take l.length).map fun b => Value.int .u8 (.ofNat b.toNat)) = _
      rw [List.take_length]; rfl
     have e3 : strFits 1 (.string ⟨⟨l⟩⟩) = true := rfl
     rw [e1]; dsimp only; rw [e3, e2]; rfl
 · obtain ⟨b, _, rfl⟩ := List.mem_map.1 hy
   rfl
theorem Own.row {lo n : Nat} {h : zD} {v : Value} {e sz len : Nat} {vs : List Value} (o : Own lo n h v e sz len vs) (hsz : 1 ≤ sz) : Row n h v e sz len vs := by
 rcases o with ⟨rfl, rfl, rfl⟩ | ⟨b, q1, q2, rfl, q3, q4, q5, q6⟩
 · exact .inl ⟨rfl, rfl, rfl⟩
 · exact .inr ⟨b, 0, inf, vs.length, zc e sz, 1, q2, rfl, q4, q3, by omega, fun j v e => by rw [q6, Nat.zero_add]; exact e, .inr ⟨rfl, rfl, rfl, hsz⟩⟩
theorem Row.ext {n : Nat} {h : zD} {v : Value} {e sz len : Nat} {vs : List Value} (r : Row n h v e sz len vs) {h' : zD} {n' : Nat} (ex : Ext h n h' n') : Row n' h' v e sz len vs := by
 rcases r with ⟨rfl, rfl, rfl⟩ | ⟨b, off, cap, m, z, kd, hb, rfl, hl, hi, hm, hr, hc⟩
 · exact .inl ⟨rfl, rfl, rfl⟩
 · exact .inr ⟨b, off, cap, m, z, kd, Nat.lt_of_lt_of_le hb ex.1, rfl, hl, by rw [ex.2 b hb]; exact hi, hm, ex.row hb hr, hc⟩
theorem Row.elem {n : Nat} {h : zD} {v : Value} {e sz len : Nat} {vs : List Value} (r : Row n h v e sz len vs) {i : Nat} (hi : i < len) : ∃ b off cap, v = .slice (some ⟨b, off, none⟩) len cap ∧ b < n ∧ rowAt h b (off + i * sz) ((vs.drop (i * sz)).take sz) ∧ ((vs.drop (i * sz)).take sz).length = sz := by
 rcases r with ⟨rfl, rfl, rfl⟩ | ⟨b, off, cap, m, z, kd, hb, rfl, hl, hi2, hm, hr, hc⟩
 · omega
 · refine ⟨b, off, cap, rfl, hb, fun j v e => ?_, ?_⟩
   · rw [List.getElem?_take] at e
     split at e
     · rw [List.getElem?_drop] at e
       have := hr _ v e
       rw [← this]; congr 1; omega
     · cases e
   · rw [List.length_take, List.length_drop, hl]
     have : i * sz + sz ≤ len * sz := by rw [← Nat.succ_mul]; exact Nat.mul_le_mul_right _ hi
     omega
theorem slice_from {n : Nat} {h : zD} {v : Value} {e sz len : Nat} {vs : List Value} {ty : TypeId} {ei : TypeInfo} (hu : und P ty = some (.slice e)) (hi : inf? P e = some ei) (hs : ei.size = sz) (r : Row n h v e sz len vs) {k : IntKind} {i : Nat} (hle : i ≤ len) :
 ∃ v', uW P h ty v (some (.int k (i : Nat))) none none = some v' ∧ Row n h v' e sz (len - i) (vs.drop (i * sz)) ∧ (wB v' = wB v) := by
 rcases r with ⟨rfl, rfl, rfl⟩ | ⟨b, off, cap, m, z, kd, hb, rfl, hl, hi2, hm, hr, hc⟩
 · obtain rfl : i = 0 := by omega
   refine ⟨.slice none 0 0, ?_, .inl ⟨rfl, rfl, by simp⟩, rfl⟩
   unfold uW
   rw [hu]
   dsimp only
   rw [hi]
   rfl
 · have hdl : (vs.drop (i * sz)).length = (len - i) * sz := by rw [List.length_drop, hl, Nat.sub_mul]
   have hrd : ∀ off', off' = off + i * sz → rowAt h b off' (vs.drop (i * sz)) := fun off' e j v hj => by
    subst e
    rw [List.getElem?_drop] at hj
    have := hr _ v hj
    rw [← this]; congr 1; omega
   have hle2 : i * sz ≤ len * sz := Nat.mul_le_mul_right _ hle
   rcases hc with ⟨hc1, hc2⟩ | ⟨rfl, rfl, rfl, hsz⟩
   · have hci : Nat.beq cap inf = false := by
      cases e9 : Nat.beq cap inf with
      | false => rfl
      | true => have := zX e9; omega
     have b1 : wC 0 len (some (.int k (i : Nat))) = some i := by
      show (cond (Nat.ble i len) (some i) none : Option Nat) = some i
      rw [vE hle]; rfl
     have main : uW P h ty (.slice (some ⟨b, off, none⟩) len cap) (some (.int k (i : Nat))) none none = some (Value.slice (some (cond (Nat.beq cap i) ⟨b, off, none⟩ (far ⟨b, off, none⟩ (Nat.mul i sz)))) (Nat.sub len i) (Nat.sub cap i)) := by
      unfold uW
      rw [hu]
      dsimp only
      rw [hi]
      dsimp only
      rw [hci]
      show aSliceEx ⟨b, off, none⟩ len cap ei.size (some (.int k (i : Nat))) none none = _
      unfold aSliceEx
      show ((match wC len cap none with
       | none => none
       | some h => match wC 0 h (some (.int k (i : Nat))) with
        | none => none
        | some l => cond (Nat.blt cap inf && Nat.ble h cap) (some (Value.slice (some (cond (Nat.beq cap l) ⟨b, off, none⟩ (far ⟨b, off, none⟩ (Nat.mul l ei.size)))) (Nat.sub h l) (Nat.sub cap l))) none) : Option Value) = _
      show ((match wC 0 len (some (.int k (i : Nat))) with
       | none => none
       | some l => cond (Nat.blt cap inf && Nat.ble len cap) (some (Value.slice (some (cond (Nat.beq cap l) ⟨b, off, none⟩ (far ⟨b, off, none⟩ (Nat.mul l ei.size)))) (Nat.sub len l) (Nat.sub cap l))) none) : Option Value) = _
      rw [b1]
      dsimp only
      rw [rK hc1, vE hc2, hs]
      rfl
     refine ⟨_, main, ?_, ?_⟩
     · cases e9 : Nat.beq cap i with
       | true =>
        have := zX e9
        obtain rfl : i = len := by omega
        refine .inr ⟨b, off, Nat.sub cap i, m, z, kd, hb, rfl, hdl, hi2, ?_, fun j v hj => ?_, .inl ⟨?_, ?_⟩⟩
        · rw [hdl]; have : i - i = 0 := Nat.sub_self i; rw [this]; omega
        · have : (vs.drop (i * sz)).length = 0 := by rw [hdl, Nat.sub_self, Nat.zero_mul]
          rw [List.length_eq_zero_iff.1 this] at hj; simp at hj
        · show cap - i < inf; omega
        · show i - i ≤ cap - i; omega
       | false =>
        refine .inr ⟨b, off + i * sz, Nat.sub cap i, m, z, kd, hb, rfl, hdl, hi2, ?_, hrd _ rfl, .inl ⟨?_, ?_⟩⟩
        · rw [hdl, Nat.sub_mul]; omega
        · show cap - i < inf; omega
        · show len - i ≤ cap - i; omega
     · cases Nat.beq cap i <;> rfl
   · have b1 : wC 0 len (some (.int k (i : Nat))) = some i := by
      show (cond (Nat.ble i len) (some i) none : Option Nat) = some i
      rw [vE hle]; rfl
     have hci : Nat.beq inf inf = true := Nat.beq_refl _
     have main : uW P h ty (.slice (some ⟨b, off, none⟩) len inf) (some (.int k (i : Nat))) none none = some (Value.slice (some (far ⟨b, off, none⟩ (Nat.mul i sz))) (Nat.sub len i) inf) := by
      unfold uW
      rw [hu]
      dsimp only
      rw [hi]
      dsimp only
      rw [hci]
      cases hg : zU h b <;> rw [hg] at hi2 <;> first | (cases hi2; done) | skip
      rename_i c kn z' kd'
      have q3' : some (kn, z', kd') = some (m, zc e sz, 1) := hi2
      simp only [Option.some.injEq, Prod.mk.injEq] at q3'
      obtain ⟨rfl, rfl, rfl⟩ := q3'
      show cond (Nat.beq (zc e sz) (zc e ei.size) && Nat.ble 1 ei.size) (aSliceOp ⟨b, off, none⟩ len ei.size (some (.int k (i : Nat))) none none) none = _
      rw [hs, Nat.beq_refl, vE hsz]
      show ((match wC 0 len (some (.int k (i : Nat))) with
       | none => none
       | some l => some (Value.slice (some (far ⟨b, off, none⟩ (Nat.mul l sz))) (Nat.sub len l) inf)) : Option Value) = _
      rw [b1]
     refine ⟨_, main, .inr ⟨b, off + i * sz, inf, m, zc e sz, 1, hb, rfl, hdl, hi2, ?_, hrd _ rfl, .inr ⟨rfl, rfl, rfl, hsz⟩⟩, rfl⟩
     rw [hdl, Nat.sub_mul]; omega
end
def TabsH (tabs : List (Nat × List Value)) (h : zD) : Prop := ∀ p ∈ tabs, (∃ z, tS (zU h p.1) = some (p.2.length, z, 2)) ∧ ∀ i, xM h p.1 i = p.2[i]?
noncomputable def hasB (P : Program) (f : FuncId) : Bool := match P.funcs[f]? with
 | some fn => match fn.body with
  | some _ => !(fn.name == "runtime.NumGoroutine")
  | none => false
 | none => false
section
variable {P : Program} {ng : Nat}
theorem hasB_of {f : FuncId} (h : hasB P f = true) : ∃ fn body, P.funcs[f]? = some fn ∧ fn.body = some body ∧ (fn.name == "runtime.NumGoroutine") = false := by
 unfold hasB at h
 split at h
 · rename_i fn e
   split at h
   · rename_i body e2
     exact ⟨fn, body, e, e2, by simpa using h⟩
   · cases h
 · cases h
theorem scal_one {ρ : Inj} {v v' : Value} (hv : uB v = true) (r : RV ρ v v') : v' = v := by
 cases r <;> first | (cases hv; done) | rfl
theorem TabsH.world {tabs : List (Nat × List Value)} {h : zD} {n : Nat} {ρ : Inj} {base : Nat} {w0 wd : World} (t : TabsH tabs h) (hg : ∀ p ∈ tabs, p.1 < ng ∧ p.2.all uB = true) (r : HeapR P ng ρ base w0 h n wd) : TabsIn wd tabs := by
 intro p hp
 obtain ⟨⟨z, h1⟩, h2⟩ := t p hp
 obtain ⟨g1, g2⟩ := hg p hp
 obtain ⟨B, e1, e2⟩ := r.glob p.1 g1
 have hl : zU h p.1 ≠ .dead := fun e => by rw [e] at h1; cases h1
 obtain ⟨o, q1, q2⟩ := r.obj p.1 B e1 hl
 unfold xM at h2
 cases ho : zU h p.1 <;> rw [ho] at h1 <;> first | (cases h1; done) | skip
 rename_i c k z' kd
 have h1' : some (k, z', kd) = some (p.2.length, z, 2) := h1
 simp only [Option.some.injEq, Prod.mk.injEq] at h1'
 obtain ⟨rfl, rfl, rfl⟩ := h1'
 rw [ho] at q2 h2
 cases q2 with
 | cells hn hs hk hz hv hb hf =>
  rename_i c' el lo hi
  rw [e2] at q1
  have hsz : c'.size = p.2.length := by rw [hs]; exact (hk (by omega)).symm
  have : c' = ⟨p.2⟩ := by
   apply Array.ext
   · simpa using hsz
   · intro i i1 i2
     have i3 : i < p.2.length := by omega
     have r1 := hv i c'[i] i3 (Array.getElem?_eq_getElem i1)
     have r2 := h2 i
     unfold rJ at r2
     dsimp only at r2
     rw [if_pos i3, List.getElem?_eq_getElem i3] at r2
     injection r2 with r2
     rw [r2] at r1
     have := scal_one (List.all_eq_true.1 g2 _ (List.getElem_mem i3)) r1
     rw [this]; rfl
  rw [this] at q1
  exact ⟨el, (lo, hi), q1⟩
theorem scals_same {ρ : Inj} {args args' : List Value} (ha : args.all uB = true) (r : RVs ρ args args') : args' = args := by
 apply List.ext_getElem?
 intro i
 cases e : args[i]? with
 | none => exact List.getElem?_eq_none (by rw [← r.1]; exact List.getElem?_eq_none_iff.1 e)
 | some x =>
  obtain ⟨x', e1, e2⟩ := r.at e
  rw [e1, scal_one (List.all_eq_true.1 ha x (List.mem_iff_getElem?.2 ⟨i, e⟩)) e2]
theorem RV.scal_refl {ρ : Inj} {v : Value} (hv : uB v = true) : RV ρ v v := by
 cases v <;> first | (cases hv; done) | skip
 · exact .bool _
 · exact .int _ _
 · exact .string _
 · exact .nilFunc
 · exact .nilIface
def isRes (v : Value) : Bool := match v with
 | .tuple l => l.toList.all uB
 | v => uB v
theorem RV.res_refl {ρ : Inj} {v : Value} (hv : isRes v = true) : RV ρ v v := by
 cases v <;> first | (cases hv; done) | skip
 · exact .bool _
 · exact .int _ _
 · exact .string _
 · exact .nilFunc
 · exact .nilIface
 · rename_i l
   refine .tuple rfl fun i w w' a b => ?_
   rw [a] at b; injection b with b; subst b
   exact RV.scal_refl (List.all_eq_true.1 hv w (List.mem_iff_getElem?.2 ⟨i, a⟩))
theorem rN {f : FuncId} {args : List Value} {h : zD} {n : Nat} {v : Value} {tabs : List (Nat × List Value)} (hf : hasB P f = true) (ha : args.all uB = true) (hv : isRes v = true) (ht : TabsH tabs h) (hg : ∀ p ∈ tabs, p.1 < ng ∧ p.2.all uB = true)
 (H : ∀ wd : World, TabsIn wd tabs → Calls P f ⟨args⟩ wd fun e w' => e = .returned v ∧ Go.RowKit.Below wd.heap.size wd w') : Pure P ng f args h n v := by
 intro u k hk
 refine loS_call.2 ⟨.ret v, u, h, n, hk _ _ _ ⟨rfl, rfl, rfl⟩, hasB_of hf, fun ρ base w0 wd args' cs hH hra hu => ?_⟩
 obtain rfl := scals_same ha hra
 obtain ⟨e, w', fr, ⟨rfl, hb⟩, hc, hfn, hl⟩ := H wd (ht.world hg hH) cs
 obtain ⟨k1, k2⟩ := hH.stay hb
 obtain ⟨y1, y2, y3, y4⟩ := hl
 exact ⟨ρ, w', fr, cs, hc, k1, k2, CsTo.refl _ _, (fun e => Bool.noConfusion e), hfn, v, y1, y2, y3, y4, RV.res_refl hv⟩
theorem row_of_calls {f : FuncId} {args : List Value} {h : zD} {n len cap : Nat} {cs : List Value} {el : TypeId} {tabs : List (Nat × List Value)} (hf : hasB P f = true) (ha : args.all uB = true) (hc : cs.all uB = true) (hlen : len ≤ cap) (hcap : cap ≠ inf)
 (ht : TabsH tabs h) (hg : ∀ p ∈ tabs, p.1 < ng ∧ p.2.all uB = true)
 (H : ∀ wd : World, TabsIn wd tabs → Calls P f ⟨args⟩ wd fun e w' => e = .returned (.slice (some ⟨wd.heap.size, 0, none⟩) len cap) ∧ w' = wd.alloc (.cells ⟨cs⟩ el)) :
 Rets P ng f args h n fun v' h' n' => v' = .slice (some ⟨n, 0, none⟩) len cap ∧ h' = h.set .dead (mkC cs 0 0) n ∧ n' = n + 1 := by
 intro u k hk
 refine loS_call.2 ⟨_, u, _, _, hk _ _ _ ⟨rfl, rfl, rfl⟩, hasB_of hf, fun ρ base w0 wd args' cs' hH hra hu => ?_⟩
 obtain rfl := scals_same ha hra
 obtain ⟨e, w', fr, ⟨rfl, rfl⟩, hcm, hfn, hl⟩ := H wd (ht.world hg hH) cs'
 have hrow : RVs ρ cs (⟨cs⟩ : Array Value).toList := ⟨rfl, fun i v v' a b => by
  have b' : cs[i]? = some v' := b
  rw [a] at b'; injection b' with b'; subst b'
  exact RV.scal_refl (List.all_eq_true.1 hc v (List.mem_iff_getElem?.2 ⟨i, a⟩))⟩
 obtain ⟨k1, k2⟩ := hH.alloc (mkC cs 0 0) (.cells ⟨cs⟩ el) ⟨wd.heap.size, cs.length, 0⟩ rfl (hH.newRow (cs := cs) (cs' := ⟨cs⟩) hrow el)
 obtain ⟨y1, y2, y3, y4⟩ := hl
 refine ⟨_, _, fr, cs', hcm, k1, k2, CsTo.refl _ _, (fun e => Bool.noConfusion e), hfn, _, y1, y2, y3, y4, ?_⟩
 exact .slice (B := ⟨wd.heap.size, cs.length, 0⟩) (by show (if n = n then _ else _) = _; rw [if_pos rfl]) hcap hlen (.inl rfl)
end
abbrev str (l : List UInt8) : Value := .string ⟨⟨l⟩⟩
section
variable {P : Program} {ng : Nat}
theorem yJ {ty : TypeId} {q : Bool} {a b : List UInt8} {K : Value → Bool} (h : a.length + b.length < 1000000) (hK : K (str (a ++ b)) = true) : wD tH P .add ty q (str a) (str b) K = true := by
 show opt (cond (Nat.blt (Nat.add a.length b.length) 1000000) (some (Value.string ⟨⟨a ++ b⟩⟩)) none) K = true
 rw [rK (show Nat.add a.length b.length < 1000000 from h)]
 exact hK
theorem slice_str {ty : TypeId} (hu : und P ty = some .string) {h : zD} {l : List UInt8} {k k' : IntKind} {i j : Nat} (hj : j ≤ l.length) (hi : i ≤ j) :
 uW P h ty (str l) (some (.int k (i : Nat))) (some (.int k' (j : Nat))) none = some (str ((l.drop i).take (j - i))) := by
 have b1 : wC l.length l.length (some (.int k' (j : Nat))) = some j := by
  show (cond (Nat.ble j l.length) (some j) none : Option Nat) = some j
  rw [vE hj]; rfl
 have b2 : wC 0 j (some (.int k (i : Nat))) = some i := by
  show (cond (Nat.ble i j) (some i) none : Option Nat) = some i
  rw [vE hi]; rfl
 unfold uW
 rw [hu]
 show (match wC l.length l.length (some (Value.int k' (j : Nat))) with
  | none => none
  | some h => match wC 0 h (some (Value.int k (i : Nat))) with
   | none => none
   | some l' => some (Value.string ⟨⟨(l.drop l').take (Nat.sub h l')⟩⟩) : Option Value) = _
 rw [b1]; dsimp only; rw [b2]; rfl
theorem len_strL {ty : TypeId} (hu : und P ty = some .string) (l : List UInt8) (r : List Value) (h : zD) : yL P .len [ty] (str l :: r) h = some (.int .i64 (l.length : Nat)) := len_str hu _ r h
theorem index_strL {ty : TypeId} (hu : und P ty = some .string) (l : List UInt8) (k : IntKind) (i : Nat) (b : UInt8) (hb : l[i]? = some b) : qX P ty (str l) (.int k (i : Nat)) = some (.int .u8 (b.toNat : Nat)) := index_str hu _ k i b hb
theorem vB (f : Int → Int → Bool) (ty : TypeId) (q : Bool) (a b : List UInt8) (K : Bool → Bool) : yB f P .eql ty q (str a) (str b) K = K (a == b) := cmpS_eq f P ty q _ _ K
theorem cmpSL_ne (f : Int → Int → Bool) (ty : TypeId) (q : Bool) (a b : List UInt8) (K : Bool → Bool) : yB f P .neq ty q (str a) (str b) K = K (!(a == b)) := cmpS_ne f P ty q _ _ K
theorem xL {ty e : TypeId} (hu : und P ty = some (.slice e)) {n : Nat} {h : zD} {v : Value} {el sz len : Nat} {vs : List Value} (r : Row n h v el sz len vs) (l : List Value) (h' : zD) : yL P .len [ty] (v :: l) h' = some (.int .i64 (len : Nat)) := by
 rcases r with ⟨rfl, rfl, rfl⟩ | ⟨b, off, cap, m, z, kd, hb, rfl, _⟩
 · exact len_sl hu _ _ _ _ _
 · exact len_sl hu _ _ _ _ _
theorem xX {ty tl : TypeId} {n : Nat} {h : zD} {v : Value} {el len : Nat} {vs : List Value} (r : Row n h v el 1 len vs) (hx : ixOf P ty = .slice 1) (hs : yG P tl = .scal) {k : IntKind} {i : Nat} {x : Value} (hi : vs[i]? = some x) :
 ∃ p, zT P ty v (.int k (i : Nat)) = some p ∧ zF P tl h p = some x := by
 rcases r with ⟨rfl, rfl, rfl⟩ | ⟨b, off, cap, m, z, kd, hb, rfl, hl, hi2, hm, hr, hc⟩
 · simp at hi
 · have hlt : i < len := by
    have := (List.getElem?_eq_some_iff.1 hi).1; omega
   refine ⟨_, index_sl hx hlt, load_scal hs ?_⟩
   rw [Nat.mul_one]; exact hr i x hi
theorem tE {ty tl : TypeId} {n : Nat} {h : zD} {v : Value} {el sz len : Nat} {vs : List Value} (r : Row n h v el sz len vs) (hx : ixOf P ty = .slice sz) (hs : yG P tl = .agg sz) (hsz : 0 < sz) {k : IntKind} {i : Nat} (hi : i < len) :
 ∃ p, zT P ty v (.int k (i : Nat)) = some p ∧ zF P tl h p = some (.agg ⟨(vs.drop (i * sz)).take sz⟩) := by
 obtain ⟨b, off, cap, rfl, hb, hr, hl⟩ := r.elem hi
 exact ⟨_, index_sl hx hi, load_agg hs hl hsz hr⟩
theorem opt_of {α : Type} {q : Option α} {x : α} {K : α → Bool} (h : q = some x) (hK : K x = true) : opt q K = true := by rw [h]; exact hK
end
section
variable {P : Program} {ng : Nat}
theorem Row.world {n : Nat} {h : zD} {v v' : Value} {el len : Nat} {vs : List Value} {ρ : Inj} {base : Nat} {w0 wd : World} (r : Row n h v el 1 len vs) (hs : vs.all uB = true) (hH : HeapR P ng ρ base w0 h n wd) (hv : RV ρ v v') :
 (len = 0 ∧ ∃ a c, v' = .slice a 0 c) ∨ (∃ bk o c, v' = .slice (some ⟨bk, o, none⟩) len c ∧ len ≤ c ∧ bk < wd.heap.size ∧ ∀ (j : Nat) x, vs[j]? = some x → wd.cell? ⟨bk, o + j, none⟩ = some x) := by
 rcases r with ⟨rfl, rfl, rfl⟩ | ⟨b, off, cap, m, z, kd, hb, rfl, hl, hi, hm, hr, hc⟩
 · cases hv; exact .inl ⟨rfl, _, _, rfl⟩
 · rw [Nat.mul_one] at hl
   have hlive : zU h b ≠ .dead := fun e => by rw [e] at hi; cases hi
   have main : ∀ (B : Bl), ρ b = some B → B.b < wd.heap.size ∧ ∀ (j : Nat) x, vs[j]? = some x → wd.cell? ⟨B.b, off + j, none⟩ = some x := by
    intro B eB
    obtain ⟨o, q1, q2⟩ := hH.obj b B eB hlive
    have hsz : B.b < wd.heap.size := by
     rcases Nat.lt_or_ge B.b wd.heap.size with h1 | h1
     · exact h1
     · rw [Array.getElem?_eq_none h1] at q1; cases q1
    refine ⟨hsz, fun j x hj => ?_⟩
    have hcell := hr j x hj
    unfold xM at hcell
    cases ho : zU h b <;> rw [ho] at hcell <;> first | (cases hcell; done) | skip
    rename_i c kn z' kd'
    unfold rJ at hcell
    dsimp only at hcell
    rw [ho] at q2
    cases q2 with
    | cells hn hs' hk hz hv' hb' hf =>
     rename_i c' el lo hi'
     by_cases hlt : off + j < kn
     · rw [if_pos hlt] at hcell
       injection hcell with hcell
       have h2 : off + j < c'.size := by omega
       have rr := hv' (off + j) c'[off + j] hlt (Array.getElem?_eq_getElem h2)
       rw [hcell] at rr
       have e3 := scal_one (List.all_eq_true.1 hs x (List.mem_iff_getElem?.2 ⟨j, hj⟩)) rr
       unfold World.cell?
       dsimp only
       rw [q1]
       show c'[off + j]? = some x
       rw [Array.getElem?_eq_getElem h2, e3]
     · rw [if_neg hlt] at hcell; cases hcell
   cases hv with
   | slice e hc' hlc ho =>
    rename_i B o'
    obtain ⟨m1, m2⟩ := main B e
    rcases ho with rfl | h0
    · exact .inr ⟨B.b, o', cap, rfl, hlc, m1, m2⟩
    · exact .inl ⟨by omega, _, _, by rw [show len = 0 by omega]⟩
   | opened e hlc ho =>
    rename_i B o' c'
    obtain ⟨m1, m2⟩ := main B e
    rcases ho with ⟨rfl, _⟩ | ⟨h0, _⟩
    · exact .inr ⟨B.b, o', c', rfl, hlc, m1, m2⟩
    · exact .inl ⟨by omega, _, _, by rw [show len = 0 by omega]⟩
theorem pure_of_calls_row {f : FuncId} {sv : Value} {args : List Value} {h : zD} {n el len : Nat} {vs : List Value} {v : Value} {tabs : List (Nat × List Value)} (hf : hasB P f = true) (r : Row n h sv el 1 len vs) (hvs : vs.all uB = true) (ha : args.all uB = true) (hv : isRes v = true)
 (ht : TabsH tabs h) (hg : ∀ p ∈ tabs, p.1 < ng ∧ p.2.all uB = true)
 (H : ∀ (wd : World) (sv' : Value), TabsIn wd tabs → ((len = 0 ∧ ∃ a c, sv' = .slice a 0 c) ∨ (∃ bk o c, sv' = .slice (some ⟨bk, o, none⟩) len c ∧ len ≤ c ∧ bk < wd.heap.size ∧ ∀ (j : Nat) x, vs[j]? = some x → wd.cell? ⟨bk, o + j, none⟩ = some x)) →
  Calls P f ⟨sv' :: args⟩ wd fun e w' => e = .returned v ∧ Go.RowKit.Below wd.heap.size wd w') : Pure P ng f (sv :: args) h n v := by
 intro u k hk
 refine loS_call.2 ⟨.ret v, u, h, n, hk _ _ _ ⟨rfl, rfl, rfl⟩, hasB_of hf, fun ρ base w0 wd args' cs hH hra hu => ?_⟩
 obtain ⟨sv', r', rfl, hsv, hr'⟩ := hra.of_cons
 obtain rfl := scals_same ha hr'
 obtain ⟨e, w', fr, ⟨rfl, hb⟩, hc, hfn, hl⟩ := H wd sv' (ht.world hg hH) (r.world hvs hH hsv) cs
 obtain ⟨k1, k2⟩ := hH.stay hb
 obtain ⟨y1, y2, y3, y4⟩ := hl
 exact ⟨ρ, w', fr, cs, hc, k1, k2, CsTo.refl _ _, (fun e => Bool.noConfusion e), hfn, v, y1, y2, y3, y4, RV.res_refl hv⟩
end
def Bld (T : Nat) (h : zD) (b : Nat) (p sv : Value) : Prop := tS (zU h b) = some (2, T + 1, 0) ∧ xM h b 0 = some p ∧ xM h b 1 = some sv
structure OneTurned (w w' : World) (g : Nat) : Prop where
 os : w'.os = w.os
 tape : w'.tape = w.tape
 output : w'.output = w.output
 size : w'.heap.size = w.heap.size
 rest : ∀ c, c ≠ g → w'.heap[c]? = w.heap[c]?
section
variable {P : Program} {ng : Nat}
theorem Bld.world {T : Nat} {h : zD} {b n : Nat} {p sv : Value} {ρ : Inj} {base : Nat} {w0 wd : World} {B : Bl} (hB : Bld T h b p sv) (hH : HeapR P ng ρ base w0 h n wd) (e : ρ b = some B) :
 ∃ x y c, zU h b = .cells c 2 (T + 1) 0 ∧ Tr.get undef c 0 = p ∧ Tr.get undef c 1 = sv ∧ wd.heap[B.b]? = some (.cells #[x, y] T (0, 0)) ∧ RV ρ p x ∧ RV ρ sv y ∧ base ≤ B.b ∧ B.n = 2 := by
 obtain ⟨h1, h2, h3⟩ := hB
 have hlive : zU h b ≠ .dead := fun e => by rw [e] at h1; cases h1
 obtain ⟨o, q1, q2⟩ := hH.obj b B e hlive
 unfold xM at h2 h3
 cases ho : zU h b <;> rw [ho] at h1 <;> first | (cases h1; done) | skip
 rename_i c kn z kd
 have h1' : some (kn, z, kd) = some (2, T + 1, 0) := h1
 simp only [Option.some.injEq, Prod.mk.injEq] at h1'
 obtain ⟨rfl, rfl, rfl⟩ := h1'
 rw [ho] at q2 h2 h3
 have g0 : Tr.get undef c 0 = p := by have : some (Tr.get undef c 0) = some p := h2; injection this
 have g1 : Tr.get undef c 1 = sv := by have : some (Tr.get undef c 1) = some sv := h3; injection this
 cases q2 with
 | cells hn hs hk hz hv hb hf =>
  rename_i c' el lo hi
  obtain ⟨rfl, rfl⟩ := hf (by decide)
  have hel : T + 1 = el + 1 := hz.2 rfl (by omega)
  obtain rfl : T = el := by omega
  have hn2 := hk (by decide)
  have hsz : c'.size = 2 := by omega
  have e0 : c'[0]? = some (c'[0]'(by omega)) := Array.getElem?_eq_getElem (by omega)
  have e1 : c'[1]? = some (c'[1]'(by omega)) := Array.getElem?_eq_getElem (by omega)
  have r0 := hv 0 _ (by omega) e0
  have r1 := hv 1 _ (by omega) e1
  rw [g0] at r0
  rw [g1] at r1
  refine ⟨_, _, c, rfl, g0, g1, ?_, r0, r1, hb (by decide), hn2.symm⟩
  rw [q1]
  congr 2
  apply Array.ext
  · simp [hsz]
  · intro i i1 i2
    have : i = 0 ∨ i = 1 := by omega
    rcases this with rfl | rfl <;> rfl
theorem copyCheck_fresh {f : FuncId} {T b n : Nat} {h : zD} {sv : Value} (hf : hasB P f = true) (hB : Bld T h b (.pointer none) sv)
 (H : ∀ (wd : World) (c : Nat), wd.cell? ⟨c, 0, none⟩ = some (.pointer none) → wd.shape? c = some (T, 2) → wd.frozen? ⟨c, 0, none⟩ = false →
  Calls P f #[.pointer (some ⟨c, 0, none⟩)] wd fun e w' => e = .returned (.tuple #[]) ∧ w' = wd.setCell ⟨c, 0, none⟩ (.pointer (some ⟨c, 0, none⟩))) :
 Rets P ng f [.pointer (some ⟨b, 0, none⟩)] h n fun v h' n' => v = .tuple #[] ∧ h' = h.set .dead (stC (zU h b) 0 [.pointer (some ⟨b, 0, none⟩)]) b ∧ n' = n := by
 intro u k hk
 refine loS_call.2 ⟨_, u, _, _, hk _ _ _ ⟨rfl, rfl, rfl⟩, hasB_of hf, fun ρ base w0 wd args' cs hH hra hu => ?_⟩
 obtain ⟨v', r', rfl, hv, hr'⟩ := hra.of_cons
 obtain rfl := hr'.of_nil
 cases hv with
 | ptr e =>
  rename_i B
  obtain ⟨x, y, c, ho, g0, g1, q1, rx, ry, hbase, hBn⟩ := hB.world hH e
  cases rx
  have hc0 : wd.cell? ⟨B.b, 0, none⟩ = some (.pointer none) := by unfold World.cell?; dsimp only; rw [q1]; rfl
  have hsh : wd.shape? B.b = some (T, 2) := by unfold World.shape?; rw [q1]; rfl
  have hfz : wd.frozen? ⟨B.b, 0, none⟩ = false := by unfold World.frozen?; dsimp only; rw [q1]; rfl
  obtain ⟨e2, w', fr, ⟨rfl, rfl⟩, hcm, hfn, hl⟩ := H wd B.b hc0 hsh hfz cs
  obtain ⟨y1, y2, y3, y4⟩ := hl
  have hheap : (wd.setCell ⟨B.b, 0, none⟩ (.pointer (some ⟨B.b, 0, none⟩))).heap[B.b]? = some (.cells #[.pointer (some ⟨B.b, 0, none⟩), y] T (0, 0)) := by
   unfold World.setCell
   dsimp only
   rw [Array.getElem?_modify, if_pos rfl, q1]
   rfl
  obtain ⟨k1, k2⟩ := hH.turn e (by rw [ho]; exact AObj.noConfusion) (stC (zU h b) 0 [.pointer (some ⟨b, 0, none⟩)]) (.cells #[.pointer (some ⟨B.b, 0, none⟩), y] T (0, 0)) (wd.setCell ⟨B.b, 0, none⟩ (.pointer (some ⟨B.b, 0, none⟩))) hbase (by
   rw [ho]
   refine .cells (by omega) (by simp [hBn]) (fun _ => hBn.symm) ⟨fun h => absurd h (by decide), fun _ _ => rfl⟩ (fun i v' hi e3 => ?_) (fun _ => hbase) (fun _ => ⟨rfl, rfl⟩)
   rw [Tr.get_ofListFrom]
   have hi2 : i = 0 ∨ i = 1 := by omega
   rcases hi2 with rfl | rfl
   · rw [if_pos (by simp)]
     have e4 : some (Value.pointer (some ⟨B.b, 0, none⟩)) = some v' := e3
     injection e4 with e4; subst e4
     exact .ptr e
   · rw [if_neg (by simp), g1]
     have e4 : some y = some v' := e3
     injection e4 with e4; subst e4
     exact ry) hheap (by simp [World.setCell]) (fun c hc => by
   unfold World.setCell
   dsimp only
   rw [Array.getElem?_modify, if_neg (fun h => hc h.symm)]) rfl rfl rfl
  exact ⟨ρ, _, fr, cs, hcm, k1, k2, CsTo.refl _ _, (fun e => Bool.noConfusion e), hfn, _, y1, y2, y3, y4, RV.res_refl rfl⟩
theorem copyCheck_used {f : FuncId} {T b n : Nat} {h : zD} {sv : Value} (hf : hasB P f = true) (hB : Bld T h b (.pointer (some ⟨b, 0, none⟩)) sv)
 (H : ∀ (wd : World) (c : Nat), wd.cell? ⟨c, 0, none⟩ = some (.pointer (some ⟨c, 0, none⟩)) → Calls P f #[.pointer (some ⟨c, 0, none⟩)] wd fun e w' => e = .returned (.tuple #[]) ∧ w' = wd) :
 Rets P ng f [.pointer (some ⟨b, 0, none⟩)] h n fun v h' n' => v = .tuple #[] ∧ h' = h ∧ n' = n := by
 intro u k hk
 refine loS_call.2 ⟨_, u, _, _, hk _ _ _ ⟨rfl, rfl, rfl⟩, hasB_of hf, fun ρ base w0 wd args' cs hH hra hu => ?_⟩
 obtain ⟨v', r', rfl, hv, hr'⟩ := hra.of_cons
 obtain rfl := hr'.of_nil
 cases hv with
 | ptr e =>
  rename_i B
  obtain ⟨x, y, c, ho, g0, g1, q1, rx, ry, hbase, hBn⟩ := hB.world hH e
  cases rx with
  | ptr e' =>
   rename_i B'
   rw [e] at e'
   injection e' with e'
   subst e'
   have hc0 : wd.cell? ⟨B.b, 0, none⟩ = some (.pointer (some ⟨B.b, 0, none⟩)) := by unfold World.cell?; dsimp only; rw [q1]; rfl
   obtain ⟨e2, w', fr, ⟨rfl, rfl⟩, hcm, hfn, hl⟩ := H wd B.b hc0 cs
   obtain ⟨y1, y2, y3, y4⟩ := hl
   exact ⟨ρ, _, fr, cs, hcm, hH, Grow.refl _ _ _ _ hH.dom, CsTo.refl _ _, (fun e => Bool.noConfusion e), hfn, _, y1, y2, y3, y4, RV.res_refl rfl⟩
abbrev bytesV (l : List UInt8) : List Value := l.map fun b => Value.int .u8 (b.toNat : Nat)
theorem builder_String {f : FuncId} {T e8 b lo n : Nat} {h : zD} {p sv : Value} {l : List UInt8} (hf : hasB P f = true) (hB : Bld T h b p sv) (ho : Own lo n h sv e8 1 l.length (bytesV l)) (hne : wB sv ≠ some b) (hlen : l.length < 1000000)
 (H0 : ∀ (wd : World) (c : Nat) (x : Value), wd.heap[c]? = some (.cells #[x, .slice none 0 0] T (0, 0)) → Calls P f #[.pointer (some ⟨c, 0, none⟩)] wd fun e w' => e = .returned (.string ⟨#[]⟩) ∧ Go.RowKit.Below wd.heap.size wd w')
 (H : ∀ (wd : World) (c g cap : Nat) (x : Value) (cur : Array Value), l ≠ [] → wd.heap[c]? = some (.cells #[x, .slice (some ⟨g, 0, none⟩) l.length cap] T (0, 0)) → wd.heap[g]? = some (.cells cur e8 (0, 0)) → l.length ≤ cap → cap ≤ cur.size →
  (∀ (j : Nat) (y : UInt8), l[j]? = some y → cur[j]? = some (.int .u8 (y.toNat : Nat))) → Calls P f #[.pointer (some ⟨c, 0, none⟩)] wd fun e w' => e = .returned (.string ⟨⟨l⟩⟩) ∧ OneTurned wd w' g) :
 Rets P ng f [.pointer (some ⟨b, 0, none⟩)] h n fun v h' n' => v = str l ∧ n' = n ∧ (∀ b', wB sv ≠ some b' → zU h' b' = zU h b') := by
 intro u k hk
 rcases ho with ⟨rfl, h0, h1⟩ | ⟨b2, q1, q2, rfl, q3, q4, q5, q6⟩
 · have hl0 : l = [] := List.length_eq_zero_iff.1 h0
   subst hl0
   refine loS_call.2 ⟨_, u, _, _, hk _ _ _ ⟨rfl, rfl, fun _ _ => rfl⟩, hasB_of hf, fun ρ base w0 wd args' cs hH hra hu => ?_⟩
   obtain ⟨v', r', rfl, hv, hr'⟩ := hra.of_cons
   obtain rfl := hr'.of_nil
   cases hv with
   | ptr e =>
    rename_i B
    obtain ⟨x, y, c, ho, g0, g1, w1, rx, ry, hbase, hBn⟩ := hB.world hH e
    cases ry
    obtain ⟨e2, w', fr, ⟨rfl, hbl⟩, hcm, hfn, hl⟩ := H0 wd B.b x w1 cs
    obtain ⟨y1, y2, y3, y4⟩ := hl
    obtain ⟨k1, k2⟩ := hH.stay hbl
    exact ⟨ρ, _, fr, cs, hcm, k1, k2, CsTo.refl _ _, (fun e => Bool.noConfusion e), hfn, _, y1, y2, y3, y4, RV.res_refl rfl⟩
 · refine loS_call.2 ⟨.ret (str l), u, h.set .dead .dead b2, n, hk _ _ _ ⟨rfl, rfl, fun b' hb' => ?_⟩, hasB_of hf, fun ρ base w0 wd args' cs hH hra hu => ?_⟩
   · rw [zK, if_neg (fun e => hb' (by rw [e]; rfl))]
   · obtain ⟨v', r', rfl, hv, hr'⟩ := hra.of_cons
     obtain rfl := hr'.of_nil
     cases hv with
     | ptr e =>
      rename_i B
      obtain ⟨x, y, c, ho, g0, g1, w1, rx, ry, hbase, hBn⟩ := hB.world hH e
      have hlive : zU h b2 ≠ .dead := fun e => by rw [e] at q3; cases q3
      cases ry with
      | slice _ hc => exact absurd rfl hc
      | opened eg hl' hog =>
       rename_i G o' c'
       obtain ⟨o, z1, z2⟩ := hH.obj b2 G eg hlive
       unfold xM at q6
       cases hob : zU h b2 <;> rw [hob] at q3 <;> first | (cases q3; done) | skip
       rename_i cc kn z kd
       have h1' : some (kn, z, kd) = some ((bytesV l).length, zc e8 1, 1) := q3
       simp only [Option.some.injEq, Prod.mk.injEq] at h1'
       obtain ⟨rfl, rfl, rfl⟩ := h1'
       rw [hob] at z2 q6
       cases z2 with
       | cells hn hs hk' hz hv hb hf' =>
        rename_i cur el lo' hi'
        obtain ⟨rfl, rfl⟩ := hf' (by decide)
        obtain ⟨hel, hGz⟩ := zc_inj (hz.1 rfl)
        subst hel
        have hc' : o' = 0 ∧ 0 + c' * G.z = G.n := by
         rcases hog with h9 | ⟨_, h9⟩
         · exact h9
         · exact absurd h9 (Nat.lt_irrefl _)
        obtain ⟨rfl, hcn⟩ := hc'
        rw [← hGz] at hcn
        have hcur : ∀ (j : Nat) (y : UInt8), l[j]? = some y → cur[j]? = some (.int .u8 (y.toNat : Nat)) := by
         intro j y hj
         have hjl : j < l.length := (List.getElem?_eq_some_iff.1 hj).1
         have hjk : j < (bytesV l).length := by simpa using hjl
         have r2 := q6 j
         unfold rJ at r2
         dsimp only at r2
         rw [if_pos hjk] at r2
         have e5 : (bytesV l)[j]? = some (.int .u8 (y.toNat : Nat)) := by rw [List.getElem?_map, hj]; rfl
         rw [e5] at r2
         injection r2 with r2
         have hjc : j < cur.size := by omega
         have r1 := hv j cur[j] hjk (Array.getElem?_eq_getElem hjc)
         rw [r2] at r1
         rw [Array.getElem?_eq_getElem hjc, scal_one rfl r1]
        obtain ⟨e2, w', fr, ⟨rfl, ht⟩, hcm, hfn, hl⟩ := H wd B.b G.b c' x cur (fun e9 => by rw [e9] at q5; exact absurd q5 (Nat.lt_irrefl _)) w1 z1 hl' (by omega) hcur cs
        obtain ⟨y1, y2, y3, y4⟩ := hl
        obtain ⟨k1, k2⟩ := hH.kill b2
        have hGbase : base ≤ G.b := hb (by decide)
        have hother : ∀ a A, ρ a = some A → zU (h.set .dead .dead b2) a ≠ .dead → A.b ≠ G.b := by
         intro a A ea hla heq
         rw [zK] at hla
         by_cases hab : b2 = a
         · rw [if_pos hab] at hla; exact hla rfl
         · rw [if_neg hab] at hla
           exact hab (hH.inj b2 a G A eg ea hlive hla heq.symm)
        refine ⟨ρ, w', fr, cs, hcm, ⟨k1.dom, fun a A ea hla => ?_, k1.inj, ?_, by rw [ht.size]; exact k1.size, k1.glob, k1.ngn⟩, ⟨k2.nn, k2.old, k2.new, fun cx hcx hk9 => ?_, by rw [ht.size]; exact Nat.le_refl _, k2.dead, ht.tape⟩, CsTo.refl _ _, (fun e => Bool.noConfusion e), hfn, _, y1, y2, y3, y4, RV.res_refl rfl⟩
        · obtain ⟨o1, p1, p2⟩ := k1.obj a A ea hla
          exact ⟨o1, by rw [ht.rest _ (hother a A ea hla)]; exact p1, p2⟩
        · exact k1.below.trans ⟨ht.os, ht.tape, ht.output, by rw [ht.size]; exact Nat.le_refl _, fun kx hkx => ht.rest kx (by omega)⟩
        · exact ht.rest cx (fun h9 => hk9 b2 G eg hlive h9.symm)
end
open Go
def cutB (c : UInt8) : List UInt8 → List UInt8 × List UInt8 × Bool
 | [] => ([], [], false)
 | x :: r => if x = c then ([], r, true) else (x :: (cutB c r).1, (cutB c r).2.1, (cutB c r).2.2)
def wR (c : UInt8) : List UInt8 → List (List UInt8)
 | [] => [[]]
 | x :: r => if x = c then [] :: wR c r else match wR c r with
  | [] => [[x]]
  | h :: t => (x :: h) :: t
theorem splitL_ne (c : UInt8) : ∀ s, wR c s ≠ [] := by
 intro s
 induction s with
 | nil => simp [wR]
 | cons x r ih =>
  unfold wR
  split
  · simp
  · split <;> simp
theorem cutB_idx (c : UInt8) : ∀ s : List UInt8, (Lib.index s [c] = -1 ∧ cutB c s = (s, [], false) ∧ c ∉ s) ∨ (∃ i : Nat, Lib.index s [c] = i ∧ cutB c s = (s.take i, s.drop (i + 1), true) ∧ i < s.length ∧ s = s.take i ++ c :: s.drop (i + 1) ∧ c ∉ s.take i) := by
 intro s
 induction s with
 | nil => exact .inl ⟨rfl, rfl, by simp⟩
 | cons x r ih =>
  by_cases h : x = c
  · subst h
    refine .inr ⟨0, ?_, ?_, by simp, by simp, by simp⟩
    · unfold Lib.index; simp
    · unfold cutB; simp
  · have hp : ([c].isPrefixOf (x :: r)) = false := by simp [List.isPrefixOf]; exact fun e => h e.symm
    rcases ih with ⟨h1, h2, h3⟩ | ⟨i, h1, h2, h3, h4, h5⟩
    · refine .inl ⟨?_, ?_, ?_⟩
      · unfold Lib.index; rw [hp, h1]; rfl
      · unfold cutB; rw [if_neg h, h2]
      · intro hm
        rcases List.mem_cons.1 hm with e | e
        · exact h e.symm
        · exact h3 e
    · refine .inr ⟨i + 1, ?_, ?_, by simp; exact h3, ?_, ?_⟩
      · unfold Lib.index; rw [hp, h1]
        have : ((i : Int) == -1) = false := by simp
        rw [this]; simp
      · unfold cutB; rw [if_neg h, h2]; simp
      · simp only [List.take_succ_cons, List.drop_succ_cons, List.cons_append]
        rw [← h4]
      · simp only [List.take_succ_cons, List.mem_cons, not_or]
        exact ⟨fun e => h e.symm, h5⟩
theorem cut_one (c : UInt8) (s : List UInt8) : Lib.cut s [c] = cutB c s := by
 unfold Lib.cut
 rcases cutB_idx c s with ⟨h1, h2, _⟩ | ⟨i, h1, h2, h3, _⟩
 · rw [h1, h2]; rfl
 · rw [h1, h2, if_pos (by omega)]; simp
theorem splitL_cut (c : UInt8) : ∀ s : List UInt8, wR c s = if (cutB c s).2.2 then (cutB c s).1 :: wR c (cutB c s).2.1 else [s] := by
 intro s
 induction s with
 | nil => rfl
 | cons x r ih =>
  have e1 : wR c (x :: r) = if x = c then [] :: wR c r else match wR c r with
   | [] => [[x]]
   | h :: t => (x :: h) :: t := rfl
  have e2 : cutB c (x :: r) = if x = c then ([], r, true) else (x :: (cutB c r).1, (cutB c r).2.1, (cutB c r).2.2) := rfl
  rw [e1, e2]
  by_cases h : x = c
  · rw [if_pos h, if_pos h]; rfl
  · rw [if_neg h, if_neg h, ih]
    by_cases hb : (cutB c r).2.2 = true
    · rw [if_pos hb]; dsimp only; rw [if_pos hb]
    · rw [if_neg hb]; dsimp only; rw [if_neg hb]
theorem countFrom_one (c : UInt8) : ∀ (k : Nat) (s : List UInt8), s.length < k → Lib.countFrom [c] k s = s.count c := by
 intro k
 induction k with
 | zero => intro s h; omega
 | succ k ih =>
  intro s h
  unfold Lib.countFrom
  rcases cutB_idx c s with ⟨h1, _, h3⟩ | ⟨i, h1, _, h3, h4, h5⟩
  · rw [h1, List.count_eq_zero_of_not_mem h3]; rfl
  · have hi : (Lib.index s [c] == -1) = false := by rw [h1]; simp
    rw [hi, h1]
    simp only [Bool.false_eq_true, if_false, Int.toNat_natCast, List.length_singleton]
    rw [ih (s.drop (i + 1)) (by rw [List.length_drop]; omega)]
    have : s.count c = (s.take i).count c + ((s.drop (i + 1)).count c + 1) := by
     conv => lhs; rw [h4]
     rw [List.count_append, List.count_cons_self]
    rw [this, List.count_eq_zero_of_not_mem h5]; omega
theorem splitK_one (c : UInt8) : ∀ (k : Nat) (s : List UInt8), s.count c ≤ k → Lib.splitK [c] 0 k s = wR c s := by
 intro k
 induction k with
 | zero =>
  intro s h
  rw [splitL_cut]
  rcases cutB_idx c s with ⟨_, h2, _⟩ | ⟨i, _, _, _, h4, _⟩
  · rw [h2]; rfl
  · rw [h4, List.count_append, List.count_cons_self] at h; omega
 | succ k ih =>
  intro s h
  rw [splitL_cut]
  unfold Lib.splitK
  rcases cutB_idx c s with ⟨h1, h2, _⟩ | ⟨i, h1, h2, h3, h4, _⟩
  · rw [h1, h2]; rfl
  · have hi : (Lib.index s [c] == -1) = false := by rw [h1]; simp
    rw [hi, h2, h1]
    have hc : (s.drop (i + 1)).count c ≤ k := by
     rw [h4, List.count_append, List.count_cons_self] at h; omega
    have := ih (s.drop (i + 1)) hc
    simp only [Bool.false_eq_true, if_false, if_true, Int.toNat_natCast, Nat.add_zero, List.length_singleton]
    rw [this]
theorem split_one (c : UInt8) (s : ByteArray) : (Lib.splitB ⟨#[c]⟩ 0 (Lib.countB s ⟨#[c]⟩) s).map (·.data.toList) = wR c s.data.toList := by
 rw [Lib.splitB_data]
 refine splitK_one c _ _ ?_
 show _ ≤ Lib.countFrom [c] (s.data.toList.length + 1) s.data.toList
 rw [countFrom_one c _ _ (by omega)]
 exact Nat.le_refl _
theorem count_one (c : UInt8) (s : ByteArray) : Lib.countB s ⟨#[c]⟩ = s.data.toList.count c := countFrom_one c _ _ (by omega)
theorem splitL_length (c : UInt8) : ∀ s, (wR c s).length = s.count c + 1 := by
 intro s
 induction s with
 | nil => rfl
 | cons x r ih =>
  unfold wR
  by_cases h : x = c
  · subst h; simp [ih]
  · rw [if_neg h, List.count_cons_of_ne h]
    split
    · rename_i e; exact absurd e (splitL_ne c r)
    · rename_i a b e; rw [e] at ih; simpa using ih
open Go.Shelf Go.RowKit Go.Proofs
variable {P : Program} {ρ : Ren}
theorem freeze_one (w : World) (g m : Nat) : OneTurned w (w.freeze ⟨g, 0, none⟩ m) g := by
 unfold World.freeze
 split
 · exact ⟨rfl, rfl, rfl, rfl, fun _ _ => rfl⟩
 · refine ⟨rfl, rfl, rfl, by simp, fun c hc => ?_⟩
   dsimp only
   rw [Array.getElem?_modify, if_neg (fun h => hc h.symm)]
theorem OneTurned.drew {w w' : World} {g : Nat} (h : OneTurned w.drew w' g) : OneTurned w w' g := ⟨h.os, h.tape, h.output, h.size, h.rest⟩
set_option maxHeartbeats 1000000 in
set_option maxRecDepth 100000 in
theorem string_model (L : Lays.n169 P ρ) (X : Builder.Extra P ρ) (b g cap : Nat) (p : Value) (cur : Array Value) (l : List UInt8) (w : World) (h0 : l ≠ []) (hmx : l.length < 1000000) (hbk : w.heap[b]? = some (.cells #[p, .slice (some ⟨g, 0, none⟩) l.length cap] (ρ.t 72) (0, 0))) (hg : w.heap[g]? = some (.cells cur (ρ.t 5) (0, 0)))
 (hnc : l.length ≤ cap) (hcs : cap ≤ cur.size) (hcur : ∀ (j : Nat) (y : UInt8), l[j]? = some y → cur[j]? = some (.int .u8 (y.toNat : Nat))) :
 Calls P (ρ.f 169) #[.pointer (some ⟨b, 0, none⟩)] w fun e w' => e = .returned (.string ⟨l.toArray⟩) ∧ OneTurned w w' g := by
 have hl0 : l.length ≠ 0 := by simpa using h0
 have c1 : w.drew.cell? ⟨b, 1, none⟩ = some (.slice (some ⟨g, 0, none⟩) l.length cap) := by
  have : w.drew.heap[b]? = some (.cells #[p, .slice (some ⟨g, 0, none⟩) l.length cap] (ρ.t 72) (0, 0)) := hbk
  rw [Lib.cell_of_heap this]; rfl
 have hSD : (Builtin.unsafeSliceData_ #[(ρ.t 37)] (ρ.t 127) #[.slice (some ⟨g, 0, none⟩) l.length cap]).run P w.drew = .ok (.pointer (some ⟨g, 0, none⟩)) w.drew :=
  Lib.run_unsafeSliceData_row _ _ _ _ _ _ (by omega)
 have hUS : (Builtin.unsafeString_ #[(ρ.t 127), (ρ.t 3)] (ρ.t 9) #[.pointer (some ⟨g, 0, none⟩), .int .i64 l.length]).run P w.drew = .ok (.string ⟨l.toArray⟩) (w.drew.freeze ⟨g, 0, none⟩ l.length) := by
  refine Lib.run_unsafeString_row w.drew (ρ.t 127) (ρ.t 3) (ρ.t 9) (ρ.t 5) L.t127 X.cellsByte g cur.size (by have hg' : w.drew.heap[g]? = some (.cells cur (ρ.t 5) (0, 0)) := hg; simp [World.shape?, hg']) l h0 (by omega) (by omega) ?_
  intro j x hx
  have hg' : w.drew.heap[g]? = some (.cells cur (ρ.t 5) (0, 0)) := hg
  have e9 : Addr.add ⟨g, 0, none⟩ j = ⟨g, j, none⟩ := by simp [Addr.add]; omega
  rw [e9, Lib.cell_of_heap hg']
  exact hcur j x hx
 have mixed := L.mixed
 have t72 := L.t72; have a72 := L.a72; have z72 := L.z72; have v72 := L.v72; have u72 := run_underlying L.t72
 have t70 := L.t70; have a70 := L.a70; have z70 := L.z70; have v70 := L.v70; have u70 := run_underlying L.t70
 have t37 := L.t37; have a37 := L.a37; have z37 := L.z37; have v37 := L.v37; have u37 := run_underlying L.t37
 have t127 := L.t127; have a127 := L.a127; have z127 := L.z127; have v127 := L.v127; have u127 := run_underlying L.t127
 have t3 := L.t3; have a3 := L.a3; have z3 := L.z3; have v3 := L.v3; have u3 := run_underlying L.t3
 have t9 := L.t9; have a9 := L.a9; have z9 := L.z9; have v9 := L.v9; have u9 := run_underlying L.t9
 have t5 := X.t5; have a5 := X.a5; have z5 := X.z5; have v5 := X.v5; have u5 := run_underlying X.t5
 go_enter L.f169, Body.n169_ntmps ρ
 go_wp2
 go_region_o
 all_goals (go_wp2; go_ret; exact ⟨rfl, (freeze_one _ _ _).drew⟩)
section
variable {P : Program} {ng : Nat}
end
section
variable {P : Program} {ng : Nat}
def ComesE (P : Program) (ng : Nat) (f : FuncId) (args : List Value) (h : zD) (n : Nat) (Q : Out → zD → Nat → Prop) : Prop :=
 ∀ (u : Option zL) (k : KO), (∀ o h' n', Q o h' n' → k o u h' n' = true) → (loS P ng).call f args false u h n k = true
theorem ComesE.mono {f : FuncId} {args : List Value} {h : zD} {n : Nat} {Q Q' : Out → zD → Nat → Prop} (r : ComesE P ng f args h n Q) (hq : ∀ o h' n', Q o h' n' → Q' o h' n') : ComesE P ng f args h n Q' :=
 fun u k hk => r u k fun o h' n' q => hk o h' n' (hq o h' n' q)
theorem yR (hP : xF ng P = true) (hmix : P.follows .mixedOrders = true) {hint : tJ} {f : FuncId} (hl : xB P f = true) {args : List Value} {h : zD} {n : Nat} {Q : Out → zD → Nat → Prop}
 (hF : ∀ u k, (∀ o h' n', Q o h' n' → k o u h' n' = true) → wQ P hint (loS P ng) (lpS P ng) f args false u h n k = true) : ComesE P ng f args h n Q :=
 fun u k hk => loS_call.2 (yCall_ok hP hmix qD lpOK_lpS hint (loops_of hl) (hF u k hk))
theorem yY {g : FuncId} {args : List Value} {h : zD} {n : Nat} {Q : Out → zD → Nat → Prop} {Kp : KC} {K : Value → zD → Nat → Bool} (r : ComesE P ng g args h n Q)
 (hK : ∀ v h' n', Q (.ret v) h' n' → K v h' n' = true) (hp : ∀ c h' n', Q (.panic c) h' n' → Kp c h' n' = true) : yX (loS P ng) g args h n Kp K = true :=
 r none _ fun o h' n' q => by
  cases o with
  | ret v => exact hK v h' n' q
  | panic c => exact hp c h' n' q
theorem callI_comes {kd : IntKind} {g : FuncId} {args : List Value} {h : zD} {n : Nat} {Q : Out → zD → Nat → Prop} {Kp : KC} {K : Int → zD → Nat → Bool} (r : ComesE P ng g args h n Q)
 (hK : ∀ v h' n', Q (.ret v) h' n' → ∃ a, v = .int kd a ∧ K a h' n' = true) (hp : ∀ c h' n', Q (.panic c) h' n' → Kp c h' n' = true) : qN (loS P ng) kd g args h n Kp K = true :=
 r none _ fun o h' n' q => by
  cases o with
  | ret v =>
   obtain ⟨a, rfl, hk⟩ := hK v h' n' q
   show rtI kd (.int kd a) (fun a => K a h' n') = true
   rw [zH]; exact hk
  | panic c => exact hp c h' n' q
theorem rO {g : FuncId} {first cap args : List Value} {h : zD} {n : Nat} {Q : Out → zD → Nat → Prop} {Kp : KC} {K : Value → zD → Nat → Bool} (r : ComesE P ng g (first ++ (args ++ cap)) h n Q)
 (hK : ∀ v h' n', Q (.ret v) h' n' → K v h' n' = true) (hp : ∀ c h' n', Q (.panic c) h' n' → Kp c h' n' = true) : wZ (loS P ng) (.func (.func g) ⟨first⟩ ⟨cap⟩) args h n Kp K = true :=
 r none _ fun o h' n' q => by
  cases o with
  | ret v => exact hK v h' n' q
  | panic c => exact hp c h' n' q
theorem invokeI_comes {kd : IntKind} {g : FuncId} {first cap args : List Value} {h : zD} {n : Nat} {Q : Out → zD → Nat → Prop} {Kp : KC} {K : Int → zD → Nat → Bool} (r : ComesE P ng g (first ++ (args ++ cap)) h n Q)
 (hK : ∀ v h' n', Q (.ret v) h' n' → ∃ a, v = .int kd a ∧ K a h' n' = true) (hp : ∀ c h' n', Q (.panic c) h' n' → Kp c h' n' = true) : invokeI (loS P ng) kd (.func (.func g) ⟨first⟩ ⟨cap⟩) args h n Kp K = true :=
 r none _ fun o h' n' q => by
  cases o with
  | ret v =>
   obtain ⟨a, rfl, hk⟩ := hK v h' n' q
   show rtI kd (.int kd a) (fun a => K a h' n') = true
   rw [zH]; exact hk
  | panic c => exact hp c h' n' q
theorem yT {L : Lo} {f : FuncId} {rs : List ResultVar} (hr : wA P f = some rs) {k : KO} {t : Fr} {u : Option zL} {h : zD} {n : Nat} {c : zL} (hk : k (.panic c) u h n = true) :
 zE P L f k (.panic c) t ⟨[], u, h, n⟩ = true := by
 unfold wA at hr
 cases hb : sX P f with
 | none => rw [hb] at hr; cases hr
 | some fb =>
  unfold zE
  rw [hb]
  exact hk
theorem leaveC {L : Lo} {f : FuncId} {i : Nat} {ty : TypeId} (hr : wA P f = some [.cell i ty]) {k : KO} {t : Fr} {u : Option zL} {h : zD} {n : Nat} {v w : Value} (hw : zA t i = w) (hv : zF P ty h w = some v) (hk : k (.ret v) u h n = true) :
 zE P L f k .ret t ⟨[], u, h, n⟩ = true := by
 subst hw
 have hl : xV P t h [.cell i ty] = some [v] := by
  have e : ldV P h ty (zA t i) = some v := hv
  unfold xV
  show (match ldV P h ty (zA t i), xV P t h [] with
  | some v, some l => some (v :: l)
  | _, _ => none) = _
  rw [e]; rfl
 rw [leave_res hr hl]
 exact hk
def TouchE (S : List Nat) (h : zD) (n : Nat) (h' : zD) (n' : Nat) : Prop := n ≤ n' ∧ ∀ b, b < n → b ∉ S → zU h' b = zU h b
theorem TouchE.refl (S : List Nat) (h : zD) (n : Nat) : TouchE S h n h n := ⟨Nat.le_refl _, fun _ _ _ => rfl⟩
theorem TouchE.trans {S : List Nat} {h h1 h2 : zD} {n n1 n2 : Nat} (a : TouchE S h n h1 n1) (b : TouchE S h1 n1 h2 n2) : TouchE S h n h2 n2 :=
 ⟨Nat.le_trans a.1 b.1, fun x hx hS => (b.2 x (Nat.lt_of_lt_of_le hx a.1) hS).trans (a.2 x hx hS)⟩
theorem TouchE.mono {S S' : List Nat} {h h' : zD} {n n' : Nat} (a : TouchE S h n h' n') (hs : ∀ x ∈ S, x ∈ S') : TouchE S' h n h' n' := ⟨a.1, fun b hb hS => a.2 b hb fun hx => hS (hs b hx)⟩
theorem Ext.touch {h h' : zD} {n n' : Nat} (e : Ext h n h' n') (S : List Nat) : TouchE S h n h' n' := ⟨e.1, fun b hb _ => e.2 b hb⟩
theorem zS {h h' : zD} {n b : Nat} (e : ∀ b', b' ≠ b → zU h' b' = zU h b') {S : List Nat} (hb : b ∈ S) : TouchE S h n h' n := ⟨Nat.le_refl _, fun x _ hS => e x fun e => hS (e ▸ hb)⟩
theorem TouchE.old {S S' : List Nat} {h h' : zD} {n n' : Nat} (a : TouchE S h n h' n') (hs : ∀ x ∈ S, x ∈ S' ∨ n ≤ x) : TouchE S' h n h' n' := ⟨a.1, fun b hb hS => a.2 b hb fun hx => (hs b hx).elim hS fun h9 => absurd hb (by omega)⟩
theorem TouchE.step {S S' : List Nat} {h h1 h2 : zD} {n n1 n2 : Nat} (a : TouchE S h n h1 n1) (b : TouchE S' h1 n1 h2 n2) (hs : ∀ x ∈ S', x ∈ S ∨ n ≤ x) : TouchE S h n h2 n2 :=
 ⟨Nat.le_trans a.1 b.1, fun x hx hS => (b.2 x (Nat.lt_of_lt_of_le hx a.1) fun h9 => (hs x h9).elim hS fun h8 => absurd hx (by omega)).trans (a.2 x hx hS)⟩
def Cel (h : zD) (b z : Nat) (vs : List Value) : Prop := tS (zU h b) = some (vs.length, z, 0) ∧ ∀ i, xM h b i = vs[i]?
theorem Cel.touch {S : List Nat} {h h' : zD} {n n' b z : Nat} {vs : List Value} (c : Cel h b z vs) (t : TouchE S h n h' n') (hb : b < n) (hS : b ∉ S) : Cel h' b z vs := by
 have e := t.2 b hb hS
 exact ⟨by rw [e]; exact c.1, fun i => by unfold xM; rw [e]; exact c.2 i⟩
theorem Cel.keep {h h' : zD} {b z : Nat} {vs : List Value} (c : Cel h b z vs) (e : zU h' b = zU h b) : Cel h' b z vs := ⟨by rw [e]; exact c.1, fun i => by unfold xM; rw [e]; exact c.2 i⟩
theorem Row.touch {S : List Nat} {n : Nat} {h : zD} {v : Value} {e sz len : Nat} {vs : List Value} (r : Row n h v e sz len vs) {h' : zD} {n' : Nat} (t : TouchE S h n h' n') (hS : ∀ b, wB v = some b → b ∉ S) : Row n' h' v e sz len vs := by
 rcases r with ⟨rfl, rfl, rfl⟩ | ⟨b, off, cap, m, z, kd, hb, rfl, hl, hi, hm, hr, hc⟩
 · exact .inl ⟨rfl, rfl, rfl⟩
 · have he := t.2 b hb (hS b rfl)
   exact .inr ⟨b, off, cap, m, z, kd, Nat.lt_of_lt_of_le hb t.1, rfl, hl, by rw [he]; exact hi, hm, fun j v e => by unfold xM; rw [he]; exact hr j v e, hc⟩
theorem Own.touch {S : List Nat} {lo n : Nat} {h : zD} {v : Value} {e sz len : Nat} {vs : List Value} (r : Own lo n h v e sz len vs) {h' : zD} {n' : Nat} (t : TouchE S h n h' n') (hS : ∀ b, wB v = some b → b ∉ S) : Own lo n' h' v e sz len vs := by
 rcases r with ⟨rfl, rfl, rfl⟩ | ⟨b, q1, q2, rfl, q3, q4, q5, q6⟩
 · exact .inl ⟨rfl, rfl, rfl⟩
 · have he := t.2 b q2 (hS b rfl)
   exact .inr ⟨b, q1, Nat.lt_of_lt_of_le q2 t.1, rfl, by rw [he]; exact q3, q4, q5, fun i => by unfold xM; rw [he]; exact q6 i⟩
theorem Own.ge {lo n : Nat} {h : zD} {v : Value} {e sz len : Nat} {vs : List Value} (r : Own lo n h v e sz len vs) : ∀ b, wB v = some b → lo ≤ b ∧ b < n := by
 rcases r with ⟨rfl, rfl, rfl⟩ | ⟨b, q1, q2, rfl, q3, q4, q5, q6⟩
 · intro b e; cases e
 · intro b' e; injection e with e; subst e; exact ⟨q1, q2⟩
theorem Row.lt {n : Nat} {h : zD} {v : Value} {e sz len : Nat} {vs : List Value} (r : Row n h v e sz len vs) : ∀ b, wB v = some b → b < n := by
 rcases r with ⟨rfl, rfl, rfl⟩ | ⟨b, off, cap, m, z, kd, hb, rfl, hl, hi, hm, hr, hc⟩
 · intro b e; cases e
 · intro b' e; injection e with e; subst e; exact hb
theorem Own.low {lo lo' n : Nat} {h : zD} {v : Value} {e sz len : Nat} {vs : List Value} (r : Own lo n h v e sz len vs) (hl : lo' ≤ lo) : Own lo' n h v e sz len vs := by
 rcases r with h1 | ⟨b, q1, q⟩
 · exact .inl h1
 · exact .inr ⟨b, Nat.le_trans hl q1, q⟩
theorem TabsH.touch {tabs : List (Nat × List Value)} {S : List Nat} {h h' : zD} {n n' : Nat} (t : TabsH tabs h) (e : TouchE S h n h' n') (hl : ∀ p ∈ tabs, p.1 < n) (hS : ∀ p ∈ tabs, p.1 ∉ S) : TabsH tabs h' := fun p hp => by
 have he := e.2 p.1 (hl p hp) (hS p hp)
 obtain ⟨a, b⟩ := t p hp
 exact ⟨by rw [he]; exact a, fun i => by unfold xM; rw [he]; exact b i⟩
theorem cellsOf_one {v : Value} (h : v.oneCell' = true) : cellsOf v = [v] := by cases v <;> first | rfl | (cases h; done)
theorem cel_mkC {h : zD} {n z : Nat} {l : List Value} : Cel (h.set .dead (mkC l z 0) n) n z l := by
 refine ⟨?_, fun i => ?_⟩
 · rw [zK, if_pos rfl, infoOf_mkC]
 · unfold xM; rw [zK, if_pos rfl, uV]
theorem set_ext {h : zD} {n : Nat} {o : AObj} : Ext h n (h.set .dead o n) (n + 1) := (Ext.refl h n).set (Nat.le_refl _) (Nat.le_succ _)
theorem wS {el : TypeId} {h : zD} {n : Nat} {K : KH} {z : Value} (hz : wM P el = some z) (hK : ∀ h', Cel h' n (el + 1) (cellsOf z) → Ext h n h' (n + 1) → K h' (n + 1) (.pointer (some ⟨n, 0, none⟩)) = true) : tD P el h n K = true :=
 eAlloc_ok hz (hK _ cel_mkC set_ext)
theorem tL {v : Value} {h : zD} {n : Nat} {K : KH} (h1 : ∀ x ∈ cellsOf v, x.oneCell' = true) (hK : ∀ h', Cel h' n 0 (cellsOf v) → Ext h n h' (n + 1) → K h' (n + 1) (.pointer (some ⟨n, 0, none⟩)) = true) : eBox v h n K = true :=
 eBox_ok h1 (hK _ cel_mkC set_ext)
theorem xQ {ty : TypeId} {b off z : Nat} {vs : List Value} {v : Value} {h : zD} {n : Nat} {K : KH} (hc : Cel h b z vs) (hs : yG P ty = .scal) (ho : off < vs.length) (hv : v.oneCell' = true)
 (hK : ∀ h', Cel h' b z (vs.set off v) → (∀ b', b' ≠ b → zU h' b' = zU h b') → K h' n undef = true) : zV P ty (.pointer (some ⟨b, off, none⟩)) v h n K = true := by
 have e1 := cellsOf_one hv
 refine eStore_ok (.inl ⟨hs, rfl⟩) (by rw [e1]; rfl) (by rw [e1]; simpa using hv) hc.1 (by decide) (by omega) (hK _ ⟨?_, fun i => ?_⟩ fun b' hb' => ?_)
 · rw [zK, if_pos rfl, pF, hc.1, List.length_set]
 · unfold xM
   rw [zK, if_pos rfl, e1, pE _ _ _ hc.1 (by simp; omega)]
   have h2 := hc.2 i
   unfold xM at h2
   rw [h2, List.getElem?_set]
   by_cases hi : i = off
   · subst hi
     rw [if_pos ⟨Nat.le_refl _, by simp⟩, if_pos rfl]
     simp [ho]
   · rw [if_neg (by simp; omega), if_neg (fun h => hi h.symm)]
 · rw [zK, if_neg (fun h => hb' h.symm)]
theorem xU {ty : TypeId} {b z sz : Nat} {vs ws : List Value} {h : zD} {n : Nat} {K : KH} (hc : Cel h b z vs) (hs : yG P ty = .agg sz) (hl : ws.length = sz) (hl2 : vs.length = sz) (hv : ∀ x ∈ ws, x.oneCell' = true)
 (hK : ∀ h', Cel h' b z ws → (∀ b', b' ≠ b → zU h' b' = zU h b') → K h' n undef = true) : zV P ty (.pointer (some ⟨b, 0, none⟩)) (.agg ⟨ws⟩) h n K = true := by
 refine eStore_ok (.inr hs) (show ws.length = sz from hl) (show ∀ x ∈ ws, _ from hv) hc.1 (by decide) (by omega) (hK _ ⟨?_, fun i => ?_⟩ fun b' hb' => ?_)
 · rw [zK, if_pos rfl, pF, hc.1, hl, hl2]
 · unfold xM
   rw [zK, if_pos rfl]
   show rJ (stC (zU h b) 0 ws) i = _
   rw [pE _ _ _ hc.1 (by omega)]
   by_cases hi : i < ws.length
   · rw [if_pos (by omega)]; rfl
   · have h2 := hc.2 i
     unfold xM at h2
     rw [if_neg (by omega), h2, List.getElem?_eq_none (by omega), List.getElem?_eq_none (by omega)]
 · rw [zK, if_neg (fun h => hb' h.symm)]
theorem zI {ty : TypeId} {h : zD} {b off z : Nat} {vs : List Value} {v : Value} (hc : Cel h b z vs) (hs : yG P ty = .scal) (hv : vs[off]? = some v) : zF P ty h (.pointer (some ⟨b, off, none⟩)) = some v :=
 load_scal hs (by rw [hc.2]; exact hv)
theorem xJ {ty : TypeId} {h : zD} {b z sz : Nat} {vs : List Value} (hc : Cel h b z vs) (hs : yG P ty = .agg sz) (hl : vs.length = sz) (h0 : 0 < sz) : zF P ty h (.pointer (some ⟨b, 0, none⟩)) = some (.agg ⟨vs⟩) :=
 load_agg hs hl h0 fun j v e => by rw [Nat.zero_add, hc.2]; exact e
theorem rB {ty : TypeId} {len : Nat} {parts : List (Nat × Value)} {h : zD} {n : Nat} {K : KH} {e sz : Nat} {cs : List Value} (hb : yW P ty len parts = some (vZ cs 0)) (hl : cs.length = len * sz) (hlt : len < inf)
 (hK : ∀ h', Row (n + 1) h' (.slice (some ⟨n, 0, none⟩) len len) e sz len cs → Ext h n h' (n + 1) → K h' (n + 1) (.slice (some ⟨n, 0, none⟩) len len) = true) : zN P ty len parts h n K = true := by
 unfold zN
 rw [hb]
 show yO h n (vZ cs 0) (fun h' n' => K h' n' (.slice (some ⟨n, 0, none⟩) len len)) = true
 rw [yQ]
 refine hK _ (.inr ⟨n, 0, len, cs.length, 0, 0, Nat.lt_succ_self _, rfl, hl, ?_, by omega, fun j v ej => ?_, .inl ⟨hlt, Nat.le_refl _⟩⟩) set_ext
 · rw [zK, if_pos rfl]; rfl
 · unfold xM
   rw [zK, if_pos rfl, Nat.zero_add]
   exact (uV cs 0 0 j).trans ej
noncomputable def oneTB (P : Program) (ty e : TypeId) : Bool :=
 match und P ty with
 | some (.slice e') => match wM P e', inf? P e' with
  | some z, some ei => Nat.beq e' e && (Nat.beq ei.size 1 && Nat.beq (cellsOf z).length 1)
  | _, _ => false
 | _ => false
theorem uJ {ty e : TypeId} (ht : oneTB P ty e = true) {v : Value} (hv : v.oneCell' = true) {h : zD} {n : Nat} {K : KH}
 (hK : ∀ h', Row (n + 1) h' (.slice (some ⟨n, 0, none⟩) 1 1) e 1 1 [v] → Ext h n h' (n + 1) → K h' (n + 1) (.slice (some ⟨n, 0, none⟩) 1 1) = true) : zN P ty 1 [(0, v)] h n K = true := by
 refine rB (cs := [v]) ?_ rfl (by unfold inf; omega) hK
 unfold oneTB at ht
 unfold yW
 cases h1 : und P ty <;> rw [h1] at ht <;> first | (cases ht; done) | skip
 rename_i d
 cases d <;> first | (cases ht; done) | skip
 rename_i e'
 dsimp only at ht ⊢
 cases h2 : wM P e' <;> rw [h2] at ht <;> first | (cases ht; done) | skip
 rename_i z
 cases h3 : inf? P e' <;> rw [h3] at ht <;> first | (cases ht; done) | skip
 rename_i ei
 dsimp only at ht ⊢
 obtain ⟨_, ht⟩ := Bool.and_eq_true_iff.1 ht
 obtain ⟨a1, a2⟩ := Bool.and_eq_true_iff.1 ht
 have e1 := zX a1
 have e2 := zX a2
 rw [e1, e2]
 obtain ⟨x, hx⟩ : ∃ x, cellsOf z = [x] := List.length_eq_one_iff.1 e2
 rw [hx]
 have e3 := cellsOf_one hv
 show (match aFill (fun i => some (Nat.mul i 1, 1)) [x] [(0, v)] with
  | some cs => some (vZ cs 0)
  | none => none) = _
 have : aFill (fun i => some (Nat.mul i 1, 1)) [x] [(0, v)] = some [v] := by
  unfold aFill
  dsimp only
  rw [e3]
  rfl
 rw [this]
theorem slice_fromI {n : Nat} {h : zD} {v : Value} {e sz len : Nat} {vs : List Value} {ty : TypeId} (hu : und P ty = some (.slice e)) (hi : (inf? P e).map (·.size) = some sz) (r : Row n h v e sz len vs) {k : IntKind} {i : Nat} (hle : i ≤ len) :
 ∃ v', uW P h ty v (some (.int k (i : Nat))) none none = some v' ∧ Row n h v' e sz (len - i) (vs.drop (i * sz)) ∧ (wB v' = wB v) := by
 cases hx : inf? P e with
 | none => rw [hx] at hi; cases hi
 | some ei => rw [hx] at hi; injection hi with hi; exact slice_from hu hx hi r hle
theorem Row.one {n : Nat} {h : zD} {v : Value} {e sz len : Nat} {vs : List Value} (r : Row n h v e sz len vs) : v.oneCell' = true := by
 rcases r with ⟨rfl, _⟩ | ⟨b, off, cap, m, z, kd, hb, rfl, _⟩ <;> rfl
theorem Own.one {lo n : Nat} {h : zD} {v : Value} {e sz len : Nat} {vs : List Value} (r : Own lo n h v e sz len vs) : v.oneCell' = true := by
 rcases r with ⟨rfl, _⟩ | ⟨b, _, _, rfl, _⟩ <;> rfl
end
section
variable {P : Program} {ng : Nat}
def ErrH (h : zD) (g : Nat) : Prop := ∃ z, tS (zU h g) = some (1, z, 2) ∧ ∃ te v, xM h g 0 = some (.iface te v)
theorem ErrH.touch {S : List Nat} {h h' : zD} {n n' g : Nat} (t : ErrH h g) (e : TouchE S h n h' n') (hl : g < n) (hS : g ∉ S) : ErrH h' g := by
 have he := e.2 g hl hS
 obtain ⟨z, a, te, v, b⟩ := t
 exact ⟨z, by rw [he]; exact a, te, v, by unfold xM; rw [he]; exact b⟩
theorem ErrH.world {h : zD} {g n : Nat} {ρ : Inj} {base : Nat} {w0 wd : World} (t : ErrH h g) (hg : g < ng) (r : HeapR P ng ρ base w0 h n wd) : ∃ te pe, wd.cell? ⟨g, 0, none⟩ = some (.iface te pe) := by
 obtain ⟨z, h1, te, v, h2⟩ := t
 obtain ⟨B, e1, e2⟩ := r.glob g hg
 have hl : zU h g ≠ .dead := fun e => by rw [e] at h1; cases h1
 obtain ⟨o, q1, q2⟩ := r.obj g B e1 hl
 unfold xM at h2
 cases ho : zU h g <;> rw [ho] at h1 <;> first | (cases h1; done) | skip
 rename_i c k z' kd
 have h1' : some (k, z', kd) = some (1, z, 2) := h1
 simp only [Option.some.injEq, Prod.mk.injEq] at h1'
 obtain ⟨rfl, rfl, rfl⟩ := h1'
 rw [ho] at q2 h2
 cases q2 with
 | cells hn hs hk hz hv hb hf =>
  rename_i c' el lo hi
  rw [e2] at q1
  have hsz : c'.size = 1 := by rw [hs]; exact (hk (by omega)).symm
  have h3 : some (Tr.get undef c 0) = some (Value.iface te v) := h2
  injection h3 with h3
  have e0 : c'[0]? = some (c'[0]'(by omega)) := Array.getElem?_eq_getElem (by omega)
  have r0 := hv 0 _ (by omega) e0
  rw [h3] at r0
  generalize hx : c'[0]'(by omega) = x at r0 e0
  cases r0 with
  | iface r =>
   rename_i v'
   refine ⟨te, v', ?_⟩
   unfold World.cell?
   dsimp only
   rw [q1]
   exact e0
theorem HeapR.put_dead {ρ : Inj} {base : Nat} {w0 : World} {h : zD} {n : Nat} {wd wd' : World} (r : HeapR P ng ρ base w0 h n wd) (hb : Go.RowKit.Below wd.heap.size wd wd') (B : Bl) (hN : wd.heap.size ≤ B.b) :
 HeapR P ng (ρ.put n B) base w0 (h.set .dead .dead n) (n + 1) wd' ∧ Grow ρ h n wd (ρ.put n B) (h.set .dead .dead n) (n + 1) wd' := by
 obtain ⟨k1, k2⟩ := r.stay hb
 have hn : ρ n = none := r.dom n (Nat.le_refl _)
 have hle := Inj.le_put B hn
 have old : ∀ b, b ≠ n → (ρ.put n B) b = ρ b := fun b hb => by simp [Inj.put, hb]
 refine ⟨⟨fun b hb => ?_, fun b C e hl => ?_, fun a b A C ea eb hla hlb hAC => ?_, k1.below, k1.size, fun g hg => ?_, ?_⟩, ⟨Nat.le_succ _, fun b hb => old b (by omega), fun b C hb e => ?_, k2.keep, k2.size, fun b hb e => ?_, k2.tape⟩⟩
 · rw [old b (by omega)]; exact r.dom b (by omega)
 · rw [zK] at hl ⊢
   by_cases hbn : n = b
   · rw [if_pos hbn] at hl; exact absurd rfl hl
   · rw [if_neg hbn] at hl ⊢
     rw [old b (fun e => hbn e.symm)] at e
     obtain ⟨o, q1, q2⟩ := k1.obj b C e hl
     exact ⟨o, q1, q2.mono hle⟩
 · rw [zK] at hla hlb
   by_cases h1 : n = a
   · rw [if_pos h1] at hla; exact absurd rfl hla
   · by_cases h2 : n = b
     · rw [if_pos h2] at hlb; exact absurd rfl hlb
     · rw [if_neg h1] at hla
       rw [if_neg h2] at hlb
       rw [old a (fun e => h1 e.symm)] at ea
       rw [old b (fun e => h2 e.symm)] at eb
       exact r.inj a b A C ea eb hla hlb hAC
 · obtain ⟨C, e1, e2⟩ := r.glob g hg
   exact ⟨C, by rw [old g (by have := r.ngn; omega)]; exact e1, e2⟩
 · have := r.ngn; omega
 · by_cases hbn : b = n
   · subst hbn
     have : C = B := by simpa [Inj.put] using e.symm
     subst this
     exact .inl hN
   · rw [old b hbn, r.dom b hb] at e; cases e
 · rw [zK]; split
   · rfl
   · exact e
theorem err_of_calls {f : FuncId} {args : List Value} {h : zD} {n g : Nat} {x : Int} {T : TypeId} (hf : hasB P f = true) (ha : args.all uB = true) (hE : ErrH h g) (hg : g < ng)
 (H : ∀ wd : World, (∃ te pe, wd.cell? ⟨g, 0, none⟩ = some (.iface te pe)) → Calls P f ⟨args⟩ wd fun e w' => ∃ N, e = .returned (.tuple #[.int .i64 x, .iface T (.pointer (some ⟨N, 0, none⟩))]) ∧ wd.heap.size ≤ N ∧ Go.RowKit.Below wd.heap.size wd w') :
 Rets P ng f args h n fun v h' n' => v = .tuple #[.int .i64 x, .iface T (.pointer (some ⟨n, 0, none⟩))] ∧ Ext h n h' n' := by
 intro u k hk
 refine loS_call.2 ⟨.ret (.tuple #[.int .i64 x, .iface T (.pointer (some ⟨n, 0, none⟩))]), u, h.set .dead .dead n, n + 1, hk _ _ _ ⟨rfl, set_ext⟩, hasB_of hf, fun ρ base w0 wd args' cs' hH hra hu => ?_⟩
 obtain rfl := scals_same ha hra
 obtain ⟨e, w', fr, ⟨N, rfl, hN, hbl⟩, hcm, hfn, hl⟩ := H wd (hE.world hg hH) cs'
 obtain ⟨k1, k2⟩ := hH.put_dead hbl ⟨N, 1, 0⟩ hN
 obtain ⟨y1, y2, y3, y4⟩ := hl
 refine ⟨_, _, fr, cs', hcm, k1, k2, CsTo.refl _ _, (fun e => Bool.noConfusion e), hfn, _, y1, y2, y3, y4, ?_⟩
 refine .tuple rfl fun i w w' a b => ?_
 have hi : i = 0 ∨ i = 1 ∨ 2 ≤ i := by omega
 rcases hi with rfl | rfl | hi
 · have a' : some (Value.int .i64 x) = some w := a
   have b' : some (Value.int .i64 x) = some w' := b
   injection a' with a'; injection b' with b'; subst a' b'; exact .int _ _
 · have a' : some (Value.iface T (.pointer (some ⟨n, 0, none⟩))) = some w := a
   have b' : some (Value.iface T (.pointer (some ⟨N, 0, none⟩))) = some w' := b
   injection a' with a'; injection b' with b'; subst a' b'
   exact .iface (.ptr (B := ⟨N, 1, 0⟩) (by simp [Inj.put]))
 · have a' : ([Value.int .i64 x, .iface T (.pointer (some ⟨n, 0, none⟩))])[i]? = some w := a
   rw [List.getElem?_eq_none (by simpa using hi)] at a'; cases a'
end
section
variable {P : Program} {ng : Nat}
noncomputable abbrev lo1 (P : Program) (ng : Nat) : Lo := Lo.next P (loS P ng)
theorem sound_lo1 (hP : xF ng P = true) (hmix : P.follows .mixedOrders = true) : Sound P ng (lo1 P ng) := sound_next (draw_ok hP hmix) hP qD
theorem comes_intro1 (hP : xF ng P = true) (hmix : P.follows .mixedOrders = true) {f : FuncId} {args : List Value} {h : zD} {n : Nat} {Q : Out → zD → Nat → Prop}
 (hF : ∀ u k, (∀ o h' n', Q o h' n' → k o u h' n' = true) → xcall P (lo1 P ng) f args false u h n k = true) : ComesE P ng f args h n Q :=
 fun u k hk => loS_call.2 (xcall_ok hP (sound_lo1 hP hmix) (hF u k hk))
theorem call_intro1 (hP : xF ng P = true) (hmix : P.follows .mixedOrders = true) {f : FuncId} {args : List Value} {df : Bool} {u : Option zL} {h : zD} {n : Nat} {k : KO}
 (hF : xcall P (lo1 P ng) f args df u h n k = true) : (loS P ng).call f args df u h n k = true := loS_call.2 (xcall_ok hP (sound_lo1 hP hmix) hF)
theorem leave_intro (hP : xF ng P = true) {fn : Func} {mode : Option zL} {t : Fr} {w : W} {k : KO} (h : tB P (loS P ng) fn mode t w k = true) : (loS P ng).leave fn mode t w k = true :=
 loS_leave.2 (xleave_ok hP qD h)
theorem storeAt_is {b off m z kd : Nat} {vs : List Value} {h : zD} {K : zD → Bool} (hi : tS (zU h b) = some (m, z, kd)) (hk : kd ≠ 2) (hle : off + vs.length ≤ m) (h1 : ∀ x ∈ vs, x.oneCell' = true)
 (hK : K (h.set .dead (stC (zU h b) off vs) b) = true) : storeAt h b off vs K = true := by
 cases ho : zU h b <;> rw [ho] at hi <;> first | (cases hi; done) | skip
 rename_i c n' z' kd'
 injection hi with hi
 injection hi with e1 hi
 injection hi with e2 e3
 subst e1 e2 e3
 unfold storeAt
 rw [ho]
 show (Bool.rec (Bool.rec false (vW c off vs fun c' => h.setK .dead (.cells c' n' z' kd') b fun h' => K h') (Nat.ble (Nat.add off vs.length) n')) false (Nat.beq kd' 2) : Bool) = true
 have e4 : Nat.beq kd' 2 = false := by
  cases e : Nat.beq kd' 2 with
  | false => rfl
  | true => exact absurd (zX e) hk
 rw [e4]
 show (Bool.rec false (vW c off vs fun c' => h.setK .dead (.cells c' n' z' kd') b fun h' => K h') (Nat.ble (Nat.add off vs.length) n') : Bool) = true
 rw [vE (show Nat.add off vs.length ≤ n' by show off + _ ≤ _; omega)]
 refine tT h1 ?_
 rw [Tr.setK_eq]
 rw [ho] at hK
 exact hK
theorem tM {b off z : Nat} {vs : List Value} {v : Value} {h : zD} {K : zD → Bool} (hc : Cel h b z vs) (ho : off < vs.length) (hv : v.oneCell' = true)
 (hK : ∀ h', Cel h' b z (vs.set off v) → (∀ b', b' ≠ b → zU h' b' = zU h b') → K h' = true) : storeAt h b off [v] K = true := by
 refine storeAt_is hc.1 (by decide) (by simp; omega) (by simpa using hv) (hK _ ⟨?_, fun i => ?_⟩ fun b' hb' => ?_)
 · rw [zK, if_pos rfl, pF, hc.1, List.length_set]
 · unfold xM
   rw [zK, if_pos rfl, pE _ _ _ hc.1 (by simp; omega)]
   have h2 := hc.2 i
   unfold xM at h2
   rw [h2, List.getElem?_set]
   by_cases hi : i = off
   · subst hi
     rw [if_pos ⟨Nat.le_refl _, by simp⟩, if_pos rfl]
     simp [ho]
   · rw [if_neg (by simp; omega), if_neg (fun h => hi h.symm)]
 · rw [zK, if_neg (fun h => hb' h.symm)]
theorem xleave_defer0 {L : Lo} {fn : Func} {t : Fr} {g : FuncId} {cap args : Array Value} {ds : List Deferred} {u : Option zL} {h : zD} {n : Nat} {k : KO} {Q : zD → Nat → Prop} {v : Value}
 (hc : ∀ k' : KO, (∀ h' n', Q h' n' → k' (.ret v) none h' n' = true) → L.call g (args.toList ++ cap.toList) true none h n k' = true) (hl : ∀ h' n', Q h' n' → L.leave fn none t ⟨ds, u, h', n'⟩ k = true) :
 tB P L fn none t ⟨⟨.fn (.func g) cap, args⟩ :: ds, u, h, n⟩ k = true := by
 unfold tB
 exact hc _ fun h' n' q => hl h' n' q
theorem xleave_defer1 {L : Lo} {fn : Func} {t : Fr} {g : FuncId} {cap args : Array Value} {ds : List Deferred} {u : Option zL} {h : zD} {n : Nat} {k : KO} {c : zL} {Q : zD → Nat → Prop} {v x : Value}
 (hc : ∀ k' : KO, (∀ h' n', Q h' n' → k' (.ret v) (some [⟨x, true, false⟩]) h' n' = true) → L.call g (args.toList ++ cap.toList) true (some c) h n k' = true) (hl : ∀ h' n', Q h' n' → L.leave fn none t ⟨ds, u, h', n'⟩ k = true) :
 tB P L fn (some c) t ⟨⟨.fn (.func g) cap, args⟩ :: ds, u, h, n⟩ k = true := by
 unfold tB
 exact hc _ fun h' n' q => hl h' n' q
theorem xleave_cell {L : Lo} {fn : Func} {i : Nat} {ty : TypeId} (hr : fn.results.toList = [.cell i ty]) {t : Fr} {u : Option zL} {h : zD} {n : Nat} {k : KO} {v : Value} (hv : zF P ty h (zA t i) = some v) (hk : k (.ret v) u h n = true) :
 tB P L fn none t ⟨[], u, h, n⟩ k = true := by
 have hl : xV P t h [.cell i ty] = some [v] := by
  have e : ldV P h ty (zA t i) = some v := hv
  unfold xV
  show (match ldV P h ty (zA t i), xV P t h [] with
  | some v, some l => some (v :: l)
  | _, _ => none) = _
  rw [e]; rfl
 unfold tB
 dsimp only
 rw [hr, hl]
 dsimp only
 rw [wV]
 exact hk
theorem append_new {sT xT e sz lo n len m : Nat} {h : zD} {v x : Value} {vs new : List Value} {K : KH} (hT : apTB P sT xT e sz = true) (ho : Own lo n h v e sz len vs) (hm0' : 0 < m) (hr : Row n h x e sz m new) (hnew : new.length = m * sz) (h1 : ∀ y ∈ new, y.oneCell' = true)
 (hlim : len + m < 1000000) (hK : ∀ v' h' n', Own n n' h' v' e sz (len + m) (vs ++ new) → n ≤ n' → (∀ b, b < n → wB v ≠ some b → zU h' b = zU h b) → K h' n' v' = true) : wE P [sT, xT] [v, x] h n K = true := by
 obtain ⟨xd, ei, z, t1, t2, t3, t4, t5, t6, t7, t8, t9⟩ := apTB_of hT
 have hap : uF P h e ei.size xd x = some (m, new) := by rw [t6]; exact appended_of t3 hr
 unfold wE xappend
 obtain ⟨base, cap, hv⟩ : ∃ base cap, v = .slice base len cap := by
  rcases ho with ⟨rfl, rfl, rfl⟩ | ⟨b, _, _, rfl, _⟩
  · exact ⟨_, _, rfl⟩
  · exact ⟨_, _, rfl⟩
 subst hv
 dsimp only
 rw [t1, t2]
 dsimp only
 rw [t4, t5]
 dsimp only
 rw [hap]
 dsimp only
 have c1 : (Nat.beq ei.size 0 || !Nat.beq (cellsOf z).length ei.size || !Nat.blt (Nat.add len m) 1000000 || !Nat.blt ei.bytes 100000) = false := by
  have a1 : Nat.beq ei.size 0 = false := by
   cases e9 : Nat.beq ei.size 0 with
   | false => rfl
   | true => have := zX e9; omega
  have a2 : Nat.beq (cellsOf z).length ei.size = true := by rw [t7, t6]; exact Nat.beq_refl _
  rw [a1, a2, rK (show Nat.add len m < 1000000 from hlim), rK t9]; rfl
 rw [c1]
 show cond (Nat.beq m 0 && !Nat.beq cap 0 && (Nat.beq cap inf || Nat.ble len cap)) _ _ = true
 by_cases hm : m = 0
 · omega
 · have hm0 : Nat.beq m 0 = false := by
    cases e9 : Nat.beq m 0 with
    | false => rfl
    | true => exact absurd (zX e9) hm
   rw [hm0]
   show cond (Nat.beq cap inf) _ _ = true
   rcases ho with ⟨hv, rfl, rfl⟩ | ⟨b, q1, q2, hv, q3, q4, q5, q6⟩
   · injection hv with hv1 _ hv2
     subst hv1 hv2
     have hb0 : Nat.beq 0 inf = false := by decide
     rw [hb0]
     dsimp only [cond_false]
     unfold growEx
     have b1 : Nat.ble (Nat.add 0 m) 0 = false := by
      cases e9 : Nat.ble (Nat.add 0 m) 0 with
      | false => rfl
      | true =>
       have h9 : Nat.add 0 m ≤ 0 := uN e9
       have h10 : 0 + m ≤ 0 := h9
       omega
     rw [b1]
     show vW .leaf 0 ([] ++ new) _ = true
     refine tT h1 ?_
     rw [yQ]
     have hne : Nat.mul (Nat.add 0 m) ei.size = new.length := by
      have : Nat.add 0 m = m := Nat.zero_add m
      rw [this, t6]; exact hnew.symm
     rw [hne, t6]
     have hz : Nat.add 0 m = m := Nat.zero_add m
     rw [hz]
     have hpos : 0 < m := by omega
     refine hK _ _ _ (.inr ⟨n, Nat.le_refl n, Nat.lt_succ_self n, by rw [Nat.zero_add], ?_, ?_, by omega, fun i => ?_⟩) (Nat.le_succ n) fun b hb _ => ?_
     · rw [zK, if_pos rfl]; rfl
     · simpa using hnew
     · unfold xM
       rw [zK, if_pos rfl]
       exact uV new (zc e sz) 1 i
     · rw [zK, if_neg (by omega)]
   · injection hv with hv1 _ hv2
     subst hv1 hv2
     have hb1 : Nat.beq inf inf = true := Nat.beq_refl inf
     rw [hb1]
     show growOpen h n b len m ei.size (zc e ei.size) new (fun v h n => K h n v) = true
     unfold growOpen
     cases hg : zU h b <;> rw [hg] at q3 <;> first | (cases q3; done) | skip
     rename_i c kn z' kd'
     have q3' : some (kn, z', kd') = some (vs.length, zc e sz, 1) := q3
     simp only [Option.some.injEq, Prod.mk.injEq] at q3'
     obtain ⟨rfl, rfl, rfl⟩ := q3'
     show cond (Nat.beq (zc e sz) (zc e ei.size)) _ _ = true
     have e5 : Nat.beq (zc e sz) (zc e ei.size) = true := by rw [t6]; exact Nat.beq_refl _
     rw [e5]
     have hml : Nat.mul len ei.size = vs.length := by rw [t6]; exact q4.symm
     have e6 : Nat.ble (Nat.mul (Nat.add len m) ei.size) vs.length = false := by
      cases e9 : Nat.ble (Nat.mul (Nat.add len m) ei.size) vs.length with
      | false => rfl
      | true =>
       have h9 : (len + m) * ei.size ≤ vs.length := uN e9
       rw [t6, q4, Nat.add_mul] at h9
       have : 0 < m * sz := Nat.mul_pos (by omega) t8
       omega
     rw [e6, hml, vE (Nat.le_refl _)]
     show vW c vs.length new _ = true
     refine tT h1 ?_
     rw [Tr.setK_eq, yQ]
     have hmm : Nat.mul (Nat.add len m) ei.size = (vs ++ new).length := by
      rw [t6, List.length_append, q4, hnew]; exact Nat.add_mul len m sz
     rw [hmm]
     refine hK _ _ _ (.inr ⟨n, Nat.le_refl n, Nat.lt_succ_self n, rfl, ?_, ?_, by omega, fun i => ?_⟩) (Nat.le_succ n) fun b' hb hne => ?_
     · rw [zK, if_pos rfl]; rfl
     · rw [List.length_append, q4, hnew, Nat.add_mul]
     · unfold xM
       rw [zK, if_pos rfl]
       unfold rJ
       dsimp only
       have q6' := q6 i
       unfold xM at q6'
       rw [hg] at q6'
       unfold rJ at q6'
       dsimp only at q6'
       by_cases hi : i < vs.length
       · rw [if_pos hi] at q6'
         rw [if_pos (by rw [List.length_append]; omega), Tr.get_ofListFrom, if_neg (by omega), q6', List.getElem?_append_left hi]
       · rw [List.getElem?_append_right (by omega)]
         by_cases hi2 : i < (vs ++ new).length
         · rw [List.length_append] at hi2
           rw [if_pos (by rw [List.length_append]; omega), Tr.get_ofListFrom, if_pos (by omega)]
           simp [List.getElem?_eq_getElem (show i - vs.length < new.length by omega), List.getD_eq_getElem?_getD]
         · rw [List.length_append] at hi2
           rw [if_neg (by rw [List.length_append]; omega), List.getElem?_eq_none (by omega)]
     · have hbb : b ≠ b' := fun e => hne (by rw [e]; rfl)
       rw [zK, if_neg (by omega), zK, if_neg hbb]
theorem pH {ty : TypeId} {len : Nat} {parts : List (Nat × Value)} {h : zD} {n : Nat} {K : KH} {e sz : Nat} {cs : List Value} (hb : yW P ty len parts = some (vZ cs 0)) (hl : cs.length = len * sz) (hlt : len < inf)
 (hK : ∀ h', Row (n + 1) h' (.slice (some ⟨n, 0, none⟩) len len) e sz len cs → tS (zU h' n) = some (cs.length, 0, 0) → Ext h n h' (n + 1) → K h' (n + 1) (.slice (some ⟨n, 0, none⟩) len len) = true) : zN P ty len parts h n K = true := by
 unfold zN
 rw [hb]
 show yO h n (vZ cs 0) (fun h' n' => K h' n' (.slice (some ⟨n, 0, none⟩) len len)) = true
 rw [yQ]
 refine hK _ (.inr ⟨n, 0, len, cs.length, 0, 0, Nat.lt_succ_self _, rfl, hl, ?_, by omega, fun j v ej => ?_, .inl ⟨hlt, Nat.le_refl _⟩⟩) ?_ set_ext
 · rw [zK, if_pos rfl]; rfl
 · unfold xM
   rw [zK, if_pos rfl, Nat.zero_add]
   exact (uV cs 0 0 j).trans ej
 · rw [zK, if_pos rfl]; rfl
end
open Go.RowKit
section
variable {P : Program} {ng : Nat}
noncomputable def errO (te : TypeId) (b o : Nat) : AObj := .cells (.node .leaf (.iface te (.pointer (some ⟨b, o, none⟩))) .leaf) 1 0 2
noncomputable def heapE (tabs : List (Nat × List Value)) (ng g1 t1 o1 g2 t2 o2 : Nat) : zD := ((heap0 tabs).set .dead (errO t1 ng o1) g1).set .dead (errO t2 (ng + 1) o2) g2
theorem qG (tabs : List (Nat × List Value)) (ng g1 t1 o1 g2 t2 o2 b : Nat) : zU (heapE tabs ng g1 t1 o1 g2 t2 o2) b = if g2 = b then errO t2 (ng + 1) o2 else if g1 = b then errO t1 ng o1 else zU (heap0 tabs) b := by
 unfold heapE
 rw [zK, zK]
theorem errH_E {tabs : List (Nat × List Value)} {ng g1 t1 o1 g2 t2 o2 : Nat} : ErrH (heapE tabs ng g1 t1 o1 g2 t2 o2) g2 := by
 refine ⟨0, ?_, t2, .pointer (some ⟨ng + 1, o2, none⟩), ?_⟩
 · rw [qG, if_pos rfl]; rfl
 · unfold xM; rw [qG, if_pos rfl]; rfl
theorem errH_E1 {tabs : List (Nat × List Value)} {ng g1 t1 o1 g2 t2 o2 : Nat} (h : g2 ≠ g1) : ErrH (heapE tabs ng g1 t1 o1 g2 t2 o2) g1 := by
 refine ⟨0, ?_, t1, .pointer (some ⟨ng, o1, none⟩), ?_⟩
 · rw [qG, if_neg h, if_pos rfl]; rfl
 · unfold xM; rw [qG, if_neg h, if_pos rfl]; rfl
theorem tabsH_E {tabs : List (Nat × List Value)} {ng g1 t1 o1 g2 t2 o2 : Nat} (h : TabsH tabs (heap0 tabs)) (hn : ∀ p ∈ tabs, g1 ≠ p.1 ∧ g2 ≠ p.1) : TabsH tabs (heapE tabs ng g1 t1 o1 g2 t2 o2) := by
 intro p hp
 obtain ⟨n1, n2⟩ := hn p hp
 have e : zU (heapE tabs ng g1 t1 o1 g2 t2 o2) p.1 = zU (heap0 tabs) p.1 := by rw [qG, if_neg n2, if_neg n1]
 obtain ⟨⟨z, a⟩, b⟩ := h p hp
 refine ⟨⟨z, by rw [e]; exact a⟩, fun i => ?_⟩
 have := b i
 unfold xM at this ⊢
 rw [e]; exact this
theorem init_heapE {w : World} {tabs : List (Nat × List Value)} {g1 t1 o1 b1 g2 t2 o2 b2 el1 el2 : Nat} {f1 f2 : Nat × Nat} (hok : tabsOK ng tabs = true) (hw : TabsIn w tabs) (hg1 : g1 < ng) (hg2 : g2 < ng)
 (h1 : w.heap[g1]? = some (.cells ⟨[.iface t1 (.pointer (some ⟨b1, o1, none⟩))]⟩ el1 f1)) (h2 : w.heap[g2]? = some (.cells ⟨[.iface t2 (.pointer (some ⟨b2, o2, none⟩))]⟩ el2 f2)) :
 ∃ ρ, HeapR P ng ρ w.heap.size w (heapE tabs ng g1 t1 o1 g2 t2 o2) (ng + 2) w := by
 have hall := List.all_eq_true.1 hok
 let size : Nat → Nat := fun b => match w.heap[b]? with | some (.cells cs _ _) => cs.size | _ => 0
 let ρ : Inj := fun b => if b < ng then some ⟨b, size b, 0⟩ else if b = ng then some ⟨b1, 0, 0⟩ else if b = ng + 1 then some ⟨b2, 0, 0⟩ else none
 have rg : ∀ b, b < ng → ρ b = some ⟨b, size b, 0⟩ := fun b hb => if_pos hb
 have r1 : ρ ng = some ⟨b1, 0, 0⟩ := by show (if ng < ng then _ else _) = _; rw [if_neg (by omega), if_pos rfl]
 have r2 : ρ (ng + 1) = some ⟨b2, 0, 0⟩ := by show (if ng + 1 < ng then _ else _) = _; rw [if_neg (by omega), if_neg (by omega), if_pos rfl]
 have old : ∀ b B, ρ b = some B → zU (heap0 tabs) b ≠ .dead → b < ng := by
  intro b B _ hl
  obtain ⟨vs, h1, _⟩ := heap0_get hl
  exact wP (Bool.and_eq_true_iff.1 (hall _ h1)).1
 have live : ∀ b, zU (heapE tabs ng g1 t1 o1 g2 t2 o2) b ≠ .dead → b < ng := by
  intro b hl
  rw [qG] at hl
  by_cases e2 : g2 = b
  · omega
  · rw [if_neg e2] at hl
    by_cases e1 : g1 = b
    · omega
    · rw [if_neg e1] at hl
      obtain ⟨vs, h1, _⟩ := heap0_get hl
      exact wP (Bool.and_eq_true_iff.1 (hall _ h1)).1
 have err : ∀ {g t o b el : Nat} {f : Nat × Nat} {nb : Nat} {B : Bl}, w.heap[g]? = some (.cells ⟨[.iface t (.pointer (some ⟨b, o, none⟩))]⟩ el f) → ρ nb = some ⟨b, 0, 0⟩ → B = ⟨g, size g, 0⟩ →
  ∃ ob, w.heap[B.b]? = some ob ∧ ObjR P ng ρ w.heap.size B (errO t nb o) ob := by
  intro g t o b el f nb B hh hr hB
  subst hB
  obtain ⟨lo, hi⟩ := f
  have hs : size g = 1 := by
   show (match w.heap[g]? with | some (.cells cs _ _) => cs.size | _ => 0) = _
   rw [hh]; rfl
  refine ⟨_, hh, .cells (by rw [hs]; exact Nat.le_refl 1) (by rw [hs]; rfl) (fun _ => hs.symm) ⟨fun h => by omega, fun h => by omega⟩ (fun i v' hi2 e => ?_) (fun h => absurd rfl h) (fun h => absurd rfl h)⟩
  obtain rfl : i = 0 := by omega
  have e' : some (Value.iface t (.pointer (some ⟨b, o, none⟩))) = some v' := e
  injection e' with e'
  subst e'
  exact .iface (.ptr hr)
 refine ⟨ρ, fun b hb => ?_, ?_, ?_, Go.RowKit.Below.refl _ _, Nat.le_refl _, fun g hg => ⟨_, rg g hg, rfl⟩, by omega⟩
 · show (if b < ng then _ else _) = _
   rw [if_neg (by omega), if_neg (by omega), if_neg (by omega)]
 · intro b B e hl
   have hb := live b hl
   rw [rg b hb] at e
   injection e with e
   rw [qG] at hl ⊢
   by_cases e2 : g2 = b
   · rw [if_pos e2]
     subst e2
     exact err h2 r2 e.symm
   · rw [if_neg e2] at hl ⊢
     by_cases e1 : g1 = b
     · rw [if_pos e1]
       subst e1
       exact err h1 r1 e.symm
     · rw [if_neg e1] at hl ⊢
       subst e
       obtain ⟨vs, q1, q2⟩ := heap0_get hl
       obtain ⟨el, fr, h3⟩ := hw _ q1
       refine ⟨_, h3, ?_⟩
       have hs : size b = vs.length := by
        show (match w.heap[b]? with | some (.cells cs _ _) => cs.size | _ => 0) = _
        rw [h3]; rfl
       rw [q2]
       obtain ⟨lo, hi⟩ := fr
       refine .cells (by rw [hs]; exact Nat.le_refl _) (by rw [hs]; rfl) (fun _ => hs.symm) ⟨fun h => by omega, fun h => by omega⟩ (fun i v' hi2 e => ?_) (fun h => absurd rfl h) (fun h => absurd rfl h)
       rw [Tr.get_ofListFrom, if_pos (by omega)]
       have e1 : vs[i]? = some (vs.getD (i - 0) undef) := by simp [List.getElem?_eq_getElem hi2]
       have e2 : vs[i]? = some v' := by simpa using e
       rw [e1] at e2; injection e2 with e2; subst e2
       have hint := List.all_eq_true.1 (Bool.and_eq_true_iff.1 (hall _ q1)).2 _ (List.mem_iff_getElem?.2 ⟨i, e1⟩)
       generalize vs.getD (i - 0) undef = x at hint
       cases x <;> first | (cases hint; done) | skip
       exact .int _ _
 · intro a b A B ea eb la lb hab
   rw [rg a (live a la)] at ea
   rw [rg b (live b lb)] at eb
   injection ea with ea; injection eb with eb
   subst ea eb
   exact hab
theorem law_rets {f : FuncId} {args : List Value} {h : zD} {n : Nat} (r : Rets P ng f args h n fun v _ _ => v = .bool true) (hpa : args.all plainB = true) (w : World) {ρ : Inj} (hH : HeapR P ng ρ w.heap.size w h n w) :
 Calls P f ⟨args⟩ w fun e w' => e = .returned (.bool true) ∧ Go.RowKit.Below w.heap.size w w' := by
 have hx : (loS P ng).call f args false none h n (finV (.bool true)) = true := r none _ fun v h' n' e => by rw [e]; rfl
 obtain ⟨o, u', h', n', hk, hc⟩ := calls_of qD hx
 obtain rfl := finV_ret hk
 refine (hc ρ w.heap.size w w args hH (plains hpa ρ)).mono fun e w' ⟨ρ', h1, h2, h3⟩ => ?_
 cases e with
 | returned v' =>
  have h3 : RV ρ' (.bool true) v' := h3
  rw [h3.of_bool]
  exact ⟨rfl, h1.below⟩
 | _ => cases h3
end
end Go.Ex
namespace Go.Ex.Vir
open Go Go.Ex
abbrev Tx := List UInt8
structure Ins where
 kind : Int
 d : Int
 a : Int
 b : Int
 n : Int
 name : Tx
 args : List Int
 t : Int
 f : Int
def Ins.z : Ins := ⟨0, 0, 0, 0, 0, [], [], 0, 0⟩
structure Fct where
 name : Tx
 vregs : List Tx
 params : List Int
 result : Tx
 blocks : List (List Ins)
def Fct.z : Fct := ⟨[], [], [], [], []⟩
def letter (c : Int) : Bool := decide ((97 ≤ c ∧ c ≤ 122) ∨ (65 ≤ c ∧ c ≤ 90) ∨ c = 95)
def digit (c : Int) : Bool := decide (48 ≤ c ∧ c ≤ 57)
def nameB (c : UInt8) : Bool := letter c.toNat || digit c.toNat
def named (l : Tx) : Bool := match l with
 | [] => false
 | c :: r => decide (l.length ≤ 20) && (letter c.toNat && (c :: r).all nameB)
abbrev tFunc : Tx := [102, 117, 110, 99]
abbrev tRegs : Tx := [114, 101, 103, 115]
abbrev qH : Tx := [112, 97, 114, 97, 109, 115]
abbrev qV : Tx := [114, 101, 115, 117, 108, 116]
abbrev rL : Tx := [98, 108, 111, 99, 107]
abbrev tEnd : Tx := [101, 110, 100]
abbrev pI : Tx := [99, 111, 110, 115, 116]
abbrev tCopy : Tx := [99, 111, 112, 121]
abbrev tLoad : Tx := [108, 111, 97, 100]
abbrev tCall : Tx := [99, 97, 108, 108]
abbrev tStore : Tx := [115, 116, 111, 114, 101]
abbrev tBr : Tx := [98, 114]
abbrev tJump : Tx := [106, 117, 109, 112]
abbrev tRet : Tx := [114, 101, 116]
abbrev tEq : Tx := [61]
abbrev tTwo : Tx := [32, 32]
def wU (n : Int) : Bool := decide (0 ≤ n ∧ n ≤ 99999)
def tX (i : Ins) : Ins :=
 if i.kind = 1 then { i with kind := 0, d := 0, n := 0 }
 else if i.kind = 2 ∨ i.kind = 4 then { i with kind := 0, d := 0, a := 0 }
 else if i.kind = 3 ∨ i.kind = 6 then { i with kind := 0, d := 0, name := [], args := [] }
 else if i.kind = 5 then { i with kind := 0, a := 0, b := 0 }
 else if i.kind = 7 then { i with kind := 0, a := 0, t := 0, f := 0 }
 else if i.kind = 8 then { i with kind := 0, t := 0 }
 else if i.kind = 9 then { i with kind := 0, a := 0 }
 else { i with kind := 0 }
def zeroI (i : Ins) : Bool := decide (i.kind = 0 ∧ i.d = 0 ∧ i.a = 0 ∧ i.b = 0 ∧ i.n = 0 ∧ i.name = [] ∧ i.args.length = 0 ∧ i.t = 0 ∧ i.f = 0)
def wordB (x : Tx) : Bool := [pI, tCopy, tLoad, tCall].any (x == ·)
def wI (i : Ins) : Bool := decide (1 ≤ i.kind) && decide (i.kind ≤ 9) && zeroI (tX i) && [i.a, i.b, i.t, i.f].all wU && i.args.all wU && decide (i.args.length ≤ 16) &&
  (if i.kind = 3 then named i.name && !wordB i.name && decide (1 ≤ i.args.length) && decide (i.args.length ≤ 2) && wU i.d
   else if i.kind = 6 then named i.name && (decide (i.d = -1) || wU i.d) else wU i.d)
def qQ (f : Fct) : Bool := named f.name && named f.result && decide (f.vregs.length ≤ 500) && decide (f.params.length ≤ 16) && decide (f.blocks.length ≤ 200) && f.params.all wU && f.vregs.all named &&
 f.blocks.all fun b => decide (b.length ≤ 400) && b.all wI
abbrev Res (α : Type) := Except Int (α × List Tx)
def nextW : List Tx → Res Tx
 | [] => .error 3
 | s :: r => .ok (s, r)
def wantW (x : Tx) (ws : List Tx) : Res Unit := match ws with
 | [] => .error 3
 | s :: r => if s == x then .ok ((), r) else .error 3
def sK (ws : List Tx) : Res Tx := match ws with
 | [] => .error 3
 | s :: r => if named s then .ok (s, r) else .error 3
def anyOf (s : Tx) : Option Int := match Lib.atoiAll s with
 | .ok v => if Lib.itoa v == s then some v else none
 | _ => none
theorem anyOf_ok {s : Tx} {a : Int} (h : Lib.atoiAll s = .ok a) : anyOf s = if Lib.itoa a == s then some a else none := by unfold anyOf; rw [h]
theorem anyOf_bad {s : Tx} (h : ∀ a, Lib.atoiAll s ≠ .ok a) : anyOf s = none := by
 unfold anyOf
 split
 · rename_i v e; exact absurd e (h v)
 · rfl
def anyW (ws : List Tx) : Res Int := match ws with
 | [] => .error 3
 | s :: r => match anyOf s with
  | some v => .ok (v, r)
  | none => .error 3
def xY (ws : List Tx) : Res Int := match anyW ws with
 | .error e => .error e
 | .ok (v, r) => if wU v then .ok (v, r) else .error 3
def endW (ws : List Tx) : Res Unit := match ws with
 | [] => .ok ((), [])
 | _ :: _ => .error 3
def restW {α : Type} (one : List Tx → Res α) : Nat → List Tx → Res (List α)
 | _, [] => .ok ([], [])
 | 0, ws => .ok ([], ws)
 | k + 1, ws => match one ws with
  | .error e => .error e
  | .ok (x, r) => match restW one k r with
   | .error e => .error e
   | .ok (l, r') => .ok (x :: l, r')
theorem restW_ok {α : Type} {one : List Tx → Res α} {k : Nat} {s : Tx} {r r' ws' : List Tx} {x : α} {l : List α} (h1 : one (s :: r) = .ok (x, r')) (h2 : restW one k r' = .ok (l, ws')) : restW one (k + 1) (s :: r) = .ok (x :: l, ws') := by
 unfold restW; rw [h1]; dsimp only; rw [h2]
theorem restW_er1 {α : Type} {one : List Tx → Res α} {k : Nat} {s : Tx} {r : List Tx} {e : Int} (h1 : one (s :: r) = .error e) : restW one (k + 1) (s :: r) = .error e := by
 unfold restW; rw [h1]
theorem restW_er2 {α : Type} {one : List Tx → Res α} {k : Nat} {s : Tx} {r r' : List Tx} {x : α} {e : Int} (h1 : one (s :: r) = .ok (x, r')) (h2 : restW one k r' = .error e) : restW one (k + 1) (s :: r) = .error e := by
 unfold restW; rw [h1]; dsimp only; rw [h2]
def tF (ws : List Tx) : Res (List Tx) := restW sK ws.length ws
def vJ (ws : List Tx) : Res (List Int) := restW xY ws.length ws
def rG (i : Ins) (ws : List Tx) : Res Ins := match sK ws with
 | .error e => .error e
 | .ok (s, r) => match vJ r with
  | .error e => .error e
  | .ok (l, r') => if l.length ≤ 16 then .ok ({ i with kind := 6, name := s, args := l }, r') else .error 2
def xZ (ws : List Tx) : Res Ins := match xY ws with
 | .error e => .error e
 | .ok (d, r) => match wantW tEq r with
  | .error e => .error e
  | .ok (_, r) => match sK r with
   | .error e => .error e
   | .ok (s, r) =>
    if s == pI then (match anyW r with
     | .error e => .error e
     | .ok (v, r) => .ok ({ Ins.z with kind := 1, d := d, n := v }, r))
    else if s == tCopy then (match xY r with
     | .error e => .error e
     | .ok (v, r) => .ok ({ Ins.z with kind := 2, d := d, a := v }, r))
    else if s == tLoad then (match xY r with
     | .error e => .error e
     | .ok (v, r) => .ok ({ Ins.z with kind := 4, d := d, a := v }, r))
    else if s == tCall then rG { Ins.z with d := d } r
    else (match vJ r with
     | .error e => .error e
     | .ok (l, r') => if 1 ≤ l.length then (if l.length ≤ 2 then .ok ({ Ins.z with kind := 3, d := d, name := s, args := l }, r') else .error 3) else .error 3)
def wordAt1 (ws : List Tx) : Tx := (ws[1]?).getD []
def oneI (ws : List Tx) : Res Ins :=
 if wordAt1 ws == tEq then xZ ws else match nextW ws with
 | .error e => .error e
 | .ok (s, r) =>
  if s == tStore then (match xY r with
   | .error e => .error e
   | .ok (a, r) => match xY r with
    | .error e => .error e
    | .ok (b, r) => .ok ({ Ins.z with kind := 5, a := a, b := b }, r))
  else if s == tCall then rG { Ins.z with d := -1 } r
  else if s == tBr then (match xY r with
   | .error e => .error e
   | .ok (a, r) => match xY r with
    | .error e => .error e
    | .ok (b, r) => match xY r with
     | .error e => .error e
     | .ok (c, r) => .ok ({ Ins.z with kind := 7, a := a, t := b, f := c }, r))
  else if s == tJump then (match xY r with
   | .error e => .error e
   | .ok (a, r) => .ok ({ Ins.z with kind := 8, t := a }, r))
  else if s == tRet then (match xY r with
   | .error e => .error e
   | .ok (a, r) => .ok ({ Ins.z with kind := 9, a := a }, r))
  else .error 3
def ofW (line head : Tx) : Except Int (List Tx) :=
 if Lib.hasPrefix line head && !(Lib.trimPrefix line head == []) then
  (if (wR 32 (Lib.trimPrefix line head)).all (fun s => !(s == [])) then .ok (wR 32 (Lib.trimPrefix line head)) else .error 3)
 else .error 3
structure St where
 step : Nat
 opn : Bool
 ended : Bool
 f : Fct
def St.z : St := ⟨0, false, false, Fct.z⟩
def rP (st : St) (ws : List Tx) : Except Int Fct := match st.step with
 | 0 => match wantW tFunc ws with
  | .error e => .error e
  | .ok (_, r) => match sK r with
   | .error e => .error e
   | .ok (s, r) => match endW r with
    | .error e => .error e
    | .ok _ => .ok { st.f with name := s }
 | 1 => match wantW tRegs ws with
  | .error e => .error e
  | .ok (_, r) => match tF r with
   | .error e => .error e
   | .ok (l, _) => if l.length ≤ 500 then .ok { st.f with vregs := l } else .error 2
 | 2 => match wantW qH ws with
  | .error e => .error e
  | .ok (_, r) => match vJ r with
   | .error e => .error e
   | .ok (l, _) => if l.length ≤ 16 then .ok { st.f with params := l } else .error 2
 | _ => match wantW qV ws with
  | .error e => .error e
  | .ok (_, r) => match sK r with
   | .error e => .error e
   | .ok (s, r) => match endW r with
    | .error e => .error e
    | .ok _ => .ok { st.f with result := s }
theorem headS_blocks {st : St} {ws : List Tx} {f' : Fct} (h : rP st ws = .ok f') : f'.blocks = st.f.blocks := by
 unfold rP at h
 repeat' (split at h)
 all_goals first
  | (cases h; done)
  | (injection h with h; subst h; rfl)
def pJ (l : List (List Ins)) (i : Ins) : List (List Ins) := l.dropLast ++ [l.getLastD [] ++ [i]]
def insS (st : St) (ws : List Tx) : Except Int Fct := match oneI ws with
 | .error e => .error e
 | .ok (i, r) => match endW r with
  | .error e => .error e
  | .ok _ => if (st.f.blocks.getLastD []).length < 400 then .ok { st.f with blocks := pJ st.f.blocks i } else .error 2
theorem insS_blocks {st : St} {ws : List Tx} {f' : Fct} (h : insS st ws = .ok f') : f'.blocks ≠ [] := by
 unfold insS at h
 repeat' (split at h)
 all_goals first
  | (cases h; done)
  | (injection h with h; subst h; simp [pJ])
def uE (st : St) (s : Tx) : Except Int St :=
 if !st.ended && !(s == []) then
  if st.step < 4 then (match ofW s [] with
   | .error e => .error e
   | .ok ws => match rP st ws with
    | .error e => .error e
    | .ok f => .ok { st with step := st.step + 1, f := f })
  else if s == tEnd then .ok { st with ended := true }
  else if s == rL then (if st.f.blocks.length < 200 then .ok { st with opn := true, f := { st.f with blocks := st.f.blocks ++ [[]] } } else .error 2)
  else if st.opn then (match ofW s tTwo with
   | .error e => .error e
   | .ok ws => match insS st ws with
    | .error e => .error e
    | .ok f => .ok { st with f := f })
  else .error 3
 else .error 3
def sL (s : Tx) : Tx := if (cutB 10 s).2.2 then (cutB 10 s).1 else []
def runS : Nat → Nat → Tx → St → Except (Nat × Int) (St × Nat)
 | 0, no, _, st => .ok (st, no)
 | k + 1, no, s, st =>
  if s == [] then .ok (st, no)
  else match uE st (sL s) with
   | .error e => .error (no, e)
   | .ok st' => runS k (no + 1) (cutB 10 s).2.1 st'
def tellS (r : Except (Nat × Int) (St × Nat)) : Fct × Int × Int := match r with
 | .error (no, e) => (Fct.z, no, e)
 | .ok (st, no) => if st.ended then (st.f, 0, 0) else (Fct.z, no, 3)
def readS (s : Tx) : Fct × Int × Int := if 65536 < s.length then (Fct.z, 0, 2) else tellS (runS (s.length + 1) 1 s St.z)
def Bad (e : Int) : Prop := e = 2 ∨ e = 3
theorem wantW_bad {x : Tx} {ws : List Tx} {e : Int} (h : wantW x ws = .error e) : Bad e := by
 unfold wantW at h
 repeat' (split at h)
 all_goals first
  | (cases h; done)
  | (injection h with h; exact .inr h.symm)
theorem nameW_bad {ws : List Tx} {e : Int} (h : sK ws = .error e) : Bad e := by
 unfold sK at h
 repeat' (split at h)
 all_goals first
  | (cases h; done)
  | (injection h with h; exact .inr h.symm)
theorem nextW_bad {ws : List Tx} {e : Int} (h : nextW ws = .error e) : Bad e := by
 unfold nextW at h
 repeat' (split at h)
 all_goals first
  | (cases h; done)
  | (injection h with h; exact .inr h.symm)
theorem anyW_bad {ws : List Tx} {e : Int} (h : anyW ws = .error e) : Bad e := by
 unfold anyW at h
 repeat' (split at h)
 all_goals first
  | (cases h; done)
  | (injection h with h; exact .inr h.symm)
theorem numberW_bad {ws : List Tx} {e : Int} (h : xY ws = .error e) : Bad e := by
 unfold xY at h
 split at h
 · rename_i e' h1; injection h with h; subst h; exact anyW_bad h1
 · split at h
   · cases h
   · injection h with h; exact .inr h.symm
theorem endW_bad {ws : List Tx} {e : Int} (h : endW ws = .error e) : Bad e := by
 unfold endW at h
 repeat' (split at h)
 all_goals first
  | (cases h; done)
  | (injection h with h; exact .inr h.symm)
theorem restW_bad {α : Type} {one : List Tx → Res α} (ho : ∀ ws e, one ws = .error e → Bad e) : ∀ (k : Nat) (ws : List Tx) (e : Int), restW one k ws = .error e → Bad e := by
 intro k
 induction k with
 | zero => intro ws e h; cases ws <;> cases h
 | succ k ih =>
  intro ws e h
  cases ws with
  | nil => cases h
  | cons s r =>
   cases h1 : one (s :: r) with
   | error e' => rw [restW_er1 h1] at h; injection h with h; subst h; exact ho _ _ h1
   | ok p =>
    obtain ⟨x, r'⟩ := p
    cases h2 : restW one k r' with
    | error e' => rw [restW_er2 h1 h2] at h; injection h with h; subst h; exact ih _ _ h2
    | ok q => obtain ⟨l, r2⟩ := q; rw [restW_ok h1 h2] at h; cases h
theorem restNames_bad {ws : List Tx} {e : Int} (h : tF ws = .error e) : Bad e := restW_bad (fun _ _ => nameW_bad) _ _ _ h
theorem restNums_bad {ws : List Tx} {e : Int} (h : vJ ws = .error e) : Bad e := restW_bad (fun _ _ => numberW_bad) _ _ _ h
theorem calledI_bad {i : Ins} {ws : List Tx} {e : Int} (h : rG i ws = .error e) : Bad e := by
 unfold rG at h
 split at h
 · rename_i h1; injection h with h; subst h; exact nameW_bad h1
 · split at h
   · rename_i h1; injection h with h; subst h; exact restNums_bad h1
   · split at h
     · cases h
     · injection h with h; exact .inl h.symm
theorem definingI_bad {ws : List Tx} {e : Int} (h : xZ ws = .error e) : Bad e := by
 unfold xZ at h
 repeat' (split at h)
 all_goals first
  | (cases h; done)
  | exact calledI_bad h
  | (rename_i h1; injection h with h; subst h; first | exact numberW_bad h1 | exact wantW_bad h1 | exact nameW_bad h1 | exact anyW_bad h1 | exact restNums_bad h1)
  | (injection h with h; exact .inr h.symm)
theorem oneI_bad {ws : List Tx} {e : Int} (h : oneI ws = .error e) : Bad e := by
 unfold oneI at h
 repeat' (split at h)
 all_goals first
  | (cases h; done)
  | exact calledI_bad h
  | exact definingI_bad h
  | (rename_i h1; injection h with h; subst h; first | exact numberW_bad h1 | exact nextW_bad h1)
  | (injection h with h; exact .inr h.symm)
theorem ofW_bad {s hd : Tx} {e : Int} (h : ofW s hd = .error e) : Bad e := by
 unfold ofW at h
 repeat' (split at h)
 all_goals first
  | (cases h; done)
  | (injection h with h; exact .inr h.symm)
theorem headS_bad {st : St} {ws : List Tx} {e : Int} (h : rP st ws = .error e) : Bad e := by
 unfold rP at h
 repeat' (split at h)
 all_goals first
  | (cases h; done)
  | (rename_i h1; injection h with h; subst h; first | exact wantW_bad h1 | exact nameW_bad h1 | exact endW_bad h1 | exact restNames_bad h1 | exact restNums_bad h1)
  | (injection h with h; exact .inl h.symm)
theorem insS_bad {st : St} {ws : List Tx} {e : Int} (h : insS st ws = .error e) : Bad e := by
 unfold insS at h
 repeat' (split at h)
 all_goals first
  | (cases h; done)
  | (rename_i h1; injection h with h; subst h; first | exact oneI_bad h1 | exact endW_bad h1)
  | (injection h with h; exact .inl h.symm)
theorem lineS_bad {st : St} {s : Tx} {e : Int} (h : uE st s = .error e) : Bad e := by
 unfold uE at h
 repeat' (split at h)
 all_goals first
  | (cases h; done)
  | (rename_i h1; injection h with h; subst h; first | exact ofW_bad h1 | exact headS_bad h1 | exact insS_bad h1)
  | (injection h with h; exact .inl h.symm)
  | (injection h with h; exact .inr h.symm)
def RunOK : Nat → Tx → St → (St → Tx → Prop) → Prop
 | 0, _, _, _ => True
 | k + 1, s, st, Q => s = [] ∨ (Q st (sL s) ∧ ∀ st', uE st (sL s) = .ok st' → RunOK k (cutB 10 s).2.1 st' Q)
theorem cutB_len (c : UInt8) : ∀ s : Tx, s ≠ [] → (cutB c s).2.1.length < s.length ∧ (cutB c s).1.length ≤ s.length := by
 intro s
 induction s with
 | nil => intro h; exact absurd rfl h
 | cons a r ih =>
  intro _
  unfold cutB
  split
  · simp
  · cases r with
    | nil => simp [cutB]
    | cons b t =>
     have := ih (by simp)
     simp only [List.length_cons] at this ⊢
     omega
theorem lineOf_len (s : Tx) : (sL s).length ≤ s.length := by
 unfold sL
 split
 · cases s with
   | nil => simp [cutB]
   | cons a r => exact (cutB_len 10 (a :: r) (by simp)).2
 · simp
theorem runS_nil (k no : Nat) (st : St) : runS (k + 1) no [] st = .ok (st, no) := rfl
theorem runS_er {k no : Nat} {s : Tx} {st : St} {e : Int} (hs : (s == []) = false) (h : uE st (sL s) = .error e) : runS (k + 1) no s st = .error (no, e) := by
 unfold runS; rw [hs, h]; rfl
theorem runS_ok {k no : Nat} {s : Tx} {st st' : St} (hs : (s == []) = false) (h : uE st (sL s) = .ok st') : runS (k + 1) no s st = runS k (no + 1) (cutB 10 s).2.1 st' := by
 conv => lhs; unfold runS
 rw [hs, h]; rfl
theorem runS_bad : ∀ (k no : Nat) (s : Tx) (st : St) (no' : Nat) (e : Int), runS k no s st = .error (no', e) → Bad e := by
 intro k
 induction k with
 | zero => intro no s st no' e h; cases h
 | succ k ih =>
  intro no s st no' e h
  cases hs : (s == []) with
  | true =>
   have : s = [] := by simpa using hs
   subst this
   rw [runS_nil] at h; cases h
  | false =>
   cases hl : uE st (sL s) with
   | error e' => rw [runS_er hs hl] at h; injection h with h; injection h with _ h; subst h; exact lineS_bad hl
   | ok st' => rw [runS_ok hs hl] at h; exact ih _ _ _ _ _ h
theorem dec_ofNat {k : Nat} (h : k < 10) : (UInt8.ofNat (48 + k)).toNat = 48 + k := by
 rw [UInt8.toNat_ofNat']
 omega
theorem decDigits_dig (u : Nat) : ∀ c ∈ Lib.decDigits u, 48 ≤ c.toNat ∧ c.toNat ≤ 57 := by
 induction u using Nat.strongRecOn with
 | _ u ih =>
  intro c hc
  rw [Lib.decDigits] at hc
  split at hc
  · rename_i h
    simp only [List.mem_cons, List.not_mem_nil, or_false] at hc
    subst hc
    rw [dec_ofNat h]; omega
  · rename_i h
    rw [List.mem_append] at hc
    rcases hc with hc | hc
    · exact ih (u / 10) (by omega) c hc
    · simp only [List.mem_cons, List.not_mem_nil, or_false] at hc
      subst hc
      rw [dec_ofNat (by omega)]; omega
theorem decDigits_ne (u : Nat) : Lib.decDigits u ≠ [] := by
 rw [Lib.decDigits]
 split
 · simp
 · simp
theorem itoa_chars (n : Int) : ∀ c ∈ Lib.itoa n, c.toNat = 45 ∨ (48 ≤ c.toNat ∧ c.toNat ≤ 57) := by
 intro c hc
 unfold Lib.itoa at hc
 split at hc
 · rw [List.mem_cons] at hc
   rcases hc with rfl | hc
   · exact .inl rfl
   · exact .inr (decDigits_dig _ c hc)
 · exact .inr (decDigits_dig _ c hc)
theorem itoa_ne (n : Int) : Lib.itoa n ≠ [] := by
 unfold Lib.itoa
 split
 · simp
 · exact decDigits_ne _
theorem parse_append (l : List UInt8) (c : UInt8) : ∀ (acc u : Nat), Lib.parseUint10 acc l = .ok u → Lib.parseUint10 acc (l ++ [c]) = Lib.parseUint10 u [c] := by
 induction l with
 | nil => intro acc u h; simp only [Lib.parseUint10] at h; injection h with h; subst h; rfl
 | cons x r ih =>
  intro acc u h
  rw [List.cons_append]
  simp only [Lib.parseUint10] at h ⊢
  split at h
  · split at h
    · cases h
    · split at h
      · cases h
      · rename_i h1 h2 h3
        rw [if_pos h1, if_neg h2, if_neg h3]
        exact ih _ _ h
  · cases h
theorem parse_dec (u : Nat) (hu : u < 18446744073709551616) : Lib.parseUint10 0 (Lib.decDigits u) = .ok u := by
 induction u using Nat.strongRecOn with
 | _ u ih =>
  rw [Lib.decDigits]
  split
  · rename_i h
    have e := dec_ofNat h
    simp only [Lib.parseUint10, e]
    rw [if_pos (by omega), if_neg (by omega), if_neg (by omega)]
    congr 1; omega
  · rename_i h
    rw [parse_append _ _ 0 (u / 10) (ih (u / 10) (by omega) (by omega))]
    have e := dec_ofNat (show u % 10 < 10 by omega)
    simp only [Lib.parseUint10, e]
    rw [if_pos (by omega), if_neg (by omega), if_neg (by omega)]
    congr 1; omega
theorem parseMag_dec (u : Nat) (hu : u < 18446744073709551616) : Lib.parseMag (Lib.decDigits u) = .ok u := by
 unfold Lib.parseMag
 rw [if_neg (decDigits_ne u), parse_dec u hu]
def Go64 (x : Int) : Prop := -9223372036854775808 ≤ x ∧ x ≤ 9223372036854775807
theorem atoi_itoa {n : Int} (h : Go64 n) : Lib.atoiAll (Lib.itoa n) = .ok n := by
 obtain ⟨h0, h1⟩ := h
 unfold Lib.itoa
 split
 · rename_i hn
   have hm := parseMag_dec n.natAbs (by omega)
   unfold Lib.atoiAll
   dsimp only
   have e45 : (45 : UInt8).toNat = 45 := rfl
   rw [e45, if_pos (by omega), hm]
   dsimp only
   rw [if_neg (by omega), if_neg (by omega), if_pos rfl]
   congr 1; omega
 · rename_i hn
   have hm := parseMag_dec n.toNat (by omega)
   have hd := decDigits_dig n.toNat
   revert hm hd
   cases e : Lib.decDigits n.toNat with
   | nil => exact absurd e (decDigits_ne _)
   | cons c r =>
    intro hm hd
    have hc := hd c (List.mem_cons_self ..)
    unfold Lib.atoiAll
    dsimp only
    rw [if_neg (by omega), hm]
    dsimp only
    rw [if_neg (by omega), if_neg (by omega), if_neg (by omega)]
    congr 1; omega
theorem any_itoa {n : Int} (h : Go64 n) : anyOf (Lib.itoa n) = some n := by
 rw [anyOf_ok (atoi_itoa h), if_pos (by simp)]
theorem wK {n : Int} (h : wU n = true) : Go64 n := by
 have := of_decide_eq_true h
 exact ⟨by omega, by omega⟩
theorem anyW_itoa {n : Int} (h : Go64 n) (r : List Tx) : anyW (Lib.itoa n :: r) = .ok (n, r) := by
 unfold anyW; dsimp only; rw [any_itoa h]
theorem wT {n : Int} (h : wU n = true) (r : List Tx) : xY (Lib.itoa n :: r) = .ok (n, r) := by
 unfold xY; rw [anyW_itoa (wK h)]; dsimp only; rw [if_pos h]
theorem restNums_itoa : ∀ (ns : List Int) (k : Nat), ns.length ≤ k → ns.all wU = true → restW xY k (ns.map Lib.itoa) = .ok (ns, []) := by
 intro ns
 induction ns with
 | nil => intro k _ _; cases k <;> rfl
 | cons x r ih =>
  intro k hk ha
  obtain ⟨k, rfl⟩ : ∃ j, k = j + 1 := ⟨k - 1, by simp at hk; omega⟩
  rw [List.all_cons, Bool.and_eq_true] at ha
  rw [List.map_cons]
  exact restW_ok (wT ha.1 _) (ih k (by simpa using hk) ha.2)
theorem qW {ns : List Int} (ha : ns.all wU = true) : vJ (ns.map Lib.itoa) = .ok (ns, []) :=
 restNums_itoa ns _ (by simp) ha
theorem rQ {s : Tx} (h : named s = true) (r : List Tx) : sK (s :: r) = .ok (s, r) := by
 unfold sK; dsimp only; rw [if_pos h]
theorem rR (x : Tx) (r : List Tx) : wantW x (x :: r) = .ok ((), r) := by
 unfold wantW; dsimp only; rw [if_pos (by simp)]
theorem restNames_ok : ∀ (ns : List Tx) (k : Nat), ns.length ≤ k → ns.all named = true → restW sK k ns = .ok (ns, []) := by
 intro ns
 induction ns with
 | nil => intro k _ _; cases k <;> rfl
 | cons x r ih =>
  intro k hk ha
  obtain ⟨k, rfl⟩ : ∃ j, k = j + 1 := ⟨k - 1, by simp at hk; omega⟩
  rw [List.all_cons, Bool.and_eq_true] at ha
  exact restW_ok (rQ ha.1 _) (ih k (by simpa using hk) ha.2)
def WordOK (s : Tx) : Prop := s ≠ [] ∧ (32 : UInt8) ∉ s ∧ (10 : UInt8) ∉ s
theorem nameB_ne {c : UInt8} (h : nameB c = true) : c ≠ 32 ∧ c ≠ 10 ∧ c ≠ 61 := by
 refine ⟨?_, ?_, ?_⟩ <;> (intro e; subst e; revert h; decide)
theorem named_ok {s : Tx} (h : named s = true) : WordOK s ∧ s ≠ tEq := by
 unfold named at h
 split at h
 · cases h
 · rename_i c r
   rw [Bool.and_eq_true, Bool.and_eq_true] at h
   obtain ⟨_, _, h⟩ := h
   have h' := List.all_eq_true.1 h
   refine ⟨⟨by simp, fun hm => (nameB_ne (h' _ hm)).1 rfl, fun hm => (nameB_ne (h' _ hm)).2.1 rfl⟩, fun e => ?_⟩
   injection e with e _
   exact (nameB_ne (h' c (List.mem_cons_self ..))).2.2 e
theorem itoa_word (n : Int) : WordOK (Lib.itoa n) := by
 refine ⟨itoa_ne n, fun h => ?_, fun h => ?_⟩ <;> (have := itoa_chars n _ h; revert this; decide)
theorem itoa_ne_eq (n : Int) : Lib.itoa n ≠ tEq := by
 intro e
 have := itoa_chars n 61 (by rw [e]; exact List.mem_cons_self ..)
 revert this; decide
theorem splitL_no {c : UInt8} : ∀ {s : Tx}, c ∉ s → wR c s = [s] := by
 intro s
 induction s with
 | nil => intro _; rfl
 | cons a r ih =>
  intro h
  rw [List.mem_cons, not_or] at h
  unfold wR
  rw [if_neg (fun e => h.1 e.symm), ih h.2]
theorem splitL_at {c : UInt8} {t : Tx} : ∀ {s : Tx}, c ∉ s → wR c (s ++ c :: t) = s :: wR c t := by
  intro s
  induction s with
  | nil => intro _; show wR c (c :: t) = _; conv => lhs; unfold wR
           rw [if_pos rfl]
  | cons a r ih =>
    intro h
    rw [List.mem_cons, not_or] at h
    rw [List.cons_append]
    conv => lhs; unfold wR
    rw [if_neg (fun e => h.1 e.symm), ih h.2]
theorem join_two (x y : Tx) (r : List Tx) (c : UInt8) : Lib.join (x :: y :: r) [c] = x ++ c :: Lib.join (y :: r) [c] := by
 rw [Lib.join_cons, Lib.join_cons]
 unfold Lib.joinTail
 simp
theorem splitL_join {ws : List Tx} : ∀ {w : Tx}, (∀ s ∈ w :: ws, (32 : UInt8) ∉ s) → wR 32 (Lib.join (w :: ws) [32]) = w :: ws := by
 induction ws with
 | nil => intro w h; rw [Lib.join_one]; exact splitL_no (h w (List.mem_cons_self ..))
 | cons y r ih =>
  intro w h
  rw [join_two, splitL_at (h w (List.mem_cons_self ..)), ih fun s hs => h s (List.mem_cons_of_mem _ hs)]
theorem join_no {c : UInt8} (hc : c ≠ 32) {ws : List Tx} : ∀ {w : Tx}, (∀ s ∈ w :: ws, c ∉ s) → c ∉ Lib.join (w :: ws) [32] := by
 induction ws with
 | nil => intro w h; rw [Lib.join_one]; exact h w (List.mem_cons_self ..)
 | cons y r ih =>
  intro w h
  rw [join_two, List.mem_append, List.mem_cons]
  rintro (e | e | e)
  · exact h w (List.mem_cons_self ..) e
  · exact hc e
  · exact ih (fun s hs => h s (List.mem_cons_of_mem _ hs)) e
theorem join_ne {w : Tx} (ws : List Tx) (h : w ≠ []) : Lib.join (w :: ws) [32] ≠ [] := by
 rw [Lib.join_cons]
 intro e
 exact h (List.append_eq_nil_iff.1 e).1
theorem ofW_join {hd w : Tx} {ws : List Tx} (h : ∀ s ∈ w :: ws, WordOK s) : ofW (hd ++ Lib.join (w :: ws) [32]) hd = .ok (w :: ws) := by
 have e1 : Lib.hasPrefix (hd ++ Lib.join (w :: ws) [32]) hd = true := by
  unfold Lib.hasPrefix
  rw [List.isPrefixOf_iff_prefix]
  exact List.prefix_append ..
 have e2 : Lib.trimPrefix (hd ++ Lib.join (w :: ws) [32]) hd = Lib.join (w :: ws) [32] := by
  unfold Lib.trimPrefix
  rw [if_pos e1, List.drop_left]
 have e3 := splitL_join (w := w) (ws := ws) fun s hs => (h s hs).2.1
 have e4 : (Lib.join (w :: ws) [32] == []) = false := by
  rw [beq_eq_false_iff_ne]
  exact join_ne ws (h w (List.mem_cons_self ..)).1
 have e5 : (w :: ws).all (fun s => !(s == [])) = true := by
  rw [List.all_eq_true]
  intro s hs
  have := (h s hs).1
  simpa using this
 unfold ofW
 rw [e1, e2, e3, e4, e5]
 rfl
def rH (i : Ins) : List Tx :=
 if i.kind = 1 then [Lib.itoa i.d, tEq, pI, Lib.itoa i.n]
 else if i.kind = 2 then [Lib.itoa i.d, tEq, tCopy, Lib.itoa i.a]
 else if i.kind = 3 then [Lib.itoa i.d, tEq, i.name] ++ i.args.map Lib.itoa
 else if i.kind = 4 then [Lib.itoa i.d, tEq, tLoad, Lib.itoa i.a]
 else if i.kind = 5 then [tStore, Lib.itoa i.a, Lib.itoa i.b]
 else if i.kind = 6 then (if i.d = -1 then [] else [Lib.itoa i.d, tEq]) ++ [tCall, i.name] ++ i.args.map Lib.itoa
 else if i.kind = 7 then [tBr, Lib.itoa i.a, Lib.itoa i.t, Lib.itoa i.f]
 else if i.kind = 8 then [tJump, Lib.itoa i.t]
 else [tRet, Lib.itoa i.a]
def InsAll (i : Ins) : Prop := Go64 i.d ∧ Go64 i.a ∧ Go64 i.b ∧ Go64 i.n ∧ Go64 i.t ∧ Go64 i.f ∧ (∀ x ∈ i.args, Go64 x) ∧ i.args.length < 50000
theorem plainI_of {i : Ins} (h : wI i = true) : (1 ≤ i.kind ∧ i.kind ≤ 9) ∧ zeroI (tX i) = true ∧ (wU i.a = true ∧ wU i.b = true ∧ wU i.t = true ∧ wU i.f = true) ∧ i.args.all wU = true ∧ i.args.length ≤ 16 ∧
    (if i.kind = 3 then named i.name && !wordB i.name && decide (1 ≤ i.args.length) && decide (i.args.length ≤ 2) && wU i.d
     else if i.kind = 6 then named i.name && (decide (i.d = -1) || wU i.d) else wU i.d) = true := by
  unfold wI at h
  simp only [Bool.and_eq_true, decide_eq_true_eq] at h
  obtain ⟨⟨⟨⟨⟨⟨h1, h2⟩, h3⟩, h4⟩, h5⟩, h6⟩, h7⟩ := h
  simp only [List.all_cons, List.all_nil, Bool.and_true, Bool.and_eq_true] at h4
  exact ⟨⟨h1, h2⟩, h3, ⟨h4.1, h4.2.1, h4.2.2.1, h4.2.2.2⟩, h5, h6, h7⟩
theorem zero_of {i : Ins} (h : zeroI i = true) : i = Ins.z := by
 unfold zeroI at h
 obtain ⟨kind, d, a, b, n, name, args, t, f⟩ := i
 obtain ⟨h1, h2, h3, h4, h5, h6, h7, h8, h9⟩ := of_decide_eq_true h
 dsimp only at h1 h2 h3 h4 h5 h6 h7 h8 h9
 have := List.length_eq_zero_iff.1 h7
 subst h1 h2 h3 h4 h5 h6 this h8 h9
 rfl
theorem tk : named pI = true ∧ named tCopy = true ∧ named tLoad = true ∧ named tCall = true := by decide
theorem oneI_def {d : Int} {r : List Tx} : oneI (Lib.itoa d :: tEq :: r) = xZ (Lib.itoa d :: tEq :: r) := by
 unfold oneI
 rw [if_pos (by rfl)]
theorem pK {s w : Tx} {r : List Tx} (h : s ≠ tEq) : (wordAt1 (w :: s :: r) == tEq) = false := by
 rw [beq_eq_false_iff_ne]; exact h
theorem oneI_show {i : Ins} (h : wI i = true) (hn : Go64 i.n) : oneI (rH i) = .ok (i, []) := by
 obtain ⟨⟨h1, h2⟩, h3, ⟨ha, hb, ht, hf⟩, hargs, hal, hk⟩ := plainI_of h
 have hz := zero_of h3
 have d1 : ∀ {d : Int} {r : List Tx} , wU d = true → xY (Lib.itoa d :: tEq :: r) = .ok (d, tEq :: r) := fun hd => wT hd _
 unfold tX at hz
 unfold rH
 obtain ⟨kind, d, a, b, n, name, args, t, f⟩ := i
 dsimp only at h1 h2 h3 ha hb ht hf hargs hal hk hz hn ⊢
 have cs : kind = 1 ∨ kind = 2 ∨ kind = 3 ∨ kind = 4 ∨ kind = 5 ∨ kind = 6 ∨ kind = 7 ∨ kind = 8 ∨ kind = 9 := by omega
 have hz' := hz
 rcases cs with rfl | rfl | rfl | rfl | rfl | rfl | rfl | rfl | rfl <;> simp [Ins.z] at hz hk ⊢
 · obtain ⟨rfl, rfl, rfl, rfl, rfl, rfl⟩ := hz
   rw [oneI_def]; unfold xZ
   rw [d1 hk]; dsimp only; rw [rR]; dsimp only; rw [rQ tk.1]; dsimp only
   rw [if_pos (by rfl), anyW_itoa hn]; rfl
 · obtain ⟨rfl, rfl, rfl, rfl, rfl, rfl⟩ := hz
   rw [oneI_def]; unfold xZ
   rw [d1 hk]; dsimp only; rw [rR]; dsimp only; rw [rQ tk.2.1]; dsimp only
   rw [if_neg (by decide), if_pos (by rfl), wT ha]; rfl
 · obtain ⟨rfl, rfl, rfl, rfl, rfl⟩ := hz
   obtain ⟨⟨⟨⟨k1, k2⟩, k3⟩, k4⟩, k5⟩ := hk
   have w : ∀ x, x = pI ∨ x = tCopy ∨ x = tLoad ∨ x = tCall → (name == x) = false := fun x hx => by
    cases e : (name == x) with
    | false => rfl
    | true =>
     have : name = x := by simpa using e
     subst this
     rcases hx with rfl | rfl | rfl | rfl <;> (revert k2; decide)
   rw [oneI_def]; unfold xZ
   rw [d1 k5]; dsimp only; rw [rR]; dsimp only; rw [rQ k1]; dsimp only
   rw [w pI (by simp), w tCopy (by simp), w tLoad (by simp), w tCall (by simp)]
   simp only [Bool.false_eq_true, reduceIte]
   rw [qW hargs]; dsimp only
   rw [if_pos (by omega), if_pos k4]; rfl
 · obtain ⟨rfl, rfl, rfl, rfl, rfl, rfl⟩ := hz
   rw [oneI_def]; unfold xZ
   rw [d1 hk]; dsimp only; rw [rR]; dsimp only; rw [rQ tk.2.2.1]; dsimp only
   rw [if_neg (by decide), if_neg (by decide), if_pos (by rfl), wT ha]; rfl
 · obtain ⟨rfl, rfl, rfl, rfl, rfl, rfl⟩ := hz
   unfold oneI
   rw [pK (itoa_ne_eq a)]
   simp only [Bool.false_eq_true, reduceIte, nextW]
   rw [if_pos (by rfl), wT ha]; dsimp only; rw [wT hb]; rfl
 · obtain ⟨rfl, rfl, rfl, rfl, rfl⟩ := hz
   obtain ⟨k1, k2⟩ := hk
   have hc : ∀ j : Ins, rG j (name :: args.map Lib.itoa) = .ok ({ j with kind := 6, name := name, args := args }, []) := fun j => by
    unfold rG
    rw [rQ k1]; dsimp only; rw [qW hargs]; dsimp only; rw [if_pos hal]
   by_cases hd : d = -1
   · subst hd
     rw [if_pos rfl]
     unfold oneI
     rw [List.nil_append, pK (named_ok k1).2]
     simp only [Bool.false_eq_true, reduceIte, nextW]
     rw [if_neg (by decide), if_pos (by rfl), hc]; rfl
   · rw [if_neg hd]
     have k3 : wU d = true := k2.resolve_left hd
     show oneI (Lib.itoa d :: tEq :: tCall :: name :: args.map Lib.itoa) = _
     rw [oneI_def]; unfold xZ
     rw [d1 k3]; dsimp only; rw [rR]; dsimp only; rw [rQ tk.2.2.2]; dsimp only
     rw [if_neg (by decide), if_neg (by decide), if_neg (by decide), if_pos (by rfl), hc]; rfl
 · obtain ⟨rfl, rfl, rfl, rfl, rfl⟩ := hz
   unfold oneI
   rw [pK (itoa_ne_eq a)]
   simp only [Bool.false_eq_true, reduceIte, nextW]
   rw [if_neg (by decide), if_neg (by decide), if_pos (by rfl), wT ha]; dsimp only; rw [wT ht]; dsimp only; rw [wT hf]; rfl
 · obtain ⟨rfl, rfl, rfl, rfl, rfl, rfl, rfl⟩ := hz
   unfold oneI
   rw [pK (itoa_ne_eq t)]
   simp only [Bool.false_eq_true, reduceIte, nextW]
   rw [if_neg (by decide), if_neg (by decide), if_neg (by decide), if_pos (by rfl), wT ht]; rfl
 · obtain ⟨rfl, rfl, rfl, rfl, rfl, rfl, rfl⟩ := hz
   unfold oneI
   rw [pK (itoa_ne_eq a)]
   simp only [Bool.false_eq_true, reduceIte, nextW]
   rw [if_neg (by decide), if_neg (by decide), if_neg (by decide), if_neg (by decide), if_pos (by rfl), wT ha]; rfl
theorem cutB_at {c : UInt8} {t : Tx} : ∀ {s : Tx}, c ∉ s → cutB c (s ++ c :: t) = (s, t, true) := by
 intro s
 induction s with
 | nil => intro _; show cutB c (c :: t) = _; unfold cutB; rw [if_pos rfl]
 | cons a r ih =>
  intro h
  rw [List.mem_cons, not_or] at h
  rw [List.cons_append]
  unfold cutB
  rw [if_neg (fun e => h.1 e.symm), ih h.2]
theorem lineOf_at {s t : Tx} (h : (10 : UInt8) ∉ s) : sL (s ++ 10 :: t) = s ∧ (cutB 10 (s ++ 10 :: t)).2.1 = t := by
 unfold sL
 rw [cutB_at h]
 exact ⟨rfl, rfl⟩
def rC : List Tx → St → Option St
 | [], st => some st
 | l :: r, st => match uE st l with
  | .ok st' => rC r st'
  | .error _ => none
theorem uI {l : Tx} {r : List Tx} {st st' : St} (h : uE st l = .ok st') : rC (l :: r) st = rC r st' := by
 show (match uE st l with | .ok st' => rC r st' | .error _ => none) = _
 rw [h]
theorem stepsS_append {r : List Tx} : ∀ {l : List Tx} {st st' : St}, rC l st = some st' → rC (l ++ r) st = rC r st' := by
 intro l
 induction l with
 | nil => intro st st' h; injection h with h; subst h; rfl
 | cons a l ih =>
  intro st st' h
  cases e : uE st a with
  | error x => simp only [rC, e] at h; cases h
  | ok st1 => rw [uI e] at h; rw [List.cons_append, uI e]; exact ih h
def vV (ls : List Tx) : Tx := ls.flatMap (· ++ [10])
theorem sQ (l : Tx) (r : List Tx) : vV (l :: r) = l ++ 10 :: vV r := by
 unfold vV; rw [List.flatMap_cons, List.append_assoc]; rfl
theorem textL_append (a b : List Tx) : vV (a ++ b) = vV a ++ vV b := by unfold vV; rw [List.flatMap_append]
theorem textL_len (ls : List Tx) : ls.length ≤ (vV ls).length := by
 induction ls with
 | nil => exact Nat.le_refl _
 | cons l r ih => rw [sQ]; simp only [List.length_cons, List.length_append]; omega
theorem runS_lines {Q : St → Tx → Prop} (hQ : ∀ st l st', uE st l = .ok st' → Q st l) (t : Tx) : ∀ (ls : List Tx), (∀ l ∈ ls, (10 : UInt8) ∉ l) → ∀ (k no : Nat) (st st' : St), rC ls st = some st' →
 runS (k + ls.length) no (vV ls ++ t) st = runS k (no + ls.length) t st' ∧ (RunOK k t st' Q → RunOK (k + ls.length) (vV ls ++ t) st Q) := by
 intro ls
 induction ls with
 | nil => intro _ k no st st' h; injection h with h; subst h; exact ⟨rfl, fun h => h⟩
 | cons l r ih =>
  intro hl k no st st' h
  cases e : uE st l with
  | error x => simp only [rC, e] at h; cases h
  | ok st1 =>
   rw [uI e] at h
   obtain ⟨i1, i2⟩ := ih (fun x hx => hl x (List.mem_cons_of_mem _ hx)) k (no + 1) st1 st' h
   have hat := lineOf_at (t := vV r ++ t) (hl l (List.mem_cons_self ..))
   have et : vV (l :: r) ++ t = l ++ 10 :: (vV r ++ t) := by rw [sQ, List.append_assoc]; rfl
   have ek : k + (l :: r).length = (k + r.length) + 1 := by rw [List.length_cons]; omega
   rw [et, ek]
   constructor
   · rw [runS_ok (by cases l <;> rfl) (by rw [hat.1]; exact e), hat.2, i1]
     congr 1; rw [List.length_cons]; omega
   · intro hr
     refine .inr ⟨by rw [hat.1]; exact hQ _ _ _ e, fun st2 h2 => ?_⟩
     rw [hat.1, e] at h2
     injection h2 with h2; subst h2
     rw [hat.2]
     exact i2 hr
def pL (f : Fct) : List Tx := [Lib.join [tFunc, f.name] [32], Lib.join (tRegs :: f.vregs) [32], Lib.join (qH :: f.params.map Lib.itoa) [32], Lib.join [qV, f.result] [32]]
def uY (i : Ins) : Tx := tTwo ++ Lib.join (rH i) [32]
def uC (b : List Ins) : List Tx := rL :: b.map uY
def sG (f : Fct) : List Tx := f.blocks.flatMap uC
def uR (f : Fct) : List Tx := pL f ++ sG f ++ [tEnd]
def pM (f : Fct) : Tx := if qQ f then vV (uR f) else []
theorem plainF_of {f : Fct} (h : qQ f = true) : named f.name = true ∧ named f.result = true ∧ f.vregs.length ≤ 500 ∧ f.params.length ≤ 16 ∧ f.blocks.length ≤ 200 ∧ f.params.all wU = true ∧ f.vregs.all named = true ∧
 ∀ b ∈ f.blocks, b.length ≤ 400 ∧ b.all wI = true := by
 unfold qQ at h
 simp only [Bool.and_eq_true, decide_eq_true_eq] at h
 obtain ⟨⟨⟨⟨⟨⟨⟨h1, h2⟩, h3⟩, h4⟩, h5⟩, h6⟩, h7⟩, h8⟩ := h
 refine ⟨h1, h2, h3, h4, h5, h6, h7, fun b hb => ?_⟩
 have := List.all_eq_true.1 h8 b hb
 rw [Bool.and_eq_true] at this
 exact ⟨of_decide_eq_true this.1, this.2⟩
theorem kw {s : Tx} (h : s ∈ [tFunc, tRegs, qH, qV, pI, tCopy, tLoad, tCall, tStore, tBr, tJump, tRet, tEq]) : WordOK s := by
 simp only [List.mem_cons, List.not_mem_nil, or_false] at h
 rcases h with rfl | rfl | rfl | rfl | rfl | rfl | rfl | rfl | rfl | rfl | rfl | rfl | rfl <;> (refine ⟨?_, ?_, ?_⟩ <;> decide)
theorem all_word {ns : List Int} : ∀ s ∈ ns.map Lib.itoa, WordOK s := by
 intro s hs
 obtain ⟨n, _, rfl⟩ := List.mem_map.1 hs
 exact itoa_word n
theorem showI_words {i : Ins} (h : wI i = true) : rH i ≠ [] ∧ ∀ s ∈ rH i, WordOK s := by
 obtain ⟨⟨h1, h2⟩, _, _, _, _, hk⟩ := plainI_of h
 unfold rH
 have cs : i.kind = 1 ∨ i.kind = 2 ∨ i.kind = 3 ∨ i.kind = 4 ∨ i.kind = 5 ∨ i.kind = 6 ∨ i.kind = 7 ∨ i.kind = 8 ∨ i.kind = 9 := by omega
 have it := itoa_word
 rcases cs with e | e | e | e | e | e | e | e | e <;> rw [e] at hk ⊢ <;> simp at hk ⊢
 · exact ⟨it _, kw (by simp), kw (by simp), it _⟩
 · exact ⟨it _, kw (by simp), kw (by simp), it _⟩
 · exact ⟨it _, kw (by simp), (named_ok hk.1.1.1.1).1, fun a _ => it a⟩
 · exact ⟨it _, kw (by simp), kw (by simp), it _⟩
 · exact ⟨kw (by simp), it _, it _⟩
 · rintro s (⟨_, rfl | rfl⟩ | rfl | rfl | ⟨a, _, rfl⟩)
   · exact it _
   · exact kw (by simp)
   · exact kw (by simp)
   · exact (named_ok hk.1).1
   · exact it a
 · exact ⟨kw (by simp), it _, it _, it _⟩
 · exact ⟨kw (by simp), it _⟩
 · exact ⟨kw (by simp), it _⟩
theorem ofW_nil {w : Tx} {ws : List Tx} (h : ∀ s ∈ w :: ws, WordOK s) : ofW (Lib.join (w :: ws) [32]) [] = .ok (w :: ws) := ofW_join (hd := []) h
theorem join_beq {w : Tx} (ws : List Tx) (h : w ≠ []) : (Lib.join (w :: ws) [32] == []) = false := by
 rw [beq_eq_false_iff_ne]; exact join_ne ws h
theorem ins_step {i : Ins} (h : wI i = true) (hn : Go64 i.n) {g : Fct} {B : List (List Ins)} {p : List Ins} (hg : g.blocks = B ++ [p]) (hp : p.length < 400) :
 uE ⟨4, true, false, g⟩ (uY i) = .ok ⟨4, true, false, { g with blocks := B ++ [p ++ [i]] }⟩ := by
 obtain ⟨h0, hw⟩ := showI_words h
 have ho := oneI_show h hn
 unfold uY
 cases e : rH i with
 | nil => exact absurd e h0
 | cons w ws =>
  rw [e] at hw ho
  have e1 : ofW (tTwo ++ Lib.join (w :: ws) [32]) tTwo = .ok (w :: ws) := ofW_join hw
  generalize Lib.join (w :: ws) [32] = J at e1
  unfold uE
  dsimp only
  have b0 : ((tTwo ++ J) == []) = false := rfl
  have b1 : ((tTwo ++ J) == tEnd) = false := rfl
  have b2 : ((tTwo ++ J) == rL) = false := rfl
  have e3 : g.blocks.getLastD [] = p := by rw [hg]; simp
  have e4 : pJ g.blocks i = B ++ [p ++ [i]] := by unfold pJ; rw [e3, hg]; simp
  have e5 : insS ⟨4, true, false, g⟩ (w :: ws) = .ok { g with blocks := B ++ [p ++ [i]] } := by
   unfold insS
   rw [ho]
   dsimp only [endW]
   rw [e3, e4, if_pos hp]
  rw [b0, b1, b2, e1]
  dsimp only
  rw [e5]
  rfl
theorem inss_steps : ∀ (l : List Ins), l.all wI = true → (∀ i ∈ l, Go64 i.n) → ∀ {g : Fct} {B : List (List Ins)} {p : List Ins}, g.blocks = B ++ [p] → p.length + l.length ≤ 400 →
 rC (l.map uY) ⟨4, true, false, g⟩ = some ⟨4, true, false, { g with blocks := B ++ [p ++ l] }⟩ := by
 intro l
 induction l with
 | nil => intro _ _ g B p hg _; simp [rC, ← hg]
 | cons i r ih =>
  intro ha hn g B p hg hl
  rw [List.all_cons, Bool.and_eq_true] at ha
  rw [List.length_cons] at hl
  rw [List.map_cons, uI (ins_step ha.1 (hn i (List.mem_cons_self ..)) hg (by omega))]
  rw [ih ha.2 (fun j hj => hn j (List.mem_cons_of_mem _ hj)) (g := { g with blocks := B ++ [p ++ [i]] }) rfl (by simp; omega)]
  simp
theorem block_steps {b : List Ins} (ha : b.all wI = true) (hn : ∀ i ∈ b, Go64 i.n) (hl : b.length ≤ 400) {g : Fct} (hg : g.blocks.length < 200) (op : Bool) :
 rC (uC b) ⟨4, op, false, g⟩ = some ⟨4, true, false, { g with blocks := g.blocks ++ [b] }⟩ := by
 have e : uE ⟨4, op, false, g⟩ rL = .ok ⟨4, true, false, { g with blocks := g.blocks ++ [[]] }⟩ := by
  unfold uE
  dsimp only
  have b1 : (rL == []) = false := by decide
  have b2 : (rL == tEnd) = false := by decide
  have b3 : (rL == rL) = true := by decide
  rw [b1, b2, b3]
  simp [hg]
 unfold uC
 rw [uI e, inss_steps b ha hn (g := { g with blocks := g.blocks ++ [[]] }) rfl (by simpa using hl)]
 simp
theorem body_steps : ∀ (bs : List (List Ins)), (∀ b ∈ bs, b.length ≤ 400 ∧ b.all wI = true ∧ ∀ i ∈ b, Go64 i.n) → ∀ (g : Fct) (op : Bool), g.blocks.length + bs.length ≤ 200 →
 ∃ op', rC (bs.flatMap uC) ⟨4, op, false, g⟩ = some ⟨4, op', false, { g with blocks := g.blocks ++ bs }⟩ := by
 intro bs
 induction bs with
 | nil => intro _ g op _; exact ⟨op, by simp [rC]⟩
 | cons b r ih =>
  intro h g op hl
  obtain ⟨h1, h2, h3⟩ := h b (List.mem_cons_self ..)
  rw [List.length_cons] at hl
  obtain ⟨op', e⟩ := ih (fun x hx => h x (List.mem_cons_of_mem _ hx)) { g with blocks := g.blocks ++ [b] } true (by simp; omega)
  refine ⟨op', ?_⟩
  rw [List.flatMap_cons, stepsS_append (block_steps h2 h3 h1 (by omega) op), e]
  simp
theorem head_steps {f : Fct} (h1 : named f.name = true) (h2 : named f.result = true) (h3 : f.vregs.length ≤ 500) (h4 : f.params.length ≤ 16) (h6 : f.params.all wU = true) (h7 : f.vregs.all named = true) :
 rC (pL f) St.z = some ⟨4, false, false, { f with blocks := [] }⟩ := by
 have w2 : ∀ {k s : Tx}, k ∈ [tFunc, tRegs, qH, qV, pI, tCopy, tLoad, tCall, tStore, tBr, tJump, tRet, tEq] → named s = true → ∀ x ∈ [k, s], WordOK x := fun hk hs x hx => by
  simp only [List.mem_cons, List.not_mem_nil, or_false] at hx
  rcases hx with rfl | rfl
  · exact kw hk
  · exact (named_ok hs).1
 have l0 : ∀ (st : St) (w : Tx) (ws : List Tx) (F : Fct), st.ended = false → st.step < 4 → (∀ x ∈ w :: ws, WordOK x) → rP st (w :: ws) = .ok F → uE st (Lib.join (w :: ws) [32]) = .ok { st with step := st.step + 1, f := F } := fun st w ws F he hs hw hh => by
  unfold uE
  rw [he, join_beq ws (hw w (List.mem_cons_self ..)).1]
  simp only [Bool.not_false, Bool.and_self, reduceIte]
  rw [if_pos hs, ofW_nil hw]
  dsimp only
  rw [hh]
 unfold pL
 rw [uI (l0 _ _ _ { Fct.z with name := f.name } rfl (of_decide_eq_true rfl) (w2 (by simp) h1) (by
  show rP St.z [tFunc, f.name] = _
  unfold rP
  dsimp only [St.z]
  rw [rR]; dsimp only; rw [rQ h1]; dsimp only [endW]; rfl))]
 rw [uI (l0 _ _ _ { Fct.z with name := f.name, vregs := f.vregs } rfl (of_decide_eq_true rfl) (fun x hx => by
  rcases List.mem_cons.1 hx with rfl | hx
  · exact kw (by simp)
  · exact (named_ok (List.all_eq_true.1 h7 x hx)).1) (by
  unfold rP
  dsimp only [St.z]
  rw [rR]; dsimp only
  unfold tF
  rw [restNames_ok _ _ (Nat.le_refl _) h7]; dsimp only
  rw [if_pos h3]; rfl))]
 rw [uI (l0 _ _ _ { Fct.z with name := f.name, vregs := f.vregs, params := f.params } rfl (of_decide_eq_true rfl) (fun x hx => by
  rcases List.mem_cons.1 hx with rfl | hx
  · exact kw (by simp)
  · exact all_word x hx) (by
  unfold rP
  dsimp only [St.z]
  rw [rR]; dsimp only
  rw [qW h6]; dsimp only
  rw [if_pos h4]; rfl))]
 rw [uI (l0 _ _ _ { Fct.z with name := f.name, vregs := f.vregs, params := f.params, result := f.result } rfl (of_decide_eq_true rfl) (w2 (by simp) h2) (by
  unfold rP
  dsimp only [St.z]
  rw [rR]; dsimp only; rw [rQ h2]; dsimp only [endW]; rfl))]
 rfl
theorem fLines_no {f : Fct} (h : qQ f = true) : ∀ l ∈ uR f, (10 : UInt8) ∉ l := by
 obtain ⟨h1, h2, h3, h4, h5, h6, h7, h8⟩ := plainF_of h
 have nj : ∀ {w : Tx} {ws : List Tx}, (∀ s ∈ w :: ws, WordOK s) → (10 : UInt8) ∉ Lib.join (w :: ws) [32] := fun hw => join_no (by decide) fun s hs => (hw s hs).2.2
 have w2 : ∀ {k s : Tx}, k ∈ [tFunc, tRegs, qH, qV, pI, tCopy, tLoad, tCall, tStore, tBr, tJump, tRet, tEq] → named s = true → ∀ x ∈ [k, s], WordOK x := fun hk hs x hx => by
  simp only [List.mem_cons, List.not_mem_nil, or_false] at hx
  rcases hx with rfl | rfl
  · exact kw hk
  · exact (named_ok hs).1
 intro l hl
 unfold uR at hl
 rw [List.mem_append, List.mem_append] at hl
 rcases hl with (hl | hl) | hl
 · unfold pL at hl
   simp only [List.mem_cons, List.not_mem_nil, or_false] at hl
   rcases hl with rfl | rfl | rfl | rfl
   · exact nj (w2 (by simp) h1)
   · refine nj fun x hx => ?_
     rcases List.mem_cons.1 hx with rfl | hx
     · exact kw (by simp)
     · exact (named_ok (List.all_eq_true.1 h7 x hx)).1
   · refine nj fun x hx => ?_
     rcases List.mem_cons.1 hx with rfl | hx
     · exact kw (by simp)
     · exact all_word x hx
   · exact nj (w2 (by simp) h2)
 · unfold sG at hl
   obtain ⟨b, hb, hl⟩ := List.mem_flatMap.1 hl
   rcases List.mem_cons.1 hl with rfl | hl
   · decide
   · obtain ⟨i, hi, rfl⟩ := List.mem_map.1 hl
     obtain ⟨g0, gw⟩ := showI_words (List.all_eq_true.1 (h8 b hb).2 i hi)
     unfold uY
     cases e : rH i with
     | nil => exact absurd e g0
     | cons w ws =>
      rw [e] at gw
      have := nj gw
      intro hm
      rcases List.mem_append.1 hm with hm | hm
      · revert hm; decide
      · exact this hm
 · simp only [List.mem_cons, List.not_mem_nil, or_false] at hl
   subst hl
   decide
theorem fLines_steps {f : Fct} (h : qQ f = true) (hn : ∀ b ∈ f.blocks, ∀ i ∈ b, Go64 i.n) : ∃ op, rC (uR f) St.z = some ⟨4, op, true, f⟩ := by
 obtain ⟨h1, h2, h3, h4, h5, h6, h7, h8⟩ := plainF_of h
 obtain ⟨op, e⟩ := body_steps f.blocks (fun b hb => ⟨(h8 b hb).1, (h8 b hb).2, hn b hb⟩) { f with blocks := [] } false (by simpa using h5)
 refine ⟨op, ?_⟩
 unfold uR sG
 rw [List.append_assoc, stepsS_append (head_steps h1 h2 h3 h4 h6 h7), stepsS_append e]
 rfl
theorem readS_print {Q : St → Tx → Prop} (hQ : ∀ st l st', uE st l = .ok st' → Q st l) {f : Fct} (h : qQ f = true) (hn : ∀ b ∈ f.blocks, ∀ i ∈ b, Go64 i.n) (hl : (pM f).length ≤ 65536) :
 readS (pM f) = (f, 0, 0) ∧ RunOK ((pM f).length + 1) (pM f) St.z Q := by
 unfold pM at hl ⊢
 rw [if_pos h] at hl ⊢
 obtain ⟨op, e⟩ := fLines_steps h hn
 have hk := textL_len (uR f)
 obtain ⟨k, ek⟩ : ∃ k, (vV (uR f)).length + 1 = k + 1 + (uR f).length := ⟨(vV (uR f)).length - (uR f).length, by omega⟩
 obtain ⟨r1, r2⟩ := runS_lines hQ [] (uR f) (fLines_no h) (k + 1) 1 St.z _ e
 rw [List.append_nil] at r1 r2
 unfold readS
 rw [if_neg (by omega), ek, r1, runS_nil]
 exact ⟨rfl, r2 (.inl rfl)⟩
theorem uQ {n : Int} (h : Go64 n) : (Lib.itoa n).length ≤ 21 := Lib.itoa_length_le n h.1 h.2
theorem named_len {s : Tx} (h : named s = true) : s.length ≤ 20 := by
 unfold named at h
 split at h
 · cases h
 · rw [Bool.and_eq_true] at h
   exact of_decide_eq_true h.1
theorem join_len {k : Nat} : ∀ (ws : List Tx), (∀ s ∈ ws, s.length ≤ k) → (Lib.join ws [32]).length ≤ ws.length * (k + 1) := by
 intro ws
 cases ws with
 | nil => intro _; rw [Lib.join_nil]; simp
 | cons w r =>
  intro h
  rw [Lib.join_length]
  have hl : ∀ (l : List Tx), (∀ s ∈ l, s.length ≤ k) → Lib.lens l ≤ l.length * k := by
   intro l
   induction l with
   | nil => intro _; simp [Lib.lens]
   | cons x t ih =>
    intro h
    have h1 := h x (List.mem_cons_self ..)
    have h2 := ih fun s hs => h s (List.mem_cons_of_mem _ hs)
    simp only [Lib.lens, List.map_cons, List.sum_cons, List.length_cons] at h2 ⊢
    rw [Nat.add_mul, Nat.one_mul]; omega
  have := hl (w :: r) h
  simp only [List.length_cons, List.length_nil] at this ⊢
  have e : (r.length + 1) * (k + 1) = (r.length + 1) * k + (r.length + 1) := by rw [Nat.mul_add, Nat.mul_one]
  omega
theorem showI_len {i : Ins} (h : wI i = true) (hn : Go64 i.n) : (∀ s ∈ rH i, s.length ≤ 21) ∧ (rH i).length ≤ 20 := by
 obtain ⟨⟨h1, h2⟩, _, ⟨sa, sb, st, sf⟩, hargs, hal, hk⟩ := plainI_of h
 have ga := uQ (wK sa)
 have gb := uQ (wK sb)
 have gt := uQ (wK st)
 have gf := uQ (wK sf)
 have gn := uQ hn
 have gx : ∀ x ∈ i.args, (Lib.itoa x).length ≤ 21 := fun x hx => uQ (wK (List.all_eq_true.1 hargs x hx))
 have cs : i.kind = 1 ∨ i.kind = 2 ∨ i.kind = 3 ∨ i.kind = 4 ∨ i.kind = 5 ∨ i.kind = 6 ∨ i.kind = 7 ∨ i.kind = 8 ∨ i.kind = 9 := by omega
 unfold rH
 rcases cs with e | e | e | e | e | e | e | e | e <;> rw [e] at hk ⊢ <;> simp at hk ⊢
 · exact ⟨uQ (wK hk), gn⟩
 · exact ⟨uQ (wK hk), ga⟩
 · exact ⟨⟨uQ (wK hk.2), by have := named_len hk.1.1.1.1; omega, gx⟩, by omega⟩
 · exact ⟨uQ (wK hk), ga⟩
 · exact ⟨ga, gb⟩
 · refine ⟨?_, by split <;> simp <;> omega⟩
   rintro s (⟨hd, rfl | rfl⟩ | rfl | rfl | ⟨a, ha, rfl⟩)
   · exact uQ (wK (hk.2.resolve_left hd))
   · decide
   · decide
   · have := named_len hk.1; omega
   · exact gx a ha
 · exact ⟨ga, gt, gf⟩
 · exact gt
 · exact ga
theorem insLine_len {i : Ins} (h : wI i = true) (hn : Go64 i.n) : (uY i).length ≤ 442 := by
 obtain ⟨h1, h2⟩ := showI_len h hn
 have := join_len _ h1
 unfold uY
 rw [List.length_append]
 have e : tTwo.length = 2 := rfl
 have : (rH i).length * (21 + 1) ≤ 20 * 22 := Nat.mul_le_mul_right _ h2
 omega
def oneF (l : List Ins) : Fct := ⟨[102], [], [], [103], [l]⟩
theorem plainF_one {i : Ins} (h : wI i = true) : qQ (oneF [i]) = true := by
 unfold qQ oneF
 have a : named [102] = true := by decide
 have b : named [103] = true := by decide
 simp [a, b, h]
def hd1 : Tx := [102, 117, 110, 99, 32, 102, 10, 114, 101, 103, 115, 10, 112, 97, 114, 97, 109, 115, 10, 114, 101, 115, 117, 108, 116, 32, 103, 10, 98, 108, 111, 99, 107, 10, 32, 32]
def tl1 : Tx := [10, 101, 110, 100, 10]
theorem text_one (i : Ins) : vV (uR (oneF [i])) = hd1 ++ (Lib.join (rH i) [32] ++ tl1) := by
 have e : ∀ J, vV ([Lib.join [tFunc, [102]] [32], Lib.join [tRegs] [32], Lib.join [qH] [32], Lib.join [qV, [103]] [32]] ++ [rL, tTwo ++ J] ++ [tEnd]) = hd1 ++ (J ++ tl1) := fun J => by
  simp [vV, Lib.join_cons, Lib.joinTail, hd1, tl1]
 exact e (Lib.join (rH i) [32])
theorem one_len {i : Ins} (h : wI i = true) (hn : Go64 i.n) : (vV (uR (oneF [i]))).length ≤ 500 := by
 have := insLine_len h hn
 unfold uY at this
 rw [text_one]
 rw [List.length_append] at this
 have e : tTwo.length = 2 := rfl
 have e1 : hd1.length = 36 := rfl
 have e2 : tl1.length = 5 := rfl
 rw [List.length_append, List.length_append]
 omega
theorem qR {f : Fct} (h : qQ f = true) : pM f = vV (uR f) := by unfold pM; rw [if_pos h]
theorem decDigits_step {u : Nat} (h : ¬ u < 10) : Lib.decDigits u = Lib.decDigits (u / 10) ++ Lib.decDigits (u % 10) := by
 conv => lhs; rw [Lib.decDigits, dif_neg h]
 rw [Lib.decDigits_one (show u % 10 < 10 by omega)]
theorem itoa_nat (u : Nat) : Lib.itoa (u : Int) = Lib.decDigits u := by
 unfold Lib.itoa; rw [if_neg (by omega)]; simp
theorem itoa_minus {a : Int} (h : 0 < a) : Lib.itoa (-a) = 45 :: Lib.itoa a := by
 unfold Lib.itoa
 rw [if_pos (by omega), if_neg (by omega)]
 congr 2; omega
abbrev tShl : Tx := [115, 104, 108]
abbrev tNot : Tx := [110, 111, 116]
abbrev tGo : Tx := [103, 111]
def insL (d a b : Int) : List Ins := [{ Ins.z with kind := 1, d := d, n := -a }, { Ins.z with kind := 2, d := d, a := a }, { Ins.z with kind := 3, d := d, name := tShl, args := [a, b] }, { Ins.z with kind := 3, d := d, name := tNot, args := [a] },
 { Ins.z with kind := 4, d := d, a := a }, { Ins.z with kind := 5, a := a, b := b }, { Ins.z with kind := 6, d := -1, name := tGo }, { Ins.z with kind := 6, d := d, name := tGo, args := [a, b, a] }, { Ins.z with kind := 7, a := d, t := a, f := b },
 { Ins.z with kind := 8, t := a }, { Ins.z with kind := 9, a := a }]
def wordL (N X Y M : Tx) : List Tx := [N ++ [32, 61, 32, 99, 111, 110, 115, 116, 32] ++ M, N ++ [32, 61, 32, 99, 111, 112, 121, 32] ++ X, N ++ [32, 61, 32, 115, 104, 108, 32] ++ X ++ [32] ++ Y, N ++ [32, 61, 32, 110, 111, 116, 32] ++ X,
 N ++ [32, 61, 32, 108, 111, 97, 100, 32] ++ X, [115, 116, 111, 114, 101, 32] ++ X ++ [32] ++ Y, [99, 97, 108, 108, 32, 103, 111], N ++ [32, 61, 32, 99, 97, 108, 108, 32, 103, 111, 32] ++ X ++ [32] ++ Y ++ [32] ++ X,
 [98, 114, 32] ++ N ++ [32] ++ X ++ [32] ++ Y, [106, 117, 109, 112, 32] ++ X, [114, 101, 116, 32] ++ X]
theorem words_of {d a b : Int} (hd : wU d = true) (ha : wU a = true) (hb : wU b = true) {k : Nat} {i : Ins} {w : Tx} (hi : (insL d a b)[k]? = some i) (hw : (wordL (Lib.itoa d) (Lib.itoa a) (Lib.itoa b) (if a = 0 then [48] else 45 :: Lib.itoa a))[k]? = some w) :
    wI i = true ∧ Go64 i.n ∧ w = Lib.join (rH i) [32] := by
  have hs0 : wU 0 = true := by decide
  have g0 : Go64 0 := ⟨by decide, by decide⟩
  have n1 : named tShl = true := by decide
  have n2 : named tNot = true := by decide
  have n3 : named tGo = true := by decide
  have w1 : wordB tShl = false := by decide
  have w2 : wordB tNot = false := by decide
  have hM : (if a = 0 then [48] else 45 :: Lib.itoa a) = Lib.itoa (-a) := by
    have := of_decide_eq_true ha
    by_cases h : a = 0
    · rw [if_pos h, h]
      show _ = Lib.itoa 0
      unfold Lib.itoa
      rw [if_neg (by decide), show (0 : Int).toNat = 0 from rfl, Lib.decDigits_one (by decide)]; rfl
    · rw [if_neg h, itoa_minus (by omega)]
  rw [hM] at hw
  have hk : k < 11 := by
    have := (List.getElem?_eq_some_iff.1 hi).1
    simpa [insL] using this
  have hdn : ¬ d = -1 := by have := of_decide_eq_true hd; omega
  have gm : Go64 (-a) := by have := of_decide_eq_true ha; exact ⟨by omega, by omega⟩
  rcases k with _ | _ | _ | _ | _ | _ | _ | _ | _ | _ | _ | k
  all_goals first
    | omega
    | (simp only [insL, wordL, List.getElem?_cons_zero, List.getElem?_cons_succ, Option.some.injEq] at hi hw
       subst hi hw
       refine ⟨?_, ?_, ?_⟩
       · simp [wI, tX, zeroI, Ins.z, hd, ha, hb, hs0, n1, n2, n3, w1, w2]
       · first | exact g0 | exact gm
       · simp [rH, Lib.join_cons, Lib.joinTail, Ins.z, hdn])
end Go.Ex.Vir
namespace Go.Proofs
open Go.Shelf
def Tryz.lays169_ren : Go.Shelf.Ren := ⟨fun | 169 => 57 | n => n, fun | 70 => 94 | 9 => 9 | 0 => 0 | 72 => 97 | 37 => 95 | 127 => 154 | 3 => 3 | 5 => 5 | n => n, fun | n => n⟩
theorem Tryz.lays169 : Go.Proofs.Lays.n169 Tryz.prog Tryz.lays169_ren := {
 mixed := by kernel_rfl
 f169 := Tryz.func57.trans (congrArg some (by kernel_rfl))
 t0 := Tryz.underlying0
 a0 := Tryz.isAgg0
 z0 := Tryz.sizeOf0
 v0 := Tryz.zeroValue0
 t3 := Tryz.underlying3
 a3 := Tryz.isAgg3
 z3 := Tryz.sizeOf3
 v3 := Tryz.zeroValue3
 t9 := Tryz.underlying9
 a9 := Tryz.isAgg9
 z9 := Tryz.sizeOf9
 v9 := Tryz.zeroValue9
 t37 := Tryz.underlying95
 a37 := Tryz.isAgg95
 z37 := Tryz.sizeOf95
 v37 := Tryz.zeroValue95
 t70 := Tryz.underlying94
 a70 := Tryz.isAgg94
 z70 := Tryz.sizeOf94
 v70 := Tryz.zeroValue94
 t72 := Tryz.underlying97
 a72 := Tryz.isAgg97
 z72 := Tryz.sizeOf97
 v72 := Tryz.zeroValue97
 t127 := Tryz.underlying154
 a127 := Tryz.isAgg154
 z127 := Tryz.sizeOf154
 v127 := Tryz.zeroValue154 }
theorem Tryz.Builder_Extra_169 : Builder.Extra Tryz.prog Tryz.lays169_ren := {
 sizeBuilder := by kernel_rfl
 liesBuilder := by kernel_rfl
 t5 := Tryz.underlying5
 a5 := Tryz.isAgg5
 z5 := Tryz.sizeOf5
 v5 := Tryz.zeroValue5
 infoByte := by kernel_rfl
 cellsByte := by kernel_rfl
 sizeByte := by kernel_rfl
 neB5 := by decide }
def Tryz.lays156_ren : Go.Shelf.Ren := ⟨fun | 156 => 54 | 165 => 109 | 166 => 53 | 169 => 57 | 240 => 108 | 241 => 151 | 276 => 150 | 277 => 177 | n => n, fun | 31 => 23 | 9 => 9 | 3 => 3 | 4 => 4 | 0 => 0 | 20 => 20 | 72 => 97 | 76 => 100 | 70 => 94 | 37 => 95 | 75 => 99 | 127 => 154 | 164 => 185 | 5 => 5 | 80 => 70 | n => n, fun | n => n⟩
theorem Tryz.lays156 : Go.Proofs.Lays.n156 Tryz.prog Tryz.lays156_ren := {
 mixed := by kernel_rfl
 f156 := Tryz.func54.trans (congrArg some (by kernel_rfl))
 f165 := Tryz.func109.trans (congrArg some (by kernel_rfl))
 f166 := Tryz.func53.trans (congrArg some (by kernel_rfl))
 f169 := Tryz.func57.trans (congrArg some (by kernel_rfl))
 f240 := Tryz.func108.trans (congrArg some (by kernel_rfl))
 f241 := Tryz.func151.trans (congrArg some (by kernel_rfl))
 f276 := Tryz.func150.trans (congrArg some (by kernel_rfl))
 f277 := Tryz.func177.trans (congrArg some (by kernel_rfl))
 t0 := Tryz.underlying0
 a0 := Tryz.isAgg0
 z0 := Tryz.sizeOf0
 v0 := Tryz.zeroValue0
 t3 := Tryz.underlying3
 a3 := Tryz.isAgg3
 z3 := Tryz.sizeOf3
 v3 := Tryz.zeroValue3
 t4 := Tryz.underlying4
 a4 := Tryz.isAgg4
 z4 := Tryz.sizeOf4
 v4 := Tryz.zeroValue4
 t9 := Tryz.underlying9
 a9 := Tryz.isAgg9
 z9 := Tryz.sizeOf9
 v9 := Tryz.zeroValue9
 t20 := Tryz.underlying20
 a20 := Tryz.isAgg20
 z20 := Tryz.sizeOf20
 v20 := Tryz.zeroValue20
 t31 := Tryz.underlying23
 a31 := Tryz.isAgg23
 z31 := Tryz.sizeOf23
 v31 := Tryz.zeroValue23
 t37 := Tryz.underlying95
 a37 := Tryz.isAgg95
 z37 := Tryz.sizeOf95
 v37 := Tryz.zeroValue95
 t70 := Tryz.underlying94
 a70 := Tryz.isAgg94
 z70 := Tryz.sizeOf94
 v70 := Tryz.zeroValue94
 t72 := Tryz.underlying97
 a72 := Tryz.isAgg97
 z72 := Tryz.sizeOf97
 v72 := Tryz.zeroValue97
 t75 := Tryz.underlying99
 a75 := Tryz.isAgg99
 z75 := Tryz.sizeOf99
 v75 := Tryz.zeroValue99
 t76 := Tryz.underlying100
 a76 := Tryz.isAgg100
 z76 := Tryz.sizeOf100
 v76 := Tryz.zeroValue100
 t127 := Tryz.underlying154
 a127 := Tryz.isAgg154
 z127 := Tryz.sizeOf154
 v127 := Tryz.zeroValue154
 t164 := Tryz.underlying185
 a164 := Tryz.isAgg185
 z164 := Tryz.sizeOf185
 v164 := Tryz.zeroValue185 }
theorem Tryz.Builder_Extra_156 : Builder.Extra Tryz.prog Tryz.lays156_ren := {
 sizeBuilder := by kernel_rfl
 liesBuilder := by kernel_rfl
 t5 := Tryz.underlying5
 a5 := Tryz.isAgg5
 z5 := Tryz.sizeOf5
 v5 := Tryz.zeroValue5
 infoByte := by kernel_rfl
 cellsByte := by kernel_rfl
 sizeByte := by kernel_rfl
 neB5 := by decide }
open Go.RowKit in
theorem Tryz.strings_Join_none (a : Option Addr) (c : Nat) (sep : ByteArray) (w : World) :
 Calls Tryz.prog 54 #[.slice a 0 c, .string sep] w fun e w' => e = .returned (.string ⟨#[]⟩) ∧ w' = w := Any.strings_Join_none Tryz.lays156 Tryz.Builder_Extra_156 a c sep w
open Go.RowKit in
theorem Tryz.strings_Join (bk o c : Nat) (xs : List ByteArray) (sep : ByteArray) (w : World) (hcells : ∀ (j : Nat) x, xs[j]? = some x → w.cell? ⟨bk, o + j, none⟩ = some (.string x)) (hbk : bk < w.heap.size) (hN : xs.length ≤ 140737488355328) (hcap : xs.length ≤ c) (hlen : (Lib.join (xs.map (·.data.toList)) sep.data.toList).length ≤ 140737488355328) :
 Calls Tryz.prog 54 #[.slice (some ⟨bk, o, none⟩) xs.length c, .string sep] w fun e w' => e = .returned (.string ⟨(Lib.join (xs.map (·.data.toList)) sep.data.toList).toArray⟩) ∧ Below w.heap.size w w' := Any.strings_Join Tryz.lays156 Tryz.Builder_Extra_156 bk o c xs sep w hcells hbk hN hcap hlen
def Tryz.lays103_ren : Go.Shelf.Ren := ⟨fun | 103 => 181 | 210 => 196 | 206 => 192 | n => n, fun | 9 => 9 | 4 => 4 | 24 => 215 | 3 => 3 | n => n, fun | n => n⟩
theorem Tryz.lays103 : Go.Proofs.Lays.n103 Tryz.prog Tryz.lays103_ren := {
 mixed := by kernel_rfl
 f103 := Tryz.func181.trans (congrArg some (by kernel_rfl))
 f206 := Tryz.func192.trans (congrArg some (by kernel_rfl))
 f210 := Tryz.func196.trans (congrArg some (by kernel_rfl))
 t3 := Tryz.underlying3
 a3 := Tryz.isAgg3
 z3 := Tryz.sizeOf3
 v3 := Tryz.zeroValue3
 t4 := Tryz.underlying4
 a4 := Tryz.isAgg4
 z4 := Tryz.sizeOf4
 v4 := Tryz.zeroValue4
 t9 := Tryz.underlying9
 a9 := Tryz.isAgg9
 z9 := Tryz.sizeOf9
 v9 := Tryz.zeroValue9
 t24 := Tryz.underlying215
 a24 := Tryz.isAgg215
 z24 := Tryz.sizeOf215
 v24 := Tryz.zeroValue215 }
open Go.RowKit in
theorem Tryz.strings_CutPrefix (s p : ByteArray) (w : World) :
 Calls Tryz.prog 181 #[.string s, .string p] w fun e w' => e = .returned (.tuple #[.string ⟨(Lib.trimPrefix s.data.toList p.data.toList).toArray⟩, .bool (Lib.hasPrefix s.data.toList p.data.toList)]) ∧ w' = w := Any.strings_CutPrefix Tryz.lays103 s p w
def Tryz.laysM171_ren : Go.Shelf.Ren := ⟨fun | 171 => 81 | 243 => 131 | 246 => 163 | 283 => 183 | 284 => 184 | 285 => 185 | 286 => 186 | 129 => 199 | 317 => 198 | 318 => 200 | 319 => 201 | 320 => 202 | 337 => 215 | 338 => 216 | n => n, fun | 3 => 3 | 9 => 9 | 2 => 2 | 4 => 4 | 171 => 218 | 0 => 0 | 53 => 219 | 37 => 95 | 5 => 5 | 173 => 222 | 212 => 234 | 51 => 226 | 20 => 20 | 213 => 235 | 46 => 204 | 232 => 255 | 233 => 256 | n => n, fun | 17 => 1 | 18 => 4 | 19 => 5 | n => n⟩
theorem Tryz.laysM171 : Go.Proofs.LaysM.n171 Tryz.prog Tryz.laysM171_ren := {
 mixed := by kernel_rfl
 f129 := Tryz.func199.trans (congrArg some (by kernel_rfl))
 f171 := Tryz.func81.trans (congrArg some (by kernel_rfl))
 f243 := Tryz.func131.trans (congrArg some (by kernel_rfl))
 f246 := Tryz.func163.trans (congrArg some (by kernel_rfl))
 f283 := Tryz.func183.trans (congrArg some (by kernel_rfl))
 f284 := Tryz.func184.trans (congrArg some (by kernel_rfl))
 f285 := Tryz.func185.trans (congrArg some (by kernel_rfl))
 f286 := Tryz.func186.trans (congrArg some (by kernel_rfl))
 f317 := Tryz.func198.trans (congrArg some (by kernel_rfl))
 f318 := Tryz.func200.trans (congrArg some (by kernel_rfl))
 f319 := Tryz.func201.trans (congrArg some (by kernel_rfl))
 f320 := Tryz.func202.trans (congrArg some (by kernel_rfl))
 f337 := Tryz.func215.trans (congrArg some (by kernel_rfl))
 f338 := Tryz.func216.trans (congrArg some (by kernel_rfl))
 t0 := Tryz.underlying0
 a0 := Tryz.isAgg0
 z0 := Tryz.sizeOf0
 v0 := Tryz.zeroValue0
 t2 := Tryz.underlying2
 a2 := Tryz.isAgg2
 z2 := Tryz.sizeOf2
 v2 := Tryz.zeroValue2
 t3 := Tryz.underlying3
 a3 := Tryz.isAgg3
 z3 := Tryz.sizeOf3
 v3 := Tryz.zeroValue3
 t4 := Tryz.underlying4
 a4 := Tryz.isAgg4
 z4 := Tryz.sizeOf4
 v4 := Tryz.zeroValue4
 t5 := Tryz.underlying5
 a5 := Tryz.isAgg5
 z5 := Tryz.sizeOf5
 v5 := Tryz.zeroValue5
 t9 := Tryz.underlying9
 a9 := Tryz.isAgg9
 z9 := Tryz.sizeOf9
 v9 := Tryz.zeroValue9
 t20 := Tryz.underlying20
 a20 := Tryz.isAgg20
 z20 := Tryz.sizeOf20
 v20 := Tryz.zeroValue20
 t37 := Tryz.underlying95
 a37 := Tryz.isAgg95
 z37 := Tryz.sizeOf95
 v37 := Tryz.zeroValue95
 t46 := Tryz.underlying204
 a46 := Tryz.isAgg204
 z46 := Tryz.sizeOf204
 v46 := Tryz.zeroValue204
 t51 := Tryz.underlying226
 a51 := Tryz.isAgg226
 z51 := Tryz.sizeOf226
 v51 := Tryz.zeroValue226
 t53 := Tryz.underlying219
 a53 := Tryz.isAgg219
 z53 := Tryz.sizeOf219
 v53 := Tryz.zeroValue219
 t171 := Tryz.underlying218
 a171 := Tryz.isAgg218
 z171 := Tryz.sizeOf218
 v171 := Tryz.zeroValue218
 t173 := Tryz.underlying222
 a173 := Tryz.isAgg222
 z173 := Tryz.sizeOf222
 v173 := Tryz.zeroValue222
 t212 := Tryz.underlying234
 a212 := Tryz.isAgg234
 z212 := Tryz.sizeOf234
 v212 := Tryz.zeroValue234
 t213 := Tryz.underlying235
 a213 := Tryz.isAgg235
 z213 := Tryz.sizeOf235
 t232 := Tryz.underlying255
 a232 := Tryz.isAgg255
 z232 := Tryz.sizeOf255
 v232 := Tryz.zeroValue255
 t233 := Tryz.underlying256
 a233 := Tryz.isAgg256
 z233 := Tryz.sizeOf256
 v233 := Tryz.zeroValue256
 g17 := by kernel_rfl
 g18 := by kernel_rfl
 g19 := by kernel_rfl
 i0 := by kernel_rfl
 i2 := by kernel_rfl
 i3 := by kernel_rfl
 i4 := by kernel_rfl
 i5 := by kernel_rfl
 i9 := by kernel_rfl
 i20 := by kernel_rfl
 i37 := by kernel_rfl
 i46 := by kernel_rfl
 i51 := by kernel_rfl
 i53 := by kernel_rfl
 i171 := by kernel_rfl
 i173 := by kernel_rfl
 i212 := by kernel_rfl
 i232 := by kernel_rfl
 i233 := by kernel_rfl
 m17 := by kernel_rfl
 m18 := by kernel_rfl
 m19 := by kernel_rfl }
open Go.RowKit Go.Sort Go.Lib in
theorem Tryz.strconv_Itoa (n : Int) (h0 : -9223372036854775808 ≤ n) (h1 : n ≤ 9223372036854775807) (w : World) (htab : Lib.TabIs Tryz.prog w "internal/strconv.uint64pow10" .u64 Lib.pow10Tab) :
 Calls Tryz.prog 81 #[.int .i64 n] w fun e w' => e = .returned (.string ⟨(Lib.itoa n).toArray⟩) ∧ ∃ k os, w' = grow (w.drewN k) os := Any.strconv_Itoa Tryz.laysM171 n h0 h1 w htab
def Tryz.laysC172_ren : Go.Shelf.Ren := ⟨fun | 172 => 179 | 244 => 193 | 245 => 194 | 247 => 203 | 279 => 204 | 280 => 205 | 281 => 206 | 282 => 207 | 287 => 217 | 316 => 218 | 171 => 81 | 205 => 219 | 321 => 225 | 322 => 226 | 243 => 131 | 246 => 163 | 283 => 183 | 284 => 184 | 285 => 185 | 286 => 186 | 129 => 199 | 317 => 198 | 318 => 200 | 319 => 201 | 320 => 202 | 337 => 215 | 338 => 216 | n => n, fun | 9 => 9 | 3 => 3 | 75 => 99 | 76 => 100 | 4 => 4 | 5 => 5 | 167 => 237 | 37 => 95 | 0 => 0 | 85 => 238 | 2 => 2 | 168 => 240 | 53 => 219 | 175 => 246 | 46 => 204 | 210 => 250 | 127 => 154 | 145 => 260 | 143 => 258 | 21 => 21 | 171 => 218 | 173 => 222 | 212 => 234 | 51 => 226 | 20 => 20 | 213 => 235 | 232 => 255 | 233 => 256 | 80 => 70 | n => n, fun | 15 => 2 | 16 => 3 | 17 => 1 | 18 => 4 | 19 => 5 | n => n⟩
theorem Tryz.laysC172 : Go.Proofs.LaysC.n172 Tryz.prog Tryz.laysC172_ren := {
 mixed := by kernel_rfl
 f129 := Tryz.func199.trans (congrArg some (by kernel_rfl))
 f171 := Tryz.func81.trans (congrArg some (by kernel_rfl))
 f172 := Tryz.func179.trans (congrArg some (by kernel_rfl))
 f205 := Tryz.func219.trans (congrArg some (by kernel_rfl))
 f243 := Tryz.func131.trans (congrArg some (by kernel_rfl))
 f244 := Tryz.func193.trans (congrArg some (by kernel_rfl))
 f245 := Tryz.func194.trans (congrArg some (by kernel_rfl))
 f246 := Tryz.func163.trans (congrArg some (by kernel_rfl))
 f247 := Tryz.func203.trans (congrArg some (by kernel_rfl))
 f279 := Tryz.func204.trans (congrArg some (by kernel_rfl))
 f280 := Tryz.func205.trans (congrArg some (by kernel_rfl))
 f281 := Tryz.func206.trans (congrArg some (by kernel_rfl))
 f282 := Tryz.func207.trans (congrArg some (by kernel_rfl))
 f283 := Tryz.func183.trans (congrArg some (by kernel_rfl))
 f284 := Tryz.func184.trans (congrArg some (by kernel_rfl))
 f285 := Tryz.func185.trans (congrArg some (by kernel_rfl))
 f286 := Tryz.func186.trans (congrArg some (by kernel_rfl))
 f287 := Tryz.func217.trans (congrArg some (by kernel_rfl))
 f316 := Tryz.func218.trans (congrArg some (by kernel_rfl))
 f317 := Tryz.func198.trans (congrArg some (by kernel_rfl))
 f318 := Tryz.func200.trans (congrArg some (by kernel_rfl))
 f319 := Tryz.func201.trans (congrArg some (by kernel_rfl))
 f320 := Tryz.func202.trans (congrArg some (by kernel_rfl))
 f321 := Tryz.func225.trans (congrArg some (by kernel_rfl))
 f322 := Tryz.func226.trans (congrArg some (by kernel_rfl))
 f337 := Tryz.func215.trans (congrArg some (by kernel_rfl))
 f338 := Tryz.func216.trans (congrArg some (by kernel_rfl))
 t0 := Tryz.underlying0
 a0 := Tryz.isAgg0
 z0 := Tryz.sizeOf0
 v0 := Tryz.zeroValue0
 t2 := Tryz.underlying2
 a2 := Tryz.isAgg2
 z2 := Tryz.sizeOf2
 v2 := Tryz.zeroValue2
 t3 := Tryz.underlying3
 a3 := Tryz.isAgg3
 z3 := Tryz.sizeOf3
 v3 := Tryz.zeroValue3
 t4 := Tryz.underlying4
 a4 := Tryz.isAgg4
 z4 := Tryz.sizeOf4
 v4 := Tryz.zeroValue4
 t5 := Tryz.underlying5
 a5 := Tryz.isAgg5
 z5 := Tryz.sizeOf5
 v5 := Tryz.zeroValue5
 t9 := Tryz.underlying9
 a9 := Tryz.isAgg9
 z9 := Tryz.sizeOf9
 v9 := Tryz.zeroValue9
 t20 := Tryz.underlying20
 a20 := Tryz.isAgg20
 z20 := Tryz.sizeOf20
 v20 := Tryz.zeroValue20
 t21 := Tryz.underlying21
 a21 := Tryz.isAgg21
 z21 := Tryz.sizeOf21
 v21 := Tryz.zeroValue21
 t37 := Tryz.underlying95
 a37 := Tryz.isAgg95
 z37 := Tryz.sizeOf95
 v37 := Tryz.zeroValue95
 t46 := Tryz.underlying204
 a46 := Tryz.isAgg204
 z46 := Tryz.sizeOf204
 v46 := Tryz.zeroValue204
 t51 := Tryz.underlying226
 a51 := Tryz.isAgg226
 z51 := Tryz.sizeOf226
 v51 := Tryz.zeroValue226
 t53 := Tryz.underlying219
 a53 := Tryz.isAgg219
 z53 := Tryz.sizeOf219
 v53 := Tryz.zeroValue219
 t75 := Tryz.underlying99
 a75 := Tryz.isAgg99
 z75 := Tryz.sizeOf99
 v75 := Tryz.zeroValue99
 t76 := Tryz.underlying100
 a76 := Tryz.isAgg100
 z76 := Tryz.sizeOf100
 v76 := Tryz.zeroValue100
 t85 := Tryz.underlying238
 a85 := Tryz.isAgg238
 z85 := Tryz.sizeOf238
 v85 := Tryz.zeroValue238
 t127 := Tryz.underlying154
 a127 := Tryz.isAgg154
 z127 := Tryz.sizeOf154
 v127 := Tryz.zeroValue154
 t143 := Tryz.underlying258
 a143 := Tryz.isAgg258
 z143 := Tryz.sizeOf258
 v143 := Tryz.zeroValue258
 t145 := Tryz.underlying260
 a145 := Tryz.isAgg260
 z145 := Tryz.sizeOf260
 v145 := Tryz.zeroValue260
 t167 := Tryz.underlying237
 a167 := Tryz.isAgg237
 z167 := Tryz.sizeOf237
 v167 := Tryz.zeroValue237
 t168 := Tryz.underlying240
 a168 := Tryz.isAgg240
 z168 := Tryz.sizeOf240
 v168 := Tryz.zeroValue240
 t171 := Tryz.underlying218
 a171 := Tryz.isAgg218
 z171 := Tryz.sizeOf218
 v171 := Tryz.zeroValue218
 t173 := Tryz.underlying222
 a173 := Tryz.isAgg222
 z173 := Tryz.sizeOf222
 v173 := Tryz.zeroValue222
 t175 := Tryz.underlying246
 a175 := Tryz.isAgg246
 z175 := Tryz.sizeOf246
 v175 := Tryz.zeroValue246
 t210 := Tryz.underlying250
 a210 := Tryz.isAgg250
 z210 := Tryz.sizeOf250
 v210 := Tryz.zeroValue250
 t212 := Tryz.underlying234
 a212 := Tryz.isAgg234
 z212 := Tryz.sizeOf234
 v212 := Tryz.zeroValue234
 t213 := Tryz.underlying235
 a213 := Tryz.isAgg235
 z213 := Tryz.sizeOf235
 t232 := Tryz.underlying255
 a232 := Tryz.isAgg255
 z232 := Tryz.sizeOf255
 v232 := Tryz.zeroValue255
 t233 := Tryz.underlying256
 a233 := Tryz.isAgg256
 z233 := Tryz.sizeOf256
 v233 := Tryz.zeroValue256
 g15 := by kernel_rfl
 g16 := by kernel_rfl
 g17 := by kernel_rfl
 g18 := by kernel_rfl
 g19 := by kernel_rfl
 t80 := Tryz.underlying70
 a80 := Tryz.isAgg70
 z80 := Tryz.sizeOf70
 v80 := Tryz.zeroValue70
 i0 := by kernel_rfl
 i2 := by kernel_rfl
 i3 := by kernel_rfl
 i4 := by kernel_rfl
 i5 := by kernel_rfl
 i9 := by kernel_rfl
 i20 := by kernel_rfl
 i21 := by kernel_rfl
 i37 := by kernel_rfl
 i46 := by kernel_rfl
 i51 := by kernel_rfl
 i53 := by kernel_rfl
 i75 := by kernel_rfl
 i76 := by kernel_rfl
 i80 := by kernel_rfl
 i85 := by kernel_rfl
 i127 := by kernel_rfl
 i143 := by kernel_rfl
 i145 := by kernel_rfl
 i167 := by kernel_rfl
 i168 := by kernel_rfl
 i171 := by kernel_rfl
 i173 := by kernel_rfl
 i175 := by kernel_rfl
 i210 := by kernel_rfl
 i212 := by kernel_rfl
 i232 := by kernel_rfl
 i233 := by kernel_rfl
 m15 := by kernel_rfl
 m16 := by kernel_rfl
 m17 := by kernel_rfl
 m18 := by kernel_rfl
 m19 := by kernel_rfl
 c0 := by kernel_rfl
 c2 := by kernel_rfl
 c3 := by kernel_rfl
 c4 := by kernel_rfl
 c5 := by kernel_rfl
 c9 := by kernel_rfl
 c20 := by kernel_rfl
 c21 := by kernel_rfl
 c37 := by kernel_rfl
 c46 := by kernel_rfl
 c51 := by kernel_rfl
 c53 := by kernel_rfl
 c75 := by kernel_rfl
 c76 := by kernel_rfl
 c80 := by kernel_rfl
 c85 := by kernel_rfl
 c127 := by kernel_rfl
 c143 := by kernel_rfl
 c145 := by kernel_rfl
 c167 := by kernel_rfl
 c168 := by kernel_rfl
 c171 := by kernel_rfl
 c173 := by kernel_rfl
 c175 := by kernel_rfl
 c210 := by kernel_rfl
 c212 := by kernel_rfl
 c213 := by kernel_rfl
 c232 := by kernel_rfl
 c233 := by kernel_rfl }
open Go.RowKit in
theorem Tryz.strconv_Atoi_ok (s : ByteArray) (hmax : s.size ≤ 9223372036854775806) (v : Int) (h : Lib.atoiAll s.data.toList = .ok v) (w : World) :
 Calls Tryz.prog 179 #[.string s] w fun e w' => e = .returned (.tuple #[.int .i64 v, .nilIface]) ∧ (w' = w ∨ ∃ t, w' = Lib.bytesWorld w 5 t) := Any.strconv_Atoi_ok Tryz.laysC172 s hmax v h w
def Tryz.lays145_ren : Go.Shelf.Ren := ⟨fun | 145 => 160 | 220 => 180 | 219 => 195 | 217 => 208 | 225 => 209 | 224 => 210 | 267 => 211 | 266 => 220 | 314 => 221 | n => n, fun | 9 => 9 | 4 => 4 | 59 => 194 | 3 => 3 | 5 => 5 | 46 => 204 | 146 => 227 | 51 => 226 | n => n, fun | 1 => 0 | n => n⟩
theorem Tryz.lays145 : Go.Proofs.Lays.n145 Tryz.prog Tryz.lays145_ren := {
 mixed := by kernel_rfl
 f145 := Tryz.func160.trans (congrArg some (by kernel_rfl))
 f217 := Tryz.func208.trans (congrArg some (by kernel_rfl))
 f219 := Tryz.func195.trans (congrArg some (by kernel_rfl))
 f220 := Tryz.func180.trans (congrArg some (by kernel_rfl))
 f224 := Tryz.func210.trans (congrArg some (by kernel_rfl))
 f225 := Tryz.func209.trans (congrArg some (by kernel_rfl))
 f266 := Tryz.func220.trans (congrArg some (by kernel_rfl))
 f267 := Tryz.func211.trans (congrArg some (by kernel_rfl))
 f314 := Tryz.func221.trans (congrArg some (by kernel_rfl))
 t3 := Tryz.underlying3
 a3 := Tryz.isAgg3
 z3 := Tryz.sizeOf3
 v3 := Tryz.zeroValue3
 t4 := Tryz.underlying4
 a4 := Tryz.isAgg4
 z4 := Tryz.sizeOf4
 v4 := Tryz.zeroValue4
 t5 := Tryz.underlying5
 a5 := Tryz.isAgg5
 z5 := Tryz.sizeOf5
 v5 := Tryz.zeroValue5
 t9 := Tryz.underlying9
 a9 := Tryz.isAgg9
 z9 := Tryz.sizeOf9
 v9 := Tryz.zeroValue9
 t46 := Tryz.underlying204
 a46 := Tryz.isAgg204
 z46 := Tryz.sizeOf204
 v46 := Tryz.zeroValue204
 t51 := Tryz.underlying226
 a51 := Tryz.isAgg226
 z51 := Tryz.sizeOf226
 v51 := Tryz.zeroValue226
 t59 := Tryz.underlying194
 a59 := Tryz.isAgg194
 z59 := Tryz.sizeOf194
 v59 := Tryz.zeroValue194
 t146 := Tryz.underlying227
 a146 := Tryz.isAgg227
 z146 := Tryz.sizeOf227
 v146 := Tryz.zeroValue227
 g1 := by kernel_rfl }
open Go.RowKit Go.Lib in
theorem Tryz.strings_Cut (s sep : ByteArray) (m : Int) (w : World) (hs : s.size < 4294967281) (hm : w.cell? ⟨0, 0, none⟩ = some (.int .i64 m)) :
 Calls Tryz.prog 160 #[.string s, .string sep] w fun e w' => e = .returned (.tuple #[.string ⟨(Lib.cut s.data.toList sep.data.toList).1.toArray⟩, .string ⟨(Lib.cut s.data.toList sep.data.toList).2.1.toArray⟩, .bool (Lib.cut s.data.toList sep.data.toList).2.2]) ∧ ∃ n, w' = w.drewN n := Any.strings_Cut Tryz.lays145 s sep m w hs hm
def Tryz.lays146_ren : Go.Shelf.Ren := ⟨fun | 146 => 182 | 221 => 197 | 268 => 212 | 138 => 213 | 143 => 214 | 195 => 222 | 197 => 223 | 218 => 224 | 219 => 195 | 260 => 227 | 217 => 208 | 225 => 209 | 224 => 210 | 267 => 211 | 266 => 220 | 314 => 221 | n => n, fun | 9 => 9 | 31 => 23 | 3 => 3 | 4 => 4 | 0 => 0 | 105 => 253 | 21 => 21 | 5 => 5 | 46 => 204 | 119 => 261 | 139 => 264 | 138 => 263 | 146 => 227 | 51 => 226 | n => n, fun | 1 => 0 | 3 => 6 | 4 => 7 | n => n⟩
theorem Tryz.lays146 : Go.Proofs.Lays.n146 Tryz.prog Tryz.lays146_ren := {
 mixed := by kernel_rfl
 f138 := Tryz.func213.trans (congrArg some (by kernel_rfl))
 f143 := Tryz.func214.trans (congrArg some (by kernel_rfl))
 f146 := Tryz.func182.trans (congrArg some (by kernel_rfl))
 f195 := Tryz.func222.trans (congrArg some (by kernel_rfl))
 f197 := Tryz.func223.trans (congrArg some (by kernel_rfl))
 f217 := Tryz.func208.trans (congrArg some (by kernel_rfl))
 f218 := Tryz.func224.trans (congrArg some (by kernel_rfl))
 f219 := Tryz.func195.trans (congrArg some (by kernel_rfl))
 f221 := Tryz.func197.trans (congrArg some (by kernel_rfl))
 f224 := Tryz.func210.trans (congrArg some (by kernel_rfl))
 f225 := Tryz.func209.trans (congrArg some (by kernel_rfl))
 f260 := Tryz.func227.trans (congrArg some (by kernel_rfl))
 f266 := Tryz.func220.trans (congrArg some (by kernel_rfl))
 f267 := Tryz.func211.trans (congrArg some (by kernel_rfl))
 f268 := Tryz.func212.trans (congrArg some (by kernel_rfl))
 f314 := Tryz.func221.trans (congrArg some (by kernel_rfl))
 t0 := Tryz.underlying0
 a0 := Tryz.isAgg0
 z0 := Tryz.sizeOf0
 v0 := Tryz.zeroValue0
 t3 := Tryz.underlying3
 a3 := Tryz.isAgg3
 z3 := Tryz.sizeOf3
 v3 := Tryz.zeroValue3
 t4 := Tryz.underlying4
 a4 := Tryz.isAgg4
 z4 := Tryz.sizeOf4
 v4 := Tryz.zeroValue4
 t5 := Tryz.underlying5
 a5 := Tryz.isAgg5
 z5 := Tryz.sizeOf5
 v5 := Tryz.zeroValue5
 t9 := Tryz.underlying9
 a9 := Tryz.isAgg9
 z9 := Tryz.sizeOf9
 v9 := Tryz.zeroValue9
 t21 := Tryz.underlying21
 a21 := Tryz.isAgg21
 z21 := Tryz.sizeOf21
 v21 := Tryz.zeroValue21
 t31 := Tryz.underlying23
 a31 := Tryz.isAgg23
 z31 := Tryz.sizeOf23
 v31 := Tryz.zeroValue23
 t46 := Tryz.underlying204
 a46 := Tryz.isAgg204
 z46 := Tryz.sizeOf204
 v46 := Tryz.zeroValue204
 t51 := Tryz.underlying226
 a51 := Tryz.isAgg226
 z51 := Tryz.sizeOf226
 v51 := Tryz.zeroValue226
 t105 := Tryz.underlying253
 a105 := Tryz.isAgg253
 z105 := Tryz.sizeOf253
 v105 := Tryz.zeroValue253
 t119 := Tryz.underlying261
 a119 := Tryz.isAgg261
 z119 := Tryz.sizeOf261
 t138 := Tryz.underlying263
 a138 := Tryz.isAgg263
 z138 := Tryz.sizeOf263
 v138 := Tryz.zeroValue263
 t139 := Tryz.underlying264
 a139 := Tryz.isAgg264
 z139 := Tryz.sizeOf264
 v139 := Tryz.zeroValue264
 t146 := Tryz.underlying227
 a146 := Tryz.isAgg227
 z146 := Tryz.sizeOf227
 v146 := Tryz.zeroValue227
 g1 := by kernel_rfl
 g3 := by kernel_rfl
 g4 := by kernel_rfl }
open Go.RowKit Go.Lib in
theorem Tryz.strings_Split (s sep : ByteArray) (m : Int) (w : World) (hs : s.size < 4294967281) (hm : w.cell? ⟨0, 0, none⟩ = some (.int .i64 m)) (h1 : 1 ≤ sep.size) :
 Calls Tryz.prog 182 #[.string s, .string sep] w fun e w' =>
  e = .returned (.slice (some ⟨w.heap.size, 0, none⟩) (Lib.countB s sep + 1) (Lib.countB s sep + 1)) ∧ w' = w.alloc (.cells ((Lib.splitB sep 0 (Lib.countB s sep) s).map Value.string).toArray 9) := Any.strings_Split Tryz.lays146 (by kernel_rfl) s sep m w hs hm h1
end Go.Proofs
namespace Go.Proofs.YtapnnpoljobanaaGreatDoor
open Go.Ex Go.RowKit
set_option maxRecDepth 1000000
noncomputable abbrev P := Tryz.prog
theorem zP : xF 8 P = true := by decide +kernel
theorem mixed : P.follows .mixedOrders = true := by decide +kernel
def tb (m : Int) : List (Nat × List Value) := [(0, [.int .i64 m]), (1, Lib.pow10Tab.map fun z => Value.int .u64 z)]
theorem tb_ok (m : Int) : ∀ p ∈ tb m, p.1 < 8 ∧ p.2.all uB = true := by
 intro p hp
 simp only [tb, List.mem_cons, List.not_mem_nil, or_false] at hp
 rcases hp with rfl | rfl
 · exact ⟨(by decide : (0 : Nat) < 8), rfl⟩
 · exact ⟨(by decide : (1 : Nat) < 8), by simp [Lib.pow10Tab, uB]⟩
theorem tb_max {m : Int} {wd : World} (h : TabsIn wd (tb m)) : wd.cell? ⟨0, 0, none⟩ = some (.int .i64 m) := by
 obtain ⟨el, fr, e⟩ := h (0, [.int .i64 m]) (by simp [tb])
 unfold World.cell?
 dsimp only at e ⊢
 rw [e]; rfl
theorem tb_pow {m : Int} {wd : World} (h : TabsIn wd (tb m)) : Lib.TabIs P wd "internal/strconv.uint64pow10" .u64 Lib.pow10Tab := by
 obtain ⟨el, fr, e⟩ := h (1, Lib.pow10Tab.map fun z => Value.int .u64 z) (by simp [tb])
 unfold Lib.TabIs World.var?
 rw [show P.globalNamed "internal/strconv.uint64pow10" = some 1 by kernel_rfl]
 simp only [Option.bind_some]
 dsimp only at e
 rw [e]
theorem h_cut : hasB P 160 = true := by kernel_rfl
theorem h_cutPrefix : hasB P 181 = true := by kernel_rfl
theorem h_split : hasB P 182 = true := by kernel_rfl
theorem h_join : hasB P 54 = true := by kernel_rfl
theorem h_itoa : hasB P 81 = true := by kernel_rfl
theorem h_check : hasB P 108 = true := by kernel_rfl
theorem h_string : hasB P 57 = true := by kernel_rfl
theorem cut_pure {m : Int} {h : zD} (n : Nat) (ht : TabsH (tb m) h) (s : List UInt8) (c : UInt8) (hs : s.length < 1000000) :
 Pure P 8 160 [str s, str [c]] h n (.tuple #[str (cutB c s).1, str (cutB c s).2.1, .bool (cutB c s).2.2]) := by
 refine rN h_cut rfl rfl ht (tb_ok m) fun wd hw => ?_
 refine (Tryz.strings_Cut ⟨⟨s⟩⟩ ⟨#[c]⟩ m wd ?_ (tb_max hw)).mono fun e w' ⟨he, k, hw'⟩ => ?_
 · show s.length < _; omega
 · subst hw'
   refine ⟨?_, below_drewN (Below.refl _ _) k⟩
   rw [he]
   show Ending.returned (.tuple #[.string ⟨(Lib.cut s [c]).1.toArray⟩, .string ⟨(Lib.cut s [c]).2.1.toArray⟩, .bool (Lib.cut s [c]).2.2]) = _
   rw [cut_one]
theorem cutPrefix_pure {h : zD} (n : Nat) (s p : List UInt8) :
 Pure P 8 181 [str s, str p] h n (.tuple #[str (Lib.trimPrefix s p), .bool (Lib.hasPrefix s p)]) := by
 refine rN (tabs := []) h_cutPrefix rfl rfl (fun _ h => by cases h) (fun _ h => by cases h) fun wd hw => ?_
 refine (Tryz.strings_CutPrefix ⟨⟨s⟩⟩ ⟨⟨p⟩⟩ wd).mono fun e w' ⟨he, hw'⟩ => ?_
 subst hw'
 exact ⟨he, Below.refl _ _⟩
theorem split_rets {m : Int} {h : zD} (n : Nat) (ht : TabsH (tb m) h) (s : List UInt8) (c : UInt8) (hs : s.length < 1000000) :
 Rets P 8 182 [str s, str [c]] h n fun v' h' n' => v' = .slice (some ⟨n, 0, none⟩) (wR c s).length (wR c s).length ∧ h' = h.set .dead (mkC ((wR c s).map str) 0 0) n ∧ n' = n + 1 := by
 have hl : (wR c s).length < 1000001 := by rw [splitL_length]; have := List.count_le_length (a := c) (l := s); omega
 refine row_of_calls h_split rfl ?_ (Nat.le_refl _) ?_ ht (tb_ok m) (el := 9) fun wd hw => ?_
 · simp [uB]
 · unfold inf; omega
 · refine (Tryz.strings_Split ⟨⟨s⟩⟩ ⟨#[c]⟩ m wd ?_ (tb_max hw) (Nat.le_refl 1)).mono fun e w' ⟨he, hw'⟩ => ?_
   · show s.length < _; omega
   · have e1 : Lib.countB ⟨⟨s⟩⟩ ⟨#[c]⟩ + 1 = (wR c s).length := by rw [count_one, splitL_length]
     have e2 : (Lib.splitB ⟨#[c]⟩ 0 (Lib.countB ⟨⟨s⟩⟩ ⟨#[c]⟩) ⟨⟨s⟩⟩).map Value.string = (wR c s).map str := by
      have := split_one c ⟨⟨s⟩⟩
      rw [← this, List.map_map]
      apply List.map_congr_left
      intro x _
      rfl
     rw [e1] at he
     refine ⟨he, ?_⟩
     rw [hw', e2]
theorem join_pure {h : zD} {n : Nat} {sv : Value} {el : Nat} (ls : List (List UInt8)) (sep : List UInt8) (r : Row n h sv el 1 ls.length (ls.map str)) (hn : ls.length < 1000000) (hl : (Lib.join ls sep).length < 1000000) :
 Pure P 8 54 [sv, str sep] h n (str (Lib.join ls sep)) := by
 refine pure_of_calls_row (tabs := []) h_join r (by simp [uB]) rfl rfl (fun _ h => by cases h) (fun _ h => by cases h) fun wd sv' _ hsv => ?_
 rcases hsv with ⟨h0, a, c, rfl⟩ | ⟨bk, o, c, rfl, hc, hb, hcells⟩
 · have : ls = [] := List.length_eq_zero_iff.1 h0
   subst this
   refine (Tryz.strings_Join_none a c ⟨⟨sep⟩⟩ wd).mono fun e w' ⟨he, hw'⟩ => ?_
   subst hw'
   exact ⟨he, Below.refl _ _⟩
 · have e1 : (ls.map fun l => (⟨⟨l⟩⟩ : ByteArray)).length = ls.length := List.length_map ..
   have e2 : (ls.map fun l => (⟨⟨l⟩⟩ : ByteArray)).map (·.data.toList) = ls := by rw [List.map_map]; exact List.map_id' _
   have := Tryz.strings_Join bk o c (ls.map fun l => (⟨⟨l⟩⟩ : ByteArray)) ⟨⟨sep⟩⟩ wd (fun j x hj => hcells j (.string x) (by
    rw [List.getElem?_map] at hj ⊢
    cases e : ls[j]? with
    | none => rw [e] at hj; cases hj
    | some l => rw [e] at hj; injection hj with hj; subst hj; rfl)) hb (by rw [e1]; omega) (by rw [e1]; exact hc) (by rw [e2]; show (Lib.join ls sep).length ≤ _; omega)
   rw [e1, e2] at this
   exact this.mono fun _ _ ⟨he, hw'⟩ => ⟨he, hw'⟩
theorem itoa_pure {m : Int} {h : zD} (n : Nat) (ht : TabsH (tb m) h) (a : Int) (h0 : -9223372036854775808 ≤ a) (h1 : a ≤ 9223372036854775807) :
 Pure P 8 81 [.int .i64 a] h n (str (Lib.itoa a)) := by
 refine rN h_itoa rfl rfl ht (tb_ok m) fun wd hw => ?_
 refine (Tryz.strconv_Itoa a h0 h1 wd (tb_pow hw)).mono fun e w' ⟨he, k, os, hw'⟩ => ?_
 subst hw'
 exact ⟨he, Lib.below_grow _ _ (Nat.le_refl _) k os⟩
theorem h_atoi : hasB P 179 = true := by kernel_rfl
theorem atoi_pure {h : zD} (n : Nat) (s : List UInt8) (v : Int) (hs : s.length ≤ 1000000) (hv : Lib.atoiAll s = .ok v) :
 Pure P 8 179 [str s] h n (.tuple #[.int .i64 v, .nilIface]) := by
 refine rN (tabs := []) h_atoi rfl rfl (fun _ h => by cases h) (fun _ h => by cases h) fun wd hw => ?_
 refine (Tryz.strconv_Atoi_ok ⟨⟨s⟩⟩ (by show s.length ≤ _; omega) v hv wd).mono fun e w' ⟨he, hw'⟩ => ?_
 rcases hw' with rfl | ⟨t, rfl⟩
 · exact ⟨he, Below.refl _ _⟩
 · exact ⟨he, Lib.bytesWorld_below _ _ _⟩
theorem check_fresh {b n : Nat} {h : zD} {sv : Value} (hB : Bld 97 h b (.pointer none) sv) :
 Rets P 8 108 [.pointer (some ⟨b, 0, none⟩)] h n fun v h' n' => v = .tuple #[] ∧ h' = h.set .dead (stC (zU h b) 0 [.pointer (some ⟨b, 0, none⟩)]) b ∧ n' = n :=
 copyCheck_fresh h_check hB fun wd c h1 h2 h3 => Any.Builder_copyCheck_fresh { Tryz.lays156 with } { Tryz.Builder_Extra_156 with } c wd h1 h2 h3
theorem check_used {b n : Nat} {h : zD} {sv : Value} (hB : Bld 97 h b (.pointer (some ⟨b, 0, none⟩)) sv) :
 Rets P 8 108 [.pointer (some ⟨b, 0, none⟩)] h n fun v h' n' => v = .tuple #[] ∧ h' = h ∧ n' = n :=
 copyCheck_used h_check hB fun wd c h1 => Any.Builder_copyCheck_used { Tryz.lays156 with } { Tryz.Builder_Extra_156 with } c wd h1
theorem string_rets {b lo n : Nat} {h : zD} {p sv : Value} {l : List UInt8} (hB : Bld 97 h b p sv) (ho : Own lo n h sv 5 1 l.length (bytesV l)) (hne : wB sv ≠ some b) (hlen : l.length < 1000000) :
 Rets P 8 57 [.pointer (some ⟨b, 0, none⟩)] h n fun v h' n' => v = str l ∧ n' = n ∧ (∀ b', wB sv ≠ some b' → zU h' b' = zU h b') :=
 builder_String h_string hB ho hne hlen
  (fun wd c x hx => (Any.Builder_String_nil Tryz.lays169 Tryz.Builder_Extra_169 wd.heap.size c x wd hx).mono fun _ _ ⟨he, hb⟩ => ⟨he, hb⟩)
  (fun wd c g cap x cur h0 h1 h2 h3 h4 h5 => (string_model Tryz.lays169 Tryz.Builder_Extra_169 c g cap x cur l wd h0 hlen h1 h2 h3 h4 h5).mono fun _ _ ⟨he, hb⟩ => ⟨he, hb⟩)
open Go.Ex
theorem sh41 : yG P 41 = .scal := by kernel_rfl
theorem us41 : und P 41 = some (.slice 51) := by kernel_rfl
theorem ix41 : ixOf P 41 = .slice 1 := by kernel_rfl
theorem ap41 : apTB P 41 41 51 1 = true := by kernel_rfl
theorem on41 : oneTB P 41 51 = true := by kernel_rfl
theorem sh51 : yG P 51 = .scal := by kernel_rfl
theorem us51 : und P 51 = some (.slice 50) := by kernel_rfl
theorem ix51 : ixOf P 51 = .slice 9 := by kernel_rfl
theorem ap51 : apTB P 51 51 50 9 = true := by kernel_rfl
theorem sh114 : yG P 114 = .scal := by kernel_rfl
theorem us114 : und P 114 = some (.slice 113) := by kernel_rfl
theorem ix114 : ixOf P 114 = .slice 1 := by kernel_rfl
theorem sh40 : yG P 40 = .scal := by kernel_rfl
theorem us40 : und P 40 = some (.slice 3) := by kernel_rfl
theorem ix40 : ixOf P 40 = .slice 1 := by kernel_rfl
theorem ap40 : apTB P 40 40 3 1 = true := by kernel_rfl
theorem on40 : oneTB P 40 3 = true := by kernel_rfl
theorem sh23 : yG P 23 = .scal := by kernel_rfl
theorem us23 : und P 23 = some (.slice 9) := by kernel_rfl
theorem ix23 : ixOf P 23 = .slice 1 := by kernel_rfl
theorem ap23 : apTB P 23 23 9 1 = true := by kernel_rfl
theorem on23 : oneTB P 23 9 = true := by kernel_rfl
theorem in23 : (inf? P 9).map (·.size) = some 1 := by kernel_rfl
theorem sh25 : yG P 25 = .scal := by kernel_rfl
theorem ze25 : wM P 25 = some (.int .i64 0) := by kernel_rfl
theorem sh43 : yG P 43 = .agg 5 := by kernel_rfl
theorem ze43 : wM P 43 = some (.agg ⟨[str [], .slice none 0 0, .slice none 0 0, str [], .slice none 0 0]⟩) := by kernel_rfl
theorem fa43_0 (b : Nat) : zB P 43 0 (.pointer (some ⟨b, 0, none⟩)) = some (.pointer (some ⟨b, 0, none⟩)) := by rw [yE (o := 0) (by kernel_rfl), Nat.zero_add]
theorem qI (b : Nat) : zB P 43 1 (.pointer (some ⟨b, 0, none⟩)) = some (.pointer (some ⟨b, 1, none⟩)) := by rw [yE (o := 1) (by kernel_rfl), Nat.zero_add]
theorem fa43_2 (b : Nat) : zB P 43 2 (.pointer (some ⟨b, 0, none⟩)) = some (.pointer (some ⟨b, 2, none⟩)) := by rw [yE (o := 2) (by kernel_rfl), Nat.zero_add]
theorem fa43_3 (b : Nat) : zB P 43 3 (.pointer (some ⟨b, 0, none⟩)) = some (.pointer (some ⟨b, 3, none⟩)) := by rw [yE (o := 3) (by kernel_rfl), Nat.zero_add]
theorem qJ (b : Nat) : zB P 43 4 (.pointer (some ⟨b, 0, none⟩)) = some (.pointer (some ⟨b, 4, none⟩)) := by rw [yE (o := 4) (by kernel_rfl), Nat.zero_add]
theorem sh50 : yG P 50 = .agg 9 := by kernel_rfl
theorem ze50 : wM P 50 = some (.agg ⟨[.int .i64 0, .int .i64 0, .int .i64 0, .int .i64 0, .int .i64 0, str [], .slice none 0 0, .int .i64 0, .int .i64 0]⟩) := by kernel_rfl
theorem tG (b : Nat) : zB P 50 0 (.pointer (some ⟨b, 0, none⟩)) = some (.pointer (some ⟨b, 0, none⟩)) := by rw [yE (o := 0) (by kernel_rfl), Nat.zero_add]
theorem fa50_1 (b : Nat) : zB P 50 1 (.pointer (some ⟨b, 0, none⟩)) = some (.pointer (some ⟨b, 1, none⟩)) := by rw [yE (o := 1) (by kernel_rfl), Nat.zero_add]
theorem rD (b : Nat) : zB P 50 2 (.pointer (some ⟨b, 0, none⟩)) = some (.pointer (some ⟨b, 2, none⟩)) := by rw [yE (o := 2) (by kernel_rfl), Nat.zero_add]
theorem fa50_3 (b : Nat) : zB P 50 3 (.pointer (some ⟨b, 0, none⟩)) = some (.pointer (some ⟨b, 3, none⟩)) := by rw [yE (o := 3) (by kernel_rfl), Nat.zero_add]
theorem fa50_4 (b : Nat) : zB P 50 4 (.pointer (some ⟨b, 0, none⟩)) = some (.pointer (some ⟨b, 4, none⟩)) := by rw [yE (o := 4) (by kernel_rfl), Nat.zero_add]
theorem qK (b : Nat) : zB P 50 5 (.pointer (some ⟨b, 0, none⟩)) = some (.pointer (some ⟨b, 5, none⟩)) := by rw [yE (o := 5) (by kernel_rfl), Nat.zero_add]
theorem sH (b : Nat) : zB P 50 6 (.pointer (some ⟨b, 0, none⟩)) = some (.pointer (some ⟨b, 6, none⟩)) := by rw [yE (o := 6) (by kernel_rfl), Nat.zero_add]
theorem fa50_7 (b : Nat) : zB P 50 7 (.pointer (some ⟨b, 0, none⟩)) = some (.pointer (some ⟨b, 7, none⟩)) := by rw [yE (o := 7) (by kernel_rfl), Nat.zero_add]
theorem fa50_8 (b : Nat) : zB P 50 8 (.pointer (some ⟨b, 0, none⟩)) = some (.pointer (some ⟨b, 8, none⟩)) := by rw [yE (o := 8) (by kernel_rfl), Nat.zero_add]
theorem sh4 : yG P 4 = .scal := by kernel_rfl
theorem sh1 : yG P 1 = .scal := by kernel_rfl
theorem sh113 : yG P 113 = .scal := by kernel_rfl
theorem sh3 : yG P 3 = .scal := by kernel_rfl
theorem ze3 : wM P 3 = some (.int .i64 0) := by kernel_rfl
theorem sh9 : yG P 9 = .scal := by kernel_rfl
theorem us9 : und P 9 = some .string := by kernel_rfl
theorem fa116_0 (b : Nat) : zB P 116 0 (.pointer (some ⟨b, 0, none⟩)) = some (.pointer (some ⟨b, 0, none⟩)) := by rw [yE (o := 0) (by kernel_rfl), Nat.zero_add]
theorem fa116_1 (b : Nat) : zB P 116 1 (.pointer (some ⟨b, 0, none⟩)) = some (.pointer (some ⟨b, 1, none⟩)) := by rw [yE (o := 1) (by kernel_rfl), Nat.zero_add]
theorem fa116_2 (b : Nat) : zB P 116 2 (.pointer (some ⟨b, 0, none⟩)) = some (.pointer (some ⟨b, 2, none⟩)) := by rw [yE (o := 2) (by kernel_rfl), Nat.zero_add]
theorem fa116_3 (b : Nat) : zB P 116 3 (.pointer (some ⟨b, 0, none⟩)) = some (.pointer (some ⟨b, 3, none⟩)) := by rw [yE (o := 3) (by kernel_rfl), Nat.zero_add]
theorem fa116_4 (b : Nat) : zB P 116 4 (.pointer (some ⟨b, 0, none⟩)) = some (.pointer (some ⟨b, 4, none⟩)) := by rw [yE (o := 4) (by kernel_rfl), Nat.zero_add]
theorem fa116_5 (b : Nat) : zB P 116 5 (.pointer (some ⟨b, 0, none⟩)) = some (.pointer (some ⟨b, 5, none⟩)) := by rw [yE (o := 5) (by kernel_rfl), Nat.zero_add]
theorem fa189_0 (b : Nat) : zB P 189 0 (.pointer (some ⟨b, 0, none⟩)) = some (.pointer (some ⟨b, 0, none⟩)) := by rw [yE (o := 0) (by kernel_rfl), Nat.zero_add]
theorem qL (b : Nat) : zB P 111 0 (.pointer (some ⟨b, 0, none⟩)) = some (.pointer (some ⟨b, 0, none⟩)) := by rw [yE (o := 0) (by kernel_rfl), Nat.zero_add]
noncomputable abbrev ud : Value := undef
abbrev vi (x : Int) : Value := .int .i64 x
abbrev vb (x : Bool) : Value := .bool x
noncomputable abbrev fr110 (s0 s1 s2 s3 s4 s5 s6 s7 s8 s9 s10 s11 s12 s13 s14 s15 s16 s17 s18 s19 s20 : Value) : Fr := (.node (.node (.node (.node (.node .leaf s15 .leaf) s7 .leaf) s3 (.node (.node .leaf s19 .leaf) s11 .leaf)) s1 (.node (.node (.node .leaf s17 .leaf) s9 .leaf) s5 (.node .leaf s13 .leaf))) s0 (.node (.node (.node (.node .leaf s16 .leaf) s8 .leaf) s4 (.node (.node .leaf s20 .leaf) s12 .leaf)) s2 (.node (.node (.node .leaf s18 .leaf) s10 .leaf) s6 (.node .leaf s14 .leaf))))
noncomputable abbrev fo110 (s2 : Value) : Fr := fr110 ud ud s2 ud ud ud ud ud ud ud ud ud ud ud ud ud ud ud ud ud ud
noncomputable def hint110 : tJ := fun kind _ i => match kind with
 | 4 => bif Nat.beq i 0 then [(.int .u8)] else []
 | _ => []
noncomputable def F110 (L : Lo) (lp : LP) (p0 : Value) (df : Bool) (u : Option zL) (h : zD) (n : Nat) (k : KO) : Bool :=
 rtI .u8 p0 fun ap0 =>
 fb (rM 97 ap0) fun a1 =>
 grd a1 (fun k2 =>
 k2 h n (.int .u8 ap0)) (fun h3 n4 v5 =>
 grd a1 (fun k6 =>
 yB rM P .leq 5 true v5 (.int .u8 122) fun Aa =>
 k6 h3 n4 (.bool Aa)) (fun h7 n8 v9 =>
 rtB (sel a1 v9 (.bool false)) fun AB =>
 grd (nt AB) (fun Ac =>
 Ac h7 n8 (.int .u8 ap0)) (fun AJ AK Ad =>
 grd (nt AB) (fun Ae =>
 yB igeB P .geq 5 true Ad (.int .u8 65) fun Af =>
 Ae AJ AK (.bool Af)) (fun AL AM Ag =>
 grd (nt AB) (fun Ah =>
 Ah AL AM Ag) (fun AN AO AD =>
 grd (gv AD) (fun Ai =>
 Ai AN AO (.int .u8 ap0)) (fun AP AQ Aj =>
 grd (gv AD) (fun Ak =>
 yB rM P .leq 5 true Aj (.int .u8 90) fun Al =>
 Ak AP AQ (.bool Al)) (fun AR AS Am =>
 grd (nt AB) (fun An =>
 wG AD (fun Ao =>
 rtB (sel Ao Am (.bool false)) fun Ap =>
 An AR AS (.bool Ap)) false) (fun AT AU Aq =>
 rtB (sel AB (.bool true) Aq) fun AE =>
 grd (nt AE) (fun Ar =>
 Ar AT AU (.int .u8 ap0)) (fun AV AW As =>
 grd (nt AE) (fun At =>
 yB wJ P .eql 5 true As (.int .u8 95) fun Au =>
 At AV AW (.bool Au)) (fun Av Aw Ax =>
 rtB (sel AE (.bool true) Ax) fun Ay =>
 zE P L 110 k .ret (fo110 (.bool Ay)) (W.mk [] u Av Aw)) AV AW) AT AU) AR AS) AP AQ) AN AO) AL AM) AJ AK) h7 n8) h3 n4) h n
theorem F110_eq (L : Lo) (lp : LP) (p0 : Value) (df : Bool) (u : Option zL) (h : zD) (n : Nat) (k : KO) : wQ P hint110 L lp 110 [p0] df u h n k = F110 L lp p0 df u h n k := by kernel_rfl
theorem l110 : xB P 110 = true := by kernel_rfl
theorem r110 : wA P 110 = some [.tmp 2] := by kernel_rfl
noncomputable abbrev fr111 (s0 s1 s2 s3 s4 s5 s6 s7 s8 : Value) : Fr := (.node (.node (.node (.node .leaf s7 .leaf) s3 .leaf) s1 (.node .leaf s5 .leaf)) s0 (.node (.node (.node .leaf s8 .leaf) s4 .leaf) s2 (.node .leaf s6 .leaf)))
noncomputable abbrev fo111 (s2 : Value) : Fr := fr111 ud ud s2 ud ud ud ud ud ud
noncomputable def hint111 : tJ := fun kind _ i => match kind with
 | 4 => bif Nat.beq i 0 then [(.int .u8)] else []
 | _ => []
noncomputable def F111 (L : Lo) (lp : LP) (p0 : Value) (df : Bool) (u : Option zL) (h : zD) (n : Nat) (k : KO) : Bool :=
 rtI .u8 p0 fun ap0 =>
 fb (rM 48 ap0) fun a1 =>
 grd a1 (fun k2 =>
 k2 h n (.int .u8 ap0)) (fun h3 n4 v5 =>
 grd a1 (fun k6 =>
 yB rM P .leq 5 true v5 (.int .u8 57) fun AH =>
 k6 h3 n4 (.bool AH)) (fun h7 n8 v9 =>
 rtB (sel a1 v9 (.bool false)) fun AL =>
 zE P L 111 k .ret (fo111 (.bool AL)) (W.mk [] u h7 n8)) h3 n4) h n
theorem F111_eq (L : Lo) (lp : LP) (p0 : Value) (df : Bool) (u : Option zL) (h : zD) (n : Nat) (k : KO) : wQ P hint111 L lp 111 [p0] df u h n k = F111 L lp p0 df u h n k := by kernel_rfl
theorem l111 : xB P 111 = true := by kernel_rfl
theorem r111 : wA P 111 = some [.tmp 2] := by kernel_rfl
noncomputable abbrev fr58 (s0 s1 s2 s3 s4 s5 s6 s7 s8 s9 s10 s11 s12 s13 s14 s15 s16 s17 s18 s19 s20 s21 s22 s23 s24 s25 s26 s27 s28 s29 s30 s31 s32 s33 s34 : Value) : Fr := (.node (.node (.node (.node (.node (.node .leaf s31 .leaf) s15 .leaf) s7 (.node .leaf s23 .leaf)) s3 (.node (.node .leaf s19 .leaf) s11 (.node .leaf s27 .leaf))) s1 (.node (.node (.node (.node .leaf s33 .leaf) s17 .leaf) s9 (.node .leaf s25 .leaf)) s5 (.node (.node .leaf s21 .leaf) s13 (.node .leaf s29 .leaf)))) s0 (.node (.node (.node (.node (.node .leaf s32 .leaf) s16 .leaf) s8 (.node .leaf s24 .leaf)) s4 (.node (.node .leaf s20 .leaf) s12 (.node .leaf s28 .leaf))) s2 (.node (.node (.node (.node .leaf s34 .leaf) s18 .leaf) s10 (.node .leaf s26 .leaf)) s6 (.node (.node .leaf s22 .leaf) s14 (.node .leaf s30 .leaf)))))
noncomputable abbrev fo58 (s2 : Value) : Fr := fr58 ud ud s2 ud ud ud ud ud ud ud ud ud ud ud ud ud ud ud ud ud ud ud ud ud ud ud ud ud ud ud ud ud ud ud ud
noncomputable abbrev fj58_0 (t : Fr) (s0 s2 s3 s18 s19 s20 s21 s22 s23 s24 s25 s26 s27 s28 s29 s30 s34 : Value) : Fr := fr58 s0 (zA t 1) s2 s3 (zA t 4) (zA t 5) (zA t 6) (zA t 7) (zA t 8) (zA t 9) (zA t 10) (zA t 11) (zA t 12) (zA t 13) (zA t 14) (zA t 15) (zA t 16) (zA t 17) s18 s19 s20 s21 s22 s23 s24 s25 s26 s27 s28 s29 s30 (zA t 31) (zA t 32) (zA t 33) s34
noncomputable def hint58 : tJ := fun kind _ i => match kind with
 | 0 => bif Nat.beq i 1000004 then [.val, .any, .any, .any, .any, .any, .any, .any, .any, .any, .any, .any, .any, .any, .any, .any, .any, .any, (.int .i64), (.int .i64)] else []
 | 1 => bif Nat.beq i 1 then [.val, .any, .any, .any, .any, .any, .any, .any, .any, .any, .any, .any, .any, .any, .any, .any, .any, .any, (.int .i64), (.int .i64)] else []
 | 2 => bif Nat.beq i 0 then [.val, .any, .any, .any, .any, .any, .any, .any, .any, .any, .any, .any, .any, .any, .any, .any, .any, .any, (.int .i64), (.int .i64)] else bif Nat.beq i 2 then [.val] else bif Nat.beq i 7 then [.val, .any, .any, .any, .any, .any, .any, .any, .any, .any, .any, .any, .any, .any, .any, .any, .any, .any, (.int .i64), (.int .i64)] else []
 | 4 => bif Nat.beq i 0 then [.any] else []
 | _ => []
noncomputable def F58 (L : Lo) (lp : LP) (p0 : Value) (df : Bool) (u : Option zL) (h : zD) (n : Nat) (k : KO) : Bool :=
 yB wJ P .eql 9 true p0 (.string (ByteArray.mk #[])) fun a1 =>
 grd (nt a1) (fun k2 =>
 k2 h n p0) (fun h3 n4 v5 =>
 grd (nt a1) (fun k6 =>
 opt (yL P .len [9] [v5] h3) fun Ab =>
 rtI .i64 Ab fun Ac =>
 k6 h3 n4 (.int .i64 Ac)) (fun h7 n8 v9 =>
 grd (nt a1) (fun Ad =>
 yB igtB P .gtr 3 true v9 (.int .i64 20) fun Ae =>
 Ad h7 n8 (.bool Ae)) (fun AK AL AM =>
 rtB (sel a1 (.bool true) AM) fun AB =>
 grd (nt AB) (fun Af =>
 Af AK AL p0) (fun AN AO AP =>
 grd (nt AB) (fun Ag =>
 opt (qX P 9 AP (.int .i64 0)) fun Ah =>
 rtI .u8 Ah fun Aj =>
 Ag AN AO (.int .u8 Aj)) (fun AQ AR AS =>
 grd (nt AB) (fun Ak =>
 sJ L 110 [AS] AQ AR (fun Al Am An =>
 zE P L 58 k (.panic Al) (fo58 (.bool false)) (W.mk [] u Am An)) fun Ao Ap Aq =>
 Ak Ap Aq (.bool Ao)) (fun AT AU AV =>
 grd (nt AB) (fun Ar =>
 opt (aUn .not AV) fun As =>
 rtB As fun At =>
 Ar AT AU (.bool At)) (fun AE AW AX =>
 rtB (sel AB (.bool true) AX) fun AY =>
 br AY (
 zE P L 58 k .ret (fo58 (.bool false)) (W.mk [] u AE AW)) (
 opt (yL P .len [9] [p0] AE) fun Au =>
 rtI .i64 Au fun Av =>
 lp 1000004 ⟨58, none, df⟩ (fr58 p0 ud (vb false) ud p0 (vb a1) (vb a1) v5 v9 AM (vb AB) (vb AB) AP AS AV AX (vb AY) p0 (vi Av) (vi 0) ud ud ud ud ud ud ud ud ud ud ud ud ud ud ud) (W.mk [] u AE AW) (endA noK (blkA 0 (fun AA Aw =>
 onW Aw fun Ax Ay Az A0 =>
 zE P L 58 k .ret (fj58_0 AA (zA AA 0) (vb true) (zA AA 3) (zA AA 18) (zA AA 19) (zA AA 20) (zA AA 21) (zA AA 22) (zA AA 23) (zA AA 24) (zA AA 25) (zA AA 26) (zA AA 27) (zA AA 28) (zA AA 29) (zA AA 30) (zA AA 34)) (W.mk Ax Ay Az A0)) (zE P L 58 k))))) AT AU) AQ AR) AN AO) AK AL) h7 n8) h3 n4) h n
theorem F58_eq (L : Lo) (lp : LP) (p0 : Value) (df : Bool) (u : Option zL) (h : zD) (n : Nat) (k : KO) : wQ P hint58 L lp 58 [p0] df u h n k = F58 L lp p0 df u h n k := by kernel_rfl
noncomputable def B58_1000004 (L : Lo) (lp : LP) (rd : Option Nat) (df : Bool) (t : Fr) (w : W) (ka : KX) : Bool :=
 zO (zA t 0) fun AD =>
 rtI .i64 (zA t 18) fun AF =>
 rtI .i64 (zA t 19) fun AA =>
 onW w fun AH AI AR AS =>
 fb (vD AA AF) fun AG =>
 br AG (
 blkJ (fun Ag =>
 opt (qX P 9 AD (.int .i64 AA)) fun Ah =>
 rtI .u8 Ah fun AJ =>
 sJ L 110 [(.int .u8 AJ)] AR AS (fun Ai Aj Ak =>
 ka (.panic Ai) (fj58_0 t AD (zA t 2) (vi AA) (vi AF) (vi AA) (vb AG) (vi AA) AD (vi AA) (.int .u8 AJ) (zA t 25) (zA t 26) (zA t 27) (zA t 28) (zA t 29) (zA t 30) (zA t 34)) (W.mk AH AI Aj Ak)) fun AK AT AU =>
 opt (aUn .not (.bool AK)) fun Al =>
 rtB Al fun AC =>
 grd AC (fun Am =>
 Am AT AU AD) (fun AV AW AL =>
 grd AC (fun An =>
 An AV AW (.int .i64 AA)) (fun AX AY AM =>
 grd AC (fun Ao =>
 opt (qX P 9 AL AM) fun Ap =>
 rtI .u8 Ap fun Aq =>
 Ao AX AY (.int .u8 Aq)) (fun AZ Aa AN =>
 grd AC (fun Ar =>
 sJ L 111 [AN] AZ Aa (fun As At Au =>
 ka (.panic As) (fj58_0 t AD (zA t 2) (vi AA) (vi AF) (vi AA) (vb AG) (vi AA) AD (vi AA) (.int .u8 AJ) (vb AK) (vb AC) (vb AC) AL AM AN (zA t 34)) (W.mk AH AI At Au)) fun Av Aw Ax =>
 Ar Aw Ax (.bool Av)) (fun Ab Ac AO =>
 grd AC (fun Ay =>
 opt (aUn .not AO) fun Az =>
 rtB Az fun A0 =>
 Ay Ab Ac (.bool A0)) (fun Ad Ae AP =>
 rtB (sel AC AP (.bool false)) fun AQ =>
 br AQ (
 ka .ret (fr58 AD (zA t 1) (vb false) (vi AA) (zA t 4) (zA t 5) (zA t 6) (zA t 7) (zA t 8) (zA t 9) (zA t 10) (zA t 11) (zA t 12) (zA t 13) (zA t 14) (zA t 15) (zA t 16) (zA t 17) (vi AF) (vi AA) (vb AG) (vi AA) AD (vi AA) (.int .u8 AJ) (vb AK) (vb AC) (vb AC) AL AM AN AO AP (vb AQ) (zA t 34)) (W.mk AH AI Ad Ae)) (
 Ag (fr58 AD (zA t 1) (zA t 2) (vi AA) (zA t 4) (zA t 5) (zA t 6) (zA t 7) (zA t 8) (zA t 9) (zA t 10) (zA t 11) (zA t 12) (zA t 13) (zA t 14) (zA t 15) (zA t 16) (zA t 17) (vi AF) (vi AA) (vb AG) (vi AA) AD (vi AA) (.int .u8 AJ) (vb AK) (vb AC) (vb AC) AL AM AN AO AP (vb AQ) (zA t 34)) (W.mk AH AI Ad Ae))) Ab Ac) AZ Aa) AX AY) AV AW) AT AU) (fun AB A1 =>
 zO (zA AB 0) fun A2 =>
 rtI .i64 (zA AB 18) fun A3 =>
 rtI .i64 (zA AB 19) fun A4 =>
 onW A1 fun A5 A6 A7 A8 =>
 fi (vK .i64 (tH A4 1)) fun Af =>
 lp 1000004 ⟨58, rd, df⟩ (fj58_0 AB A2 (zA AB 2) (zA AB 3) (vi A3) (vi Af) (zA AB 20) (zA AB 21) (zA AB 22) (zA AB 23) (zA AB 24) (zA AB 25) (zA AB 26) (zA AB 27) (zA AB 28) (zA AB 29) (zA AB 30) (vi Af)) (W.mk A5 A6 A7 A8) ka)) (
 ka (.exit 0) (fj58_0 t AD (zA t 2) (zA t 3) (vi AF) (vi AA) (vb AG) (zA t 21) (zA t 22) (zA t 23) (zA t 24) (zA t 25) (zA t 26) (zA t 27) (zA t 28) (zA t 29) (zA t 30) (zA t 34)) (W.mk AH AI AR AS))
theorem B58_1000004_eq (L : Lo) (lp : LP) (rd : Option Nat) (df : Bool) (t : Fr) (w : W) (ka : KX) : pC P hint58 L lp (unL (yD P 58 1000004)) ⟨58, rd, df⟩ t w ka = B58_1000004 L lp rd df t w ka := by kernel_rfl
theorem l58 : xB P 58 = true := by kernel_rfl
theorem r58 : wA P 58 = some [.tmp 2] := by kernel_rfl
theorem lp58_1000004 : uX (yD P 58 1000004) = true := by kernel_rfl
noncomputable abbrev fr178 (s0 s1 s2 s3 s4 s5 s6 s7 s8 s9 s10 s11 s12 s13 s14 s15 s16 s17 s18 : Value) : Fr := (.node (.node (.node (.node (.node .leaf s15 .leaf) s7 .leaf) s3 (.node .leaf s11 .leaf)) s1 (.node (.node (.node .leaf s17 .leaf) s9 .leaf) s5 (.node .leaf s13 .leaf))) s0 (.node (.node (.node (.node .leaf s16 .leaf) s8 .leaf) s4 (.node .leaf s12 .leaf)) s2 (.node (.node (.node .leaf s18 .leaf) s10 .leaf) s6 (.node .leaf s14 .leaf))))
noncomputable abbrev fj178_0 (t : Fr) (s0 s1 s4 s7 s8 s9 s18 : Value) : Fr := fr178 s0 s1 (zA t 2) (zA t 3) s4 (zA t 5) (zA t 6) s7 s8 s9 (zA t 10) (zA t 11) (zA t 12) (zA t 13) (zA t 14) (zA t 15) (zA t 16) (zA t 17) s18
noncomputable def hint178 : tJ := fun kind _ i => match kind with
 | 0 => bif Nat.beq i 1000002 then [.val, .val, .any, .any, .any, .any, .any, (.int .i64), (.int .i64)] else []
 | 1 => bif Nat.beq i 1 then [.val, .val, .any, .any, .any, .any, .any, (.int .i64), (.int .i64)] else []
 | 2 => bif Nat.beq i 0 then [.val, .val, .any, .any, .any, .any, .any, (.int .i64), (.int .i64)] else bif Nat.beq i 5 then [.val, .val, .any, .any, .any, .any, .any, (.int .i64), (.int .i64)] else []
 | 4 => bif Nat.beq i 0 then [.any, .any] else []
 | _ => []
noncomputable def F178 (L : Lo) (lp : LP) (p0 p1 : Value) (df : Bool) (u : Option zL) (h : zD) (n : Nat) (k : KO) : Bool :=
 opt (yL P .len [23] [p0] h) fun v1 =>
 rtI .i64 v1 fun a2 =>
 lp 1000002 ⟨178, none, df⟩ (fr178 p0 p1 ud ud (vi 0) ud p0 (vi a2) (vi 0) ud ud ud ud ud ud ud ud ud ud) (W.mk [] u h n) (endA noK (blkA 0 (fun t3 w4 =>
 onW w4 fun d5 u6 h7 n8 =>
 zE P L 178 k .ret (fj178_0 t3 (zA t3 0) (zA t3 1) (.int .i64 (-1)) (zA t3 7) (zA t3 8) (zA t3 9) (zA t3 18)) (W.mk d5 u6 h7 n8)) (zE P L 178 k)))
theorem F178_eq (L : Lo) (lp : LP) (p0 p1 : Value) (df : Bool) (u : Option zL) (h : zD) (n : Nat) (k : KO) : wQ P hint178 L lp 178 [p0, p1] df u h n k = F178 L lp p0 p1 df u h n k := by kernel_rfl
noncomputable def B178_1000002 (L : Lo) (lp : LP) (rd : Option Nat) (df : Bool) (t : Fr) (w : W) (ka : KX) : Bool :=
 zO (zA t 0) fun s9 =>
 zO (zA t 1) fun AD =>
 rtI .i64 (zA t 7) fun AE =>
 rtI .i64 (zA t 8) fun AA =>
 onW w fun AH AI AF AJ =>
 fb (vD AA AE) fun AG =>
 br AG (
 blkJ (fun AO =>
 opt (zT P 23 s9 (.int .i64 AA)) fun AK =>
 opt (zF P 9 AF AK) fun AL =>
 yB wJ P .eql 9 false AD AL fun AM =>
 br AM (
 ka .ret (fr178 s9 AD (zA t 2) (zA t 3) (vi AA) (vi AA) (zA t 6) (vi AE) (vi AA) (vb AG) (vi AA) AD s9 (vi AA) AK AL (vb AM) (vi AA) (zA t 18)) (W.mk AH AI AF AJ)) (
 AO (fr178 s9 AD (zA t 2) (zA t 3) (zA t 4) (vi AA) (zA t 6) (vi AE) (vi AA) (vb AG) (vi AA) AD s9 (vi AA) AK AL (vb AM) (zA t 17) (zA t 18)) (W.mk AH AI AF AJ))) (fun AB AP =>
 zO (zA AB 0) fun AQ =>
 zO (zA AB 1) fun AR =>
 rtI .i64 (zA AB 7) fun AS =>
 rtI .i64 (zA AB 8) fun AT =>
 onW AP fun AU AV AW AX =>
 fi (vK .i64 (tH AT 1)) fun AN =>
 lp 1000002 ⟨178, rd, df⟩ (fj178_0 AB AQ AR (zA AB 4) (vi AS) (vi AN) (zA AB 9) (vi AN)) (W.mk AU AV AW AX) ka)) (
 ka (.exit 0) (fj178_0 t s9 AD (zA t 4) (vi AE) (vi AA) (vb AG) (zA t 18)) (W.mk AH AI AF AJ))
theorem B178_1000002_eq (L : Lo) (lp : LP) (rd : Option Nat) (df : Bool) (t : Fr) (w : W) (ka : KX) : pC P hint178 L lp (unL (yD P 178 1000002)) ⟨178, rd, df⟩ t w ka = B178_1000002 L lp rd df t w ka := by kernel_rfl
theorem l178 : xB P 178 = true := by kernel_rfl
theorem r178 : wA P 178 = some [.tmp 4] := by kernel_rfl
theorem lp178_1000002 : uX (yD P 178 1000002) = true := by kernel_rfl
noncomputable abbrev fr152 (s0 s1 s2 s3 s4 s5 s6 s7 s8 : Value) : Fr := (.node (.node (.node (.node .leaf s7 .leaf) s3 .leaf) s1 (.node .leaf s5 .leaf)) s0 (.node (.node (.node .leaf s8 .leaf) s4 .leaf) s2 (.node .leaf s6 .leaf)))
noncomputable abbrev fo152 (s4 : Value) : Fr := fr152 ud ud ud ud s4 ud ud ud ud
noncomputable def hint152 : tJ := fun kind _ i => match kind with
 | 4 => bif Nat.beq i 0 then [.any, .any] else []
 | _ => []
noncomputable def F152 (L : Lo) (lp : LP) (p0 p1 : Value) (df : Bool) (u : Option zL) (h : zD) (n : Nat) (k : KO) : Bool :=
 qN L .i64 178 [p0, p1] h n (fun c4 h5 n6 =>
 zE P L 152 k (.panic c4) (fo152 (.bool false)) (W.mk [] u h5 n6)) fun a1 h2 n3 =>
 fb (rM 0 a1) fun a7 =>
 zE P L 152 k .ret (fo152 (.bool a7)) (W.mk [] u h2 n3)
theorem F152_eq (L : Lo) (lp : LP) (p0 p1 : Value) (df : Bool) (u : Option zL) (h : zD) (n : Nat) (k : KO) : wQ P hint152 L lp 152 [p0, p1] df u h n k = F152 L lp p0 p1 df u h n k := by kernel_rfl
theorem l152 : xB P 152 = true := by kernel_rfl
theorem r152 : wA P 152 = some [.tmp 4] := by kernel_rfl
noncomputable abbrev fr120 (s0 s1 s2 s3 s4 s5 s6 s7 s8 : Value) : Fr := (.node (.node (.node (.node .leaf s7 .leaf) s3 .leaf) s1 (.node .leaf s5 .leaf)) s0 (.node (.node (.node .leaf s8 .leaf) s4 .leaf) s2 (.node .leaf s6 .leaf)))
noncomputable abbrev fo120 : Fr := fr120 ud ud ud ud ud ud ud ud ud
noncomputable def hint120 : tJ := fun kind _ i => match kind with
 | 4 => bif Nat.beq i 0 then [.bool, (.int .i64)] else []
 | _ => []
noncomputable def F120 (L : Lo) (lp : LP) (p0 p1 : Value) (df : Bool) (u : Option zL) (h : zD) (n : Nat) (k : KO) : Bool :=
 rtB p0 fun ap0 =>
 rtI .i64 p1 fun ap1 =>
 opt (aUn .not (.bool ap0)) fun v1 =>
 rtB v1 fun a2 =>
 brJ a2 (fun k3 =>
 opt (xP P 191 [(0, (.int .i64 ap1))]) fun v5 =>
 opt (qMakeIface P 191 v5) fun v6 =>
 ePanic v6 h n fun c7 h8 n9 =>
 zE P L 120 k (.panic c7) fo120 (W.mk [] u h8 n9)) (fun k4 =>
 k4 (fr120 (vb ap0) (vi ap1) ud ud (vb ap0) (vb a2) ud ud ud) (W.mk [] u h n)) (fun AA AJ =>
 onW AJ fun AK AL AM AN =>
 zE P L 120 k .ret (fr120 (zA AA 0) (zA AA 1) (zA AA 2) (zA AA 3) (zA AA 4) (zA AA 5) (zA AA 6) (zA AA 7) (zA AA 8)) (W.mk AK AL AM AN))
theorem F120_eq (L : Lo) (lp : LP) (p0 p1 : Value) (df : Bool) (u : Option zL) (h : zD) (n : Nat) (k : KO) : wQ P hint120 L lp 120 [p0, p1] df u h n k = F120 L lp p0 p1 df u h n k := by kernel_rfl
theorem l120 : xB P 120 = true := by kernel_rfl
theorem r120 : wA P 120 = some [] := by kernel_rfl
noncomputable abbrev fr154 (s0 s1 s2 s3 s4 s5 s6 s7 : Value) : Fr := (.node (.node (.node (.node .leaf s7 .leaf) s3 .leaf) s1 (.node .leaf s5 .leaf)) s0 (.node (.node .leaf s4 .leaf) s2 (.node .leaf s6 .leaf)))
noncomputable abbrev fo154 (s2 : Value) : Fr := fr154 ud ud s2 ud ud ud ud ud
noncomputable def hint154 : tJ := fun kind _ i => match kind with
 | 4 => bif Nat.beq i 0 then [.any] else []
 | _ => []
noncomputable def F154 (L : Lo) (lp : LP) (p0 : Value) (df : Bool) (u : Option zL) (h : zD) (n : Nat) (k : KO) : Bool :=
 opt (qC p0) fun v1 =>
 opt (zB P 189 0 v1) fun v2 =>
 opt (zF P 23 h v2) fun v3 =>
 opt (yL P .len [23] [v3] h) fun v4 =>
 rtI .i64 v4 fun a5 =>
 zE P L 154 k .ret (fo154 (.int .i64 a5)) (W.mk [] u h n)
theorem F154_eq (L : Lo) (lp : LP) (p0 : Value) (df : Bool) (u : Option zL) (h : zD) (n : Nat) (k : KO) : wQ P hint154 L lp 154 [p0] df u h n k = F154 L lp p0 df u h n k := by kernel_rfl
theorem l154 : xB P 154 = true := by kernel_rfl
theorem r154 : wA P 154 = some [.tmp 2] := by kernel_rfl
noncomputable abbrev fr156 (s0 s1 s2 s3 s4 s5 s6 s7 s8 s9 s10 s11 s12 s13 s14 s15 s16 s17 s18 : Value) : Fr := (.node (.node (.node (.node (.node .leaf s15 .leaf) s7 .leaf) s3 (.node .leaf s11 .leaf)) s1 (.node (.node (.node .leaf s17 .leaf) s9 .leaf) s5 (.node .leaf s13 .leaf))) s0 (.node (.node (.node (.node .leaf s16 .leaf) s8 .leaf) s4 (.node .leaf s12 .leaf)) s2 (.node (.node (.node .leaf s18 .leaf) s10 .leaf) s6 (.node .leaf s14 .leaf))))
noncomputable abbrev fo156 (s4 : Value) : Fr := fr156 ud ud ud ud s4 ud ud ud ud ud ud ud ud ud ud ud ud ud ud
noncomputable def hint156 : tJ := fun kind _ i => match kind with
 | 2 => bif Nat.beq i 2 then [.val, (.int .i64)] else []
 | 4 => bif Nat.beq i 0 then [.any, (.int .i64)] else []
 | _ => []
noncomputable def F156 (L : Lo) (lp : LP) (p0 p1 : Value) (df : Bool) (u : Option zL) (h : zD) (n : Nat) (k : KO) : Bool :=
 rtI .i64 p1 fun ap1 =>
 opt (qC p0) fun v1 =>
 opt (zB P 189 0 v1) fun v2 =>
 opt (zF P 23 h v2) fun v3 =>
 opt (yL P .len [23] [v3] h) fun v4 =>
 rtI .i64 v4 fun a5 =>
 fb (rM a5 ap1) fun a6 =>
 br a6 (
 zE P L 156 k .ret (fo156 (.string (ByteArray.mk #[]))) (W.mk [] u h n)) (
 opt (qC p0) fun v7 =>
 opt (zB P 189 0 v7) fun v8 =>
 opt (zF P 23 h v8) fun v9 =>
 opt (zT P 23 v9 (.int .i64 ap1)) fun AJ =>
 opt (zF P 9 h AJ) fun AK =>
 zE P L 156 k .ret (fo156 AK) (W.mk [] u h n))
theorem F156_eq (L : Lo) (lp : LP) (p0 p1 : Value) (df : Bool) (u : Option zL) (h : zD) (n : Nat) (k : KO) : wQ P hint156 L lp 156 [p0, p1] df u h n k = F156 L lp p0 p1 df u h n k := by kernel_rfl
theorem l156 : xB P 156 = true := by kernel_rfl
theorem r156 : wA P 156 = some [.tmp 4] := by kernel_rfl
noncomputable abbrev fr153 (s0 s1 s2 s3 s4 s5 s6 s7 s8 s9 s10 s11 s12 s13 s14 s15 s16 s17 s18 s19 s20 s21 s22 s23 s24 s25 : Value) : Fr := (.node (.node (.node (.node (.node .leaf s15 .leaf) s7 (.node .leaf s23 .leaf)) s3 (.node (.node .leaf s19 .leaf) s11 .leaf)) s1 (.node (.node (.node .leaf s17 .leaf) s9 (.node .leaf s25 .leaf)) s5 (.node (.node .leaf s21 .leaf) s13 .leaf))) s0 (.node (.node (.node (.node .leaf s16 .leaf) s8 (.node .leaf s24 .leaf)) s4 (.node (.node .leaf s20 .leaf) s12 .leaf)) s2 (.node (.node (.node .leaf s18 .leaf) s10 .leaf) s6 (.node (.node .leaf s22 .leaf) s14 .leaf))))
noncomputable abbrev fo153 (s2 : Value) : Fr := fr153 ud ud s2 ud ud ud ud ud ud ud ud ud ud ud ud ud ud ud ud ud ud ud ud ud ud ud
noncomputable def hint153 : tJ := fun kind _ i => match kind with
 | 4 => bif Nat.beq i 0 then [.any] else []
 | _ => []
noncomputable def F153 (L : Lo) (lp : LP) (p0 : Value) (df : Bool) (u : Option zL) (h : zD) (n : Nat) (k : KO) : Bool :=
 opt (qC p0) fun v1 =>
 opt (zB P 189 0 v1) fun v2 =>
 opt (zF P 23 h v2) fun v3 =>
 opt (yL P .len [23] [v3] h) fun v4 =>
 rtI .i64 v4 fun a5 =>
 fb (vD 0 a5) fun a6 =>
 yX L 120 [(.bool a6), (.int .i64 3)] h n (fun AH AI AJ =>
 zE P L 153 k (.panic AH) (fo153 (.string (ByteArray.mk #[]))) (W.mk [] u AI AJ)) fun a7 h8 n9 =>
 opt (qC p0) fun AL =>
 opt (zB P 189 0 AL) fun AM =>
 opt (zF P 23 h8 AM) fun AN =>
 opt (zT P 23 AN (.int .i64 0)) fun AO =>
 opt (zF P 9 h8 AO) fun AP =>
 opt (qC p0) fun AQ =>
 opt (zB P 189 0 AQ) fun AR =>
 opt (zF P 23 h8 AR) fun AS =>
 opt (uW P h8 23 AS (some (.int .i64 1)) none none) fun AT =>
 opt (qC p0) fun AU =>
 opt (zB P 189 0 AU) fun AV =>
 zV P 23 AV AT h8 n9 fun AW AX AZ =>
 zE P L 153 k .ret (fo153 AP) (W.mk [] u AW AX)
theorem F153_eq (L : Lo) (lp : LP) (p0 : Value) (df : Bool) (u : Option zL) (h : zD) (n : Nat) (k : KO) : wQ P hint153 L lp 153 [p0] df u h n k = F153 L lp p0 df u h n k := by kernel_rfl
theorem l153 : xB P 153 = true := by kernel_rfl
theorem r153 : wA P 153 = some [.tmp 2] := by kernel_rfl
noncomputable abbrev fr116 (s0 s1 s2 s3 s4 s5 s6 s7 s8 : Value) : Fr := (.node (.node (.node (.node .leaf s7 .leaf) s3 .leaf) s1 (.node .leaf s5 .leaf)) s0 (.node (.node (.node .leaf s8 .leaf) s4 .leaf) s2 (.node .leaf s6 .leaf)))
noncomputable abbrev fo116 : Fr := fr116 ud ud ud ud ud ud ud ud ud
noncomputable def hint116 : tJ := fun kind _ i => match kind with
 | 4 => bif Nat.beq i 0 then [.any, .any] else []
 | _ => []
noncomputable def F116 (L : Lo) (lp : LP) (p0 p1 : Value) (df : Bool) (u : Option zL) (h : zD) (n : Nat) (k : KO) : Bool :=
 yX L 153 [p0] h n (fun c4 h5 n6 =>
 zE P L 116 k (.panic c4) fo116 (W.mk [] u h5 n6)) fun a1 h2 n3 =>
 yB wJ P .eql 9 false a1 p1 fun a7 =>
 yX L 120 [(.bool a7), (.int .i64 3)] h2 n3 (fun AH AI AJ =>
 zE P L 116 k (.panic AH) fo116 (W.mk [] u AI AJ)) fun a8 h9 AL =>
 zE P L 116 k .ret fo116 (W.mk [] u h9 AL)
theorem F116_eq (L : Lo) (lp : LP) (p0 p1 : Value) (df : Bool) (u : Option zL) (h : zD) (n : Nat) (k : KO) : wQ P hint116 L lp 116 [p0, p1] df u h n k = F116 L lp p0 p1 df u h n k := by kernel_rfl
theorem l116 : xB P 116 = true := by kernel_rfl
theorem r116 : wA P 116 = some [] := by kernel_rfl
noncomputable abbrev fr117 (s0 s1 s2 s3 s4 s5 s6 s7 s8 s9 : Value) : Fr := (.node (.node (.node (.node .leaf s7 .leaf) s3 .leaf) s1 (.node (.node .leaf s9 .leaf) s5 .leaf)) s0 (.node (.node (.node .leaf s8 .leaf) s4 .leaf) s2 (.node .leaf s6 .leaf)))
noncomputable abbrev fo117 (s2 : Value) : Fr := fr117 ud ud s2 ud ud ud ud ud ud ud
noncomputable def hint117 : tJ := fun kind _ i => match kind with
 | 4 => bif Nat.beq i 0 then [.any] else []
 | _ => []
noncomputable def F117 (L : Lo) (lp : LP) (p0 : Value) (df : Bool) (u : Option zL) (h : zD) (n : Nat) (k : KO) : Bool :=
 yX L 153 [p0] h n (fun c4 h5 n6 =>
 zE P L 117 k (.panic c4) (fo117 (.string (ByteArray.mk #[]))) (W.mk [] u h5 n6)) fun a1 h2 n3 =>
 sJ L 58 [a1] h2 n3 (fun AG AH AI =>
 zE P L 117 k (.panic AG) (fo117 (.string (ByteArray.mk #[]))) (W.mk [] u AH AI)) fun a7 h8 n9 =>
 yX L 120 [(.bool a7), (.int .i64 3)] h8 n9 (fun AM AN AO =>
 zE P L 117 k (.panic AM) (fo117 (.string (ByteArray.mk #[]))) (W.mk [] u AN AO)) fun AR AP AQ =>
 zE P L 117 k .ret (fo117 a1) (W.mk [] u AP AQ)
theorem F117_eq (L : Lo) (lp : LP) (p0 : Value) (df : Bool) (u : Option zL) (h : zD) (n : Nat) (k : KO) : wQ P hint117 L lp 117 [p0] df u h n k = F117 L lp p0 df u h n k := by kernel_rfl
theorem l117 : xB P 117 = true := by kernel_rfl
theorem r117 : wA P 117 = some [.tmp 2] := by kernel_rfl
noncomputable abbrev fr155 (s0 s1 s2 s3 s4 s5 s6 s7 s8 s9 s10 s11 s12 s13 s14 s15 s16 s17 s18 s19 s20 s21 s22 : Value) : Fr := (.node (.node (.node (.node (.node .leaf s15 .leaf) s7 .leaf) s3 (.node (.node .leaf s19 .leaf) s11 .leaf)) s1 (.node (.node (.node .leaf s17 .leaf) s9 .leaf) s5 (.node (.node .leaf s21 .leaf) s13 .leaf))) s0 (.node (.node (.node (.node .leaf s16 .leaf) s8 .leaf) s4 (.node (.node .leaf s20 .leaf) s12 .leaf)) s2 (.node (.node (.node .leaf s18 .leaf) s10 .leaf) s6 (.node (.node .leaf s22 .leaf) s14 .leaf))))
noncomputable abbrev fo155 (s2 : Value) : Fr := fr155 ud ud s2 ud ud ud ud ud ud ud ud ud ud ud ud ud ud ud ud ud ud ud ud
noncomputable def hint155 : tJ := fun kind _ i => match kind with
 | 4 => bif Nat.beq i 0 then [.any] else []
 | _ => []
noncomputable def F155 (L : Lo) (lp : LP) (p0 : Value) (df : Bool) (u : Option zL) (h : zD) (n : Nat) (k : KO) : Bool :=
 yX L 153 [p0] h n (fun c4 h5 n6 =>
 zE P L 155 k (.panic c4) (fo155 (.int .i64 0)) (W.mk [] u h5 n6)) fun a1 h2 n3 =>
 yX L 179 [a1] h2 n3 (fun AR AS AT =>
 zE P L 155 k (.panic AR) (fo155 (.int .i64 0)) (W.mk [] u AS AT)) fun a7 h8 n9 =>
 opt (xD 0 a7) fun AU =>
 rtI .i64 AU fun AF =>
 opt (xD 1 a7) fun AV =>
 yB wJ P .eql 99 true AV .nilIface fun AA =>
 grd AA (fun AW =>
 AW h8 n9 (.int .i64 AF)) (fun AG AH AX =>
 grd AA (fun AY =>
 yX L 81 [AX] AG AH (fun AZ Aa Ab =>
 zE P L 155 k (.panic AZ) (fo155 (.int .i64 0)) (W.mk [] u Aa Ab)) fun Ac Ad Ae =>
 AY Ad Ae Ac) (fun AI AJ Af =>
 grd AA (fun Ag =>
 Ag AI AJ a1) (fun AK AL Ah =>
 grd AA (fun Ai =>
 yB wJ P .eql 9 false Af Ah fun Aj =>
 Ai AK AL (.bool Aj)) (fun Ak Al Am =>
 rtB (sel AA Am (.bool false)) fun An =>
 yX L 120 [(.bool An), (.int .i64 3)] Ak Al (fun Ao Ap Aq =>
 zE P L 155 k (.panic Ao) (fo155 (.int .i64 0)) (W.mk [] u Ap Aq)) fun At Ar As =>
 zE P L 155 k .ret (fo155 (.int .i64 AF)) (W.mk [] u Ar As)) AK AL) AI AJ) AG AH) h8 n9
theorem F155_eq (L : Lo) (lp : LP) (p0 : Value) (df : Bool) (u : Option zL) (h : zD) (n : Nat) (k : KO) : wQ P hint155 L lp 155 [p0] df u h n k = F155 L lp p0 df u h n k := by kernel_rfl
theorem l155 : xB P 155 = true := by kernel_rfl
theorem r155 : wA P 155 = some [.tmp 2] := by kernel_rfl
noncomputable abbrev fr122 (s0 s1 s2 s3 s4 s5 s6 s7 s8 s9 s10 s11 s12 s13 : Value) : Fr := (.node (.node (.node (.node .leaf s7 .leaf) s3 (.node .leaf s11 .leaf)) s1 (.node (.node .leaf s9 .leaf) s5 (.node .leaf s13 .leaf))) s0 (.node (.node (.node .leaf s8 .leaf) s4 (.node .leaf s12 .leaf)) s2 (.node (.node .leaf s10 .leaf) s6 .leaf)))
noncomputable abbrev fo122 (s2 : Value) : Fr := fr122 ud ud s2 ud ud ud ud ud ud ud ud ud ud ud
noncomputable def hint122 : tJ := fun kind _ i => match kind with
 | 4 => bif Nat.beq i 0 then [.any] else []
 | _ => []
noncomputable def F122 (L : Lo) (lp : LP) (p0 : Value) (df : Bool) (u : Option zL) (h : zD) (n : Nat) (k : KO) : Bool :=
 qN L .i64 155 [p0] h n (fun c4 h5 n6 =>
 zE P L 122 k (.panic c4) (fo122 (.int .i64 0)) (W.mk [] u h5 n6)) fun a1 h2 n3 =>
 fb (rM 0 a1) fun a7 =>
 grd a7 (fun k8 =>
 k8 h2 n3 (.int .i64 a1)) (fun h9 AF AK =>
 grd a7 (fun AL =>
 yB rM P .leq 3 true AK (.int .i64 99999) fun AM =>
 AL h9 AF (.bool AM)) (fun AN AO AP =>
 rtB (sel a7 AP (.bool false)) fun AQ =>
 yX L 120 [(.bool AQ), (.int .i64 3)] AN AO (fun AR AS AT =>
 zE P L 122 k (.panic AR) (fo122 (.int .i64 0)) (W.mk [] u AS AT)) fun AW AU AV =>
 zE P L 122 k .ret (fo122 (.int .i64 a1)) (W.mk [] u AU AV)) h9 AF) h2 n3
theorem F122_eq (L : Lo) (lp : LP) (p0 : Value) (df : Bool) (u : Option zL) (h : zD) (n : Nat) (k : KO) : wQ P hint122 L lp 122 [p0] df u h n k = F122 L lp p0 df u h n k := by kernel_rfl
theorem l122 : xB P 122 = true := by kernel_rfl
theorem r122 : wA P 122 = some [.tmp 2] := by kernel_rfl
noncomputable abbrev fr118 (s0 s1 s2 s3 s4 s5 s6 s7 s8 : Value) : Fr := (.node (.node (.node (.node .leaf s7 .leaf) s3 .leaf) s1 (.node .leaf s5 .leaf)) s0 (.node (.node (.node .leaf s8 .leaf) s4 .leaf) s2 (.node .leaf s6 .leaf)))
noncomputable abbrev fo118 : Fr := fr118 ud ud ud ud ud ud ud ud ud
noncomputable def hint118 : tJ := fun kind _ i => match kind with
 | 4 => bif Nat.beq i 0 then [.any] else []
 | _ => []
noncomputable def F118 (L : Lo) (lp : LP) (p0 : Value) (df : Bool) (u : Option zL) (h : zD) (n : Nat) (k : KO) : Bool :=
 opt (qC p0) fun v1 =>
 opt (zB P 189 0 v1) fun v2 =>
 opt (zF P 23 h v2) fun v3 =>
 opt (yL P .len [23] [v3] h) fun v4 =>
 rtI .i64 v4 fun a5 =>
 fb (wJ a5 0) fun a6 =>
 yX L 120 [(.bool a6), (.int .i64 3)] h n (fun AG AH AI =>
 zE P L 118 k (.panic AG) fo118 (W.mk [] u AH AI)) fun a7 h8 n9 =>
 zE P L 118 k .ret fo118 (W.mk [] u h8 n9)
theorem F118_eq (L : Lo) (lp : LP) (p0 : Value) (df : Bool) (u : Option zL) (h : zD) (n : Nat) (k : KO) : wQ P hint118 L lp 118 [p0] df u h n k = F118 L lp p0 df u h n k := by kernel_rfl
theorem l118 : xB P 118 = true := by kernel_rfl
theorem r118 : wA P 118 = some [] := by kernel_rfl
noncomputable abbrev fr114 (s0 s1 s2 s3 s4 s5 : Value) : Fr := (.node (.node (.node .leaf s3 .leaf) s1 (.node .leaf s5 .leaf)) s0 (.node (.node .leaf s4 .leaf) s2 .leaf))
noncomputable abbrev fo114 (s2 : Value) : Fr := fr114 ud ud s2 ud ud ud
noncomputable def hint114 : tJ := fun kind _ i => match kind with
 | 4 => bif Nat.beq i 0 then [.any] else []
 | _ => []
noncomputable def F114 (L : Lo) (lp : LP) (p0 : Value) (df : Bool) (u : Option zL) (h : zD) (n : Nat) (k : KO) : Bool :=
 zN P 23 4 [(0, (.string (ByteArray.mk #[99, 111, 110, 115, 116]))), (1, (.string (ByteArray.mk #[99, 111, 112, 121]))), (2, (.string (ByteArray.mk #[108, 111, 97, 100]))), (3, (.string (ByteArray.mk #[99, 97, 108, 108])))] h n fun h1 n2 v3 =>
 sJ L 152 [v3, p0] h1 n2 (fun c7 h8 n9 =>
 zE P L 114 k (.panic c7) (fo114 (.bool false)) (W.mk [] u h8 n9)) fun a4 h5 n6 =>
 zE P L 114 k .ret (fo114 (.bool a4)) (W.mk [] u h5 n6)
theorem F114_eq (L : Lo) (lp : LP) (p0 : Value) (df : Bool) (u : Option zL) (h : zD) (n : Nat) (k : KO) : wQ P hint114 L lp 114 [p0] df u h n k = F114 L lp p0 df u h n k := by kernel_rfl
theorem l114 : xB P 114 = true := by kernel_rfl
theorem r114 : wA P 114 = some [.tmp 2] := by kernel_rfl
noncomputable abbrev fr59 (s0 s1 s2 s3 s4 s5 s6 s7 s8 s9 s10 s11 s12 s13 s14 s15 s16 s17 : Value) : Fr := (.node (.node (.node (.node (.node .leaf s15 .leaf) s7 .leaf) s3 (.node .leaf s11 .leaf)) s1 (.node (.node (.node .leaf s17 .leaf) s9 .leaf) s5 (.node .leaf s13 .leaf))) s0 (.node (.node (.node (.node .leaf s16 .leaf) s8 .leaf) s4 (.node .leaf s12 .leaf)) s2 (.node (.node .leaf s10 .leaf) s6 (.node .leaf s14 .leaf))))
noncomputable abbrev fj59_0 (t : Fr) (s2 s5 s6 s7 s8 s17 : Value) : Fr := fr59 (zA t 0) (zA t 1) s2 (zA t 3) (zA t 4) s5 s6 s7 s8 (zA t 9) (zA t 10) (zA t 11) (zA t 12) (zA t 13) (zA t 14) (zA t 15) (zA t 16) s17
noncomputable def hint59 : tJ := fun kind _ i => match kind with
 | 0 => bif Nat.beq i 1000002 then [.any, .any, .any, .any, .any, .val, (.int .i64), (.int .i64)] else []
 | 1 => bif Nat.beq i 1 then [.any, .any, .any, .any, .any, .val, (.int .i64), (.int .i64)] else []
 | 2 => bif Nat.beq i 0 then [.any, .any, .any, .any, .any, .val, (.int .i64), (.int .i64)] else bif Nat.beq i 5 then [.any, .any, .any, .any, .any, .val, (.int .i64), (.int .i64)] else []
 | 4 => bif Nat.beq i 0 then [.any] else []
 | _ => []
noncomputable def F59 (L : Lo) (lp : LP) (p0 : Value) (df : Bool) (u : Option zL) (h : zD) (n : Nat) (k : KO) : Bool :=
 opt (yL P .len [40] [p0] h) fun v1 =>
 rtI .i64 v1 fun a2 =>
 lp 1000002 ⟨59, none, df⟩ (fr59 p0 ud (vb false) ud ud p0 (vi a2) (vi 0) ud ud ud ud ud ud ud ud ud ud) (W.mk [] u h n) (endA noK (blkA 0 (fun t3 w4 =>
 onW w4 fun d5 u6 h7 n8 =>
 zE P L 59 k .ret (fj59_0 t3 (vb true) (zA t3 5) (zA t3 6) (zA t3 7) (zA t3 8) (zA t3 17)) (W.mk d5 u6 h7 n8)) (zE P L 59 k)))
theorem F59_eq (L : Lo) (lp : LP) (p0 : Value) (df : Bool) (u : Option zL) (h : zD) (n : Nat) (k : KO) : wQ P hint59 L lp 59 [p0] df u h n k = F59 L lp p0 df u h n k := by kernel_rfl
noncomputable def B59_1000002 (L : Lo) (lp : LP) (rd : Option Nat) (df : Bool) (t : Fr) (w : W) (ka : KX) : Bool :=
 zO (zA t 5) fun s9 =>
 rtI .i64 (zA t 6) fun AF =>
 rtI .i64 (zA t 7) fun AD =>
 onW w fun AI AJ AG AK =>
 fb (vD AD AF) fun AH =>
 br AH (
 blkJ (fun AU =>
 opt (zT P 40 s9 (.int .i64 AD)) fun AL =>
 opt (zF P 3 AG AL) fun AV =>
 rtI .i64 AV fun AA =>
 fb (vD AA 0) fun AB =>
 grd (nt AB) (fun AW =>
 AW AG AK (.int .i64 AA)) (fun AP AQ AM =>
 grd (nt AB) (fun AX =>
 yB igtB P .gtr 3 true AM (.int .i64 99999) fun AY =>
 AX AP AQ (.bool AY)) (fun AR AS AN =>
 rtB (sel AB (.bool true) AN) fun AO =>
 br AO (
 ka .ret (fr59 (zA t 0) (zA t 1) (vb false) (zA t 3) (vi AA) s9 (vi AF) (vi AD) (vb AH) AL (vi AA) (vi AA) (vb AB) (vb AB) AM AN (vb AO) (zA t 17)) (W.mk AI AJ AR AS)) (
 AU (fr59 (zA t 0) (zA t 1) (zA t 2) (zA t 3) (vi AA) s9 (vi AF) (vi AD) (vb AH) AL (vi AA) (vi AA) (vb AB) (vb AB) AM AN (vb AO) (zA t 17)) (W.mk AI AJ AR AS))) AP AQ) AG AK) (fun AC AZ =>
 zO (zA AC 5) fun Aa =>
 rtI .i64 (zA AC 6) fun Ab =>
 rtI .i64 (zA AC 7) fun Ac =>
 onW AZ fun Ad Ae Af Ag =>
 fi (vK .i64 (tH Ac 1)) fun AT =>
 lp 1000002 ⟨59, rd, df⟩ (fj59_0 AC (zA AC 2) Aa (vi Ab) (vi AT) (zA AC 8) (vi AT)) (W.mk Ad Ae Af Ag) ka)) (
 ka (.exit 0) (fj59_0 t (zA t 2) s9 (vi AF) (vi AD) (vb AH) (zA t 17)) (W.mk AI AJ AG AK))
theorem B59_1000002_eq (L : Lo) (lp : LP) (rd : Option Nat) (df : Bool) (t : Fr) (w : W) (ka : KX) : pC P hint59 L lp (unL (yD P 59 1000002)) ⟨59, rd, df⟩ t w ka = B59_1000002 L lp rd df t w ka := by kernel_rfl
theorem l59 : xB P 59 = true := by kernel_rfl
theorem r59 : wA P 59 = some [.tmp 2] := by kernel_rfl
theorem lp59_1000002 : uX (yD P 59 1000002) = true := by kernel_rfl
noncomputable abbrev fr55 (s0 s1 s2 s3 s4 s5 s6 s7 s8 s9 s10 s11 s12 s13 s14 s15 s16 s17 s18 : Value) : Fr := (.node (.node (.node (.node (.node .leaf s15 .leaf) s7 .leaf) s3 (.node .leaf s11 .leaf)) s1 (.node (.node (.node .leaf s17 .leaf) s9 .leaf) s5 (.node .leaf s13 .leaf))) s0 (.node (.node (.node (.node .leaf s16 .leaf) s8 .leaf) s4 (.node .leaf s12 .leaf)) s2 (.node (.node (.node .leaf s18 .leaf) s10 .leaf) s6 (.node .leaf s14 .leaf))))
noncomputable abbrev fj55_0 (t : Fr) (s2 s3 s6 s7 s8 s9 s17 s18 : Value) : Fr := fr55 (zA t 0) (zA t 1) s2 s3 (zA t 4) (zA t 5) s6 s7 s8 s9 (zA t 10) (zA t 11) (zA t 12) (zA t 13) (zA t 14) (zA t 15) (zA t 16) s17 s18
noncomputable def hint55 : tJ := fun kind _ i => match kind with
 | 0 => bif Nat.beq i 1000003 then [.any, .any, .any, .val, .any, .any, .val, (.int .i64), (.int .i64)] else []
 | 1 => bif Nat.beq i 0 then [.any, .any, .any, .val] else bif Nat.beq i 1 then [.any, .any, .any, .val, .any, .any, .val, (.int .i64), (.int .i64)] else []
 | 2 => bif Nat.beq i 0 then [.any, .any, .any, .val, .any, .any, .val, (.int .i64), (.int .i64)] else []
 | 4 => bif Nat.beq i 0 then [.any] else []
 | _ => []
noncomputable def F55 (L : Lo) (lp : LP) (p0 : Value) (df : Bool) (u : Option zL) (h : zD) (n : Nat) (k : KO) : Bool :=
 opt (yL P .len [40] [p0] h) fun v1 =>
 rtI .i64 v1 fun a2 =>
 lp 1000003 ⟨55, none, df⟩ (fr55 p0 ud (.slice none 0 0) (.slice none 0 0) ud ud p0 (vi a2) (vi 0) ud ud ud ud ud ud ud ud ud ud) (W.mk [] u h n) (endA noK (blkA 0 (fun t3 w4 =>
 zO (zA t3 3) fun s5 =>
 onW w4 fun d6 u7 h8 n9 =>
 zE P L 55 k .ret (fj55_0 t3 s5 s5 (zA t3 6) (zA t3 7) (zA t3 8) (zA t3 9) (zA t3 17) s5) (W.mk d6 u7 h8 n9)) (zE P L 55 k)))
theorem F55_eq (L : Lo) (lp : LP) (p0 : Value) (df : Bool) (u : Option zL) (h : zD) (n : Nat) (k : KO) : wQ P hint55 L lp 55 [p0] df u h n k = F55 L lp p0 df u h n k := by kernel_rfl
noncomputable def B55_1000003 (L : Lo) (lp : LP) (rd : Option Nat) (df : Bool) (t : Fr) (w : W) (ka : KX) : Bool :=
 zO (zA t 3) fun AC =>
 zO (zA t 6) fun AE =>
 rtI .i64 (zA t 7) fun AF =>
 rtI .i64 (zA t 8) fun AD =>
 onW w fun AH AI AJ AL =>
 fb (vD AD AF) fun AG =>
 br AG (
 blkJ (fun AQ =>
 opt (zT P 40 AE (.int .i64 AD)) fun AK =>
 opt (zF P 3 AJ AK) fun AR =>
 rtI .i64 AR fun AB =>
 yX L 81 [(.int .i64 AB)] AJ AL (fun AS AT AU =>
 ka (.panic AS) (fr55 (zA t 0) (zA t 1) (zA t 2) AC (zA t 4) (vi AB) AE (vi AF) (vi AD) (vb AG) AK (vi AB) AC (vi AB) (zA t 14) (zA t 15) (zA t 16) (zA t 17) (zA t 18)) (W.mk AH AI AT AU)) fun AM AV AW =>
 zN P 23 1 [(0, AM)] AV AW fun AX AY AN =>
 wE P [23, 23] [AC, AN] AX AY fun AZ Aa AO =>
 AQ (fr55 (zA t 0) (zA t 1) (zA t 2) AO (zA t 4) (vi AB) AE (vi AF) (vi AD) (vb AG) AK (vi AB) AC (vi AB) AM AN AO (zA t 17) (zA t 18)) (W.mk AH AI AZ Aa)) (fun AA Ab =>
 zO (zA AA 3) fun Ac =>
 zO (zA AA 6) fun Ad =>
 rtI .i64 (zA AA 7) fun Ae =>
 rtI .i64 (zA AA 8) fun Af =>
 onW Ab fun Ag Ah Ai Aj =>
 fi (vK .i64 (tH Af 1)) fun AP =>
 lp 1000003 ⟨55, rd, df⟩ (fj55_0 AA (zA AA 2) Ac Ad (vi Ae) (vi AP) (zA AA 9) (vi AP) (zA AA 18)) (W.mk Ag Ah Ai Aj) ka)) (
 ka (.exit 0) (fj55_0 t (zA t 2) AC AE (vi AF) (vi AD) (vb AG) (zA t 17) (zA t 18)) (W.mk AH AI AJ AL))
theorem B55_1000003_eq (L : Lo) (lp : LP) (rd : Option Nat) (df : Bool) (t : Fr) (w : W) (ka : KX) : pC P hint55 L lp (unL (yD P 55 1000003)) ⟨55, rd, df⟩ t w ka = B55_1000003 L lp rd df t w ka := by kernel_rfl
theorem l55 : xB P 55 = true := by kernel_rfl
theorem r55 : wA P 55 = some [.tmp 2] := by kernel_rfl
theorem lp55_1000003 : uX (yD P 55 1000003) = true := by kernel_rfl
noncomputable abbrev fr112 (s0 s1 s2 s3 s4 s5 s6 s7 s8 s9 s10 s11 s12 s13 s14 s15 s16 s17 s18 s19 s20 s21 s22 s23 s24 s25 s26 s27 s28 s29 s30 s31 s32 s33 s34 s35 s36 s37 s38 s39 s40 s41 s42 s43 s44 s45 s46 : Value) : Fr := (.node (.node (.node (.node (.node (.node .leaf s31 .leaf) s15 .leaf) s7 (.node (.node .leaf s39 .leaf) s23 .leaf)) s3 (.node (.node (.node .leaf s35 .leaf) s19 .leaf) s11 (.node (.node .leaf s43 .leaf) s27 .leaf))) s1 (.node (.node (.node (.node .leaf s33 .leaf) s17 .leaf) s9 (.node (.node .leaf s41 .leaf) s25 .leaf)) s5 (.node (.node (.node .leaf s37 .leaf) s21 .leaf) s13 (.node (.node .leaf s45 .leaf) s29 .leaf)))) s0 (.node (.node (.node (.node (.node .leaf s32 .leaf) s16 .leaf) s8 (.node (.node .leaf s40 .leaf) s24 .leaf)) s4 (.node (.node (.node .leaf s36 .leaf) s20 .leaf) s12 (.node (.node .leaf s44 .leaf) s28 .leaf))) s2 (.node (.node (.node (.node .leaf s34 .leaf) s18 .leaf) s10 (.node (.node .leaf s42 .leaf) s26 .leaf)) s6 (.node (.node (.node .leaf s38 .leaf) s22 .leaf) s14 (.node (.node .leaf s46 .leaf) s30 .leaf)))))
noncomputable abbrev fo112 (s2 : Value) : Fr := fr112 ud ud s2 ud ud ud ud ud ud ud ud ud ud ud ud ud ud ud ud ud ud ud ud ud ud ud ud ud ud ud ud ud ud ud ud ud ud ud ud ud ud ud ud ud ud ud ud
noncomputable def hint112 : tJ := fun kind _ i => match kind with
 | 4 => bif Nat.beq i 0 then [.any] else []
 | _ => []
noncomputable def F112 (L : Lo) (lp : LP) (p0 : Value) (df : Bool) (u : Option zL) (h : zD) (n : Nat) (k : KO) : Bool :=
 eBox p0 h n fun h1 n2 v3 =>
 opt (zB P 50 0 v3) fun v4 =>
 opt (zF P 3 h1 v4) fun v5 =>
 rtI .i64 v5 fun a6 =>
 fb (wJ a6 0) fun a7 =>
 grd a7 (fun k8 =>
 opt (zB P 50 1 v3) fun BB =>
 k8 h1 n2 BB) (fun h9 AU BC =>
 grd a7 (fun BD =>
 opt (zF P 3 h9 BC) fun BE =>
 rtI .i64 BE fun BF =>
 BD h9 AU (.int .i64 BF)) (fun AV AW BG =>
 grd a7 (fun BH =>
 yB wJ P .eql 3 true BG (.int .i64 0) fun BI =>
 BH AV AW (.bool BI)) (fun AX AY BJ =>
 rtB (sel a7 BJ (.bool false)) fun AD =>
 grd AD (fun BK =>
 opt (zB P 50 2 v3) fun BL =>
 BK AX AY BL) (fun AL AZ BM =>
 grd AD (fun BN =>
 opt (zF P 3 AL BM) fun BO =>
 rtI .i64 BO fun BP =>
 BN AL AZ (.int .i64 BP)) (fun Aa Ab BQ =>
 grd AD (fun BR =>
 yB wJ P .eql 3 true BQ (.int .i64 0) fun BS =>
 BR Aa Ab (.bool BS)) (fun Ac Ad BT =>
 rtB (sel AD BT (.bool false)) fun AE =>
 grd AE (fun BU =>
 opt (zB P 50 3 v3) fun BV =>
 BU Ac Ad BV) (fun AM Ae BW =>
 grd AE (fun BX =>
 opt (zF P 3 AM BW) fun BY =>
 rtI .i64 BY fun BZ =>
 BX AM Ae (.int .i64 BZ)) (fun Af Ag Ba =>
 grd AE (fun Bb =>
 yB wJ P .eql 3 true Ba (.int .i64 0) fun Bc =>
 Bb Af Ag (.bool Bc)) (fun Ah Ai Bd =>
 rtB (sel AE Bd (.bool false)) fun AF =>
 grd AF (fun Be =>
 opt (zB P 50 4 v3) fun Bf =>
 Be Ah Ai Bf) (fun AN Aj Bg =>
 grd AF (fun Bh =>
 opt (zF P 3 AN Bg) fun Bi =>
 rtI .i64 Bi fun Bj =>
 Bh AN Aj (.int .i64 Bj)) (fun Ak Al Bk =>
 grd AF (fun Bl =>
 yB wJ P .eql 3 true Bk (.int .i64 0) fun Bm =>
 Bl Ak Al (.bool Bm)) (fun Am An Bn =>
 rtB (sel AF Bn (.bool false)) fun AG =>
 grd AG (fun Bo =>
 opt (zB P 50 5 v3) fun Bp =>
 Bo Am An Bp) (fun AO Ao Bq =>
 grd AG (fun Br =>
 opt (zF P 9 AO Bq) fun Bs =>
 Br AO Ao Bs) (fun Ap Aq Bt =>
 grd AG (fun Bu =>
 yB wJ P .eql 9 true Bt (.string (ByteArray.mk #[])) fun Bv =>
 Bu Ap Aq (.bool Bv)) (fun Ar As Bw =>
 rtB (sel AG Bw (.bool false)) fun AB =>
 grd AB (fun Bx =>
 opt (zB P 50 6 v3) fun By =>
 Bx Ar As By) (fun AP At Bz =>
 grd AB (fun B0 =>
 opt (zF P 40 AP Bz) fun B1 =>
 B0 AP At B1) (fun AQ Au B2 =>
 grd AB (fun B3 =>
 opt (yL P .len [40] [B2] AQ) fun B4 =>
 rtI .i64 B4 fun B5 =>
 B3 AQ Au (.int .i64 B5)) (fun Av Aw B6 =>
 grd AB (fun B7 =>
 yB wJ P .eql 3 true B6 (.int .i64 0) fun B8 =>
 B7 Av Aw (.bool B8)) (fun Ax Ay B9 =>
 rtB (sel AB B9 (.bool false)) fun AH =>
 grd AH (fun CA =>
 opt (zB P 50 7 v3) fun CB =>
 CA Ax Ay CB) (fun AR Az CC =>
 grd AH (fun CD =>
 opt (zF P 3 AR CC) fun CE =>
 rtI .i64 CE fun CF =>
 CD AR Az (.int .i64 CF)) (fun A0 A1 CG =>
 grd AH (fun CH =>
 yB wJ P .eql 3 true CG (.int .i64 0) fun CI =>
 CH A0 A1 (.bool CI)) (fun A2 A3 CJ =>
 rtB (sel AH CJ (.bool false)) fun AI =>
 grd AI (fun CK =>
 opt (zB P 50 8 v3) fun CL =>
 CK A2 A3 CL) (fun AS A4 CM =>
 grd AI (fun CN =>
 opt (zF P 3 AS CM) fun CO =>
 rtI .i64 CO fun CP =>
 CN AS A4 (.int .i64 CP)) (fun A5 A6 CQ =>
 grd AI (fun CR =>
 yB wJ P .eql 3 true CQ (.int .i64 0) fun CS =>
 CR A5 A6 (.bool CS)) (fun CT CU CV =>
 rtB (sel AI CV (.bool false)) fun CW =>
 zE P L 112 k .ret (fo112 (.bool CW)) (W.mk [] u CT CU)) A5 A6) AS A4) A2 A3) A0 A1) AR Az) Ax Ay) Av Aw) AQ Au) AP At) Ar As) Ap Aq) AO Ao) Am An) Ak Al) AN Aj) Ah Ai) Af Ag) AM Ae) Ac Ad) Aa Ab) AL AZ) AX AY) AV AW) h9 AU) h1 n2
theorem F112_eq (L : Lo) (lp : LP) (p0 : Value) (df : Bool) (u : Option zL) (h : zD) (n : Nat) (k : KO) : wQ P hint112 L lp 112 [p0] df u h n k = F112 L lp p0 df u h n k := by kernel_rfl
theorem l112 : xB P 112 = true := by kernel_rfl
theorem r112 : wA P 112 = some [.tmp 2] := by kernel_rfl
noncomputable abbrev fr113 (s0 s1 s2 s3 s4 s5 s6 s7 s8 s9 s10 s11 s12 s13 s14 s15 s16 s17 s18 s19 s20 s21 s22 s23 s24 s25 s26 s27 s28 s29 s30 s31 s32 s33 s34 s35 s36 s37 s38 : Value) : Fr := (.node (.node (.node (.node (.node (.node .leaf s31 .leaf) s15 .leaf) s7 (.node .leaf s23 .leaf)) s3 (.node (.node (.node .leaf s35 .leaf) s19 .leaf) s11 (.node .leaf s27 .leaf))) s1 (.node (.node (.node (.node .leaf s33 .leaf) s17 .leaf) s9 (.node .leaf s25 .leaf)) s5 (.node (.node (.node .leaf s37 .leaf) s21 .leaf) s13 (.node .leaf s29 .leaf)))) s0 (.node (.node (.node (.node (.node .leaf s32 .leaf) s16 .leaf) s8 (.node .leaf s24 .leaf)) s4 (.node (.node (.node .leaf s36 .leaf) s20 .leaf) s12 (.node .leaf s28 .leaf))) s2 (.node (.node (.node (.node .leaf s34 .leaf) s18 .leaf) s10 (.node .leaf s26 .leaf)) s6 (.node (.node (.node .leaf s38 .leaf) s22 .leaf) s14 (.node .leaf s30 .leaf)))))
noncomputable abbrev fj113_0 (t : Fr) (s1 s2 : Value) : Fr := fr113 (zA t 0) s1 s2 (zA t 3) (zA t 4) (zA t 5) (zA t 6) (zA t 7) (zA t 8) (zA t 9) (zA t 10) (zA t 11) (zA t 12) (zA t 13) (zA t 14) (zA t 15) (zA t 16) (zA t 17) (zA t 18) (zA t 19) (zA t 20) (zA t 21) (zA t 22) (zA t 23) (zA t 24) (zA t 25) (zA t 26) (zA t 27) (zA t 28) (zA t 29) (zA t 30) (zA t 31) (zA t 32) (zA t 33) (zA t 34) (zA t 35) (zA t 36) (zA t 37) (zA t 38)
noncomputable def hint113 : tJ := fun kind _ i => match kind with
 | 1 => bif Nat.beq i 0 then [.any, .val, .val] else []
 | 2 => bif Nat.beq i 5 then [.any, .val, .val] else bif Nat.beq i 7 then [.any, .val, .val, .any, .any, .any, .any, (.int .i64), .any, .any, .any, .any, .bool] else bif Nat.beq i 8 then [.any, .val, .val] else bif Nat.beq i 10 then [.any, .val, .val, .any, .any, .any, .any, (.int .i64), .any, .any, .any, .any, .any, .any, .any, .any, .any, .bool] else bif Nat.beq i 11 then [.any, .val, .val] else bif Nat.beq i 13 then [.any, .val, .val] else bif Nat.beq i 15 then [.any, .val, .val] else bif Nat.beq i 17 then [.any, .val, .val] else bif Nat.beq i 19 then [.any, .val, .val] else []
 | 4 => bif Nat.beq i 0 then [.any] else []
 | _ => []
noncomputable def F113 (L : Lo) (lp : LP) (p0 : Value) (df : Bool) (u : Option zL) (h : zD) (n : Nat) (k : KO) : Bool :=
 eBox p0 h n fun h1 n2 v3 =>
 tD P 50 h1 n2 fun h4 n5 v6 =>
 opt (zB P 50 0 v3) fun v7 =>
 opt (zF P 3 h4 v7) fun v8 =>
 rtI .i64 v8 fun a9 =>
 opt (zB P 50 0 v3) fun AV =>
 zV P 3 AV (.int .i64 0) h4 n5 fun Aa Ab Ct =>
 blkJ (fun BD =>
 fb (wJ a9 1) fun AJ =>
 brJ AJ (fun BE =>
 opt (zB P 50 1 v3) fun Ap =>
 zV P 3 Ap (.int .i64 0) Aa Ab fun BF BG Cu =>
 opt (zB P 50 4 v3) fun Aq =>
 zV P 3 Aq (.int .i64 0) BF BG fun BH BI Cv =>
 BE (fr113 p0 v3 v6 (vi a9) v7 (vi a9) AV (vi a9) (vb AJ) (vb AJ) Ap Aq ud ud ud ud ud ud ud ud ud ud ud ud ud ud ud ud ud ud ud ud ud ud ud ud ud ud ud) (W.mk [] u BH BI)) (fun BJ =>
 fb (wJ a9 2) fun AW =>
 brJ AW (fun BK =>
 BK (fr113 p0 v3 v6 (vi a9) v7 (vi a9) AV (vi a9) (vb AJ) (vb AJ) ud ud (vb AW) (vb AW) ud ud ud ud ud ud ud ud ud ud ud ud ud ud ud ud ud ud ud ud ud ud ud ud ud) (W.mk [] u Aa Ab)) (fun BL =>
 fb (wJ a9 4) fun Ar =>
 BL (fr113 p0 v3 v6 (vi a9) v7 (vi a9) AV (vi a9) (vb AJ) (vb AJ) ud ud (vb Ar) (vb AW) (vb Ar) ud ud ud ud ud ud ud ud ud ud ud ud ud ud ud ud ud ud ud ud ud ud ud ud) (W.mk [] u Aa Ab)) (fun AB BM =>
 zO (zA AB 1) fun AR =>
 zO (zA AB 2) fun Ac =>
 rtI .i64 (zA AB 7) fun AS =>
 rtB (zA AB 12) fun AX =>
 onW BM fun Ad Ae Af Ag =>
 brJ AX (fun BN =>
 opt (zB P 50 1 AR) fun As =>
 zV P 3 As (.int .i64 0) Af Ag fun BO BP Cw =>
 opt (zB P 50 2 AR) fun At =>
 zV P 3 At (.int .i64 0) BO BP fun BQ BR Cx =>
 BN (fr113 (zA AB 0) AR Ac (zA AB 3) (zA AB 4) (zA AB 5) (zA AB 6) (vi AS) (zA AB 8) (zA AB 9) (zA AB 10) (zA AB 11) (vb AX) (zA AB 13) (zA AB 14) As At (zA AB 17) (zA AB 18) (zA AB 19) (zA AB 20) (zA AB 21) (zA AB 22) (zA AB 23) (zA AB 24) (zA AB 25) (zA AB 26) (zA AB 27) (zA AB 28) (zA AB 29) (zA AB 30) (zA AB 31) (zA AB 32) (zA AB 33) (zA AB 34) (zA AB 35) (zA AB 36) (zA AB 37) (zA AB 38)) (W.mk Ad Ae BQ BR)) (fun BS =>
 fb (wJ AS 3) fun AY =>
 brJ AY (fun BT =>
 BT (fr113 (zA AB 0) AR Ac (zA AB 3) (zA AB 4) (zA AB 5) (zA AB 6) (vi AS) (zA AB 8) (zA AB 9) (zA AB 10) (zA AB 11) (vb AX) (zA AB 13) (zA AB 14) (zA AB 15) (zA AB 16) (vb AY) (vb AY) (zA AB 19) (zA AB 20) (zA AB 21) (zA AB 22) (zA AB 23) (zA AB 24) (zA AB 25) (zA AB 26) (zA AB 27) (zA AB 28) (zA AB 29) (zA AB 30) (zA AB 31) (zA AB 32) (zA AB 33) (zA AB 34) (zA AB 35) (zA AB 36) (zA AB 37) (zA AB 38)) (W.mk Ad Ae Af Ag)) (fun BU =>
 fb (wJ AS 6) fun Au =>
 BU (fr113 (zA AB 0) AR Ac (zA AB 3) (zA AB 4) (zA AB 5) (zA AB 6) (vi AS) (zA AB 8) (zA AB 9) (zA AB 10) (zA AB 11) (vb AX) (zA AB 13) (zA AB 14) (zA AB 15) (zA AB 16) (vb Au) (vb AY) (vb Au) (zA AB 20) (zA AB 21) (zA AB 22) (zA AB 23) (zA AB 24) (zA AB 25) (zA AB 26) (zA AB 27) (zA AB 28) (zA AB 29) (zA AB 30) (zA AB 31) (zA AB 32) (zA AB 33) (zA AB 34) (zA AB 35) (zA AB 36) (zA AB 37) (zA AB 38)) (W.mk Ad Ae Af Ag)) (fun AA BV =>
 zO (zA AA 1) fun AD =>
 zO (zA AA 2) fun AM =>
 rtI .i64 (zA AA 7) fun AG =>
 rtB (zA AA 17) fun AK =>
 onW BV fun AN AO AP AQ =>
 brJ AK (fun BW =>
 opt (zB P 50 1 AD) fun Av =>
 zV P 3 Av (.int .i64 0) AP AQ fun BX BY Cy =>
 opt (zB P 50 5 AD) fun Aw =>
 zV P 9 Aw (.string (ByteArray.mk #[])) BX BY fun BZ Ba Cz =>
 opt (zB P 50 6 AD) fun Ax =>
 zV P 40 Ax (.slice none 0 0) BZ Ba fun Bb Bc C0 =>
 BW (fr113 (zA AA 0) AD AM (zA AA 3) (zA AA 4) (zA AA 5) (zA AA 6) (vi AG) (zA AA 8) (zA AA 9) (zA AA 10) (zA AA 11) (zA AA 12) (zA AA 13) (zA AA 14) (zA AA 15) (zA AA 16) (vb AK) (zA AA 18) (zA AA 19) Av Aw Ax (zA AA 23) (zA AA 24) (zA AA 25) (zA AA 26) (zA AA 27) (zA AA 28) (zA AA 29) (zA AA 30) (zA AA 31) (zA AA 32) (zA AA 33) (zA AA 34) (zA AA 35) (zA AA 36) (zA AA 37) (zA AA 38)) (W.mk AN AO Bb Bc)) (fun Bd =>
 fb (wJ AG 5) fun AF =>
 brJ AF (fun Be =>
 opt (zB P 50 2 AD) fun Ay =>
 zV P 3 Ay (.int .i64 0) AP AQ fun Bf Bg C1 =>
 opt (zB P 50 3 AD) fun Az =>
 zV P 3 Az (.int .i64 0) Bf Bg fun Bh Bi C2 =>
 Be (fr113 (zA AA 0) AD AM (zA AA 3) (zA AA 4) (zA AA 5) (zA AA 6) (vi AG) (zA AA 8) (zA AA 9) (zA AA 10) (zA AA 11) (zA AA 12) (zA AA 13) (zA AA 14) (zA AA 15) (zA AA 16) (vb AK) (zA AA 18) (zA AA 19) (zA AA 20) (zA AA 21) (zA AA 22) (vb AF) (vb AF) Ay Az (zA AA 27) (zA AA 28) (zA AA 29) (zA AA 30) (zA AA 31) (zA AA 32) (zA AA 33) (zA AA 34) (zA AA 35) (zA AA 36) (zA AA 37) (zA AA 38)) (W.mk AN AO Bh Bi)) (fun Bj =>
 fb (wJ AG 7) fun AH =>
 brJ AH (fun Bk =>
 opt (zB P 50 2 AD) fun A0 =>
 zV P 3 A0 (.int .i64 0) AP AQ fun Bl Bm C3 =>
 opt (zB P 50 7 AD) fun A1 =>
 zV P 3 A1 (.int .i64 0) Bl Bm fun Bn Bo C4 =>
 opt (zB P 50 8 AD) fun A2 =>
 zV P 3 A2 (.int .i64 0) Bn Bo fun Bp Bq C5 =>
 Bk (fr113 (zA AA 0) AD AM (zA AA 3) (zA AA 4) (zA AA 5) (zA AA 6) (vi AG) (zA AA 8) (zA AA 9) (zA AA 10) (zA AA 11) (zA AA 12) (zA AA 13) (zA AA 14) (zA AA 15) (zA AA 16) (vb AK) (zA AA 18) (zA AA 19) (zA AA 20) (zA AA 21) (zA AA 22) (vb AF) (vb AF) (zA AA 25) (zA AA 26) (vb AH) (vb AH) A0 A1 A2 (zA AA 32) (zA AA 33) (zA AA 34) (zA AA 35) (zA AA 36) (zA AA 37) (zA AA 38)) (W.mk AN AO Bp Bq)) (fun Br =>
 fb (wJ AG 8) fun AL =>
 brJ AL (fun Bs =>
 opt (zB P 50 7 AD) fun A3 =>
 zV P 3 A3 (.int .i64 0) AP AQ fun Bt Bu C6 =>
 Bs (fr113 (zA AA 0) AD AM (zA AA 3) (zA AA 4) (zA AA 5) (zA AA 6) (vi AG) (zA AA 8) (zA AA 9) (zA AA 10) (zA AA 11) (zA AA 12) (zA AA 13) (zA AA 14) (zA AA 15) (zA AA 16) (vb AK) (zA AA 18) (zA AA 19) (zA AA 20) (zA AA 21) (zA AA 22) (vb AF) (vb AF) (zA AA 25) (zA AA 26) (vb AH) (vb AH) (zA AA 29) (zA AA 30) (zA AA 31) (vb AL) (vb AL) A3 (zA AA 35) (zA AA 36) (zA AA 37) (zA AA 38)) (W.mk AN AO Bt Bu)) (fun Bv =>
 fb (wJ AG 9) fun AT =>
 brJ AT (fun Bw =>
 opt (zB P 50 2 AD) fun A4 =>
 zV P 3 A4 (.int .i64 0) AP AQ fun Bx By C7 =>
 Bw (fr113 (zA AA 0) AD AM (zA AA 3) (zA AA 4) (zA AA 5) (zA AA 6) (vi AG) (zA AA 8) (zA AA 9) (zA AA 10) (zA AA 11) (zA AA 12) (zA AA 13) (zA AA 14) (zA AA 15) (zA AA 16) (vb AK) (zA AA 18) (zA AA 19) (zA AA 20) (zA AA 21) (zA AA 22) (vb AF) (vb AF) (zA AA 25) (zA AA 26) (vb AH) (vb AH) (zA AA 29) (zA AA 30) (zA AA 31) (vb AL) (vb AL) (zA AA 34) (vb AT) (vb AT) A4 (zA AA 38)) (W.mk AN AO Bx By)) (fun Bz =>
 Bz (fr113 (zA AA 0) AD AM (zA AA 3) (zA AA 4) (zA AA 5) (zA AA 6) (vi AG) (zA AA 8) (zA AA 9) (zA AA 10) (zA AA 11) (zA AA 12) (zA AA 13) (zA AA 14) (zA AA 15) (zA AA 16) (vb AK) (zA AA 18) (zA AA 19) (zA AA 20) (zA AA 21) (zA AA 22) (vb AF) (vb AF) (zA AA 25) (zA AA 26) (vb AH) (vb AH) (zA AA 29) (zA AA 30) (zA AA 31) (vb AL) (vb AL) (zA AA 34) (vb AT) (vb AT) (zA AA 37) (zA AA 38)) (W.mk AN AO AP AQ)) (fun Ah B0 =>
 zO (zA Ah 1) fun B1 =>
 zO (zA Ah 2) fun B2 =>
 onW B0 fun B3 B4 B5 B6 =>
 Bv (fj113_0 Ah B1 B2) (W.mk B3 B4 B5 B6))) (fun Ai B7 =>
 zO (zA Ai 1) fun B8 =>
 zO (zA Ai 2) fun B9 =>
 onW B7 fun CA CB CC CD =>
 Br (fj113_0 Ai B8 B9) (W.mk CA CB CC CD))) (fun Aj CE =>
 zO (zA Aj 1) fun CF =>
 zO (zA Aj 2) fun CG =>
 onW CE fun CH CI CJ CK =>
 Bj (fj113_0 Aj CF CG) (W.mk CH CI CJ CK))) (fun Ak CL =>
 zO (zA Ak 1) fun CM =>
 zO (zA Ak 2) fun CN =>
 onW CL fun CO CP CQ CR =>
 Bd (fj113_0 Ak CM CN) (W.mk CO CP CQ CR))) (fun Al CS =>
 zO (zA Al 1) fun CT =>
 zO (zA Al 2) fun CU =>
 onW CS fun CV CW CX CY =>
 BS (fj113_0 Al CT CU) (W.mk CV CW CX CY)))) (fun Am CZ =>
 zO (zA Am 1) fun Ca =>
 zO (zA Am 2) fun Cb =>
 onW CZ fun Cc Cd Ce Cf =>
 BJ (fj113_0 Am Ca Cb) (W.mk Cc Cd Ce Cf)))) (fun An Cg =>
 zO (zA An 1) fun Ch =>
 zO (zA An 2) fun Ci =>
 onW Cg fun Cj Ck Cl Cm =>
 BD (fj113_0 An Ch Ci) (W.mk Cj Ck Cl Cm))) (fun AC Cn =>
 zO (zA AC 1) fun A5 =>
 zO (zA AC 2) fun A6 =>
 onW Cn fun Co Cp A7 Cq =>
 opt (zF P 50 A7 A5) fun A8 =>
 zV P 50 A6 A8 A7 Cq fun Cr Cs C8 =>
 zE P L 113 k .ret (fr113 (zA AC 0) A5 A6 (zA AC 3) (zA AC 4) (zA AC 5) (zA AC 6) (zA AC 7) (zA AC 8) (zA AC 9) (zA AC 10) (zA AC 11) (zA AC 12) (zA AC 13) (zA AC 14) (zA AC 15) (zA AC 16) (zA AC 17) (zA AC 18) (zA AC 19) (zA AC 20) (zA AC 21) (zA AC 22) (zA AC 23) (zA AC 24) (zA AC 25) (zA AC 26) (zA AC 27) (zA AC 28) (zA AC 29) (zA AC 30) (zA AC 31) (zA AC 32) (zA AC 33) (zA AC 34) (zA AC 35) (zA AC 36) (zA AC 37) A8) (W.mk Co Cp Cr Cs))
theorem F113_eq (L : Lo) (lp : LP) (p0 : Value) (df : Bool) (u : Option zL) (h : zD) (n : Nat) (k : KO) : wQ P hint113 L lp 113 [p0] df u h n k = F113 L lp p0 df u h n k := by kernel_rfl
theorem l113 : xB P 113 = true := by kernel_rfl
theorem r113 : wA P 113 = some [.cell 2 50] := by kernel_rfl
noncomputable abbrev fr52 (s0 s1 s2 s3 s4 s5 s6 s7 s8 s9 s10 : Value) : Fr := (.node (.node (.node (.node .leaf s7 .leaf) s3 .leaf) s1 (.node (.node .leaf s9 .leaf) s5 .leaf)) s0 (.node (.node (.node .leaf s8 .leaf) s4 .leaf) s2 (.node (.node .leaf s10 .leaf) s6 .leaf)))
noncomputable abbrev fo52 : Fr := fr52 ud ud ud ud ud ud ud ud ud ud ud
noncomputable def hint52 : tJ := fun kind _ i => match kind with
 | 4 => bif Nat.beq i 0 then [.any, .any] else []
 | _ => []
noncomputable def F52 (L : Lo) (lp : LP) (p0 p1 p2 : Value) (df : Bool) (u : Option zL) (h : zD) (n : Nat) (k : KO) : Bool :=
 yX L 54 [p1, (.string (ByteArray.mk #[32]))] h n (fun c4 h5 n6 =>
 zE P L 52 k (.panic c4) fo52 (W.mk [] u h5 n6)) fun a1 h2 n3 =>
 wD tH P .add 9 false p0 a1 fun v7 =>
 wD tH P .add 9 true v7 (.string (ByteArray.mk #[10])) fun v8 =>
 yX L 53 [p2, v8] h2 n3 (fun AI AJ AK =>
 zE P L 52 k (.panic AI) fo52 (W.mk [] u AJ AK)) fun a9 AL AM =>
 zE P L 52 k .ret fo52 (W.mk [] u AL AM)
theorem F52_eq (L : Lo) (lp : LP) (p0 p1 p2 : Value) (df : Bool) (u : Option zL) (h : zD) (n : Nat) (k : KO) : wQ P hint52 L lp 52 [p0, p1, p2] df u h n k = F52 L lp p0 p1 p2 df u h n k := by kernel_rfl
theorem l52 : xB P 52 = true := by kernel_rfl
theorem r52 : wA P 52 = some [] := by kernel_rfl
noncomputable abbrev fr53 (s0 s1 s2 s3 s4 s5 s6 s7 s8 s9 s10 s11 s12 s13 s14 s15 s16 s17 s18 : Value) : Fr := (.node (.node (.node (.node (.node .leaf s15 .leaf) s7 .leaf) s3 (.node .leaf s11 .leaf)) s1 (.node (.node (.node .leaf s17 .leaf) s9 .leaf) s5 (.node .leaf s13 .leaf))) s0 (.node (.node (.node (.node .leaf s16 .leaf) s8 .leaf) s4 (.node .leaf s12 .leaf)) s2 (.node (.node (.node .leaf s18 .leaf) s10 .leaf) s6 (.node .leaf s14 .leaf))))
noncomputable abbrev fo53 (s4 s5 : Value) : Fr := fr53 ud ud ud ud s4 s5 ud ud ud ud ud ud ud ud ud ud ud ud ud
noncomputable def hint53 : tJ := fun kind _ i => match kind with
 | 4 => bif Nat.beq i 0 then [.any, .any] else []
 | _ => []
noncomputable def F53 (L : Lo) (lp : LP) (p0 p1 : Value) (df : Bool) (u : Option zL) (h : zD) (n : Nat) (k : KO) : Bool :=
 yX L 108 [p0] h n (fun c4 h5 n6 =>
 zE P L 53 k (.panic c4) (fo53 (.int .i64 0) .nilIface) (W.mk [] u h5 n6)) fun a1 h2 n3 =>
 opt (qC p0) fun v7 =>
 opt (zB P 97 1 v7) fun v8 =>
 opt (zF P 95 h2 v8) fun v9 =>
 wE P [95, 9] [v9, p1] h2 n3 fun AJ AK AL =>
 opt (qC p0) fun AM =>
 opt (zB P 97 1 AM) fun AN =>
 zV P 95 AN AL AJ AK fun AB AO AS =>
 opt (yL P .len [9] [p1] AB) fun AP =>
 rtI .i64 AP fun AQ =>
 zE P L 53 k .ret (fo53 (.int .i64 AQ) .nilIface) (W.mk [] u AB AO)
theorem F53_eq (L : Lo) (lp : LP) (p0 p1 : Value) (df : Bool) (u : Option zL) (h : zD) (n : Nat) (k : KO) : wQ P hint53 L lp 53 [p0, p1] df u h n k = F53 L lp p0 p1 df u h n k := by kernel_rfl
theorem l53 : xB P 53 = true := by kernel_rfl
theorem r53 : wA P 53 = some [.tmp 4, .tmp 5] := by kernel_rfl
end Go.Proofs.YtapnnpoljobanaaGreatDoor
