/- What the law leans on: an executor of the model that is sound, deduction over it, and the walks through the code (part 3 of 6). Conditions: those that each theorem states. -/
import Derived.Test.YtapnnpoljobanaaGreatDoorVirLimitsx2
import Derived.Calls
import Derived.Lib.IndexMore
import Derived.Lib.Split
import Derived.Lib.CountLaws
import Derived.Shelf.Strings.Builder1
import Derived.Lib.AtoiAll
import Derived.Lib.AppendIntMem
import Derived.Lib.ItoaLen
import Derived.Lib.Join
import Derived.Shelf.Strings.Builder2
import Derived.Shelf.Strings.OnBuilder
import Derived.Shelf.Small.Wraps
import Derived.Shelf.Utf8.RuneCount
import Derived.Shelf.Strconv.Atoi
import Derived.Shelf.Strconv.Itoa0
import Derived.Shelf.Strconv.Itoa1
import Derived.Shelf.LaysM
import Derived.Shelf.Strconv.Itoa2
import Derived.Shelf.Strconv.Itoa3
import Derived.Shelf.Strconv.AtoiErrFast
import Derived.Shelf.Strconv.ParseIntEmpty
import Derived.Shelf.Strconv.AtoiFail
import Derived.Shelf.Strconv.Clone
import Derived.Shelf.Strconv.SyntaxError
import Derived.Shelf.LaysC
import Derived.Shelf.Strconv.ToError
import Derived.Shelf.Strconv.AtoiErr
import Derived.Shelf.Strconv.ErrVar
import Derived.Shelf.Strconv.Lower
import Derived.Shelf.Strconv.ParseUint10
import Derived.Shelf.Strconv.ParseUint10Empty
import Derived.Shelf.Strconv.ParseUint10Any
import Derived.Shelf.Strconv.ParseInt10
import Derived.Shelf.Strconv.AtoiLong
import Derived.Shelf.Strconv.AtoiInnerAll
import Derived.Shelf.Strconv.RangeError
import Derived.Shelf.Strconv.ToErrorRange
import Derived.Shelf.Strconv.AtoiAll
import Derived.Shelf.Strings.Search1
import Derived.Shelf.Strings.Search2
import Derived.Shelf.Strings.Search3
import Derived.Shelf.Strings.Cut
import Derived.Shelf.Strings.Count
import Derived.Shelf.Strings.Shaped
import Derived.Shelf.Strings.Prefix
import Derived.Shelf.Strings.Split
import Derived.Shelf.Strings.SplitShaped
import Derived.Shelf.Unicode.Decode
import Derived.Shelf.Strings.RuneCount
import Derived.Shelf.Strings.Explode
import Derived.Shelf.Bits.Mul64
import Derived.Shelf.Unicode.DecodeSlow
import Derived.Shelf.Unicode.DecodeAny
import Derived.Test.YtapnnpoljobanaaGreatDoorProg
import Derived.Test.YtapnnpoljobanaaGreatDoorRows
import Derived.KernelRfl
import Derived.Lib.AtoiErrMem
import Derived.WalkSmall

namespace Go.Ex
section
variable {P : Program} {ng : Nat}
theorem RV.back {ρ ρ' : Inj} (ha : ∀ b B, ρ b = some B → ρ' b = ρ b) {v x : Value} (r : RV ρ v x) : ∀ {v'}, RV ρ' v v' → RV ρ v v' := by
 induction r with
 | bool b => intro v' h; cases h; exact .bool b
 | int k n => intro v' h; cases h; exact .int k n
 | float k n => intro v' h; cases h; exact .float k n
 | complex k n m => intro v' h; cases h; exact .complex k n m
 | string s => intro v' h; cases h; exact .string s
 | nilPtr => intro v' h; cases h; exact .nilPtr
 | ptr e => intro v' h; cases h with
  | ptr e' => rw [ha _ _ e] at e'; exact .ptr e'
 | nilSlice l c e => intro v' h; cases h with
  | nilSlice _ _ e' => exact .nilSlice l c e'
 | slice e hc hl ho => intro v' h; cases h with
  | slice e' hc' hl' ho' => rw [ha _ _ e] at e'; exact .slice e' hc' hl' ho'
  | opened e' hl' ho' => exact absurd rfl hc
 | opened e hl ho => intro v' h; cases h with
  | slice e' hc' hl' ho' => exact absurd rfl hc'
  | opened e' hl' ho' => rw [ha _ _ e] at e'; exact .opened e' hl' ho'
 | nilMap => intro v' h; cases h; exact .nilMap
 | map e => intro v' h; cases h with
  | map e' => rw [ha _ _ e] at e'; exact .map e'
 | func hy hf hc f1 c1 f2 c2 => intro v' h; cases h with
  | func hy' hf' hc' f1' c1' =>
   refine .func hy' hf' hc' (fun i w w' a b => ?_) (fun i w w' a b => ?_)
   · obtain ⟨w0, hw0⟩ : ∃ w0, (_ : List Value)[i]? = some w0 := ⟨_, List.getElem?_eq_getElem (hf ▸ (List.getElem?_eq_some_iff.1 a).1)⟩;exact f2 i w w0 a hw0 (f1' i w w' a b)
   · obtain ⟨w0, hw0⟩ : ∃ w0, (_ : List Value)[i]? = some w0 := ⟨_, List.getElem?_eq_getElem (hc ▸ (List.getElem?_eq_some_iff.1 a).1)⟩;exact c2 i w w0 a hw0 (c1' i w w' a b)
  | yield e => exact absurd rfl (hy _)
 | yield e => intro v' h; cases h with
  | func hy' hf' hc' f1' c1' => exact absurd rfl (hy' _)
  | yield e' => rw [ha _ _ e] at e'; exact .yield e'
 | nilFunc => intro v' h; cases h; exact .nilFunc
 | iface r ih => intro v' h; cases h with
  | iface r' => exact .iface (ih r')
 | nilIface => intro v' h; cases h; exact .nilIface
 | agg hc c1 ih => intro v' h; cases h with
  | agg hc' c1' =>
   refine .agg hc' fun i w w' a b => ?_;obtain ⟨w0, hw0⟩ : ∃ w0, (_ : List Value)[i]? = some w0 := ⟨_, List.getElem?_eq_getElem (hc ▸ (List.getElem?_eq_some_iff.1 a).1)⟩;exact ih i w w0 a hw0 (c1' i w w' a b)
 | tuple hc c1 ih => intro v' h; cases h with
  | tuple hc' c1' =>
   refine .tuple hc' fun i w w' a b => ?_;obtain ⟨w0, hw0⟩ : ∃ w0, (_ : List Value)[i]? = some w0 := ⟨_, List.getElem?_eq_getElem (hc ▸ (List.getElem?_eq_some_iff.1 a).1)⟩;exact ih i w w0 a hw0 (c1' i w w' a b)
theorem ObjR.back {ρ ρ' : Inj} (ha : ∀ b B, ρ b = some B → ρ' b = ρ b) {base : Nat} {B : Bl} {o : AObj} {o0 o' : Obj} (r0 : ObjR P ng ρ base B o o0) (r : ObjR P ng ρ' base B o o') : ObjR P ng ρ base B o o' := by
 cases r with
 | cells hn hs hk hz hv hb hf =>
  rename_i c n z kd c' el lo hi
  cases r0 with
  | cells hn0 hs0 hk0 hz0 hv0 hb0 hf0 =>
   rename_i c0 el0 lo0 hi0;refine .cells hn hs hk hz (fun i v' hi2 e => ?_) hb hf;have hlt : i < c0.size := by rw [hs0]; omega
   exact (hv0 i _ hi2 (Array.getElem?_eq_getElem hlt)).back ha (hv i v' hi2 e)
 | map he hb =>
  cases r0 with
  | map he0 hb0 =>
   rename_i es es' clock es0;refine .map ⟨he.1, fun i e e' a b => ?_⟩ hb;obtain ⟨e0, hw0⟩ : ∃ e0, es0[i]? = some e0 := ⟨_, List.getElem?_eq_getElem (he0.1 ▸ (List.getElem?_eq_some_iff.1 a).1)⟩;obtain ⟨k1, k2, k3⟩ := he.2 i e e' a b;obtain ⟨q1, q2, q3⟩ := he0.2 i e e0 a hw0;exact ⟨k1, q2.back ha k2, k3⟩
 | loop h1 h2 h3 h4 h5 h6 h7 h8 h9 h10 h11 h12 hb =>
  cases r0 with
  | loop g1 g2 g3 g4 g5 g6 g7 g8 g9 g10 g11 g12 gb =>
   rename_i l l' t l0;obtain ⟨D, e1, e2⟩ := h7;obtain ⟨D0, e3, e4⟩ := g7;rw [ha _ _ e3] at e1;refine .loop h1 h2 h3 h4 h5 h6 ⟨D, e1, e2⟩ ⟨h8.sz, fun i v e => ?_⟩ h9 h10 h11 h12 hb
   have hlt : i < l0.tmps.size := by
    have := g8.sz;have h8s := h8.sz;have : i < l'.tmps.size := (Array.getElem?_eq_some_iff.1 e).1;omega
   exact (g8.tm i _ (Array.getElem?_eq_getElem hlt)).back ha (h8.tm i v e)
 | ready hb => exact .ready hb
 | taken hb => exact .taken hb
def uN : Value → Bool
 | .int _ _ | .bool _ | .string _ | .nilIface | .nilFunc => true
 | _ => false
theorem RV.scal {ρ ρ' : Inj} {v v' : Value} (hv : uN v = true) (r : RV ρ v v') : RV ρ' v v' := by
 cases r <;> first | (cases hv; done) | skip
 · exact .bool _
 · exact .int _ _
 · exact .string _
 · exact .nilFunc
 · exact .nilIface
theorem RV.scals {ρ ρ' : Inj} {v v' : Value} (hv : uN v = true ∨ ∃ l : List Value, v = .tuple ⟨l⟩ ∧ l.all uN = true) (r : RV ρ v v') : RV ρ' v v' := by
 rcases hv with hv | ⟨l, rfl, hl⟩
 · exact r.scal hv
 · cases r with
   | tuple hc c1 => exact .tuple hc fun i w w' a b => (c1 i w w' a b).scal (List.all_eq_true.1 hl w (List.mem_iff_getElem?.2 ⟨i, a⟩))
def Rets (P : Program) (ng : Nat) (f : FuncId) (args : List Value) (h : zG) (n : Nat) (Q : Value → zG → Nat → Prop) : Prop :=
 ∀ (u : Option zX) (k : KO), (∀ v h' n', Q v h' n' → k (.ret v) u h' n' = true) → (loS P ng).call f args false u h n k = true
abbrev Pure (P : Program) (ng : Nat) (f : FuncId) (args : List Value) (h : zG) (n : Nat) (v : Value) : Prop :=
 Rets P ng f args h n fun v' h' n' => v' = v ∧ h' = h ∧ n' = n
theorem Rets.mono {f : FuncId} {args : List Value} {h : zG} {n : Nat} {Q Q' : Value → zG → Nat → Prop} (r : Rets P ng f args h n Q) (hq : ∀ v h' n', Q v h' n' → Q' v h' n') : Rets P ng f args h n Q' :=
 fun u k hk => r u k fun v h' n' q => hk v h' n' (hq v h' n' q)
theorem yQ (hP : xJ ng P = true) (hmix : P.follows .mixedOrders = true) {hint : pD} {f : FuncId} (hl : xD P f = true) {args : List Value} {h : zG} {n : Nat} {Q : Value → zG → Nat → Prop}
 (hF : ∀ u k, (∀ v h' n', Q v h' n' → k (.ret v) u h' n' = true) → yCall P hint (loS P ng) (lpS P ng) f args false u h n k = true) : Rets P ng f args h n Q :=
 fun u k hk => loS_call.2 (yCall_ok hP hmix qR lpOK_lpS hint (loops_of hl) (hF u k hk))
theorem Rets.does {f : FuncId} {args : List Value} {h : zG} {n : Nat} {Q : Value → zG → Nat → Prop} (r : Rets P ng f args h n Q) (u : Option zX) : ∃ v h' n', Q v h' n' ∧ CallTo P ng f args false u h n (.ret v) u h' n' := by
 have := r u (fun o u' h' n' => isSo (∃ v, o = .ret v ∧ u' = u ∧ Q v h' n')) (fun v h' n' q => isSo_iff.2 ⟨v, rfl, rfl, q⟩);obtain ⟨o, u', h', n', hk, hc⟩ := loS_call.1 this;obtain ⟨v, rfl, rfl, q⟩ := isSo_iff.1 hk;exact ⟨v, h', n', q, hc⟩
theorem uJ {g : FuncId} {args : List Value} {h : zG} {n : Nat} {Q : Value → zG → Nat → Prop} {Kp : KC} {K : Value → zG → Nat → Bool} (r : Rets P ng g args h n Q) (hK : ∀ v h' n', Q v h' n' → K v h' n' = true) :
 yY (loS P ng) g args h n Kp K = true := r none _ hK
theorem callI_ok {kd : IntKind} {g : FuncId} {args : List Value} {h : zG} {n : Nat} {Q : Value → zG → Nat → Prop} {Kp : KC} {K : Int → zG → Nat → Bool} (r : Rets P ng g args h n Q) (hK : ∀ v h' n', Q v h' n' → rtI kd v (fun a => K a h' n') = true) :
 qS (loS P ng) kd g args h n Kp K = true := r none _ hK
theorem callB_ok {g : FuncId} {args : List Value} {h : zG} {n : Nat} {Q : Value → zG → Nat → Prop} {Kp : KC} {K : Bool → zG → Nat → Bool} (r : Rets P ng g args h n Q) (hK : ∀ v h' n', Q v h' n' → rtB v (fun a => K a h' n') = true) :
 sO (loS P ng) g args h n Kp K = true := r none _ hK
theorem uO {g : FuncId} {args : List Value} {h : zG} {n : Nat} {v : Value} {Kp : KC} {K : Value → zG → Nat → Bool} (r : Pure P ng g args h n v) (hK : K v h n = true) :
 yY (loS P ng) g args h n Kp K = true := uJ r fun v' h' n' ⟨e1, e2, e3⟩ => by rw [e1, e2, e3]; exact hK
theorem tZ {kd : IntKind} {g : FuncId} {args : List Value} {h : zG} {n : Nat} {a : Int} {Kp : KC} {K : Int → zG → Nat → Bool} (r : Pure P ng g args h n (.int kd a)) (hK : K a h n = true) :
 qS (loS P ng) kd g args h n Kp K = true := callI_ok r fun v' h' n' ⟨e1, e2, e3⟩ => by
  rw [e1, e2, e3]; cases kd <;> exact hK
theorem yK {g : FuncId} {args : List Value} {h : zG} {n : Nat} {b : Bool} {Kp : KC} {K : Bool → zG → Nat → Bool} (r : Pure P ng g args h n (.bool b)) (hK : K b h n = true) :
 sO (loS P ng) g args h n Kp K = true := callB_ok r fun v' h' n' ⟨e1, e2, e3⟩ => by rw [e1, e2, e3]; exact hK
theorem findC_mem {i : Nat} {l : List Code} {b : Code} (h : findC i l = .loop b) : Code.loop b ∈ l := by
 induction l with
 | nil => cases h
 | cons c r ih =>
  have h' : (Bool.rec (findC i r) c (Nat.beq (pI c) i) : Code) = .loop b := h
  cases e : Nat.beq (pI c) i with
  | true => rw [e] at h'; exact List.mem_cons.2 (.inl h'.symm)
  | false => rw [e] at h'; exact List.mem_cons_of_mem _ (ih h')
theorem unL_of {c : Code} (h : uM c = true) : c = .loop (unL c) := by
 cases c <;> first | (cases h; done) | rfl
theorem yO (hP : xJ ng P = true) (hmix : P.follows .mixedOrders = true) {hint : pD} {f : FuncId} (hl : xD P f = true) {i : Nat} (hi : uM (xC P f i) = true) {rd : Option Nat} {df : Bool} {t : Fr} {w : W} {ka : KX}
 (hx : yLoop P hint (loS P ng) (lpS P ng) (unL (xC P f i)) ⟨f, rd, df⟩ t w ka = true) : lpS P ng i ⟨f, rd, df⟩ t w ka = true := by
 refine lpS_iff.2 ?_;have hb := unL_of hi
 cases hf : rO P f with
 | none =>
  unfold xC at hi;rw [hf] at hi;cases hi
 | some fb =>
  have hm : Code.loop (unL (xC P f i)) ∈ vB fb.2 := by
   unfold xC at hb;rw [hf] at hb;have := findC_mem hb;unfold xC;rw [hf];exact this
  rw [hb];refine yLoop_ok hP hmix qR lpOK_lpS hint (b := unL (xC P f i)) ?_ hx;have h9 := loops_of hl fb hf;intro l hl2;refine h9 l ?_;rcases List.mem_cons.1 hl2 with rfl | h3
  · exact hm
  · exact loopsOf_sub hm l h3
noncomputable def wF (P : Program) (f : FuncId) : Option (List ResultVar) := (rO P f).map fun fb => fb.1.results.toList
theorem leave_res {L : Lo} {f : FuncId} {rs : List ResultVar} (hr : wF P f = some rs) {k : KO} {t : Fr} {u : Option zX} {h : zG} {n : Nat} {l : List Value} (hl : wA P t h rs = some l) :
 zO P L f k .ret t ⟨[], u, h, n⟩ = k (.ret (tupled l)) u h n := by
 unfold wF at hr
 cases hb : rO P f with
 | none => rw [hb] at hr; cases hr
 | some fb =>
  rw [hb] at hr;injection hr with hr
  unfold zO;rw [hb];show tK P L fb.1 none t ⟨[], u, h, n⟩ k = _;unfold tK;dsimp only at hr ⊢;rw [hr, hl];dsimp only;rw [wZ]
theorem yP {L : Lo} {f : FuncId} {i : Nat} (hr : wF P f = some [.tmp i]) {k : KO} {t : Fr} {u : Option zX} {h : zG} {n : Nat} {v : Value} (hv : zA t i = v) (hk : k (.ret v) u h n = true) :
 zO P L f k .ret t ⟨[], u, h, n⟩ = true := by
 subst hv;rw [leave_res hr (l := [zA t i]) rfl];exact hk
theorem leave2 {L : Lo} {f : FuncId} {i j : Nat} (hr : wF P f = some [.tmp i, .tmp j]) {k : KO} {t : Fr} {u : Option zX} {h : zG} {n : Nat} {v w : Value} (hv : zA t i = v) (hw : zA t j = w) (hk : k (.ret (.tuple ⟨[v, w]⟩)) u h n = true) :
 zO P L f k .ret t ⟨[], u, h, n⟩ = true := by
 subst hv hw;rw [leave_res hr (l := [zA t i, zA t j]) rfl];exact hk
theorem qT {L : Lo} {f : FuncId} (hr : wF P f = some []) {k : KO} {t : Fr} {u : Option zX} {h : zG} {n : Nat} (hk : k (.ret (.tuple ⟨[]⟩)) u h n = true) :
 zO P L f k .ret t ⟨[], u, h, n⟩ = true := by
 rw [leave_res hr (l := []) rfl];exact hk
end
theorem zC {R : Type} (v : Value) (K : Value → R) : zL v K = K v := wZ v K
theorem fi_ap (x : Int) (K : Int → Bool) : fi x K = K x := fi_eq x K
theorem zY (x : Bool) (K : Bool → Bool) : fb x K = K x := fb_eq x K
theorem xG (v : Value) (K : Value → Bool) : letV v K = K v := rfl
theorem zD {α : Type} (x : α) (K : α → Bool) : opt (some x) K = K x := rfl
theorem zE (k : IntKind) (a : Int) (K : Int → Bool) : rtI k (.int k a) K = K a := by cases k <;> rfl
theorem zJ (b : Bool) (K : Bool → Bool) : rtB (.bool b) K = K b := rfl
theorem zI {R : Type} (b : Bool) (f : Bool → R) (d : R) : xL (.bool b) f d = f b := rfl
theorem xB (d : List Deferred) (u : Option zX) (h : zG) (n : Nat) (f : List Deferred → Option zX → zG → Nat → Bool) : onW ⟨d, u, h, n⟩ f = f d u h n := rfl
theorem yZ (d : KH → Bool) (kv : KH) (h : zG) (n : Nat) : grd true d kv h n = d kv := rfl
theorem xW (d : KH → Bool) (kv : KH) (h : zG) (n : Nat) : grd false d kv h n = kv h n undef := rfl
theorem uK (a b : Bool) : br true a b = a := rfl
theorem uS (a b : Bool) : br false a b = b := rfl
theorem tJ (x : Bool) : gt true x = x := rfl
theorem pJ : nt true = false := rfl
theorem qU : nt false = true := rfl
theorem xF (x y : Value) : sel true x y = x := rfl
theorem xP (x y : Value) : sel false x y = y := rfl
theorem xR (hs : List W) : lks hs [] = true := rfl
theorem xX (b : Bool) : aUn .not (.bool b) = some (.bool (!b)) := rfl
theorem pK (a b : Int) : ineB a b = !decide (a = b) := by unfold ineB; rw [wS]; cases decide (a = b) <;> rfl
theorem igtB_ap (a b : Int) : igtB a b = decide (b < a) := zV b a
theorem cmpI (f : Int → Int → Bool) (P : Program) (op : BinOp) (ty : TypeId) (q : Bool) (k : IntKind) (a b : Int) (K : Bool → Bool) : yD f P op ty q (.int k a) (.int k b) K = K (f a b) := by
 show (Bool.rec false (fb (f a b) fun c => K c) (uA k k) : Bool) = _;have : uA k k = true := by cases k <;> rfl
 rw [this, fb_eq]
theorem cmpS_eq (f : Int → Int → Bool) (P : Program) (ty : TypeId) (q : Bool) (a b : ByteArray) (K : Bool → Bool) : yD f P .eql ty q (.string a) (.string b) K = K (a.data.toList == b.data.toList) := by
 show rtB (.bool (bytesEq a.data.toList b.data.toList)) (fun c => K c) = _;rw [rG]; rfl
theorem cmpS_ne (f : Int → Int → Bool) (P : Program) (ty : TypeId) (q : Bool) (a b : ByteArray) (K : Bool → Bool) : yD f P .neq ty q (.string a) (.string b) K = K (!(a.data.toList == b.data.toList)) := by
 show rtB (.bool (!bytesEq a.data.toList b.data.toList)) (fun c => K c) = _;rw [rG]; rfl
theorem len_str {P : Program} {ty : TypeId} (hu : und P ty = some .string) (s : ByteArray) (r : List Value) (h : zG) : yG P .len [ty] (.string s :: r) h = some (.int .i64 (.ofNat s.data.toList.length)) := by
 show aLen P h ty (.string s) = _;unfold aLen; rw [hu]
theorem len_sl {P : Program} {ty e : TypeId} (hu : und P ty = some (.slice e)) (p : Option Addr) (n c : Nat) (r : List Value) (h : zG) : yG P .len [ty] (.slice p n c :: r) h = some (.int .i64 (.ofNat n)) := by
 show aLen P h ty (.slice p n c) = _;unfold aLen; rw [hu]
theorem index_str {P : Program} {ty : TypeId} (hu : und P ty = some .string) (s : ByteArray) (k : IntKind) (i : Nat) (b : UInt8) (hb : s.data.toList[i]? = some b) : pM P ty (.string s) (.int k (.ofNat i)) = some (.int .u8 (.ofNat b.toNat)) := by
 unfold pM; dsimp only; rw [hu]; dsimp only; rw [hb]
theorem addI (a b : Int) (K : Int → Bool) (h : -9223372036854775808 ≤ a + b ∧ a + b < 9223372036854775808) : fi (wW .i64 (pC a b)) K = K (a + b) := by
 rw [fi_eq, iadd_eq, tP]
 have : IntKind.i64.wrap (a + b) = a + b := by
  unfold IntKind.wrap;simp [IntKind.bits, IntKind.signed];omega
 rw [this]
theorem fb_split {x : Bool} {K : Bool → Bool} (ht : x = true → K true = true) (hf : x = false → K false = true) : fb x K = true := by
 rw [fb_eq]; cases x with
 | true => exact ht rfl
 | false => exact hf rfl
theorem le_t {a b : Int} (h : rU a b = true) : a ≤ b := by rw [vF] at h; exact of_decide_eq_true h
theorem le_f {a b : Int} (h : rU a b = false) : b < a := by rw [vF] at h; have := of_decide_eq_false h; omega
theorem lt_t {a b : Int} (h : wO a b = true) : a < b := by rw [zV] at h; exact of_decide_eq_true h
theorem lt_f {a b : Int} (h : wO a b = false) : b ≤ a := by rw [zV] at h; have := of_decide_eq_false h; omega
theorem eq_t {a b : Int} (h : xZ a b = true) : a = b := by rw [wS] at h; exact of_decide_eq_true h
theorem eq_f {a b : Int} (h : xZ a b = false) : a ≠ b := by rw [wS] at h; exact of_decide_eq_false h
theorem ne_t {a b : Int} (h : ineB a b = true) : a ≠ b := by rw [pK] at h; simpa using h
theorem ne_f {a b : Int} (h : ineB a b = false) : a = b := by rw [pK] at h; simpa using h
theorem vS {P : Program} {op : BinOp} {ty : TypeId} {q : Bool} {k : IntKind} {a b : Int} {K : Bool → Bool} (ht : a ≤ b → K true = true) (hf : b < a → K false = true) : yD rU P op ty q (.int k a) (.int k b) K = true := by
 rw [cmpI]; cases e : rU a b with
 | true => exact ht (le_t e)
 | false => exact hf (le_f e)
theorem vT {P : Program} {op : BinOp} {ty : TypeId} {q : Bool} {k : IntKind} {a b : Int} {K : Bool → Bool} (ht : a < b → K true = true) (hf : b ≤ a → K false = true) : yD wO P op ty q (.int k a) (.int k b) K = true := by
 rw [cmpI]; cases e : wO a b with
 | true => exact ht (lt_t e)
 | false => exact hf (lt_f e)
theorem vU {P : Program} {op : BinOp} {ty : TypeId} {q : Bool} {k : IntKind} {a b : Int} {K : Bool → Bool} (ht : b < a → K true = true) (hf : a ≤ b → K false = true) : yD igtB P op ty q (.int k a) (.int k b) K = true := by
 rw [cmpI]; cases e : igtB a b with
 | true => exact ht (lt_t e)
 | false => exact hf (lt_f e)
theorem vV {P : Program} {op : BinOp} {ty : TypeId} {q : Bool} {k : IntKind} {a b : Int} {K : Bool → Bool} (ht : b ≤ a → K true = true) (hf : a < b → K false = true) : yD igeB P op ty q (.int k a) (.int k b) K = true := by
 rw [cmpI]; cases e : igeB a b with
 | true => exact ht (le_t e)
 | false => exact hf (le_f e)
theorem vW {P : Program} {op : BinOp} {ty : TypeId} {q : Bool} {k : IntKind} {a b : Int} {K : Bool → Bool} (ht : a = b → K true = true) (hf : a ≠ b → K false = true) : yD xZ P op ty q (.int k a) (.int k b) K = true := by
 rw [cmpI]; cases e : xZ a b with
 | true => exact ht (eq_t e)
 | false => exact hf (eq_f e)
theorem vX {P : Program} {op : BinOp} {ty : TypeId} {q : Bool} {k : IntKind} {a b : Int} {K : Bool → Bool} (ht : a ≠ b → K true = true) (hf : a = b → K false = true) : yD ineB P op ty q (.int k a) (.int k b) K = true := by
 rw [cmpI]; cases e : ineB a b with
 | true => exact ht (ne_t e)
 | false => exact hf (ne_f e)
theorem sD {a b : Int} {K : Bool → Bool} (ht : a ≤ b → K true = true) (hf : b < a → K false = true) : fb (rU a b) K = true := fb_split (fun h => ht (le_t h)) (fun h => hf (le_f h))
theorem sE {a b : Int} {K : Bool → Bool} (ht : a < b → K true = true) (hf : b ≤ a → K false = true) : fb (wO a b) K = true := fb_split (fun h => ht (lt_t h)) (fun h => hf (lt_f h))
theorem vY {a b : Int} {K : Bool → Bool} (ht : a = b → K true = true) (hf : a ≠ b → K false = true) : fb (xZ a b) K = true := fb_split (fun h => ht (eq_t h)) (fun h => hf (eq_f h))
theorem vZ {a b : Int} {K : Bool → Bool} (ht : a ≠ b → K true = true) (hf : a = b → K false = true) : fb (ineB a b) K = true := fb_split (fun h => ht (ne_t h)) (fun h => hf (ne_f h))
theorem wH (b : Bool) : gv (.bool b) = b := rfl
theorem xM (b : Bool) : gnv (.bool b) = nt b := rfl
theorem xN : gv undef = false := rfl
theorem yU : gnv undef = false := rfl
theorem yB (n : Nat) : Int.ofNat n = (n : Int) := rfl
theorem xS (A : KN → Bool) (kn : KN) : blkJ A kn = A kn := rfl
theorem zP (kn : KN) (ka : KX) (i : Nat) (t : Fr) (w : W) : endA kn ka (.exit i) t w = ka (.exit i) t w := rfl
theorem yH (kn : KN) (ka : KX) (t : Fr) (w : W) : endA kn ka .ret t w = ka .ret t w := rfl
theorem zQ (id : Nat) (kn : KN) (ka : KX) (t : Fr) (w : W) : blkA id kn ka (.exit id) t w = kn t w := by
 show (Bool.rec (ka (.exit id) t w) (kn t w) (Nat.beq id id) : Bool) = _;rw [Nat.beq_refl]
theorem yI (id : Nat) (kn : KN) (ka : KX) (t : Fr) (w : W) : blkA id kn ka .ret t w = ka .ret t w := rfl
theorem uH {a b : Int} {K : Int → Bool} (h : -9223372036854775808 ≤ a + b ∧ a + b < 9223372036854775808) (hK : K (a + b) = true) : fi (wW .i64 (pC a b)) K = true := by rw [addI a b K h]; exact hK
theorem fi_sub {a b : Int} {K : Int → Bool} (h : -9223372036854775808 ≤ a - b ∧ a - b < 9223372036854775808) (hK : K (a - b) = true) : fi (wW .i64 (isub a b)) K = true := by
 rw [fi_eq, isub_eq, tP]
 have : IntKind.i64.wrap (a - b) = a - b := by
  unfold IntKind.wrap;simp [IntKind.bits, IntKind.signed];omega
 rw [this]; exact hK
theorem yV (n : Nat) : Int.ofNat (no_index (OfNat.ofNat n)) = (OfNat.ofNat n : Int) := rfl
section
variable {v : Value}
theorem fg0 {a0 b0 : Fr} : zA (.nD a0 v b0) 0 = v := rfl
theorem fg1 {a1 b1 b0 : Fr} {w0 : Value} : zA (.nD (.nD a1 v b1) w0 b0) 1 = v := rfl
theorem fg3 {a2 b2 b1 b0 : Fr} {w1 w0 : Value} : zA (.nD (.nD (.nD a2 v b2) w1 b1) w0 b0) 3 = v := rfl
theorem fg5 {a2 b2 a1 b0 : Fr} {w1 w0 : Value} : zA (.nD (.nD a1 w1 (.nD a2 v b2)) w0 b0) 5 = v := rfl
theorem fg6 {a2 b2 a1 a0 : Fr} {w1 w0 : Value} : zA (.nD a0 w0 (.nD a1 w1 (.nD a2 v b2))) 6 = v := rfl
theorem fg7 {a3 b3 b2 b1 b0 : Fr} {w2 w1 w0 : Value} : zA (.nD (.nD (.nD (.nD a3 v b3) w2 b2) w1 b1) w0 b0) 7 = v := rfl
theorem fg8 {a3 b3 b2 b1 a0 : Fr} {w2 w1 w0 : Value} : zA (.nD a0 w0 (.nD (.nD (.nD a3 v b3) w2 b2) w1 b1)) 8 = v := rfl
theorem fg18 {a4 b4 b3 b2 a1 a0 : Fr} {w3 w2 w1 w0 : Value} : zA (.nD a0 w0 (.nD a1 w1 (.nD (.nD (.nD a4 v b4) w3 b3) w2 b2))) 18 = v := rfl
theorem fg19 {a4 b4 b3 a2 b1 b0 : Fr} {w3 w2 w1 w0 : Value} : zA (.nD (.nD (.nD a2 w2 (.nD (.nD a4 v b4) w3 b3)) w1 b1) w0 b0) 19 = v := rfl
theorem fg29 {a4 b4 a3 a2 a1 b0 : Fr} {w3 w2 w1 w0 : Value} : zA (.nD (.nD a1 w1 (.nD a2 w2 (.nD a3 w3 (.nD a4 v b4)))) w0 b0) 29 = v := rfl
theorem fg30 {a4 b4 a3 a2 a1 a0 : Fr} {w3 w2 w1 w0 : Value} : zA (.nD a0 w0 (.nD a1 w1 (.nD a2 w2 (.nD a3 w3 (.nD a4 v b4))))) 30 = v := rfl
theorem fg31 {a5 b5 b4 b3 b2 b1 b0 : Fr} {w4 w3 w2 w1 w0 : Value} : zA (.nD (.nD (.nD (.nD (.nD (.nD a5 v b5) w4 b4) w3 b3) w2 b2) w1 b1) w0 b0) 31 = v := rfl
end
noncomputable def rX (o : AObj) (i : Nat) : Option Value := match o with
 | .cells c n _ _ => if i < n then some (Tr.get undef c i) else none
 | _ => none
def tM (o : AObj) : Option (Nat × Nat × Nat) := match o with
 | .cells _ n z kd => some (n, z, kd)
 | _ => none
noncomputable def mkC (l : List Value) (z kd : Nat) : AObj := .cells (Tr.ofListFrom undef .lF 0 l) l.length z kd
noncomputable def stC (o : AObj) (off : Nat) (vs : List Value) : AObj := match o with
 | .cells c n z kd => .cells (Tr.ofListFrom undef c off vs) n z kd
 | o => o
theorem uV (l : List Value) (z kd i : Nat) : rX (mkC l z kd) i = l[i]? := by
 unfold rX mkC;dsimp only;by_cases h : i < l.length
 · rw [if_pos h, Tr.get_ofListFrom, if_pos (by omega)];simp [List.getElem?_eq_getElem h, List.getD_eq_getElem?_getD]
 · rw [if_neg h, List.getElem?_eq_none (by omega)]
theorem infoOf_mkC (l : List Value) (z kd : Nat) : tM (mkC l z kd) = some (l.length, z, kd) := rfl
theorem pS (o : AObj) (off : Nat) (vs : List Value) {n z kd : Nat} (hi : tM o = some (n, z, kd)) (hl : off + vs.length ≤ n) (i : Nat) :
 rX (stC o off vs) i = if off ≤ i ∧ i < off + vs.length then vs[i - off]? else rX o i := by
 cases o <;> first | (cases hi; done) | skip
 rename_i c n' z' kd';injection hi with hi
 injection hi with h1 h2
 subst h1;unfold rX stC;dsimp only;by_cases h : off ≤ i ∧ i < off + vs.length
 · rw [if_pos h, if_pos (by omega), Tr.get_ofListFrom, if_pos h];simp [List.getElem?_eq_getElem (show i - off < vs.length by omega), List.getD_eq_getElem?_getD]
 · rw [if_neg h];by_cases h2 : i < n'
   · rw [if_pos h2, if_pos h2, Tr.get_ofListFrom, if_neg h]
   · rw [if_neg h2, if_neg h2]
theorem pT (o : AObj) (off : Nat) (vs : List Value) : tM (stC o off vs) = tM o := by cases o <;> rfl
noncomputable def xO (h : zG) (b i : Nat) : Option Value := rX (zT h b) i
def rowAt (h : zG) (b off : Nat) (vs : List Value) : Prop := ∀ j v, vs[j]? = some v → xO h b (off + j) = some v
def Ext (h : zG) (n : Nat) (h' : zG) (n' : Nat) : Prop := n ≤ n' ∧ ∀ b, b < n → zT h' b = zT h b
theorem Ext.refl (h : zG) (n : Nat) : Ext h n h n := ⟨Nat.le_refl _, fun _ _ => rfl⟩
theorem Ext.trans {h h1 h2 : zG} {n n1 n2 : Nat} (a : Ext h n h1 n1) (b : Ext h1 n1 h2 n2) : Ext h n h2 n2 :=
 ⟨Nat.le_trans a.1 b.1, fun x hx => (b.2 x (Nat.lt_of_lt_of_le hx a.1)).trans (a.2 x hx)⟩
theorem Ext.set {h h1 : zG} {n n1 m b : Nat} {o : AObj} (a : Ext h n h1 n1) (hb : n ≤ b) (hm : n1 ≤ m) : Ext h n (h1.set .dead o b) m :=
 ⟨Nat.le_trans a.1 hm, fun x hx => by rw [zK, if_neg (by omega)]; exact a.2 x hx⟩
theorem Ext.cell {h h' : zG} {n n' : Nat} (a : Ext h n h' n') {b i : Nat} (hb : b < n) : xO h' b i = xO h b i := by
 unfold xO; rw [a.2 b hb]
theorem Ext.row {h h' : zG} {n n' : Nat} (a : Ext h n h' n') {b off : Nat} {vs : List Value} (hb : b < n) (r : rowAt h b off vs) : rowAt h' b off vs :=
 fun j v e => by rw [a.cell hb]; exact r j v e
section
variable {P : Program} {ng : Nat}
theorem CallTo.pureE {f : FuncId} {args : List Value} {u' : Option zX} {h h' : zG} {n n' : Nat} {v : Value} (c : CallTo P ng f args false none h n (.ret v) u' h' n') (hs : Ext h n h' n')
 (hv : uN v = true ∨ ∃ l : List Value, v = .tuple ⟨l⟩ ∧ l.all uN = true) (u : Option zX) : CallTo P ng f args false u h n (.ret v) u h n := by
 refine ⟨c.1, fun ρ base w0 wd args' cs hH ha hu => ?_⟩;obtain ⟨ρ', wd', fr, cs', s1, s2, s3, s4, s5, s6, s7⟩ := c.2 ρ base w0 wd args' cs hH ha (fun e => by cases e)
 have hcs : cs' = cs := by
  rcases s4 with e | ⟨e, _⟩
  · exact e
  · cases e
 subst hcs
 have hlt : ∀ {b B}, ρ b = some B → b < n := fun {b B} e => by
  rcases Nat.lt_or_ge b n with h1 | h1
  · exact h1
  · rw [hH.dom b h1] at e; cases e
 have hag : ∀ b B, ρ b = some B → ρ' b = ρ b := fun b B e => s3.old b (hlt e);refine ⟨ρ, wd', fr, cs', s1, ⟨hH.dom, fun b B e hl => ?_, hH.inj, s2.below, s2.size, hH.glob, hH.ngn⟩, ⟨Nat.le_refl _, fun _ _ => rfl, fun b B h1 e => (by rw [hH.dom b h1] at e; cases e), s3.keep, s3.size, fun _ _ e => e, s3.tape⟩, CsTo.refl _ _, (fun e => Bool.noConfusion e), s6, ?_⟩
 · obtain ⟨o0, q1, q2⟩ := hH.obj b B e hl;have live := hs.2 b (hlt e);obtain ⟨o, p1, p2⟩ := s2.obj b B (by rw [hag b B e]; exact e) (by rw [live]; exact hl);rw [live] at p2;exact ⟨o, p1, q2.back hag p2⟩
 · obtain ⟨v', y1, y2, y3, y4, y5⟩ := s7;exact ⟨v', y1, y2, y3, y4, y5.scals hv⟩
theorem Rets.pureE {f : FuncId} {args : List Value} {h : zG} {n : Nat} {v : Value} (r : Rets P ng f args h n fun v' h' n' => v' = v ∧ Ext h n h' n')
 (hv : uN v = true ∨ ∃ l : List Value, v = .tuple ⟨l⟩ ∧ l.all uN = true) : Pure P ng f args h n v := by
 obtain ⟨v', h', n', ⟨rfl, hs⟩, hc⟩ := r.does none;exact fun u k hk => loS_call.2 ⟨_, u, h, n, hk _ _ _ ⟨rfl, rfl, rfl⟩, hc.pureE hs hv u⟩
theorem cellOf_some {o : AObj} {i : Nat} {v : Value} (h : rX o i = some v) : ∃ c n z kd, o = .cells c n z kd ∧ i < n ∧ Tr.get undef c i = v := by
 cases o <;> first | (cases h; done) | skip
 rename_i c n z kd;unfold rX at h;dsimp only at h;by_cases hi : i < n
 · rw [if_pos hi] at h; injection h with h; exact ⟨c, n, z, kd, rfl, hi, h⟩
 · rw [if_neg hi] at h; cases h
theorem rY {a b : Nat} (h : a < b) : Nat.blt a b = true := by rw [Nat.blt_eq]; exact h
theorem vJ {a b : Nat} (h : a ≤ b) : Nat.ble a b = true := Nat.ble_eq_true_of_le h
theorem load_scal {ty : TypeId} {h : zG} {b off : Nat} {v : Value} (hs : yF P ty = .scal) (hc : xO h b off = some v) : zF P ty h (.pointer (some ⟨b, off, none⟩)) = some v := by
 obtain ⟨c, n, z, kd, e1, e2, e3⟩ := cellOf_some hc
 show pH (zT h b) (fun c kn _ _ =>
  Sh.rec none (Bool.rec none (zL (Tr.get undef c off) some) (Nat.blt off kn))
   (fun sz => Bool.rec none (some (.agg ⟨c.toListFrom undef off sz⟩)) (Nat.ble (Nat.add off sz) kn)) (yF P ty)) none = _
 rw [e1, hs];show (Bool.rec none (zL (Tr.get undef c off) some) (Nat.blt off n) : Option Value) = _;rw [rY e2];show zL (Tr.get undef c off) some = _;rw [wZ, e3]
theorem load_agg {ty : TypeId} {h : zG} {b off sz : Nat} {vs : List Value} (hs : yF P ty = .agg sz) (hl : vs.length = sz) (h0 : 0 < sz) (hr : rowAt h b off vs) : zF P ty h (.pointer (some ⟨b, off, none⟩)) = some (.agg ⟨vs⟩) := by
 have hlast := hr (sz - 1) (vs[sz - 1]'(by omega)) (List.getElem?_eq_getElem _);obtain ⟨c, n, z, kd, e1, e2, e3⟩ := cellOf_some hlast
 show pH (zT h b) (fun c kn _ _ =>
  Sh.rec none (Bool.rec none (zL (Tr.get undef c off) some) (Nat.blt off kn))
   (fun sz => Bool.rec none (some (.agg ⟨c.toListFrom undef off sz⟩)) (Nat.ble (Nat.add off sz) kn)) (yF P ty)) none = _
 rw [e1, hs];show (Bool.rec none (some (.agg ⟨c.toListFrom undef off sz⟩)) (Nat.ble (Nat.add off sz) n) : Option Value) = _;rw [vJ (show Nat.add off sz ≤ n by show off + sz ≤ n; omega)];show some (Value.agg ⟨c.toListFrom undef off sz⟩) = _;congr 3
 apply List.ext_getElem?;intro j;rw [Tr.getElem?_toListFrom];by_cases hj : j < sz
 · rw [if_pos hj, List.getElem?_eq_getElem (by omega)];have := hr j (vs[j]'(by omega)) (List.getElem?_eq_getElem _);obtain ⟨c', n', z', kd', e1', e2', e3'⟩ := cellOf_some this;rw [e1] at e1';injection e1' with e1' _ _ _
   subst e1';rw [e3']
 · rw [if_neg hj, List.getElem?_eq_none (by omega)]
theorem index_sl {ty : TypeId} {sz b off len cap i : Nat} {k : IntKind} (hx : ixOf P ty = .slice sz) (hi : i < len) : zU P ty (.slice (some ⟨b, off, none⟩) len cap) (.int k (i : Nat)) = some (.pointer (some ⟨b, off + i * sz, none⟩)) := by
 show (Ix.rec none
  (fun sz => onSlice (.slice (some ⟨b, off, none⟩) len cap) (fun b off len _ => Bool.rec none (some (.pointer (some ⟨b, Nat.add off (Nat.mul i sz), none⟩))) (Nat.blt i len)) none)
  (fun len' sz => onPtr (.slice (some ⟨b, off, none⟩) len cap) (fun b off => Bool.rec none (some (.pointer (some ⟨b, Nat.add off (Nat.mul i sz), none⟩))) (Nat.blt i len')) none) (ixOf P ty) : Option Value) = _
 rw [hx];show (Bool.rec none (some (.pointer (some ⟨b, Nat.add off (Nat.mul i sz), none⟩))) (Nat.blt i len) : Option Value) = _;rw [rY hi];rfl
theorem yE {ty : TypeId} {f o b off : Nat} (ho : offOf P ty f = some o) : zB P ty f (.pointer (some ⟨b, off, none⟩)) = some (.pointer (some ⟨b, off + o, none⟩)) := by
 show (Option.rec none (fun o => some (.pointer (some ⟨b, Nat.add off o, none⟩))) (offOf P ty f) : Option Value) = _;rw [ho]; rfl
theorem sA {c : Tr Value} {i : Nat} {l : List Value} {k : Tr Value → Bool} (h1 : ∀ v ∈ l, v.oneCell' = true) (hk : k (Tr.ofListFrom undef c i l) = true) : uF c i l k = true := by
 induction l generalizing c i with
 | nil => exact hk
 | cons v r ih =>
  show (forceOne v fun v => c.setK undef v i fun c' => uF c' (Nat.succ i) r k) = true
  have e : ∀ K : Value → Bool, forceOne v K = K v := fun K => by
   have := h1 v (List.mem_cons_self ..);cases v <;> first | rfl | cases this
  rw [e, Tr.setK_eq];exact ih (fun x hx => h1 x (List.mem_cons_of_mem _ hx)) hk
theorem eAlloc_ok {el : TypeId} {h : zG} {n : Nat} {K : KH} {z : Value} (hz : wK P el = some z) (hK : K (h.set .dead (mkC (cellsOf z) (el + 1) 0) n) (n + 1) (.pointer (some ⟨n, 0, none⟩)) = true) : tH P el h n K = true := by
 unfold tH;rw [hz];show yL h n (vP (cellsOf z) el) (fun h' n' => K h' n' (.pointer (some ⟨n, 0, none⟩))) = true;rw [yM];exact hK
theorem eBox_ok {v : Value} {h : zG} {n : Nat} {K : KH} (h1 : ∀ x ∈ cellsOf v, x.oneCell' = true) (hK : K (h.set .dead (mkC (cellsOf v) 0 0) n) (n + 1) (.pointer (some ⟨n, 0, none⟩)) = true) : eBox v h n K = true := by
 unfold eBox;refine sA h1 ?_;rw [yM];exact hK
theorem eStore_ok {ty : TypeId} {b off sz m z kd : Nat} {v : Value} {h : zG} {n : Nat} {K : KH} (hs : yF P ty = .scal ∧ sz = 1 ∨ yF P ty = .agg sz) (hl : (cellsOf v).length = sz) (h1 : ∀ x ∈ cellsOf v, x.oneCell' = true)
 (hi : tM (zT h b) = some (m, z, kd)) (hk : kd ≠ 2) (hle : off + sz ≤ m) (hK : K (h.set .dead (stC (zT h b) off (cellsOf v)) b) n undef = true) : zW P ty (.pointer (some ⟨b, off, none⟩)) v h n K = true := by
 have main : storeAt h b off (cellsOf v) (fun h' => K h' n undef) = true := by
  cases ho : zT h b <;> rw [ho] at hi <;> first | (cases hi; done) | skip
  rename_i c n' z' kd';injection hi with hi
  injection hi with e1 hi
  injection hi with e2 e3
  subst e1 e2 e3;unfold storeAt;rw [ho];show (Bool.rec (Bool.rec false (uF c off (cellsOf v) fun c' => h.setK .dead (.cells c' n' z' kd') b fun h' => K h' n undef) (Nat.ble (Nat.add off (cellsOf v).length) n')) false (Nat.beq kd' 2) : Bool) = true
  have e4 : Nat.beq kd' 2 = false := by
   cases e : Nat.beq kd' 2 with
   | false => rfl
   | true => exact absurd (zZ e) hk
  rw [e4];show (Bool.rec false (uF c off (cellsOf v) fun c' => h.setK .dead (.cells c' n' z' kd') b fun h' => K h' n undef) (Nat.ble (Nat.add off (cellsOf v).length) n') : Bool) = true;rw [vJ (show Nat.add off (cellsOf v).length ≤ n' by show off + _ ≤ _; omega)];refine sA h1 ?_;rw [Tr.setK_eq];rw [ho] at hK;exact hK
 unfold zW
 show (Sh.rec false
  (Bool.rec false (storeAt h b off (cellsOf v) fun h' => K h' n undef) (Nat.beq (cellsOf v).length 1))
  (fun sz => Bool.rec false (storeAt h b off (cellsOf v) fun h' => K h' n undef) (Nat.beq (cellsOf v).length sz)) (yF P ty) : Bool) = true
 rcases hs with ⟨hs, rfl⟩ | hs
 · rw [hs, hl]; exact main
 · rw [hs, hl];show (Bool.rec false (storeAt h b off (cellsOf v) fun h' => K h' n undef) (Nat.beq sz sz) : Bool) = true;rw [Nat.beq_refl]; exact main
end
noncomputable def apTB (P : Program) (sT xT el sz : Nat) : Bool :=
 match und P sT, und P xT with
 | some (.slice e), some xd => match xd with
  | .int _ => false
  | _ => match inf? P e, wK P e with
   | some ei, some z => Nat.beq e el && (Nat.beq ei.size sz && (Nat.beq (cellsOf z).length sz && (Nat.blt 0 sz && Nat.blt ei.bytes 100000)))
   | _, _ => false
 | _, _ => false
theorem apTB_of {P : Program} {sT xT e sz : Nat} (h : apTB P sT xT e sz = true) : ∃ xd ei z, und P sT = some (.slice e) ∧ und P xT = some xd ∧ (∀ k, xd ≠ .int k) ∧ inf? P e = some ei ∧ wK P e = some z ∧ ei.size = sz ∧ (cellsOf z).length = sz ∧ 0 < sz ∧ ei.bytes < 100000 := by
 unfold apTB at h;split at h
 · rename_i e' xd h1 h2;split at h
   · cases h
   · rename_i hne;split at h
     · rename_i ei z h3 h4;obtain ⟨a0, hrest⟩ := Bool.and_eq_true_iff.1 h;obtain rfl := zZ a0;obtain ⟨a1, a2⟩ := Bool.and_eq_true_iff.1 hrest;obtain ⟨a2, a3⟩ := Bool.and_eq_true_iff.1 a2;obtain ⟨a3, a4⟩ := Bool.and_eq_true_iff.1 a3;exact ⟨xd, ei, z, h1, h2, fun k hk => hne k hk, h3, h4, zZ a1, zZ a2, wQ a3, wQ a4⟩
     · cases h
 · cases h
def Own (lo n : Nat) (h : zG) (v : Value) (e sz : Nat) (len : Nat) (vs : List Value) : Prop :=
 (v = .slice none 0 0 ∧ len = 0 ∧ vs = []) ∨ ∃ b, lo ≤ b ∧ b < n ∧ v = .slice (some ⟨b, 0, none⟩) len inf ∧ tM (zT h b) = some (vs.length, zc e sz, 1) ∧ vs.length = len * sz ∧ 0 < len ∧ ∀ i, xO h b i = vs[i]?
def Row (n : Nat) (h : zG) (v : Value) (e sz len : Nat) (vs : List Value) : Prop :=
 (v = .slice none 0 0 ∧ len = 0 ∧ vs = []) ∨ ∃ b off cap m z kd, b < n ∧ v = .slice (some ⟨b, off, none⟩) len cap ∧ vs.length = len * sz ∧ tM (zT h b) = some (m, z, kd) ∧ off + vs.length ≤ m ∧ rowAt h b off vs ∧ ((cap < inf ∧ len ≤ cap) ∨ (cap = inf ∧ kd = 1 ∧ z = zc e sz ∧ 1 ≤ sz))
def xK : Value → Option Nat
 | .slice (some a) _ _ => some a.block
 | _ => none
theorem toList_row {c : Tr Value} {n off : Nat} {vs : List Value} (h : ∀ j v, vs[j]? = some v → (if off + j < n then some (Tr.get undef c (off + j)) else none) = some v) : c.toListFrom undef off vs.length = vs := by
 apply List.ext_getElem?;intro j;rw [Tr.getElem?_toListFrom];by_cases hj : j < vs.length
 · rw [if_pos hj, List.getElem?_eq_getElem hj];have := h j _ (List.getElem?_eq_getElem hj);split at this
   · exact this
   · cases this
 · rw [if_neg hj, List.getElem?_eq_none (by omega)]
theorem row_of {n : Nat} {h : zG} {v : Value} {e sz len : Nat} {vs : List Value} (r : Row n h v e sz len vs) : rowOf h sz len v = some vs ∧ lenV v = some len ∧ strFits sz v = true := by
 rcases r with ⟨rfl, rfl, rfl⟩ | ⟨b, off, cap, m, z, kd, hb, rfl, hl, hi, hm, hr⟩
 · exact ⟨rfl, rfl, rfl⟩
 · refine ⟨?_, rfl, rfl⟩;obtain ⟨hr, hcap⟩ := hr;unfold rowAt xO at hr;unfold rowOf;dsimp only;cases hg : zT h b <;> rw [hg] at hi <;> first | (cases hi; done) | skip
   rename_i c kn z' kd';injection hi with hi
   injection hi with h1 h2
   subst h1;rw [hg] at hr;dsimp only;have e1 : Nat.mul len sz = vs.length := hl.symm
   have e : (Nat.ble len len && Nat.ble (Nat.add off (Nat.mul len sz)) kn) = true := by
    rw [e1, vJ (Nat.le_refl _), vJ (show Nat.add off vs.length ≤ kn from hm)]; rfl
   rw [e, e1];show some (c.toListFrom undef off vs.length) = some vs;rw [toList_row (n := kn) hr]
section
variable {P : Program}
theorem appended_of {sz n : Nat} {h : zG} {e : TypeId} {xd : TypeDesc} (hne : ∀ k, xd ≠ .int k) {x : Value} {m : Nat} {new : List Value} (r : Row n h x e sz m new) : uQ P h e sz xd x = some (m, new) := by
 obtain ⟨r1, r2, r3⟩ := row_of r;unfold uQ;split
 · rename_i k; exact absurd rfl (hne k)
 · rw [r2]; dsimp only; rw [r3, r1]; rfl
theorem append_own0 {sT xT e sz lo n len m : Nat} {h : zG} {v x : Value} {vs new : List Value} {K : KH} (hT : apTB P sT xT e sz = true) (ho : Own lo n h v e sz len vs) (hlo : lo ≤ n) (hap0 : ∀ xd, (∀ k, xd ≠ .int k) → uQ P h e sz xd x = some (m, new)) (hnew : new.length = m * sz) (h1 : ∀ y ∈ new, y.oneCell' = true)
 (hlim : len + m < 1000000) (hK : ∀ v' h' n', Own lo n' h' v' e sz (len + m) (vs ++ new) → n ≤ n' → (∀ b, b < n → xK v ≠ some b → zT h' b = zT h b) → K h' n' v' = true) : xV P [sT, xT] [v, x] h n K = true := by
 obtain ⟨xd, ei, z, t1, t2, t3, t4, t5, t6, t7, t8, t9⟩ := apTB_of hT;have hap : uQ P h e ei.size xd x = some (m, new) := by rw [t6]; exact hap0 _ t3
 unfold xV xappend
 obtain ⟨base, cap, hv⟩ : ∃ base cap, v = .slice base len cap := by
  rcases ho with ⟨rfl, rfl, rfl⟩ | ⟨b, _, _, rfl, _⟩
  · exact ⟨_, _, rfl⟩
  · exact ⟨_, _, rfl⟩
 subst hv;dsimp only;rw [t1, t2];dsimp only;rw [t4, t5];dsimp only;rw [hap];dsimp only
 have c1 : (Nat.beq ei.size 0 || !Nat.beq (cellsOf z).length ei.size || !Nat.blt (Nat.add len m) 1000000 || !Nat.blt ei.bytes 100000) = false := by
  have a1 : Nat.beq ei.size 0 = false := by
   cases e9 : Nat.beq ei.size 0 with
   | false => rfl
   | true => have := zZ e9; omega
  have a2 : Nat.beq (cellsOf z).length ei.size = true := by rw [t7, t6]; exact Nat.beq_refl _
  rw [a1, a2, rY (show Nat.add len m < 1000000 from hlim), rY t9]; rfl
 rw [c1];show cond (Nat.beq m 0 && !Nat.beq cap 0 && (Nat.beq cap inf || Nat.ble len cap)) _ _ = true;by_cases hm : m = 0
 · subst hm;have hn0 : new = [] := List.length_eq_zero_iff.1 (by simpa using hnew);subst hn0;rcases ho with ⟨hv, rfl, rfl⟩ | ⟨b, q1, q2, hv, q3, q4, q5, q6⟩
   · injection hv with hv1 _ hv2
     subst hv1 hv2;show K h n (.slice none 0 0) = true;exact hK _ _ _ (.inl ⟨rfl, rfl, rfl⟩) (Nat.le_refl _) fun _ _ _ => rfl
   · injection hv with hv1 _ hv2
     subst hv1 hv2;show K h n (.slice (some ⟨b, 0, none⟩) len inf) = true;refine hK _ _ _ (.inr ⟨b, q1, q2, rfl, ?_⟩) (Nat.le_refl _) fun _ _ _ => rfl;rw [List.append_nil]; exact ⟨q3, q4, q5, q6⟩
 · have hm0 : Nat.beq m 0 = false := by
    cases e9 : Nat.beq m 0 with
    | false => rfl
    | true => exact absurd (zZ e9) hm
   rw [hm0];show cond (Nat.beq cap inf) _ _ = true;rcases ho with ⟨hv, rfl, rfl⟩ | ⟨b, q1, q2, hv, q3, q4, q5, q6⟩
   · injection hv with hv1 _ hv2
     subst hv1 hv2;have hb0 : Nat.beq 0 inf = false := by decide
     rw [hb0];dsimp only [cond_false];unfold growEx
     have b1 : Nat.ble (Nat.add 0 m) 0 = false := by
      cases e9 : Nat.ble (Nat.add 0 m) 0 with
      | false => rfl
      | true =>
       have h9 : Nat.add 0 m ≤ 0 := uW e9;have h10 : 0 + m ≤ 0 := h9;omega
     rw [b1];show uF .lF 0 ([] ++ new) _ = true;refine sA h1 ?_;rw [yM]
     have hne : Nat.mul (Nat.add 0 m) ei.size = new.length := by
      have : Nat.add 0 m = m := Nat.zero_add m;rw [this, t6]; exact hnew.symm
     rw [hne, t6];have hz : Nat.add 0 m = m := Nat.zero_add m;rw [hz];have hpos : 0 < m := by omega
     refine hK _ _ _ (.inr ⟨n, hlo, Nat.lt_succ_self n, by rw [Nat.zero_add], ?_, ?_, by omega, fun i => ?_⟩) (Nat.le_succ n) fun b hb _ => ?_
     · rw [zK, if_pos rfl]; rfl
     · simpa using hnew
     · unfold xO;rw [zK, if_pos rfl];exact uV new (zc e sz) 1 i
     · rw [zK, if_neg (by omega)]
   · injection hv with hv1 _ hv2
     subst hv1 hv2;have hb1 : Nat.beq inf inf = true := Nat.beq_refl inf;rw [hb1];show growOpen h n b len m ei.size (zc e ei.size) new (fun v h n => K h n v) = true;unfold growOpen;cases hg : zT h b <;> rw [hg] at q3 <;> first | (cases q3; done) | skip
     rename_i c kn z' kd';have q3' : some (kn, z', kd') = some (vs.length, zc e sz, 1) := q3;simp only [Option.some.injEq, Prod.mk.injEq] at q3';obtain ⟨rfl, rfl, rfl⟩ := q3';show cond (Nat.beq (zc e sz) (zc e ei.size)) _ _ = true;have e5 : Nat.beq (zc e sz) (zc e ei.size) = true := by rw [t6]; exact Nat.beq_refl _
     rw [e5];have hml : Nat.mul len ei.size = vs.length := by rw [t6]; exact q4.symm
     have e6 : Nat.ble (Nat.mul (Nat.add len m) ei.size) vs.length = false := by
      cases e9 : Nat.ble (Nat.mul (Nat.add len m) ei.size) vs.length with
      | false => rfl
      | true =>
       have h9 : (len + m) * ei.size ≤ vs.length := uW e9;rw [t6, q4, Nat.add_mul] at h9;have : 0 < m * sz := Nat.mul_pos (by omega) t8;omega
     rw [e6, hml, vJ (Nat.le_refl _)];show uF c vs.length new _ = true;refine sA h1 ?_;rw [Tr.setK_eq, yM]
     have hmm : Nat.mul (Nat.add len m) ei.size = (vs ++ new).length := by
      rw [t6, List.length_append, q4, hnew]; exact Nat.add_mul len m sz
     rw [hmm];refine hK _ _ _ (.inr ⟨n, hlo, Nat.lt_succ_self n, rfl, ?_, ?_, by omega, fun i => ?_⟩) (Nat.le_succ n) fun b' hb hne => ?_
     · rw [zK, if_pos rfl]; rfl
     · rw [List.length_append, q4, hnew, Nat.add_mul]
     · unfold xO;rw [zK, if_pos rfl];unfold rX;dsimp only;have q6' := q6 i;unfold xO at q6';rw [hg] at q6';unfold rX at q6';dsimp only at q6';by_cases hi : i < vs.length
       · rw [if_pos hi] at q6';rw [if_pos (by rw [List.length_append]; omega), Tr.get_ofListFrom, if_neg (by omega), q6', List.getElem?_append_left hi]
       · rw [List.getElem?_append_right (by omega)];by_cases hi2 : i < (vs ++ new).length
         · rw [List.length_append] at hi2;rw [if_pos (by rw [List.length_append]; omega), Tr.get_ofListFrom, if_pos (by omega)];simp [List.getElem?_eq_getElem (show i - vs.length < new.length by omega), List.getD_eq_getElem?_getD]
         · rw [List.length_append] at hi2;rw [if_neg (by rw [List.length_append]; omega), List.getElem?_eq_none (by omega)]
     · have hbb : b ≠ b' := fun e => hne (by rw [e]; rfl);rw [zK, if_neg (by omega), zK, if_neg hbb]
theorem pU {sT xT e sz lo n len m : Nat} {h : zG} {v x : Value} {vs new : List Value} {K : KH} (hT : apTB P sT xT e sz = true) (ho : Own lo n h v e sz len vs) (hlo : lo ≤ n) (hr : Row n h x e sz m new) (hnew : new.length = m * sz) (h1 : ∀ y ∈ new, y.oneCell' = true)
 (hlim : len + m < 1000000) (hK : ∀ v' h' n', Own lo n' h' v' e sz (len + m) (vs ++ new) → n ≤ n' → (∀ b, b < n → xK v ≠ some b → zT h' b = zT h b) → K h' n' v' = true) : xV P [sT, xT] [v, x] h n K = true :=
 append_own0 hT ho hlo (fun _ hne => appended_of hne hr) hnew h1 hlim hK
theorem append_text {sT xT e lo n len : Nat} {h : zG} {v : Value} {vs : List Value} {l : List UInt8} {K : KH} (hT : apTB P sT xT e 1 = true) (ho : Own lo n h v e 1 len vs) (hlo : lo ≤ n)
 (hlim : len + l.length < 1000000) (hK : ∀ v' h' n', Own lo n' h' v' e 1 (len + l.length) (vs ++ l.map fun b => Value.int .u8 (b.toNat : Nat)) → n ≤ n' → (∀ b, b < n → xK v ≠ some b → zT h' b = zT h b) → K h' n' v' = true) : xV P [sT, xT] [v, .string ⟨⟨l⟩⟩] h n K = true := by
 refine append_own0 hT ho hlo (fun xd hne => ?_) (by simp) (fun y hy => ?_) hlim hK
 · unfold uQ;split
   · rename_i k; exact absurd rfl (hne k)
   · have e1 : lenV (.string ⟨⟨l⟩⟩) = some l.length := rfl
     have e2 : rowOf h 1 l.length (.string ⟨⟨l⟩⟩) = some (l.map fun b => Value.int .u8 (b.toNat : Nat)) := by
      show some ((l.take l.length).map fun b => Value.int .u8 (.ofNat b.toNat)) = _;rw [List.take_length]; rfl
     have e3 : strFits 1 (.string ⟨⟨l⟩⟩) = true := rfl;rw [e1]; dsimp only; rw [e3, e2]; rfl
 · obtain ⟨b, _, rfl⟩ := List.mem_map.1 hy;rfl
theorem Own.row {lo n : Nat} {h : zG} {v : Value} {e sz len : Nat} {vs : List Value} (o : Own lo n h v e sz len vs) (hsz : 1 ≤ sz) : Row n h v e sz len vs := by
 rcases o with ⟨rfl, rfl, rfl⟩ | ⟨b, q1, q2, rfl, q3, q4, q5, q6⟩
 · exact .inl ⟨rfl, rfl, rfl⟩
 · exact .inr ⟨b, 0, inf, vs.length, zc e sz, 1, q2, rfl, q4, q3, by omega, fun j v e => by rw [q6, Nat.zero_add]; exact e, .inr ⟨rfl, rfl, rfl, hsz⟩⟩
theorem Row.ext {n : Nat} {h : zG} {v : Value} {e sz len : Nat} {vs : List Value} (r : Row n h v e sz len vs) {h' : zG} {n' : Nat} (ex : Ext h n h' n') : Row n' h' v e sz len vs := by
 rcases r with ⟨rfl, rfl, rfl⟩ | ⟨b, off, cap, m, z, kd, hb, rfl, hl, hi, hm, hr, hc⟩
 · exact .inl ⟨rfl, rfl, rfl⟩
 · exact .inr ⟨b, off, cap, m, z, kd, Nat.lt_of_lt_of_le hb ex.1, rfl, hl, by rw [ex.2 b hb]; exact hi, hm, ex.row hb hr, hc⟩
theorem Row.elem {n : Nat} {h : zG} {v : Value} {e sz len : Nat} {vs : List Value} (r : Row n h v e sz len vs) {i : Nat} (hi : i < len) : ∃ b off cap, v = .slice (some ⟨b, off, none⟩) len cap ∧ b < n ∧ rowAt h b (off + i * sz) ((vs.drop (i * sz)).take sz) ∧ ((vs.drop (i * sz)).take sz).length = sz := by
 rcases r with ⟨rfl, rfl, rfl⟩ | ⟨b, off, cap, m, z, kd, hb, rfl, hl, hi2, hm, hr, hc⟩
 · omega
 · refine ⟨b, off, cap, rfl, hb, fun j v e => ?_, ?_⟩
   · rw [List.getElem?_take] at e;split at e
     · rw [List.getElem?_drop] at e;have := hr _ v e;rw [← this]; congr 1; omega
     · cases e
   · rw [List.length_take, List.length_drop, hl];have : i * sz + sz ≤ len * sz := by rw [← Nat.succ_mul]; exact Nat.mul_le_mul_right _ hi
     omega
theorem slice_from {n : Nat} {h : zG} {v : Value} {e sz len : Nat} {vs : List Value} {ty : TypeId} {ei : TypeInfo} (hu : und P ty = some (.slice e)) (hi : inf? P e = some ei) (hs : ei.size = sz) (r : Row n h v e sz len vs) {k : IntKind} {i : Nat} (hle : i ≤ len) :
 ∃ v', rD P h ty v (some (.int k (i : Nat))) none none = some v' ∧ Row n h v' e sz (len - i) (vs.drop (i * sz)) ∧ (xK v' = xK v) := by
 rcases r with ⟨rfl, rfl, rfl⟩ | ⟨b, off, cap, m, z, kd, hb, rfl, hl, hi2, hm, hr, hc⟩
 · obtain rfl : i = 0 := by omega
   refine ⟨.slice none 0 0, ?_, .inl ⟨rfl, rfl, by simp⟩, rfl⟩;unfold rD;rw [hu];dsimp only;rw [hi];rfl
 · have hdl : (vs.drop (i * sz)).length = (len - i) * sz := by rw [List.length_drop, hl, Nat.sub_mul]
   have hrd : ∀ off', off' = off + i * sz → rowAt h b off' (vs.drop (i * sz)) := fun off' e j v hj => by
    subst e;rw [List.getElem?_drop] at hj;have := hr _ v hj;rw [← this]; congr 1; omega
   have hle2 : i * sz ≤ len * sz := Nat.mul_le_mul_right _ hle;rcases hc with ⟨hc1, hc2⟩ | ⟨rfl, rfl, rfl, hsz⟩
   · have hci : Nat.beq cap inf = false := by
      cases e9 : Nat.beq cap inf with
      | false => rfl
      | true => have := zZ e9; omega
     have b1 : wP 0 len (some (.int k (i : Nat))) = some i := by
      show (cond (Nat.ble i len) (some i) none : Option Nat) = some i;rw [vJ hle]; rfl
     have main : rD P h ty (.slice (some ⟨b, off, none⟩) len cap) (some (.int k (i : Nat))) none none = some (Value.slice (some (cond (Nat.beq cap i) ⟨b, off, none⟩ (far ⟨b, off, none⟩ (Nat.mul i sz)))) (Nat.sub len i) (Nat.sub cap i)) := by
      unfold rD;rw [hu];dsimp only;rw [hi];dsimp only;rw [hci];show aSliceEx ⟨b, off, none⟩ len cap ei.size (some (.int k (i : Nat))) none none = _;unfold aSliceEx
      show ((match wP len cap none with
       | none => none
       | some h => match wP 0 h (some (.int k (i : Nat))) with
        | none => none
        | some l => cond (Nat.blt cap inf && Nat.ble h cap) (some (Value.slice (some (cond (Nat.beq cap l) ⟨b, off, none⟩ (far ⟨b, off, none⟩ (Nat.mul l ei.size)))) (Nat.sub h l) (Nat.sub cap l))) none) : Option Value) = _
      show ((match wP 0 len (some (.int k (i : Nat))) with
       | none => none
       | some l => cond (Nat.blt cap inf && Nat.ble len cap) (some (Value.slice (some (cond (Nat.beq cap l) ⟨b, off, none⟩ (far ⟨b, off, none⟩ (Nat.mul l ei.size)))) (Nat.sub len l) (Nat.sub cap l))) none) : Option Value) = _
      rw [b1];dsimp only;rw [rY hc1, vJ hc2, hs];rfl
     refine ⟨_, main, ?_, ?_⟩
     · cases e9 : Nat.beq cap i with
       | true =>
        have := zZ e9;obtain rfl : i = len := by omega
        refine .inr ⟨b, off, Nat.sub cap i, m, z, kd, hb, rfl, hdl, hi2, ?_, fun j v hj => ?_, .inl ⟨?_, ?_⟩⟩
        · rw [hdl]; have : i - i = 0 := Nat.sub_self i; rw [this]; omega
        · have : (vs.drop (i * sz)).length = 0 := by rw [hdl, Nat.sub_self, Nat.zero_mul]
          rw [List.length_eq_zero_iff.1 this] at hj; simp at hj
        · show cap - i < inf; omega
        · show i - i ≤ cap - i; omega
       | false =>
        refine .inr ⟨b, off + i * sz, Nat.sub cap i, m, z, kd, hb, rfl, hdl, hi2, ?_, hrd _ rfl, .inl ⟨?_, ?_⟩⟩
        · rw [hdl, Nat.sub_mul]; omega
        · show cap - i < inf; omega
        · show len - i ≤ cap - i; omega
     · cases Nat.beq cap i <;> rfl
   · have b1 : wP 0 len (some (.int k (i : Nat))) = some i := by
      show (cond (Nat.ble i len) (some i) none : Option Nat) = some i;rw [vJ hle]; rfl
     have hci : Nat.beq inf inf = true := Nat.beq_refl _
     have main : rD P h ty (.slice (some ⟨b, off, none⟩) len inf) (some (.int k (i : Nat))) none none = some (Value.slice (some (far ⟨b, off, none⟩ (Nat.mul i sz))) (Nat.sub len i) inf) := by
      unfold rD;rw [hu];dsimp only;rw [hi];dsimp only;rw [hci];cases hg : zT h b <;> rw [hg] at hi2 <;> first | (cases hi2; done) | skip
      rename_i c kn z' kd';have q3' : some (kn, z', kd') = some (m, zc e sz, 1) := hi2;simp only [Option.some.injEq, Prod.mk.injEq] at q3';obtain ⟨rfl, rfl, rfl⟩ := q3';show cond (Nat.beq (zc e sz) (zc e ei.size) && Nat.ble 1 ei.size) (aSliceOp ⟨b, off, none⟩ len ei.size (some (.int k (i : Nat))) none none) none = _;rw [hs, Nat.beq_refl, vJ hsz]
      show ((match wP 0 len (some (.int k (i : Nat))) with
       | none => none
       | some l => some (Value.slice (some (far ⟨b, off, none⟩ (Nat.mul l sz))) (Nat.sub len l) inf)) : Option Value) = _
      rw [b1]
     refine ⟨_, main, .inr ⟨b, off + i * sz, inf, m, zc e sz, 1, hb, rfl, hdl, hi2, ?_, hrd _ rfl, .inr ⟨rfl, rfl, rfl, hsz⟩⟩, rfl⟩;rw [hdl, Nat.sub_mul]; omega
end
def TabsH (tabs : List (Nat × List Value)) (h : zG) : Prop := ∀ p ∈ tabs, (∃ z, tM (zT h p.1) = some (p.2.length, z, 2)) ∧ ∀ i, xO h p.1 i = p.2[i]?
noncomputable def hasB (P : Program) (f : FuncId) : Bool := match P.funcs[f]? with
 | some fn => match fn.body with
  | some _ => !(fn.name == "runtime.NumGoroutine")
  | none => false
 | none => false
section
variable {P : Program} {ng : Nat}
theorem hasB_of {f : FuncId} (h : hasB P f = true) : ∃ fn body, P.funcs[f]? = some fn ∧ fn.body = some body ∧ (fn.name == "runtime.NumGoroutine") = false := by
 unfold hasB at h;split at h
 · rename_i fn e;split at h
   · rename_i body e2;exact ⟨fn, body, e, e2, by simpa using h⟩
   · cases h
 · cases h
theorem scal_one {ρ : Inj} {v v' : Value} (hv : uN v = true) (r : RV ρ v v') : v' = v := by
 cases r <;> first | (cases hv; done) | rfl
theorem TabsH.world {tabs : List (Nat × List Value)} {h : zG} {n : Nat} {ρ : Inj} {base : Nat} {w0 wd : World} (t : TabsH tabs h) (hg : ∀ p ∈ tabs, p.1 < ng ∧ p.2.all uN = true) (r : HeapR P ng ρ base w0 h n wd) : TabsIn wd tabs := by
 intro p hp;obtain ⟨⟨z, h1⟩, h2⟩ := t p hp;obtain ⟨g1, g2⟩ := hg p hp;obtain ⟨B, e1, e2⟩ := r.glob p.1 g1;have hl : zT h p.1 ≠ .dead := fun e => by rw [e] at h1; cases h1
 obtain ⟨o, q1, q2⟩ := r.obj p.1 B e1 hl;unfold xO at h2;cases ho : zT h p.1 <;> rw [ho] at h1 <;> first | (cases h1; done) | skip
 rename_i c k z' kd;have h1' : some (k, z', kd) = some (p.2.length, z, 2) := h1;simp only [Option.some.injEq, Prod.mk.injEq] at h1';obtain ⟨rfl, rfl, rfl⟩ := h1';rw [ho] at q2 h2
 cases q2 with
 | cells hn hs hk hz hv hb hf =>
  rename_i c' el lo hi;rw [e2] at q1;have hsz : c'.size = p.2.length := by rw [hs]; exact (hk (by omega)).symm
  have : c' = ⟨p.2⟩ := by
   apply Array.ext
   · simpa using hsz
   · intro i i1 i2;have i3 : i < p.2.length := by omega
     have r1 := hv i c'[i] i3 (Array.getElem?_eq_getElem i1);have r2 := h2 i;unfold rX at r2;dsimp only at r2;rw [if_pos i3, List.getElem?_eq_getElem i3] at r2;injection r2 with r2
     rw [r2] at r1;have := scal_one (List.all_eq_true.1 g2 _ (List.getElem_mem i3)) r1;rw [this]; rfl
  rw [this] at q1;exact ⟨el, (lo, hi), q1⟩
theorem scals_same {ρ : Inj} {args args' : List Value} (ha : args.all uN = true) (r : RVs ρ args args') : args' = args := by
 apply List.ext_getElem?;intro i
 cases e : args[i]? with
 | none => exact List.getElem?_eq_none (by rw [← r.1]; exact List.getElem?_eq_none_iff.1 e)
 | some x =>
  obtain ⟨x', e1, e2⟩ := r.at e;rw [e1, scal_one (List.all_eq_true.1 ha x (List.mem_iff_getElem?.2 ⟨i, e⟩)) e2]
theorem RV.scal_refl {ρ : Inj} {v : Value} (hv : uN v = true) : RV ρ v v := by
 cases v <;> first | (cases hv; done) | skip
 · exact .bool _
 · exact .int _ _
 · exact .string _
 · exact .nilFunc
 · exact .nilIface
def isRes (v : Value) : Bool := match v with
 | .tuple l => l.toList.all uN
 | v => uN v
theorem RV.res_refl {ρ : Inj} {v : Value} (hv : isRes v = true) : RV ρ v v := by
 cases v <;> first | (cases hv; done) | skip
 · exact .bool _
 · exact .int _ _
 · exact .string _
 · exact .nilFunc
 · exact .nilIface
 · rename_i l;refine .tuple rfl fun i w w' a b => ?_;rw [a] at b; injection b with b; subst b
   exact RV.scal_refl (List.all_eq_true.1 hv w (List.mem_iff_getElem?.2 ⟨i, a⟩))
theorem qA {f : FuncId} {args : List Value} {h : zG} {n : Nat} {v : Value} {tabs : List (Nat × List Value)} (hf : hasB P f = true) (ha : args.all uN = true) (hv : isRes v = true) (ht : TabsH tabs h) (hg : ∀ p ∈ tabs, p.1 < ng ∧ p.2.all uN = true)
 (H : ∀ wd : World, TabsIn wd tabs → Calls P f ⟨args⟩ wd fun e w' => e = .returned v ∧ Go.RowKit.Below wd.heap.size wd w') : Pure P ng f args h n v := by
 intro u k hk;refine loS_call.2 ⟨.ret v, u, h, n, hk _ _ _ ⟨rfl, rfl, rfl⟩, hasB_of hf, fun ρ base w0 wd args' cs hH hra hu => ?_⟩;obtain rfl := scals_same ha hra;obtain ⟨e, w', fr, ⟨rfl, hb⟩, hc, hfn, hl⟩ := H wd (ht.world hg hH) cs;obtain ⟨k1, k2⟩ := hH.stay hb;obtain ⟨y1, y2, y3, y4⟩ := hl;exact ⟨ρ, w', fr, cs, hc, k1, k2, CsTo.refl _ _, (fun e => Bool.noConfusion e), hfn, v, y1, y2, y3, y4, RV.res_refl hv⟩
theorem row_of_calls {f : FuncId} {args : List Value} {h : zG} {n len cap : Nat} {cs : List Value} {el : TypeId} {tabs : List (Nat × List Value)} (hf : hasB P f = true) (ha : args.all uN = true) (hc : cs.all uN = true) (hlen : len ≤ cap) (hcap : cap ≠ inf)
 (ht : TabsH tabs h) (hg : ∀ p ∈ tabs, p.1 < ng ∧ p.2.all uN = true)
 (H : ∀ wd : World, TabsIn wd tabs → Calls P f ⟨args⟩ wd fun e w' => e = .returned (.slice (some ⟨wd.heap.size, 0, none⟩) len cap) ∧ w' = wd.alloc (.cells ⟨cs⟩ el)) :
 Rets P ng f args h n fun v' h' n' => v' = .slice (some ⟨n, 0, none⟩) len cap ∧ h' = h.set .dead (mkC cs 0 0) n ∧ n' = n + 1 := by
 intro u k hk;refine loS_call.2 ⟨_, u, _, _, hk _ _ _ ⟨rfl, rfl, rfl⟩, hasB_of hf, fun ρ base w0 wd args' cs' hH hra hu => ?_⟩;obtain rfl := scals_same ha hra;obtain ⟨e, w', fr, ⟨rfl, rfl⟩, hcm, hfn, hl⟩ := H wd (ht.world hg hH) cs'
 have hrow : RVs ρ cs (⟨cs⟩ : Array Value).toList := ⟨rfl, fun i v v' a b => by
  have b' : cs[i]? = some v' := b;rw [a] at b'; injection b' with b'; subst b'
  exact RV.scal_refl (List.all_eq_true.1 hc v (List.mem_iff_getElem?.2 ⟨i, a⟩))⟩
 obtain ⟨k1, k2⟩ := hH.alloc (mkC cs 0 0) (.cells ⟨cs⟩ el) ⟨wd.heap.size, cs.length, 0⟩ rfl (hH.newRow (cs := cs) (cs' := ⟨cs⟩) hrow el);obtain ⟨y1, y2, y3, y4⟩ := hl;refine ⟨_, _, fr, cs', hcm, k1, k2, CsTo.refl _ _, (fun e => Bool.noConfusion e), hfn, _, y1, y2, y3, y4, ?_⟩;exact .slice (B := ⟨wd.heap.size, cs.length, 0⟩) (by show (if n = n then _ else _) = _; rw [if_pos rfl]) hcap hlen (.inl rfl)
end
abbrev str (l : List UInt8) : Value := .string ⟨⟨l⟩⟩
section
variable {P : Program} {ng : Nat}
theorem sP {ty : TypeId} {q : Bool} {a b : List UInt8} {K : Value → Bool} (h : a.length + b.length < 1000000) (hK : K (str (a ++ b)) = true) : qP pC P .add ty q (str a) (str b) K = true := by
 show opt (cond (Nat.blt (Nat.add a.length b.length) 1000000) (some (Value.string ⟨⟨a ++ b⟩⟩)) none) K = true;rw [rY (show Nat.add a.length b.length < 1000000 from h)];exact hK
theorem len_strL {ty : TypeId} (hu : und P ty = some .string) (l : List UInt8) (r : List Value) (h : zG) : yG P .len [ty] (str l :: r) h = some (.int .i64 (l.length : Nat)) := len_str hu _ r h
theorem index_strL {ty : TypeId} (hu : und P ty = some .string) (l : List UInt8) (k : IntKind) (i : Nat) (b : UInt8) (hb : l[i]? = some b) : pM P ty (str l) (.int k (i : Nat)) = some (.int .u8 (b.toNat : Nat)) := index_str hu _ k i b hb
theorem vG (f : Int → Int → Bool) (ty : TypeId) (q : Bool) (a b : List UInt8) (K : Bool → Bool) : yD f P .eql ty q (str a) (str b) K = K (a == b) := cmpS_eq f P ty q _ _ K
theorem cmpSL_ne (f : Int → Int → Bool) (ty : TypeId) (q : Bool) (a b : List UInt8) (K : Bool → Bool) : yD f P .neq ty q (str a) (str b) K = K (!(a == b)) := cmpS_ne f P ty q _ _ K
theorem xI {ty e : TypeId} (hu : und P ty = some (.slice e)) {n : Nat} {h : zG} {v : Value} {el sz len : Nat} {vs : List Value} (r : Row n h v el sz len vs) (l : List Value) (h' : zG) : yG P .len [ty] (v :: l) h' = some (.int .i64 (len : Nat)) := by
 rcases r with ⟨rfl, rfl, rfl⟩ | ⟨b, off, cap, m, z, kd, hb, rfl, _⟩
 · exact len_sl hu _ _ _ _ _
 · exact len_sl hu _ _ _ _ _
theorem xU {ty tl : TypeId} {n : Nat} {h : zG} {v : Value} {el len : Nat} {vs : List Value} (r : Row n h v el 1 len vs) (hx : ixOf P ty = .slice 1) (hs : yF P tl = .scal) {k : IntKind} {i : Nat} {x : Value} (hi : vs[i]? = some x) :
 ∃ p, zU P ty v (.int k (i : Nat)) = some p ∧ zF P tl h p = some x := by
 rcases r with ⟨rfl, rfl, rfl⟩ | ⟨b, off, cap, m, z, kd, hb, rfl, hl, hi2, hm, hr, hc⟩
 · simp at hi
 · have hlt : i < len := by
    have := (List.getElem?_eq_some_iff.1 hi).1; omega
   refine ⟨_, index_sl hx hlt, load_scal hs ?_⟩;rw [Nat.mul_one]; exact hr i x hi
theorem rK {ty tl : TypeId} {n : Nat} {h : zG} {v : Value} {el sz len : Nat} {vs : List Value} (r : Row n h v el sz len vs) (hx : ixOf P ty = .slice sz) (hs : yF P tl = .agg sz) (hsz : 0 < sz) {k : IntKind} {i : Nat} (hi : i < len) :
 ∃ p, zU P ty v (.int k (i : Nat)) = some p ∧ zF P tl h p = some (.agg ⟨(vs.drop (i * sz)).take sz⟩) := by
 obtain ⟨b, off, cap, rfl, hb, hr, hl⟩ := r.elem hi;exact ⟨_, index_sl hx hi, load_agg hs hl hsz hr⟩
theorem opt_of {α : Type} {q : Option α} {x : α} {K : α → Bool} (h : q = some x) (hK : K x = true) : opt q K = true := by rw [h]; exact hK
end
section
variable {P : Program} {ng : Nat}
theorem Row.world {n : Nat} {h : zG} {v v' : Value} {el len : Nat} {vs : List Value} {ρ : Inj} {base : Nat} {w0 wd : World} (r : Row n h v el 1 len vs) (hs : vs.all uN = true) (hH : HeapR P ng ρ base w0 h n wd) (hv : RV ρ v v') :
 (len = 0 ∧ ∃ a c, v' = .slice a 0 c) ∨ (∃ bk o c, v' = .slice (some ⟨bk, o, none⟩) len c ∧ len ≤ c ∧ bk < wd.heap.size ∧ ∀ (j : Nat) x, vs[j]? = some x → wd.cell? ⟨bk, o + j, none⟩ = some x) := by
 rcases r with ⟨rfl, rfl, rfl⟩ | ⟨b, off, cap, m, z, kd, hb, rfl, hl, hi, hm, hr, hc⟩
 · cases hv; exact .inl ⟨rfl, _, _, rfl⟩
 · rw [Nat.mul_one] at hl;have hlive : zT h b ≠ .dead := fun e => by rw [e] at hi; cases hi
   have main : ∀ (B : Bl), ρ b = some B → B.b < wd.heap.size ∧ ∀ (j : Nat) x, vs[j]? = some x → wd.cell? ⟨B.b, off + j, none⟩ = some x := by
    intro B eB;obtain ⟨o, q1, q2⟩ := hH.obj b B eB hlive
    have hsz : B.b < wd.heap.size := by
     rcases Nat.lt_or_ge B.b wd.heap.size with h1 | h1
     · exact h1
     · rw [Array.getElem?_eq_none h1] at q1; cases q1
    refine ⟨hsz, fun j x hj => ?_⟩;have hcell := hr j x hj;unfold xO at hcell;cases ho : zT h b <;> rw [ho] at hcell <;> first | (cases hcell; done) | skip
    rename_i c kn z' kd';unfold rX at hcell;dsimp only at hcell;rw [ho] at q2
    cases q2 with
    | cells hn hs' hk hz hv' hb' hf =>
     rename_i c' el lo hi';by_cases hlt : off + j < kn
     · rw [if_pos hlt] at hcell;injection hcell with hcell
       have h2 : off + j < c'.size := by omega
       have rr := hv' (off + j) c'[off + j] hlt (Array.getElem?_eq_getElem h2);rw [hcell] at rr;have e3 := scal_one (List.all_eq_true.1 hs x (List.mem_iff_getElem?.2 ⟨j, hj⟩)) rr;unfold World.cell?;dsimp only;rw [q1];show c'[off + j]? = some x;rw [Array.getElem?_eq_getElem h2, e3]
     · rw [if_neg hlt] at hcell; cases hcell
   cases hv with
   | slice e hc' hlc ho =>
    rename_i B o';obtain ⟨m1, m2⟩ := main B e;rcases ho with rfl | h0
    · exact .inr ⟨B.b, o', cap, rfl, hlc, m1, m2⟩
    · exact .inl ⟨by omega, _, _, by rw [show len = 0 by omega]⟩
   | opened e hlc ho =>
    rename_i B o' c';obtain ⟨m1, m2⟩ := main B e;rcases ho with ⟨rfl, _⟩ | ⟨h0, _⟩
    · exact .inr ⟨B.b, o', c', rfl, hlc, m1, m2⟩
    · exact .inl ⟨by omega, _, _, by rw [show len = 0 by omega]⟩
theorem pure_of_calls_row {f : FuncId} {sv : Value} {args : List Value} {h : zG} {n el len : Nat} {vs : List Value} {v : Value} {tabs : List (Nat × List Value)} (hf : hasB P f = true) (r : Row n h sv el 1 len vs) (hvs : vs.all uN = true) (ha : args.all uN = true) (hv : isRes v = true)
 (ht : TabsH tabs h) (hg : ∀ p ∈ tabs, p.1 < ng ∧ p.2.all uN = true)
 (H : ∀ (wd : World) (sv' : Value), TabsIn wd tabs → ((len = 0 ∧ ∃ a c, sv' = .slice a 0 c) ∨ (∃ bk o c, sv' = .slice (some ⟨bk, o, none⟩) len c ∧ len ≤ c ∧ bk < wd.heap.size ∧ ∀ (j : Nat) x, vs[j]? = some x → wd.cell? ⟨bk, o + j, none⟩ = some x)) →
  Calls P f ⟨sv' :: args⟩ wd fun e w' => e = .returned v ∧ Go.RowKit.Below wd.heap.size wd w') : Pure P ng f (sv :: args) h n v := by
 intro u k hk;refine loS_call.2 ⟨.ret v, u, h, n, hk _ _ _ ⟨rfl, rfl, rfl⟩, hasB_of hf, fun ρ base w0 wd args' cs hH hra hu => ?_⟩;obtain ⟨sv', r', rfl, hsv, hr'⟩ := hra.of_cons;obtain rfl := scals_same ha hr';obtain ⟨e, w', fr, ⟨rfl, hb⟩, hc, hfn, hl⟩ := H wd sv' (ht.world hg hH) (r.world hvs hH hsv) cs;obtain ⟨k1, k2⟩ := hH.stay hb;obtain ⟨y1, y2, y3, y4⟩ := hl;exact ⟨ρ, w', fr, cs, hc, k1, k2, CsTo.refl _ _, (fun e => Bool.noConfusion e), hfn, v, y1, y2, y3, y4, RV.res_refl hv⟩
end
def Bld (T : Nat) (h : zG) (b : Nat) (p sv : Value) : Prop := tM (zT h b) = some (2, T + 1, 0) ∧ xO h b 0 = some p ∧ xO h b 1 = some sv
structure OneTurned (w w' : World) (g : Nat) : Prop where
 os : w'.os = w.os
 tape : w'.tape = w.tape
 output : w'.output = w.output
 size : w'.heap.size = w.heap.size
 rest : ∀ c, c ≠ g → w'.heap[c]? = w.heap[c]?
section
variable {P : Program} {ng : Nat}
theorem Bld.world {T : Nat} {h : zG} {b n : Nat} {p sv : Value} {ρ : Inj} {base : Nat} {w0 wd : World} {B : Bl} (hB : Bld T h b p sv) (hH : HeapR P ng ρ base w0 h n wd) (e : ρ b = some B) :
 ∃ x y c, zT h b = .cells c 2 (T + 1) 0 ∧ Tr.get undef c 0 = p ∧ Tr.get undef c 1 = sv ∧ wd.heap[B.b]? = some (.cells #[x, y] T (0, 0)) ∧ RV ρ p x ∧ RV ρ sv y ∧ base ≤ B.b ∧ B.n = 2 := by
 obtain ⟨h1, h2, h3⟩ := hB;have hlive : zT h b ≠ .dead := fun e => by rw [e] at h1; cases h1
 obtain ⟨o, q1, q2⟩ := hH.obj b B e hlive;unfold xO at h2 h3;cases ho : zT h b <;> rw [ho] at h1 <;> first | (cases h1; done) | skip
 rename_i c kn z kd;have h1' : some (kn, z, kd) = some (2, T + 1, 0) := h1;simp only [Option.some.injEq, Prod.mk.injEq] at h1';obtain ⟨rfl, rfl, rfl⟩ := h1';rw [ho] at q2 h2 h3;have g0 : Tr.get undef c 0 = p := by have : some (Tr.get undef c 0) = some p := h2; injection this
 have g1 : Tr.get undef c 1 = sv := by have : some (Tr.get undef c 1) = some sv := h3; injection this
 cases q2 with
 | cells hn hs hk hz hv hb hf =>
  rename_i c' el lo hi;obtain ⟨rfl, rfl⟩ := hf (by decide);have hel : T + 1 = el + 1 := hz.2 rfl (by omega);obtain rfl : T = el := by omega
  have hn2 := hk (by decide);have hsz : c'.size = 2 := by omega
  have e0 : c'[0]? = some (c'[0]'(by omega)) := Array.getElem?_eq_getElem (by omega);have e1 : c'[1]? = some (c'[1]'(by omega)) := Array.getElem?_eq_getElem (by omega);have r0 := hv 0 _ (by omega) e0;have r1 := hv 1 _ (by omega) e1;rw [g0] at r0;rw [g1] at r1;refine ⟨_, _, c, rfl, g0, g1, ?_, r0, r1, hb (by decide), hn2.symm⟩;rw [q1];congr 2
  apply Array.ext
  · simp [hsz]
  · intro i i1 i2;have : i = 0 ∨ i = 1 := by omega
    rcases this with rfl | rfl <;> rfl
theorem copyCheck_fresh {f : FuncId} {T b n : Nat} {h : zG} {sv : Value} (hf : hasB P f = true) (hB : Bld T h b (.pointer none) sv)
 (H : ∀ (wd : World) (c : Nat), wd.cell? ⟨c, 0, none⟩ = some (.pointer none) → wd.shape? c = some (T, 2) → wd.frozen? ⟨c, 0, none⟩ = false →
  Calls P f #[.pointer (some ⟨c, 0, none⟩)] wd fun e w' => e = .returned (.tuple #[]) ∧ w' = wd.setCell ⟨c, 0, none⟩ (.pointer (some ⟨c, 0, none⟩))) :
 Rets P ng f [.pointer (some ⟨b, 0, none⟩)] h n fun v h' n' => v = .tuple #[] ∧ h' = h.set .dead (stC (zT h b) 0 [.pointer (some ⟨b, 0, none⟩)]) b ∧ n' = n := by
 intro u k hk;refine loS_call.2 ⟨_, u, _, _, hk _ _ _ ⟨rfl, rfl, rfl⟩, hasB_of hf, fun ρ base w0 wd args' cs hH hra hu => ?_⟩;obtain ⟨v', r', rfl, hv, hr'⟩ := hra.of_cons;obtain rfl := hr'.of_nil
 cases hv with
 | ptr e =>
  rename_i B;obtain ⟨x, y, c, ho, g0, g1, q1, rx, ry, hbase, hBn⟩ := hB.world hH e;cases rx
  have hc0 : wd.cell? ⟨B.b, 0, none⟩ = some (.pointer none) := by unfold World.cell?; dsimp only; rw [q1]; rfl
  have hsh : wd.shape? B.b = some (T, 2) := by unfold World.shape?; rw [q1]; rfl
  have hfz : wd.frozen? ⟨B.b, 0, none⟩ = false := by unfold World.frozen?; dsimp only; rw [q1]; rfl
  obtain ⟨e2, w', fr, ⟨rfl, rfl⟩, hcm, hfn, hl⟩ := H wd B.b hc0 hsh hfz cs;obtain ⟨y1, y2, y3, y4⟩ := hl
  have hheap : (wd.setCell ⟨B.b, 0, none⟩ (.pointer (some ⟨B.b, 0, none⟩))).heap[B.b]? = some (.cells #[.pointer (some ⟨B.b, 0, none⟩), y] T (0, 0)) := by
   unfold World.setCell;dsimp only;rw [Array.getElem?_modify, if_pos rfl, q1];rfl
  obtain ⟨k1, k2⟩ := hH.turn e (by rw [ho]; exact AObj.noConfusion) (stC (zT h b) 0 [.pointer (some ⟨b, 0, none⟩)]) (.cells #[.pointer (some ⟨B.b, 0, none⟩), y] T (0, 0)) (wd.setCell ⟨B.b, 0, none⟩ (.pointer (some ⟨B.b, 0, none⟩))) hbase (by
   rw [ho];refine .cells (by omega) (by simp [hBn]) (fun _ => hBn.symm) ⟨fun h => absurd h (by decide), fun _ _ => rfl⟩ (fun i v' hi e3 => ?_) (fun _ => hbase) (fun _ => ⟨rfl, rfl⟩);rw [Tr.get_ofListFrom];have hi2 : i = 0 ∨ i = 1 := by omega
   rcases hi2 with rfl | rfl
   · rw [if_pos (by simp)];have e4 : some (Value.pointer (some ⟨B.b, 0, none⟩)) = some v' := e3;injection e4 with e4; subst e4
     exact .ptr e
   · rw [if_neg (by simp), g1];have e4 : some y = some v' := e3;injection e4 with e4; subst e4
     exact ry) hheap (by simp [World.setCell]) (fun c hc => by
   unfold World.setCell;dsimp only;rw [Array.getElem?_modify, if_neg (fun h => hc h.symm)]) rfl rfl rfl
  exact ⟨ρ, _, fr, cs, hcm, k1, k2, CsTo.refl _ _, (fun e => Bool.noConfusion e), hfn, _, y1, y2, y3, y4, RV.res_refl rfl⟩
theorem copyCheck_used {f : FuncId} {T b n : Nat} {h : zG} {sv : Value} (hf : hasB P f = true) (hB : Bld T h b (.pointer (some ⟨b, 0, none⟩)) sv)
 (H : ∀ (wd : World) (c : Nat), wd.cell? ⟨c, 0, none⟩ = some (.pointer (some ⟨c, 0, none⟩)) → Calls P f #[.pointer (some ⟨c, 0, none⟩)] wd fun e w' => e = .returned (.tuple #[]) ∧ w' = wd) :
 Rets P ng f [.pointer (some ⟨b, 0, none⟩)] h n fun v h' n' => v = .tuple #[] ∧ h' = h ∧ n' = n := by
 intro u k hk;refine loS_call.2 ⟨_, u, _, _, hk _ _ _ ⟨rfl, rfl, rfl⟩, hasB_of hf, fun ρ base w0 wd args' cs hH hra hu => ?_⟩;obtain ⟨v', r', rfl, hv, hr'⟩ := hra.of_cons;obtain rfl := hr'.of_nil
 cases hv with
 | ptr e =>
  rename_i B;obtain ⟨x, y, c, ho, g0, g1, q1, rx, ry, hbase, hBn⟩ := hB.world hH e
  cases rx with
  | ptr e' =>
   rename_i B';rw [e] at e';injection e' with e'
   subst e';have hc0 : wd.cell? ⟨B.b, 0, none⟩ = some (.pointer (some ⟨B.b, 0, none⟩)) := by unfold World.cell?; dsimp only; rw [q1]; rfl
   obtain ⟨e2, w', fr, ⟨rfl, rfl⟩, hcm, hfn, hl⟩ := H wd B.b hc0 cs;obtain ⟨y1, y2, y3, y4⟩ := hl;exact ⟨ρ, _, fr, cs, hcm, hH, Grow.refl _ _ _ _ hH.dom, CsTo.refl _ _, (fun e => Bool.noConfusion e), hfn, _, y1, y2, y3, y4, RV.res_refl rfl⟩
abbrev bytesV (l : List UInt8) : List Value := l.map fun b => Value.int .u8 (b.toNat : Nat)
theorem builder_String {f : FuncId} {T e8 b lo n : Nat} {h : zG} {p sv : Value} {l : List UInt8} (hf : hasB P f = true) (hB : Bld T h b p sv) (ho : Own lo n h sv e8 1 l.length (bytesV l)) (hne : xK sv ≠ some b) (hlen : l.length < 1000000)
 (H0 : ∀ (wd : World) (c : Nat) (x : Value), wd.heap[c]? = some (.cells #[x, .slice none 0 0] T (0, 0)) → Calls P f #[.pointer (some ⟨c, 0, none⟩)] wd fun e w' => e = .returned (.string ⟨#[]⟩) ∧ Go.RowKit.Below wd.heap.size wd w')
 (H : ∀ (wd : World) (c g cap : Nat) (x : Value) (cur : Array Value), l ≠ [] → wd.heap[c]? = some (.cells #[x, .slice (some ⟨g, 0, none⟩) l.length cap] T (0, 0)) → wd.heap[g]? = some (.cells cur e8 (0, 0)) → l.length ≤ cap → cap ≤ cur.size →
  (∀ (j : Nat) (y : UInt8), l[j]? = some y → cur[j]? = some (.int .u8 (y.toNat : Nat))) → Calls P f #[.pointer (some ⟨c, 0, none⟩)] wd fun e w' => e = .returned (.string ⟨⟨l⟩⟩) ∧ OneTurned wd w' g) :
 Rets P ng f [.pointer (some ⟨b, 0, none⟩)] h n fun v h' n' => v = str l ∧ n' = n ∧ (∀ b', xK sv ≠ some b' → zT h' b' = zT h b') := by
 intro u k hk;rcases ho with ⟨rfl, h0, h1⟩ | ⟨b2, q1, q2, rfl, q3, q4, q5, q6⟩
 · have hl0 : l = [] := List.length_eq_zero_iff.1 h0;subst hl0;refine loS_call.2 ⟨_, u, _, _, hk _ _ _ ⟨rfl, rfl, fun _ _ => rfl⟩, hasB_of hf, fun ρ base w0 wd args' cs hH hra hu => ?_⟩;obtain ⟨v', r', rfl, hv, hr'⟩ := hra.of_cons;obtain rfl := hr'.of_nil
   cases hv with
   | ptr e =>
    rename_i B;obtain ⟨x, y, c, ho, g0, g1, w1, rx, ry, hbase, hBn⟩ := hB.world hH e;cases ry
    obtain ⟨e2, w', fr, ⟨rfl, hbl⟩, hcm, hfn, hl⟩ := H0 wd B.b x w1 cs;obtain ⟨y1, y2, y3, y4⟩ := hl;obtain ⟨k1, k2⟩ := hH.stay hbl;exact ⟨ρ, _, fr, cs, hcm, k1, k2, CsTo.refl _ _, (fun e => Bool.noConfusion e), hfn, _, y1, y2, y3, y4, RV.res_refl rfl⟩
 · refine loS_call.2 ⟨.ret (str l), u, h.set .dead .dead b2, n, hk _ _ _ ⟨rfl, rfl, fun b' hb' => ?_⟩, hasB_of hf, fun ρ base w0 wd args' cs hH hra hu => ?_⟩
   · rw [zK, if_neg (fun e => hb' (by rw [e]; rfl))]
   · obtain ⟨v', r', rfl, hv, hr'⟩ := hra.of_cons;obtain rfl := hr'.of_nil
     cases hv with
     | ptr e =>
      rename_i B;obtain ⟨x, y, c, ho, g0, g1, w1, rx, ry, hbase, hBn⟩ := hB.world hH e;have hlive : zT h b2 ≠ .dead := fun e => by rw [e] at q3; cases q3
      cases ry with
      | slice _ hc => exact absurd rfl hc
      | opened eg hl' hog =>
       rename_i G o' c';obtain ⟨o, z1, z2⟩ := hH.obj b2 G eg hlive;unfold xO at q6;cases hob : zT h b2 <;> rw [hob] at q3 <;> first | (cases q3; done) | skip
       rename_i cc kn z kd;have h1' : some (kn, z, kd) = some ((bytesV l).length, zc e8 1, 1) := q3;simp only [Option.some.injEq, Prod.mk.injEq] at h1';obtain ⟨rfl, rfl, rfl⟩ := h1';rw [hob] at z2 q6
       cases z2 with
       | cells hn hs hk' hz hv hb hf' =>
        rename_i cur el lo' hi';obtain ⟨rfl, rfl⟩ := hf' (by decide);obtain ⟨hel, hGz⟩ := zc_inj (hz.1 rfl);subst hel
        have hc' : o' = 0 ∧ 0 + c' * G.z = G.n := by
         rcases hog with h9 | ⟨_, h9⟩
         · exact h9
         · exact absurd h9 (Nat.lt_irrefl _)
        obtain ⟨rfl, hcn⟩ := hc';rw [← hGz] at hcn
        have hcur : ∀ (j : Nat) (y : UInt8), l[j]? = some y → cur[j]? = some (.int .u8 (y.toNat : Nat)) := by
         intro j y hj;have hjl : j < l.length := (List.getElem?_eq_some_iff.1 hj).1;have hjk : j < (bytesV l).length := by simpa using hjl
         have r2 := q6 j;unfold rX at r2;dsimp only at r2;rw [if_pos hjk] at r2;have e5 : (bytesV l)[j]? = some (.int .u8 (y.toNat : Nat)) := by rw [List.getElem?_map, hj]; rfl
         rw [e5] at r2;injection r2 with r2
         have hjc : j < cur.size := by omega
         have r1 := hv j cur[j] hjk (Array.getElem?_eq_getElem hjc);rw [r2] at r1;rw [Array.getElem?_eq_getElem hjc, scal_one rfl r1]
        obtain ⟨e2, w', fr, ⟨rfl, ht⟩, hcm, hfn, hl⟩ := H wd B.b G.b c' x cur (fun e9 => by rw [e9] at q5; exact absurd q5 (Nat.lt_irrefl _)) w1 z1 hl' (by omega) hcur cs;obtain ⟨y1, y2, y3, y4⟩ := hl;obtain ⟨k1, k2⟩ := hH.kill b2;have hGbase : base ≤ G.b := hb (by decide)
        have hother : ∀ a A, ρ a = some A → zT (h.set .dead .dead b2) a ≠ .dead → A.b ≠ G.b := by
         intro a A ea hla heq;rw [zK] at hla;by_cases hab : b2 = a
         · rw [if_pos hab] at hla; exact hla rfl
         · rw [if_neg hab] at hla;exact hab (hH.inj b2 a G A eg ea hlive hla heq.symm)
        refine ⟨ρ, w', fr, cs, hcm, ⟨k1.dom, fun a A ea hla => ?_, k1.inj, ?_, by rw [ht.size]; exact k1.size, k1.glob, k1.ngn⟩, ⟨k2.nn, k2.old, k2.new, fun cx hcx hk9 => ?_, by rw [ht.size]; exact Nat.le_refl _, k2.dead, ht.tape⟩, CsTo.refl _ _, (fun e => Bool.noConfusion e), hfn, _, y1, y2, y3, y4, RV.res_refl rfl⟩
        · obtain ⟨o1, p1, p2⟩ := k1.obj a A ea hla;exact ⟨o1, by rw [ht.rest _ (hother a A ea hla)]; exact p1, p2⟩
        · exact k1.below.trans ⟨ht.os, ht.tape, ht.output, by rw [ht.size]; exact Nat.le_refl _, fun kx hkx => ht.rest kx (by omega)⟩
        · exact ht.rest cx (fun h9 => hk9 b2 G eg hlive h9.symm)
end
open Go
def cutB (c : UInt8) : List UInt8 → List UInt8 × List UInt8 × Bool
 | [] => ([], [], false)
 | x :: r => if x = c then ([], r, true) else (x :: (cutB c r).1, (cutB c r).2.1, (cutB c r).2.2)
def wV (c : UInt8) : List UInt8 → List (List UInt8)
 | [] => [[]]
 | x :: r => if x = c then [] :: wV c r else match wV c r with
  | [] => [[x]]
  | h :: t => (x :: h) :: t
theorem splitL_ne (c : UInt8) : ∀ s, wV c s ≠ [] := by
 intro s
 induction s with
 | nil => simp [wV]
 | cons x r ih =>
  unfold wV;split
  · simp
  · split <;> simp
theorem cutB_idx (c : UInt8) : ∀ s : List UInt8, (Lib.index s [c] = -1 ∧ cutB c s = (s, [], false) ∧ c ∉ s) ∨ (∃ i : Nat, Lib.index s [c] = i ∧ cutB c s = (s.take i, s.drop (i + 1), true) ∧ i < s.length ∧ s = s.take i ++ c :: s.drop (i + 1) ∧ c ∉ s.take i) := by
 intro s
 induction s with
 | nil => exact .inl ⟨rfl, rfl, by simp⟩
 | cons x r ih =>
  by_cases h : x = c
  · subst h;refine .inr ⟨0, ?_, ?_, by simp, by simp, by simp⟩
    · unfold Lib.index; simp
    · unfold cutB; simp
  · have hp : ([c].isPrefixOf (x :: r)) = false := by simp [List.isPrefixOf]; exact fun e => h e.symm
    rcases ih with ⟨h1, h2, h3⟩ | ⟨i, h1, h2, h3, h4, h5⟩
    · refine .inl ⟨?_, ?_, ?_⟩
      · unfold Lib.index; rw [hp, h1]; rfl
      · unfold cutB; rw [if_neg h, h2]
      · intro hm;rcases List.mem_cons.1 hm with e | e
        · exact h e.symm
        · exact h3 e
    · refine .inr ⟨i + 1, ?_, ?_, by simp; exact h3, ?_, ?_⟩
      · unfold Lib.index; rw [hp, h1];have : ((i : Int) == -1) = false := by simp
        rw [this]; simp
      · unfold cutB; rw [if_neg h, h2]; simp
      · simp only [List.take_succ_cons, List.drop_succ_cons, List.cons_append];rw [← h4]
      · simp only [List.take_succ_cons, List.mem_cons, not_or];exact ⟨fun e => h e.symm, h5⟩
theorem cut_one (c : UInt8) (s : List UInt8) : Lib.cut s [c] = cutB c s := by
 unfold Lib.cut;rcases cutB_idx c s with ⟨h1, h2, _⟩ | ⟨i, h1, h2, h3, _⟩
 · rw [h1, h2]; rfl
 · rw [h1, h2, if_pos (by omega)]; simp
theorem splitL_cut (c : UInt8) : ∀ s : List UInt8, wV c s = if (cutB c s).2.2 then (cutB c s).1 :: wV c (cutB c s).2.1 else [s] := by
 intro s
 induction s with
 | nil => rfl
 | cons x r ih =>
  have e1 : wV c (x :: r) = if x = c then [] :: wV c r else match wV c r with
   | [] => [[x]]
   | h :: t => (x :: h) :: t := rfl
  have e2 : cutB c (x :: r) = if x = c then ([], r, true) else (x :: (cutB c r).1, (cutB c r).2.1, (cutB c r).2.2) := rfl
  rw [e1, e2];by_cases h : x = c
  · rw [if_pos h, if_pos h]; rfl
  · rw [if_neg h, if_neg h, ih];by_cases hb : (cutB c r).2.2 = true
    · rw [if_pos hb]; dsimp only; rw [if_pos hb]
    · rw [if_neg hb]; dsimp only; rw [if_neg hb]
theorem countFrom_one (c : UInt8) : ∀ (k : Nat) (s : List UInt8), s.length < k → Lib.countFrom [c] k s = s.count c := by
 intro k
 induction k with
 | zero => intro s h; omega
 | succ k ih =>
  intro s h;unfold Lib.countFrom;rcases cutB_idx c s with ⟨h1, _, h3⟩ | ⟨i, h1, _, h3, h4, h5⟩
  · rw [h1, List.count_eq_zero_of_not_mem h3]; rfl
  · have hi : (Lib.index s [c] == -1) = false := by rw [h1]; simp
    rw [hi, h1];simp only [Bool.false_eq_true, if_false, Int.toNat_natCast, List.length_singleton];rw [ih (s.drop (i + 1)) (by rw [List.length_drop]; omega)]
    have : s.count c = (s.take i).count c + ((s.drop (i + 1)).count c + 1) := by
     conv => lhs; rw [h4]
     rw [List.count_append, List.count_cons_self]
    rw [this, List.count_eq_zero_of_not_mem h5]; omega
theorem splitK_one (c : UInt8) : ∀ (k : Nat) (s : List UInt8), s.count c ≤ k → Lib.splitK [c] 0 k s = wV c s := by
 intro k
 induction k with
 | zero =>
  intro s h;rw [splitL_cut];rcases cutB_idx c s with ⟨_, h2, _⟩ | ⟨i, _, _, _, h4, _⟩
  · rw [h2]; rfl
  · rw [h4, List.count_append, List.count_cons_self] at h; omega
 | succ k ih =>
  intro s h;rw [splitL_cut];unfold Lib.splitK;rcases cutB_idx c s with ⟨h1, h2, _⟩ | ⟨i, h1, h2, h3, h4, _⟩
  · rw [h1, h2]; rfl
  · have hi : (Lib.index s [c] == -1) = false := by rw [h1]; simp
    rw [hi, h2, h1]
    have hc : (s.drop (i + 1)).count c ≤ k := by
     rw [h4, List.count_append, List.count_cons_self] at h; omega
    have := ih (s.drop (i + 1)) hc;simp only [Bool.false_eq_true, if_false, if_true, Int.toNat_natCast, Nat.add_zero, List.length_singleton];rw [this]
theorem split_one (c : UInt8) (s : ByteArray) : (Lib.splitB ⟨#[c]⟩ 0 (Lib.countB s ⟨#[c]⟩) s).map (·.data.toList) = wV c s.data.toList := by
 rw [Lib.splitB_data];refine splitK_one c _ _ ?_;show _ ≤ Lib.countFrom [c] (s.data.toList.length + 1) s.data.toList;rw [countFrom_one c _ _ (by omega)];exact Nat.le_refl _
theorem count_one (c : UInt8) (s : ByteArray) : Lib.countB s ⟨#[c]⟩ = s.data.toList.count c := countFrom_one c _ _ (by omega)
theorem splitL_length (c : UInt8) : ∀ s, (wV c s).length = s.count c + 1 := by
 intro s
 induction s with
 | nil => rfl
 | cons x r ih =>
  unfold wV;by_cases h : x = c
  · subst h; simp [ih]
  · rw [if_neg h, List.count_cons_of_ne h];split
    · rename_i e; exact absurd e (splitL_ne c r)
    · rename_i a b e; rw [e] at ih; simpa using ih
open Go.Shelf Go.RowKit Go.Proofs
variable {P : Program} {ρ : Ren}
theorem freeze_one (w : World) (g m : Nat) : OneTurned w (w.freeze ⟨g, 0, none⟩ m) g := by
 unfold World.freeze;split
 · exact ⟨rfl, rfl, rfl, rfl, fun _ _ => rfl⟩
 · refine ⟨rfl, rfl, rfl, by simp, fun c hc => ?_⟩;dsimp only;rw [Array.getElem?_modify, if_neg (fun h => hc h.symm)]
theorem OneTurned.drew {w w' : World} {g : Nat} (h : OneTurned w.drew w' g) : OneTurned w w' g := ⟨h.os, h.tape, h.output, h.size, h.rest⟩
set_option maxHeartbeats 1000000 in
set_option maxRecDepth 100000 in
theorem string_model (L : Lays.n169 P ρ) (X : Builder.Extra P ρ) (b g cap : Nat) (p : Value) (cur : Array Value) (l : List UInt8) (w : World) (h0 : l ≠ []) (hmx : l.length < 1000000) (hbk : w.heap[b]? = some (.cells #[p, .slice (some ⟨g, 0, none⟩) l.length cap] (ρ.t 72) (0, 0))) (hg : w.heap[g]? = some (.cells cur (ρ.t 5) (0, 0)))
 (hnc : l.length ≤ cap) (hcs : cap ≤ cur.size) (hcur : ∀ (j : Nat) (y : UInt8), l[j]? = some y → cur[j]? = some (.int .u8 (y.toNat : Nat))) :
 Calls P (ρ.f 169) #[.pointer (some ⟨b, 0, none⟩)] w fun e w' => e = .returned (.string ⟨l.toArray⟩) ∧ OneTurned w w' g := by
 have hl0 : l.length ≠ 0 := by simpa using h0
 have c1 : w.drew.cell? ⟨b, 1, none⟩ = some (.slice (some ⟨g, 0, none⟩) l.length cap) := by
  have : w.drew.heap[b]? = some (.cells #[p, .slice (some ⟨g, 0, none⟩) l.length cap] (ρ.t 72) (0, 0)) := hbk;rw [Lib.cell_of_heap this]; rfl
 have hSD : (Builtin.unsafeSliceData_ #[(ρ.t 37)] (ρ.t 127) #[.slice (some ⟨g, 0, none⟩) l.length cap]).run P w.drew = .ok (.pointer (some ⟨g, 0, none⟩)) w.drew :=
  Lib.run_unsafeSliceData_row _ _ _ _ _ _ (by omega)
 have hUS : (Builtin.unsafeString_ #[(ρ.t 127), (ρ.t 3)] (ρ.t 9) #[.pointer (some ⟨g, 0, none⟩), .int .i64 l.length]).run P w.drew = .ok (.string ⟨l.toArray⟩) (w.drew.freeze ⟨g, 0, none⟩ l.length) := by
  refine Lib.run_unsafeString_row w.drew (ρ.t 127) (ρ.t 3) (ρ.t 9) (ρ.t 5) L.t127 X.cellsByte g cur.size (by have hg' : w.drew.heap[g]? = some (.cells cur (ρ.t 5) (0, 0)) := hg; simp [World.shape?, hg']) l h0 (by omega) (by omega) ?_;intro j x hx;have hg' : w.drew.heap[g]? = some (.cells cur (ρ.t 5) (0, 0)) := hg;have e9 : Addr.add ⟨g, 0, none⟩ j = ⟨g, j, none⟩ := by simp [Addr.add]; omega
  rw [e9, Lib.cell_of_heap hg'];exact hcur j x hx
 have mixed := L.mixed;have t72 := L.t72; have a72 := L.a72; have z72 := L.z72; have v72 := L.v72; have u72 := run_underlying L.t72;have t70 := L.t70; have a70 := L.a70; have z70 := L.z70; have v70 := L.v70; have u70 := run_underlying L.t70;have t37 := L.t37; have a37 := L.a37; have z37 := L.z37; have v37 := L.v37; have u37 := run_underlying L.t37;have t127 := L.t127; have a127 := L.a127; have z127 := L.z127; have v127 := L.v127; have u127 := run_underlying L.t127;have t3 := L.t3; have a3 := L.a3; have z3 := L.z3; have v3 := L.v3; have u3 := run_underlying L.t3;have t9 := L.t9; have a9 := L.a9; have z9 := L.z9; have v9 := L.v9; have u9 := run_underlying L.t9;have t5 := X.t5; have a5 := X.a5; have z5 := X.z5; have v5 := X.v5; have u5 := run_underlying X.t5
 go_enter L.f169, Body.n169_ntmps ρ
 go_wp2
 go_region_o
 all_goals (go_wp2; go_ret; exact ⟨rfl, (freeze_one _ _ _).drew⟩)
section
variable {P : Program} {ng : Nat}
end
section
variable {P : Program} {ng : Nat}
def ComesE (P : Program) (ng : Nat) (f : FuncId) (args : List Value) (h : zG) (n : Nat) (Q : Out → zG → Nat → Prop) : Prop :=
 ∀ (u : Option zX) (k : KO), (∀ o h' n', Q o h' n' → k o u h' n' = true) → (loS P ng).call f args false u h n k = true
theorem ComesE.mono {f : FuncId} {args : List Value} {h : zG} {n : Nat} {Q Q' : Out → zG → Nat → Prop} (r : ComesE P ng f args h n Q) (hq : ∀ o h' n', Q o h' n' → Q' o h' n') : ComesE P ng f args h n Q' :=
 fun u k hk => r u k fun o h' n' q => hk o h' n' (hq o h' n' q)
theorem yR (hP : xJ ng P = true) (hmix : P.follows .mixedOrders = true) {hint : pD} {f : FuncId} (hl : xD P f = true) {args : List Value} {h : zG} {n : Nat} {Q : Out → zG → Nat → Prop}
 (hF : ∀ u k, (∀ o h' n', Q o h' n' → k o u h' n' = true) → yCall P hint (loS P ng) (lpS P ng) f args false u h n k = true) : ComesE P ng f args h n Q :=
 fun u k hk => loS_call.2 (yCall_ok hP hmix qR lpOK_lpS hint (loops_of hl) (hF u k hk))
theorem yX {g : FuncId} {args : List Value} {h : zG} {n : Nat} {Q : Out → zG → Nat → Prop} {Kp : KC} {K : Value → zG → Nat → Bool} (r : ComesE P ng g args h n Q)
 (hK : ∀ v h' n', Q (.ret v) h' n' → K v h' n' = true) (hp : ∀ c h' n', Q (.panic c) h' n' → Kp c h' n' = true) : yY (loS P ng) g args h n Kp K = true :=
 r none _ fun o h' n' q => by
  cases o with
  | ret v => exact hK v h' n' q
  | panic c => exact hp c h' n' q
theorem callI_comes {kd : IntKind} {g : FuncId} {args : List Value} {h : zG} {n : Nat} {Q : Out → zG → Nat → Prop} {Kp : KC} {K : Int → zG → Nat → Bool} (r : ComesE P ng g args h n Q)
 (hK : ∀ v h' n', Q (.ret v) h' n' → ∃ a, v = .int kd a ∧ K a h' n' = true) (hp : ∀ c h' n', Q (.panic c) h' n' → Kp c h' n' = true) : qS (loS P ng) kd g args h n Kp K = true :=
 r none _ fun o h' n' q => by
  cases o with
  | ret v =>
   obtain ⟨a, rfl, hk⟩ := hK v h' n' q;show rtI kd (.int kd a) (fun a => K a h' n') = true;rw [zE]; exact hk
  | panic c => exact hp c h' n' q
theorem qB {g : FuncId} {first cap args : List Value} {h : zG} {n : Nat} {Q : Out → zG → Nat → Prop} {Kp : KC} {K : Value → zG → Nat → Bool} (r : ComesE P ng g (first ++ (args ++ cap)) h n Q)
 (hK : ∀ v h' n', Q (.ret v) h' n' → K v h' n' = true) (hp : ∀ c h' n', Q (.panic c) h' n' → Kp c h' n' = true) : vC (loS P ng) (.func (.func g) ⟨first⟩ ⟨cap⟩) args h n Kp K = true :=
 r none _ fun o h' n' q => by
  cases o with
  | ret v => exact hK v h' n' q
  | panic c => exact hp c h' n' q
theorem invokeI_comes {kd : IntKind} {g : FuncId} {first cap args : List Value} {h : zG} {n : Nat} {Q : Out → zG → Nat → Prop} {Kp : KC} {K : Int → zG → Nat → Bool} (r : ComesE P ng g (first ++ (args ++ cap)) h n Q)
 (hK : ∀ v h' n', Q (.ret v) h' n' → ∃ a, v = .int kd a ∧ K a h' n' = true) (hp : ∀ c h' n', Q (.panic c) h' n' → Kp c h' n' = true) : invokeI (loS P ng) kd (.func (.func g) ⟨first⟩ ⟨cap⟩) args h n Kp K = true :=
 r none _ fun o h' n' q => by
  cases o with
  | ret v =>
   obtain ⟨a, rfl, hk⟩ := hK v h' n' q;show rtI kd (.int kd a) (fun a => K a h' n') = true;rw [zE]; exact hk
  | panic c => exact hp c h' n' q
theorem yT {L : Lo} {f : FuncId} {rs : List ResultVar} (hr : wF P f = some rs) {k : KO} {t : Fr} {u : Option zX} {h : zG} {n : Nat} {c : zX} (hk : k (.panic c) u h n = true) :
 zO P L f k (.panic c) t ⟨[], u, h, n⟩ = true := by
 unfold wF at hr
 cases hb : rO P f with
 | none => rw [hb] at hr; cases hr
 | some fb =>
  unfold zO;rw [hb];exact hk
theorem leaveC {L : Lo} {f : FuncId} {i : Nat} {ty : TypeId} (hr : wF P f = some [.cell i ty]) {k : KO} {t : Fr} {u : Option zX} {h : zG} {n : Nat} {v w : Value} (hw : zA t i = w) (hv : zF P ty h w = some v) (hk : k (.ret v) u h n = true) :
 zO P L f k .ret t ⟨[], u, h, n⟩ = true := by
 subst hw
 have hl : wA P t h [.cell i ty] = some [v] := by
  have e : ldV P h ty (zA t i) = some v := hv;unfold wA
  show (match ldV P h ty (zA t i), wA P t h [] with
  | some v, some l => some (v :: l)
  | _, _ => none) = _
  rw [e]; rfl
 rw [leave_res hr hl];exact hk
def TouchE (S : List Nat) (h : zG) (n : Nat) (h' : zG) (n' : Nat) : Prop := n ≤ n' ∧ ∀ b, b < n → b ∉ S → zT h' b = zT h b
theorem TouchE.refl (S : List Nat) (h : zG) (n : Nat) : TouchE S h n h n := ⟨Nat.le_refl _, fun _ _ _ => rfl⟩
theorem TouchE.trans {S : List Nat} {h h1 h2 : zG} {n n1 n2 : Nat} (a : TouchE S h n h1 n1) (b : TouchE S h1 n1 h2 n2) : TouchE S h n h2 n2 :=
 ⟨Nat.le_trans a.1 b.1, fun x hx hS => (b.2 x (Nat.lt_of_lt_of_le hx a.1) hS).trans (a.2 x hx hS)⟩
theorem TouchE.mono {S S' : List Nat} {h h' : zG} {n n' : Nat} (a : TouchE S h n h' n') (hs : ∀ x ∈ S, x ∈ S') : TouchE S' h n h' n' := ⟨a.1, fun b hb hS => a.2 b hb fun hx => hS (hs b hx)⟩
theorem Ext.touch {h h' : zG} {n n' : Nat} (e : Ext h n h' n') (S : List Nat) : TouchE S h n h' n' := ⟨e.1, fun b hb _ => e.2 b hb⟩
theorem zS {h h' : zG} {n b : Nat} (e : ∀ b', b' ≠ b → zT h' b' = zT h b') {S : List Nat} (hb : b ∈ S) : TouchE S h n h' n := ⟨Nat.le_refl _, fun x _ hS => e x fun e => hS (e ▸ hb)⟩
theorem TouchE.old {S S' : List Nat} {h h' : zG} {n n' : Nat} (a : TouchE S h n h' n') (hs : ∀ x ∈ S, x ∈ S' ∨ n ≤ x) : TouchE S' h n h' n' := ⟨a.1, fun b hb hS => a.2 b hb fun hx => (hs b hx).elim hS fun h9 => absurd hb (by omega)⟩
theorem TouchE.step {S S' : List Nat} {h h1 h2 : zG} {n n1 n2 : Nat} (a : TouchE S h n h1 n1) (b : TouchE S' h1 n1 h2 n2) (hs : ∀ x ∈ S', x ∈ S ∨ n ≤ x) : TouchE S h n h2 n2 :=
 ⟨Nat.le_trans a.1 b.1, fun x hx hS => (b.2 x (Nat.lt_of_lt_of_le hx a.1) fun h9 => (hs x h9).elim hS fun h8 => absurd hx (by omega)).trans (a.2 x hx hS)⟩
def Cel (h : zG) (b z : Nat) (vs : List Value) : Prop := tM (zT h b) = some (vs.length, z, 0) ∧ ∀ i, xO h b i = vs[i]?
theorem Cel.touch {S : List Nat} {h h' : zG} {n n' b z : Nat} {vs : List Value} (c : Cel h b z vs) (t : TouchE S h n h' n') (hb : b < n) (hS : b ∉ S) : Cel h' b z vs := by
 have e := t.2 b hb hS;exact ⟨by rw [e]; exact c.1, fun i => by unfold xO; rw [e]; exact c.2 i⟩
theorem Cel.keep {h h' : zG} {b z : Nat} {vs : List Value} (c : Cel h b z vs) (e : zT h' b = zT h b) : Cel h' b z vs := ⟨by rw [e]; exact c.1, fun i => by unfold xO; rw [e]; exact c.2 i⟩
theorem Row.touch {S : List Nat} {n : Nat} {h : zG} {v : Value} {e sz len : Nat} {vs : List Value} (r : Row n h v e sz len vs) {h' : zG} {n' : Nat} (t : TouchE S h n h' n') (hS : ∀ b, xK v = some b → b ∉ S) : Row n' h' v e sz len vs := by
 rcases r with ⟨rfl, rfl, rfl⟩ | ⟨b, off, cap, m, z, kd, hb, rfl, hl, hi, hm, hr, hc⟩
 · exact .inl ⟨rfl, rfl, rfl⟩
 · have he := t.2 b hb (hS b rfl);exact .inr ⟨b, off, cap, m, z, kd, Nat.lt_of_lt_of_le hb t.1, rfl, hl, by rw [he]; exact hi, hm, fun j v e => by unfold xO; rw [he]; exact hr j v e, hc⟩
theorem Own.touch {S : List Nat} {lo n : Nat} {h : zG} {v : Value} {e sz len : Nat} {vs : List Value} (r : Own lo n h v e sz len vs) {h' : zG} {n' : Nat} (t : TouchE S h n h' n') (hS : ∀ b, xK v = some b → b ∉ S) : Own lo n' h' v e sz len vs := by
 rcases r with ⟨rfl, rfl, rfl⟩ | ⟨b, q1, q2, rfl, q3, q4, q5, q6⟩
 · exact .inl ⟨rfl, rfl, rfl⟩
 · have he := t.2 b q2 (hS b rfl);exact .inr ⟨b, q1, Nat.lt_of_lt_of_le q2 t.1, rfl, by rw [he]; exact q3, q4, q5, fun i => by unfold xO; rw [he]; exact q6 i⟩
theorem Own.ge {lo n : Nat} {h : zG} {v : Value} {e sz len : Nat} {vs : List Value} (r : Own lo n h v e sz len vs) : ∀ b, xK v = some b → lo ≤ b ∧ b < n := by
 rcases r with ⟨rfl, rfl, rfl⟩ | ⟨b, q1, q2, rfl, q3, q4, q5, q6⟩
 · intro b e; cases e
 · intro b' e; injection e with e; subst e; exact ⟨q1, q2⟩
theorem Row.lt {n : Nat} {h : zG} {v : Value} {e sz len : Nat} {vs : List Value} (r : Row n h v e sz len vs) : ∀ b, xK v = some b → b < n := by
 rcases r with ⟨rfl, rfl, rfl⟩ | ⟨b, off, cap, m, z, kd, hb, rfl, hl, hi, hm, hr, hc⟩
 · intro b e; cases e
 · intro b' e; injection e with e; subst e; exact hb
theorem Own.low {lo lo' n : Nat} {h : zG} {v : Value} {e sz len : Nat} {vs : List Value} (r : Own lo n h v e sz len vs) (hl : lo' ≤ lo) : Own lo' n h v e sz len vs := by
 rcases r with h1 | ⟨b, q1, q⟩
 · exact .inl h1
 · exact .inr ⟨b, Nat.le_trans hl q1, q⟩
theorem TabsH.touch {tabs : List (Nat × List Value)} {S : List Nat} {h h' : zG} {n n' : Nat} (t : TabsH tabs h) (e : TouchE S h n h' n') (hl : ∀ p ∈ tabs, p.1 < n) (hS : ∀ p ∈ tabs, p.1 ∉ S) : TabsH tabs h' := fun p hp => by
 have he := e.2 p.1 (hl p hp) (hS p hp);obtain ⟨a, b⟩ := t p hp;exact ⟨by rw [he]; exact a, fun i => by unfold xO; rw [he]; exact b i⟩
theorem cellsOf_one {v : Value} (h : v.oneCell' = true) : cellsOf v = [v] := by cases v <;> first | rfl | (cases h; done)
theorem cel_mkC {h : zG} {n z : Nat} {l : List Value} : Cel (h.set .dead (mkC l z 0) n) n z l := by
 refine ⟨?_, fun i => ?_⟩
 · rw [zK, if_pos rfl, infoOf_mkC]
 · unfold xO; rw [zK, if_pos rfl, uV]
theorem pL {h : zG} {n : Nat} {o : AObj} : Ext h n (h.set .dead o n) (n + 1) := (Ext.refl h n).set (Nat.le_refl _) (Nat.le_succ _)
theorem wR {el : TypeId} {h : zG} {n : Nat} {K : KH} {z : Value} (hz : wK P el = some z) (hK : ∀ h', Cel h' n (el + 1) (cellsOf z) → Ext h n h' (n + 1) → K h' (n + 1) (.pointer (some ⟨n, 0, none⟩)) = true) : tH P el h n K = true :=
 eAlloc_ok hz (hK _ cel_mkC pL)
theorem tR {v : Value} {h : zG} {n : Nat} {K : KH} (h1 : ∀ x ∈ cellsOf v, x.oneCell' = true) (hK : ∀ h', Cel h' n 0 (cellsOf v) → Ext h n h' (n + 1) → K h' (n + 1) (.pointer (some ⟨n, 0, none⟩)) = true) : eBox v h n K = true :=
 eBox_ok h1 (hK _ cel_mkC pL)
theorem xH {ty : TypeId} {b off z : Nat} {vs : List Value} {v : Value} {h : zG} {n : Nat} {K : KH} (hc : Cel h b z vs) (hs : yF P ty = .scal) (ho : off < vs.length) (hv : v.oneCell' = true)
 (hK : ∀ h', Cel h' b z (vs.set off v) → (∀ b', b' ≠ b → zT h' b' = zT h b') → K h' n undef = true) : zW P ty (.pointer (some ⟨b, off, none⟩)) v h n K = true := by
 have e1 := cellsOf_one hv;refine eStore_ok (.inl ⟨hs, rfl⟩) (by rw [e1]; rfl) (by rw [e1]; simpa using hv) hc.1 (by decide) (by omega) (hK _ ⟨?_, fun i => ?_⟩ fun b' hb' => ?_)
 · rw [zK, if_pos rfl, pT, hc.1, List.length_set]
 · unfold xO;rw [zK, if_pos rfl, e1, pS _ _ _ hc.1 (by simp; omega)];have h2 := hc.2 i;unfold xO at h2;rw [h2, List.getElem?_set];by_cases hi : i = off
   · subst hi;rw [if_pos ⟨Nat.le_refl _, by simp⟩, if_pos rfl];simp [ho]
   · rw [if_neg (by simp; omega), if_neg (fun h => hi h.symm)]
 · rw [zK, if_neg (fun h => hb' h.symm)]
theorem xQ {ty : TypeId} {b z sz : Nat} {vs ws : List Value} {h : zG} {n : Nat} {K : KH} (hc : Cel h b z vs) (hs : yF P ty = .agg sz) (hl : ws.length = sz) (hl2 : vs.length = sz) (hv : ∀ x ∈ ws, x.oneCell' = true)
 (hK : ∀ h', Cel h' b z ws → (∀ b', b' ≠ b → zT h' b' = zT h b') → K h' n undef = true) : zW P ty (.pointer (some ⟨b, 0, none⟩)) (.agg ⟨ws⟩) h n K = true := by
 refine eStore_ok (.inr hs) (show ws.length = sz from hl) (show ∀ x ∈ ws, _ from hv) hc.1 (by decide) (by omega) (hK _ ⟨?_, fun i => ?_⟩ fun b' hb' => ?_)
 · rw [zK, if_pos rfl, pT, hc.1, hl, hl2]
 · unfold xO;rw [zK, if_pos rfl];show rX (stC (zT h b) 0 ws) i = _;rw [pS _ _ _ hc.1 (by omega)];by_cases hi : i < ws.length
   · rw [if_pos (by omega)]; rfl
   · have h2 := hc.2 i;unfold xO at h2;rw [if_neg (by omega), h2, List.getElem?_eq_none (by omega), List.getElem?_eq_none (by omega)]
 · rw [zK, if_neg (fun h => hb' h.symm)]
theorem zH {ty : TypeId} {h : zG} {b off z : Nat} {vs : List Value} {v : Value} (hc : Cel h b z vs) (hs : yF P ty = .scal) (hv : vs[off]? = some v) : zF P ty h (.pointer (some ⟨b, off, none⟩)) = some v :=
 load_scal hs (by rw [hc.2]; exact hv)
theorem xE {ty : TypeId} {h : zG} {b z sz : Nat} {vs : List Value} (hc : Cel h b z vs) (hs : yF P ty = .agg sz) (hl : vs.length = sz) (h0 : 0 < sz) : zF P ty h (.pointer (some ⟨b, 0, none⟩)) = some (.agg ⟨vs⟩) :=
 load_agg hs hl h0 fun j v e => by rw [Nat.zero_add, hc.2]; exact e
theorem qV {ty : TypeId} {len : Nat} {parts : List (Nat × Value)} {h : zG} {n : Nat} {K : KH} {e sz : Nat} {cs : List Value} (hb : yW P ty len parts = some (uE cs 0)) (hl : cs.length = len * sz) (hlt : len < inf)
 (hK : ∀ h', Row (n + 1) h' (.slice (some ⟨n, 0, none⟩) len len) e sz len cs → Ext h n h' (n + 1) → K h' (n + 1) (.slice (some ⟨n, 0, none⟩) len len) = true) : zN P ty len parts h n K = true := by
 unfold zN;rw [hb];show yL h n (uE cs 0) (fun h' n' => K h' n' (.slice (some ⟨n, 0, none⟩) len len)) = true;rw [yM];refine hK _ (.inr ⟨n, 0, len, cs.length, 0, 0, Nat.lt_succ_self _, rfl, hl, ?_, by omega, fun j v ej => ?_, .inl ⟨hlt, Nat.le_refl _⟩⟩) pL
 · rw [zK, if_pos rfl]; rfl
 · unfold xO;rw [zK, if_pos rfl, Nat.zero_add];exact (uV cs 0 0 j).trans ej
noncomputable def oneTB (P : Program) (ty e : TypeId) : Bool :=
 match und P ty with
 | some (.slice e') => match wK P e', inf? P e' with
  | some z, some ei => Nat.beq e' e && (Nat.beq ei.size 1 && Nat.beq (cellsOf z).length 1)
  | _, _ => false
 | _ => false
theorem vK {ty e : TypeId} (ht : oneTB P ty e = true) {v : Value} (hv : v.oneCell' = true) {h : zG} {n : Nat} {K : KH}
 (hK : ∀ h', Row (n + 1) h' (.slice (some ⟨n, 0, none⟩) 1 1) e 1 1 [v] → Ext h n h' (n + 1) → K h' (n + 1) (.slice (some ⟨n, 0, none⟩) 1 1) = true) : zN P ty 1 [(0, v)] h n K = true := by
 refine qV (cs := [v]) ?_ rfl (by unfold inf; omega) hK;unfold oneTB at ht;unfold yW;cases h1 : und P ty <;> rw [h1] at ht <;> first | (cases ht; done) | skip
 rename_i d;cases d <;> first | (cases ht; done) | skip
 rename_i e';dsimp only at ht ⊢;cases h2 : wK P e' <;> rw [h2] at ht <;> first | (cases ht; done) | skip
 rename_i z;cases h3 : inf? P e' <;> rw [h3] at ht <;> first | (cases ht; done) | skip
 rename_i ei;dsimp only at ht ⊢;obtain ⟨_, ht⟩ := Bool.and_eq_true_iff.1 ht;obtain ⟨a1, a2⟩ := Bool.and_eq_true_iff.1 ht;have e1 := zZ a1;have e2 := zZ a2;rw [e1, e2];obtain ⟨x, hx⟩ : ∃ x, cellsOf z = [x] := List.length_eq_one_iff.1 e2;rw [hx];have e3 := cellsOf_one hv
 show (match aFill (fun i => some (Nat.mul i 1, 1)) [x] [(0, v)] with
  | some cs => some (uE cs 0)
  | none => none) = _
 have : aFill (fun i => some (Nat.mul i 1, 1)) [x] [(0, v)] = some [v] := by
  unfold aFill;dsimp only;rw [e3];rfl
 rw [this]
theorem slice_fromI {n : Nat} {h : zG} {v : Value} {e sz len : Nat} {vs : List Value} {ty : TypeId} (hu : und P ty = some (.slice e)) (hi : (inf? P e).map (·.size) = some sz) (r : Row n h v e sz len vs) {k : IntKind} {i : Nat} (hle : i ≤ len) :
 ∃ v', rD P h ty v (some (.int k (i : Nat))) none none = some v' ∧ Row n h v' e sz (len - i) (vs.drop (i * sz)) ∧ (xK v' = xK v) := by
 cases hx : inf? P e with
 | none => rw [hx] at hi; cases hi
 | some ei => rw [hx] at hi; injection hi with hi; exact slice_from hu hx hi r hle
theorem Row.one {n : Nat} {h : zG} {v : Value} {e sz len : Nat} {vs : List Value} (r : Row n h v e sz len vs) : v.oneCell' = true := by
 rcases r with ⟨rfl, _⟩ | ⟨b, off, cap, m, z, kd, hb, rfl, _⟩ <;> rfl
theorem Own.one {lo n : Nat} {h : zG} {v : Value} {e sz len : Nat} {vs : List Value} (r : Own lo n h v e sz len vs) : v.oneCell' = true := by
 rcases r with ⟨rfl, _⟩ | ⟨b, _, _, rfl, _⟩ <;> rfl
end
section
variable {P : Program} {ng : Nat}
def ErrH (h : zG) (g : Nat) : Prop := ∃ z, tM (zT h g) = some (1, z, 2) ∧ ∃ te v, xO h g 0 = some (.iface te v)
theorem ErrH.touch {S : List Nat} {h h' : zG} {n n' g : Nat} (t : ErrH h g) (e : TouchE S h n h' n') (hl : g < n) (hS : g ∉ S) : ErrH h' g := by
 have he := e.2 g hl hS;obtain ⟨z, a, te, v, b⟩ := t;exact ⟨z, by rw [he]; exact a, te, v, by unfold xO; rw [he]; exact b⟩
theorem ErrH.world {h : zG} {g n : Nat} {ρ : Inj} {base : Nat} {w0 wd : World} (t : ErrH h g) (hg : g < ng) (r : HeapR P ng ρ base w0 h n wd) : ∃ te pe, wd.cell? ⟨g, 0, none⟩ = some (.iface te pe) := by
 obtain ⟨z, h1, te, v, h2⟩ := t;obtain ⟨B, e1, e2⟩ := r.glob g hg;have hl : zT h g ≠ .dead := fun e => by rw [e] at h1; cases h1
 obtain ⟨o, q1, q2⟩ := r.obj g B e1 hl;unfold xO at h2;cases ho : zT h g <;> rw [ho] at h1 <;> first | (cases h1; done) | skip
 rename_i c k z' kd;have h1' : some (k, z', kd) = some (1, z, 2) := h1;simp only [Option.some.injEq, Prod.mk.injEq] at h1';obtain ⟨rfl, rfl, rfl⟩ := h1';rw [ho] at q2 h2
 cases q2 with
 | cells hn hs hk hz hv hb hf =>
  rename_i c' el lo hi;rw [e2] at q1;have hsz : c'.size = 1 := by rw [hs]; exact (hk (by omega)).symm
  have h3 : some (Tr.get undef c 0) = some (Value.iface te v) := h2;injection h3 with h3
  have e0 : c'[0]? = some (c'[0]'(by omega)) := Array.getElem?_eq_getElem (by omega);have r0 := hv 0 _ (by omega) e0;rw [h3] at r0;generalize hx : c'[0]'(by omega) = x at r0 e0
  cases r0 with
  | iface r =>
   rename_i v';refine ⟨te, v', ?_⟩;unfold World.cell?;dsimp only;rw [q1];exact e0
theorem HeapR.put_dead {ρ : Inj} {base : Nat} {w0 : World} {h : zG} {n : Nat} {wd wd' : World} (r : HeapR P ng ρ base w0 h n wd) (hb : Go.RowKit.Below wd.heap.size wd wd') (B : Bl) (hN : wd.heap.size ≤ B.b) :
 HeapR P ng (ρ.put n B) base w0 (h.set .dead .dead n) (n + 1) wd' ∧ Grow ρ h n wd (ρ.put n B) (h.set .dead .dead n) (n + 1) wd' := by
 obtain ⟨k1, k2⟩ := r.stay hb;have hn : ρ n = none := r.dom n (Nat.le_refl _);have hle := Inj.le_put B hn;have old : ∀ b, b ≠ n → (ρ.put n B) b = ρ b := fun b hb => by simp [Inj.put, hb]
 refine ⟨⟨fun b hb => ?_, fun b C e hl => ?_, fun a b A C ea eb hla hlb hAC => ?_, k1.below, k1.size, fun g hg => ?_, ?_⟩, ⟨Nat.le_succ _, fun b hb => old b (by omega), fun b C hb e => ?_, k2.keep, k2.size, fun b hb e => ?_, k2.tape⟩⟩
 · rw [old b (by omega)]; exact r.dom b (by omega)
 · rw [zK] at hl ⊢;by_cases hbn : n = b
   · rw [if_pos hbn] at hl; exact absurd rfl hl
   · rw [if_neg hbn] at hl ⊢;rw [old b (fun e => hbn e.symm)] at e;obtain ⟨o, q1, q2⟩ := k1.obj b C e hl;exact ⟨o, q1, q2.mono hle⟩
 · rw [zK] at hla hlb;by_cases h1 : n = a
   · rw [if_pos h1] at hla; exact absurd rfl hla
   · by_cases h2 : n = b
     · rw [if_pos h2] at hlb; exact absurd rfl hlb
     · rw [if_neg h1] at hla;rw [if_neg h2] at hlb;rw [old a (fun e => h1 e.symm)] at ea;rw [old b (fun e => h2 e.symm)] at eb;exact r.inj a b A C ea eb hla hlb hAC
 · obtain ⟨C, e1, e2⟩ := r.glob g hg;exact ⟨C, by rw [old g (by have := r.ngn; omega)]; exact e1, e2⟩
 · have := r.ngn; omega
 · by_cases hbn : b = n
   · subst hbn;have : C = B := by simpa [Inj.put] using e.symm
     subst this;exact .inl hN
   · rw [old b hbn, r.dom b hb] at e; cases e
 · rw [zK]; split
   · rfl
   · exact e
theorem err_of_calls {f : FuncId} {args : List Value} {h : zG} {n g : Nat} {x : Int} {T : TypeId} (hf : hasB P f = true) (ha : args.all uN = true) (hE : ErrH h g) (hg : g < ng)
 (H : ∀ wd : World, (∃ te pe, wd.cell? ⟨g, 0, none⟩ = some (.iface te pe)) → Calls P f ⟨args⟩ wd fun e w' => ∃ N, e = .returned (.tuple #[.int .i64 x, .iface T (.pointer (some ⟨N, 0, none⟩))]) ∧ wd.heap.size ≤ N ∧ Go.RowKit.Below wd.heap.size wd w') :
 Rets P ng f args h n fun v h' n' => v = .tuple #[.int .i64 x, .iface T (.pointer (some ⟨n, 0, none⟩))] ∧ Ext h n h' n' := by
 intro u k hk;refine loS_call.2 ⟨.ret (.tuple #[.int .i64 x, .iface T (.pointer (some ⟨n, 0, none⟩))]), u, h.set .dead .dead n, n + 1, hk _ _ _ ⟨rfl, pL⟩, hasB_of hf, fun ρ base w0 wd args' cs' hH hra hu => ?_⟩;obtain rfl := scals_same ha hra;obtain ⟨e, w', fr, ⟨N, rfl, hN, hbl⟩, hcm, hfn, hl⟩ := H wd (hE.world hg hH) cs';obtain ⟨k1, k2⟩ := hH.put_dead hbl ⟨N, 1, 0⟩ hN;obtain ⟨y1, y2, y3, y4⟩ := hl;refine ⟨_, _, fr, cs', hcm, k1, k2, CsTo.refl _ _, (fun e => Bool.noConfusion e), hfn, _, y1, y2, y3, y4, ?_⟩;refine .tuple rfl fun i w w' a b => ?_;have hi : i = 0 ∨ i = 1 ∨ 2 ≤ i := by omega
 rcases hi with rfl | rfl | hi
 · have a' : some (Value.int .i64 x) = some w := a;have b' : some (Value.int .i64 x) = some w' := b;injection a' with a'; injection b' with b'; subst a' b'; exact .int _ _
 · have a' : some (Value.iface T (.pointer (some ⟨n, 0, none⟩))) = some w := a;have b' : some (Value.iface T (.pointer (some ⟨N, 0, none⟩))) = some w' := b;injection a' with a'; injection b' with b'; subst a' b'
   exact .iface (.ptr (B := ⟨N, 1, 0⟩) (by simp [Inj.put]))
 · have a' : ([Value.int .i64 x, .iface T (.pointer (some ⟨n, 0, none⟩))])[i]? = some w := a;rw [List.getElem?_eq_none (by simpa using hi)] at a'; cases a'
end
section
variable {P : Program} {ng : Nat}
noncomputable abbrev lo1 (P : Program) (ng : Nat) : Lo := Lo.next P (loS P ng)
theorem sound_lo1 (hP : xJ ng P = true) (hmix : P.follows .mixedOrders = true) : Sound P ng (lo1 P ng) := sound_next (draw_ok hP hmix) hP qR
theorem comes_intro1 (hP : xJ ng P = true) (hmix : P.follows .mixedOrders = true) {f : FuncId} {args : List Value} {h : zG} {n : Nat} {Q : Out → zG → Nat → Prop}
 (hF : ∀ u k, (∀ o h' n', Q o h' n' → k o u h' n' = true) → xcall P (lo1 P ng) f args false u h n k = true) : ComesE P ng f args h n Q :=
 fun u k hk => loS_call.2 (xcall_ok hP (sound_lo1 hP hmix) (hF u k hk))
theorem call_intro1 (hP : xJ ng P = true) (hmix : P.follows .mixedOrders = true) {f : FuncId} {args : List Value} {df : Bool} {u : Option zX} {h : zG} {n : Nat} {k : KO}
 (hF : xcall P (lo1 P ng) f args df u h n k = true) : (loS P ng).call f args df u h n k = true := loS_call.2 (xcall_ok hP (sound_lo1 hP hmix) hF)
theorem leave_intro (hP : xJ ng P = true) {fn : Func} {mode : Option zX} {t : Fr} {w : W} {k : KO} (h : tK P (loS P ng) fn mode t w k = true) : (loS P ng).leave fn mode t w k = true :=
 loS_leave.2 (xleave_ok hP qR h)
theorem storeAt_is {b off m z kd : Nat} {vs : List Value} {h : zG} {K : zG → Bool} (hi : tM (zT h b) = some (m, z, kd)) (hk : kd ≠ 2) (hle : off + vs.length ≤ m) (h1 : ∀ x ∈ vs, x.oneCell' = true)
 (hK : K (h.set .dead (stC (zT h b) off vs) b) = true) : storeAt h b off vs K = true := by
 cases ho : zT h b <;> rw [ho] at hi <;> first | (cases hi; done) | skip
 rename_i c n' z' kd';injection hi with hi
 injection hi with e1 hi
 injection hi with e2 e3
 subst e1 e2 e3;unfold storeAt;rw [ho];show (Bool.rec (Bool.rec false (uF c off vs fun c' => h.setK .dead (.cells c' n' z' kd') b fun h' => K h') (Nat.ble (Nat.add off vs.length) n')) false (Nat.beq kd' 2) : Bool) = true
 have e4 : Nat.beq kd' 2 = false := by
  cases e : Nat.beq kd' 2 with
  | false => rfl
  | true => exact absurd (zZ e) hk
 rw [e4];show (Bool.rec false (uF c off vs fun c' => h.setK .dead (.cells c' n' z' kd') b fun h' => K h') (Nat.ble (Nat.add off vs.length) n') : Bool) = true;rw [vJ (show Nat.add off vs.length ≤ n' by show off + _ ≤ _; omega)];refine sA h1 ?_;rw [Tr.setK_eq];rw [ho] at hK;exact hK
theorem tS {b off z : Nat} {vs : List Value} {v : Value} {h : zG} {K : zG → Bool} (hc : Cel h b z vs) (ho : off < vs.length) (hv : v.oneCell' = true)
 (hK : ∀ h', Cel h' b z (vs.set off v) → (∀ b', b' ≠ b → zT h' b' = zT h b') → K h' = true) : storeAt h b off [v] K = true := by
 refine storeAt_is hc.1 (by decide) (by simp; omega) (by simpa using hv) (hK _ ⟨?_, fun i => ?_⟩ fun b' hb' => ?_)
 · rw [zK, if_pos rfl, pT, hc.1, List.length_set]
 · unfold xO;rw [zK, if_pos rfl, pS _ _ _ hc.1 (by simp; omega)];have h2 := hc.2 i;unfold xO at h2;rw [h2, List.getElem?_set];by_cases hi : i = off
   · subst hi;rw [if_pos ⟨Nat.le_refl _, by simp⟩, if_pos rfl];simp [ho]
   · rw [if_neg (by simp; omega), if_neg (fun h => hi h.symm)]
 · rw [zK, if_neg (fun h => hb' h.symm)]
theorem xleave_defer0 {L : Lo} {fn : Func} {t : Fr} {g : FuncId} {cap args : Array Value} {ds : List Deferred} {u : Option zX} {h : zG} {n : Nat} {k : KO} {Q : zG → Nat → Prop} {v : Value}
 (hc : ∀ k' : KO, (∀ h' n', Q h' n' → k' (.ret v) none h' n' = true) → L.call g (args.toList ++ cap.toList) true none h n k' = true) (hl : ∀ h' n', Q h' n' → L.leave fn none t ⟨ds, u, h', n'⟩ k = true) :
 tK P L fn none t ⟨⟨.fn (.func g) cap, args⟩ :: ds, u, h, n⟩ k = true := by
 unfold tK;exact hc _ fun h' n' q => hl h' n' q
theorem xleave_defer1 {L : Lo} {fn : Func} {t : Fr} {g : FuncId} {cap args : Array Value} {ds : List Deferred} {u : Option zX} {h : zG} {n : Nat} {k : KO} {c : zX} {Q : zG → Nat → Prop} {v x : Value}
 (hc : ∀ k' : KO, (∀ h' n', Q h' n' → k' (.ret v) (some [⟨x, true, false⟩]) h' n' = true) → L.call g (args.toList ++ cap.toList) true (some c) h n k' = true) (hl : ∀ h' n', Q h' n' → L.leave fn none t ⟨ds, u, h', n'⟩ k = true) :
 tK P L fn (some c) t ⟨⟨.fn (.func g) cap, args⟩ :: ds, u, h, n⟩ k = true := by
 unfold tK;exact hc _ fun h' n' q => hl h' n' q
theorem xleave_cell {L : Lo} {fn : Func} {i : Nat} {ty : TypeId} (hr : fn.results.toList = [.cell i ty]) {t : Fr} {u : Option zX} {h : zG} {n : Nat} {k : KO} {v : Value} (hv : zF P ty h (zA t i) = some v) (hk : k (.ret v) u h n = true) :
 tK P L fn none t ⟨[], u, h, n⟩ k = true := by
 have hl : wA P t h [.cell i ty] = some [v] := by
  have e : ldV P h ty (zA t i) = some v := hv;unfold wA
  show (match ldV P h ty (zA t i), wA P t h [] with
  | some v, some l => some (v :: l)
  | _, _ => none) = _
  rw [e]; rfl
 unfold tK;dsimp only;rw [hr, hl];dsimp only;rw [wZ];exact hk
theorem append_new {sT xT e sz lo n len m : Nat} {h : zG} {v x : Value} {vs new : List Value} {K : KH} (hT : apTB P sT xT e sz = true) (ho : Own lo n h v e sz len vs) (hm0' : 0 < m) (hr : Row n h x e sz m new) (hnew : new.length = m * sz) (h1 : ∀ y ∈ new, y.oneCell' = true)
 (hlim : len + m < 1000000) (hK : ∀ v' h' n', Own n n' h' v' e sz (len + m) (vs ++ new) → n ≤ n' → (∀ b, b < n → xK v ≠ some b → zT h' b = zT h b) → K h' n' v' = true) : xV P [sT, xT] [v, x] h n K = true := by
 obtain ⟨xd, ei, z, t1, t2, t3, t4, t5, t6, t7, t8, t9⟩ := apTB_of hT;have hap : uQ P h e ei.size xd x = some (m, new) := by rw [t6]; exact appended_of t3 hr
 unfold xV xappend
 obtain ⟨base, cap, hv⟩ : ∃ base cap, v = .slice base len cap := by
  rcases ho with ⟨rfl, rfl, rfl⟩ | ⟨b, _, _, rfl, _⟩
  · exact ⟨_, _, rfl⟩
  · exact ⟨_, _, rfl⟩
 subst hv;dsimp only;rw [t1, t2];dsimp only;rw [t4, t5];dsimp only;rw [hap];dsimp only
 have c1 : (Nat.beq ei.size 0 || !Nat.beq (cellsOf z).length ei.size || !Nat.blt (Nat.add len m) 1000000 || !Nat.blt ei.bytes 100000) = false := by
  have a1 : Nat.beq ei.size 0 = false := by
   cases e9 : Nat.beq ei.size 0 with
   | false => rfl
   | true => have := zZ e9; omega
  have a2 : Nat.beq (cellsOf z).length ei.size = true := by rw [t7, t6]; exact Nat.beq_refl _
  rw [a1, a2, rY (show Nat.add len m < 1000000 from hlim), rY t9]; rfl
 rw [c1];show cond (Nat.beq m 0 && !Nat.beq cap 0 && (Nat.beq cap inf || Nat.ble len cap)) _ _ = true;by_cases hm : m = 0
 · omega
 · have hm0 : Nat.beq m 0 = false := by
    cases e9 : Nat.beq m 0 with
    | false => rfl
    | true => exact absurd (zZ e9) hm
   rw [hm0];show cond (Nat.beq cap inf) _ _ = true;rcases ho with ⟨hv, rfl, rfl⟩ | ⟨b, q1, q2, hv, q3, q4, q5, q6⟩
   · injection hv with hv1 _ hv2
     subst hv1 hv2;have hb0 : Nat.beq 0 inf = false := by decide
     rw [hb0];dsimp only [cond_false];unfold growEx
     have b1 : Nat.ble (Nat.add 0 m) 0 = false := by
      cases e9 : Nat.ble (Nat.add 0 m) 0 with
      | false => rfl
      | true =>
       have h9 : Nat.add 0 m ≤ 0 := uW e9;have h10 : 0 + m ≤ 0 := h9;omega
     rw [b1];show uF .lF 0 ([] ++ new) _ = true;refine sA h1 ?_;rw [yM]
     have hne : Nat.mul (Nat.add 0 m) ei.size = new.length := by
      have : Nat.add 0 m = m := Nat.zero_add m;rw [this, t6]; exact hnew.symm
     rw [hne, t6];have hz : Nat.add 0 m = m := Nat.zero_add m;rw [hz];have hpos : 0 < m := by omega
     refine hK _ _ _ (.inr ⟨n, Nat.le_refl n, Nat.lt_succ_self n, by rw [Nat.zero_add], ?_, ?_, by omega, fun i => ?_⟩) (Nat.le_succ n) fun b hb _ => ?_
     · rw [zK, if_pos rfl]; rfl
     · simpa using hnew
     · unfold xO;rw [zK, if_pos rfl];exact uV new (zc e sz) 1 i
     · rw [zK, if_neg (by omega)]
   · injection hv with hv1 _ hv2
     subst hv1 hv2;have hb1 : Nat.beq inf inf = true := Nat.beq_refl inf;rw [hb1];show growOpen h n b len m ei.size (zc e ei.size) new (fun v h n => K h n v) = true;unfold growOpen;cases hg : zT h b <;> rw [hg] at q3 <;> first | (cases q3; done) | skip
     rename_i c kn z' kd';have q3' : some (kn, z', kd') = some (vs.length, zc e sz, 1) := q3;simp only [Option.some.injEq, Prod.mk.injEq] at q3';obtain ⟨rfl, rfl, rfl⟩ := q3';show cond (Nat.beq (zc e sz) (zc e ei.size)) _ _ = true;have e5 : Nat.beq (zc e sz) (zc e ei.size) = true := by rw [t6]; exact Nat.beq_refl _
     rw [e5];have hml : Nat.mul len ei.size = vs.length := by rw [t6]; exact q4.symm
     have e6 : Nat.ble (Nat.mul (Nat.add len m) ei.size) vs.length = false := by
      cases e9 : Nat.ble (Nat.mul (Nat.add len m) ei.size) vs.length with
      | false => rfl
      | true =>
       have h9 : (len + m) * ei.size ≤ vs.length := uW e9;rw [t6, q4, Nat.add_mul] at h9;have : 0 < m * sz := Nat.mul_pos (by omega) t8;omega
     rw [e6, hml, vJ (Nat.le_refl _)];show uF c vs.length new _ = true;refine sA h1 ?_;rw [Tr.setK_eq, yM]
     have hmm : Nat.mul (Nat.add len m) ei.size = (vs ++ new).length := by
      rw [t6, List.length_append, q4, hnew]; exact Nat.add_mul len m sz
     rw [hmm];refine hK _ _ _ (.inr ⟨n, Nat.le_refl n, Nat.lt_succ_self n, rfl, ?_, ?_, by omega, fun i => ?_⟩) (Nat.le_succ n) fun b' hb hne => ?_
     · rw [zK, if_pos rfl]; rfl
     · rw [List.length_append, q4, hnew, Nat.add_mul]
     · unfold xO;rw [zK, if_pos rfl];unfold rX;dsimp only;have q6' := q6 i;unfold xO at q6';rw [hg] at q6';unfold rX at q6';dsimp only at q6';by_cases hi : i < vs.length
       · rw [if_pos hi] at q6';rw [if_pos (by rw [List.length_append]; omega), Tr.get_ofListFrom, if_neg (by omega), q6', List.getElem?_append_left hi]
       · rw [List.getElem?_append_right (by omega)];by_cases hi2 : i < (vs ++ new).length
         · rw [List.length_append] at hi2;rw [if_pos (by rw [List.length_append]; omega), Tr.get_ofListFrom, if_pos (by omega)];simp [List.getElem?_eq_getElem (show i - vs.length < new.length by omega), List.getD_eq_getElem?_getD]
         · rw [List.length_append] at hi2;rw [if_neg (by rw [List.length_append]; omega), List.getElem?_eq_none (by omega)]
     · have hbb : b ≠ b' := fun e => hne (by rw [e]; rfl);rw [zK, if_neg (by omega), zK, if_neg hbb]
theorem pV {ty : TypeId} {len : Nat} {parts : List (Nat × Value)} {h : zG} {n : Nat} {K : KH} {e sz : Nat} {cs : List Value} (hb : yW P ty len parts = some (uE cs 0)) (hl : cs.length = len * sz) (hlt : len < inf)
 (hK : ∀ h', Row (n + 1) h' (.slice (some ⟨n, 0, none⟩) len len) e sz len cs → tM (zT h' n) = some (cs.length, 0, 0) → Ext h n h' (n + 1) → K h' (n + 1) (.slice (some ⟨n, 0, none⟩) len len) = true) : zN P ty len parts h n K = true := by
 unfold zN;rw [hb];show yL h n (uE cs 0) (fun h' n' => K h' n' (.slice (some ⟨n, 0, none⟩) len len)) = true;rw [yM];refine hK _ (.inr ⟨n, 0, len, cs.length, 0, 0, Nat.lt_succ_self _, rfl, hl, ?_, by omega, fun j v ej => ?_, .inl ⟨hlt, Nat.le_refl _⟩⟩) ?_ pL
 · rw [zK, if_pos rfl]; rfl
 · unfold xO;rw [zK, if_pos rfl, Nat.zero_add];exact (uV cs 0 0 j).trans ej
 · rw [zK, if_pos rfl]; rfl
end
open Go.RowKit
section
variable {P : Program} {ng : Nat}
noncomputable def errO (te : TypeId) (b o : Nat) : AObj := .cells (.nD .lF (.iface te (.pointer (some ⟨b, o, none⟩))) .lF) 1 0 2
noncomputable def heapE (tabs : List (Nat × List Value)) (ng g1 t1 o1 g2 t2 o2 : Nat) : zG := ((heap0 tabs).set .dead (errO t1 ng o1) g1).set .dead (errO t2 (ng + 1) o2) g2
theorem qW (tabs : List (Nat × List Value)) (ng g1 t1 o1 g2 t2 o2 b : Nat) : zT (heapE tabs ng g1 t1 o1 g2 t2 o2) b = if g2 = b then errO t2 (ng + 1) o2 else if g1 = b then errO t1 ng o1 else zT (heap0 tabs) b := by
 unfold heapE;rw [zK, zK]
theorem errH_E {tabs : List (Nat × List Value)} {ng g1 t1 o1 g2 t2 o2 : Nat} : ErrH (heapE tabs ng g1 t1 o1 g2 t2 o2) g2 := by
 refine ⟨0, ?_, t2, .pointer (some ⟨ng + 1, o2, none⟩), ?_⟩
 · rw [qW, if_pos rfl]; rfl
 · unfold xO; rw [qW, if_pos rfl]; rfl
theorem errH_E1 {tabs : List (Nat × List Value)} {ng g1 t1 o1 g2 t2 o2 : Nat} (h : g2 ≠ g1) : ErrH (heapE tabs ng g1 t1 o1 g2 t2 o2) g1 := by
 refine ⟨0, ?_, t1, .pointer (some ⟨ng, o1, none⟩), ?_⟩
 · rw [qW, if_neg h, if_pos rfl]; rfl
 · unfold xO; rw [qW, if_neg h, if_pos rfl]; rfl
theorem tabsH_E {tabs : List (Nat × List Value)} {ng g1 t1 o1 g2 t2 o2 : Nat} (h : TabsH tabs (heap0 tabs)) (hn : ∀ p ∈ tabs, g1 ≠ p.1 ∧ g2 ≠ p.1) : TabsH tabs (heapE tabs ng g1 t1 o1 g2 t2 o2) := by
 intro p hp;obtain ⟨n1, n2⟩ := hn p hp;have e : zT (heapE tabs ng g1 t1 o1 g2 t2 o2) p.1 = zT (heap0 tabs) p.1 := by rw [qW, if_neg n2, if_neg n1]
 obtain ⟨⟨z, a⟩, b⟩ := h p hp;refine ⟨⟨z, by rw [e]; exact a⟩, fun i => ?_⟩;have := b i;unfold xO at this ⊢;rw [e]; exact this
theorem init_heapE {w : World} {tabs : List (Nat × List Value)} {g1 t1 o1 b1 g2 t2 o2 b2 el1 el2 : Nat} {f1 f2 : Nat × Nat} (hok : tabsOK ng tabs = true) (hw : TabsIn w tabs) (hg1 : g1 < ng) (hg2 : g2 < ng)
 (h1 : w.heap[g1]? = some (.cells ⟨[.iface t1 (.pointer (some ⟨b1, o1, none⟩))]⟩ el1 f1)) (h2 : w.heap[g2]? = some (.cells ⟨[.iface t2 (.pointer (some ⟨b2, o2, none⟩))]⟩ el2 f2)) :
 ∃ ρ, HeapR P ng ρ w.heap.size w (heapE tabs ng g1 t1 o1 g2 t2 o2) (ng + 2) w := by
 have hall := List.all_eq_true.1 hok
 let size : Nat → Nat := fun b => match w.heap[b]? with | some (.cells cs _ _) => cs.size | _ => 0
 let ρ : Inj := fun b => if b < ng then some ⟨b, size b, 0⟩ else if b = ng then some ⟨b1, 0, 0⟩ else if b = ng + 1 then some ⟨b2, 0, 0⟩ else none
 have rg : ∀ b, b < ng → ρ b = some ⟨b, size b, 0⟩ := fun b hb => if_pos hb;have r1 : ρ ng = some ⟨b1, 0, 0⟩ := by show (if ng < ng then _ else _) = _; rw [if_neg (by omega), if_pos rfl]
 have r2 : ρ (ng + 1) = some ⟨b2, 0, 0⟩ := by show (if ng + 1 < ng then _ else _) = _; rw [if_neg (by omega), if_neg (by omega), if_pos rfl]
 have old : ∀ b B, ρ b = some B → zT (heap0 tabs) b ≠ .dead → b < ng := by
  intro b B _ hl;obtain ⟨vs, h1, _⟩ := heap0_get hl;exact wQ (Bool.and_eq_true_iff.1 (hall _ h1)).1
 have live : ∀ b, zT (heapE tabs ng g1 t1 o1 g2 t2 o2) b ≠ .dead → b < ng := by
  intro b hl;rw [qW] at hl;by_cases e2 : g2 = b
  · omega
  · rw [if_neg e2] at hl;by_cases e1 : g1 = b
    · omega
    · rw [if_neg e1] at hl;obtain ⟨vs, h1, _⟩ := heap0_get hl;exact wQ (Bool.and_eq_true_iff.1 (hall _ h1)).1
 have err : ∀ {g t o b el : Nat} {f : Nat × Nat} {nb : Nat} {B : Bl}, w.heap[g]? = some (.cells ⟨[.iface t (.pointer (some ⟨b, o, none⟩))]⟩ el f) → ρ nb = some ⟨b, 0, 0⟩ → B = ⟨g, size g, 0⟩ →
  ∃ ob, w.heap[B.b]? = some ob ∧ ObjR P ng ρ w.heap.size B (errO t nb o) ob := by
  intro g t o b el f nb B hh hr hB;subst hB;obtain ⟨lo, hi⟩ := f
  have hs : size g = 1 := by
   show (match w.heap[g]? with | some (.cells cs _ _) => cs.size | _ => 0) = _;rw [hh]; rfl
  refine ⟨_, hh, .cells (by rw [hs]; exact Nat.le_refl 1) (by rw [hs]; rfl) (fun _ => hs.symm) ⟨fun h => by omega, fun h => by omega⟩ (fun i v' hi2 e => ?_) (fun h => absurd rfl h) (fun h => absurd rfl h)⟩;obtain rfl : i = 0 := by omega
  have e' : some (Value.iface t (.pointer (some ⟨b, o, none⟩))) = some v' := e;injection e' with e'
  subst e';exact .iface (.ptr hr)
 refine ⟨ρ, fun b hb => ?_, ?_, ?_, Go.RowKit.Below.refl _ _, Nat.le_refl _, fun g hg => ⟨_, rg g hg, rfl⟩, by omega⟩
 · show (if b < ng then _ else _) = _;rw [if_neg (by omega), if_neg (by omega), if_neg (by omega)]
 · intro b B e hl;have hb := live b hl;rw [rg b hb] at e;injection e with e
   rw [qW] at hl ⊢;by_cases e2 : g2 = b
   · rw [if_pos e2];subst e2;exact err h2 r2 e.symm
   · rw [if_neg e2] at hl ⊢;by_cases e1 : g1 = b
     · rw [if_pos e1];subst e1;exact err h1 r1 e.symm
     · rw [if_neg e1] at hl ⊢;subst e;obtain ⟨vs, q1, q2⟩ := heap0_get hl;obtain ⟨el, fr, h3⟩ := hw _ q1;refine ⟨_, h3, ?_⟩
       have hs : size b = vs.length := by
        show (match w.heap[b]? with | some (.cells cs _ _) => cs.size | _ => 0) = _;rw [h3]; rfl
       rw [q2];obtain ⟨lo, hi⟩ := fr;refine .cells (by rw [hs]; exact Nat.le_refl _) (by rw [hs]; rfl) (fun _ => hs.symm) ⟨fun h => by omega, fun h => by omega⟩ (fun i v' hi2 e => ?_) (fun h => absurd rfl h) (fun h => absurd rfl h);rw [Tr.get_ofListFrom, if_pos (by omega)];have e1 : vs[i]? = some (vs.getD (i - 0) undef) := by simp [List.getElem?_eq_getElem hi2]
       have e2 : vs[i]? = some v' := by simpa using e
       rw [e1] at e2; injection e2 with e2; subst e2
       have hint := List.all_eq_true.1 (Bool.and_eq_true_iff.1 (hall _ q1)).2 _ (List.mem_iff_getElem?.2 ⟨i, e1⟩);generalize vs.getD (i - 0) undef = x at hint
       cases x <;> first | (cases hint; done) | skip
       exact .int _ _
 · intro a b A B ea eb la lb hab;rw [rg a (live a la)] at ea;rw [rg b (live b lb)] at eb;injection ea with ea; injection eb with eb
   subst ea eb;exact hab
theorem law_rets {f : FuncId} {args : List Value} {h : zG} {n : Nat} (r : Rets P ng f args h n fun v _ _ => v = .bool true) (hpa : args.all plainB = true) (w : World) {ρ : Inj} (hH : HeapR P ng ρ w.heap.size w h n w) :
 Calls P f ⟨args⟩ w fun e w' => e = .returned (.bool true) ∧ Go.RowKit.Below w.heap.size w w' := by
 have hx : (loS P ng).call f args false none h n (finV (.bool true)) = true := r none _ fun v h' n' e => by rw [e]; rfl
 obtain ⟨o, u', h', n', hk, hc⟩ := calls_of qR hx;obtain rfl := finV_ret hk;refine (hc ρ w.heap.size w w args hH (plains hpa ρ)).mono fun e w' ⟨ρ', h1, h2, h3⟩ => ?_
 cases e with
 | returned v' =>
  have h3 : RV ρ' (.bool true) v' := h3;rw [h3.of_bool];exact ⟨rfl, h1.below⟩
 | _ => cases h3
end
end Go.Ex
namespace Go.Ex.Vir
open Go Go.Ex
abbrev Tx := List UInt8
structure Ins where
 kind : Int
 d : Int
 a : Int
 b : Int
 n : Int
 name : Tx
 args : List Int
 t : Int
 f : Int
def Ins.z : Ins := ⟨0, 0, 0, 0, 0, [], [], 0, 0⟩
structure Fct where
 name : Tx
 vregs : List Tx
 params : List Int
 result : Tx
 blocks : List (List Ins)
def Fct.z : Fct := ⟨[], [], [], [], []⟩
def letter (c : Int) : Bool := decide ((97 ≤ c ∧ c ≤ 122) ∨ (65 ≤ c ∧ c ≤ 90) ∨ c = 95)
def digit (c : Int) : Bool := decide (48 ≤ c ∧ c ≤ 57)
def nameB (c : UInt8) : Bool := letter c.toNat || digit c.toNat
def named (l : Tx) : Bool := match l with
 | [] => false
 | c :: r => decide (l.length ≤ 20) && (letter c.toNat && (c :: r).all nameB)
abbrev tFunc : Tx := [102, 117, 110, 99]
abbrev tRegs : Tx := [114, 101, 103, 115]
abbrev tParams : Tx := [112, 97, 114, 97, 109, 115]
abbrev tResult : Tx := [114, 101, 115, 117, 108, 116]
abbrev wX : Tx := [98, 108, 111, 99, 107]
abbrev tEnd : Tx := [101, 110, 100]
abbrev pW : Tx := [99, 111, 110, 115, 116]
abbrev tCopy : Tx := [99, 111, 112, 121]
abbrev tLoad : Tx := [108, 111, 97, 100]
abbrev tCall : Tx := [99, 97, 108, 108]
abbrev tStore : Tx := [115, 116, 111, 114, 101]
abbrev tBr : Tx := [98, 114]
abbrev tJump : Tx := [106, 117, 109, 112]
abbrev tRet : Tx := [114, 101, 116]
abbrev tEq : Tx := [61]
abbrev tTwo : Tx := [32, 32]
def vL (n : Int) : Bool := decide (0 ≤ n ∧ n ≤ 99999)
def sQ (i : Ins) : Ins :=
 if i.kind = 1 then { i with kind := 0, d := 0, n := 0 }
 else if i.kind = 2 ∨ i.kind = 4 then { i with kind := 0, d := 0, a := 0 }
 else if i.kind = 3 ∨ i.kind = 6 then { i with kind := 0, d := 0, name := [], args := [] }
 else if i.kind = 5 then { i with kind := 0, a := 0, b := 0 }
 else if i.kind = 7 then { i with kind := 0, a := 0, t := 0, f := 0 }
 else if i.kind = 8 then { i with kind := 0, t := 0 }
 else if i.kind = 9 then { i with kind := 0, a := 0 }
 else { i with kind := 0 }
def zeroI (i : Ins) : Bool := decide (i.kind = 0 ∧ i.d = 0 ∧ i.a = 0 ∧ i.b = 0 ∧ i.n = 0 ∧ i.name = [] ∧ i.args.length = 0 ∧ i.t = 0 ∧ i.f = 0)
def wordB (x : Tx) : Bool := [pW, tCopy, tLoad, tCall].any (x == ·)
def vA (i : Ins) : Bool := decide (1 ≤ i.kind) && decide (i.kind ≤ 9) && zeroI (sQ i) && [i.a, i.b, i.t, i.f].all vL && i.args.all vL && decide (i.args.length ≤ 16) &&
  (if i.kind = 3 then named i.name && !wordB i.name && decide (1 ≤ i.args.length) && decide (i.args.length ≤ 2) && vL i.d
   else if i.kind = 6 then named i.name && (decide (i.d = -1) || vL i.d) else vL i.d)
def sR (f : Fct) : Bool := named f.name && named f.result && decide (f.vregs.length ≤ 500) && decide (f.params.length ≤ 16) && decide (f.blocks.length ≤ 200) && f.params.all vL && f.vregs.all named &&
 f.blocks.all fun b => decide (b.length ≤ 400) && b.all vA
abbrev Res (α : Type) := Except Int (α × List Tx)
def nextW : List Tx → Res Tx
 | [] => .error 3
 | s :: r => .ok (s, r)
def wantW (x : Tx) (ws : List Tx) : Res Unit := match ws with
 | [] => .error 3
 | s :: r => if s == x then .ok ((), r) else .error 3
def rC (ws : List Tx) : Res Tx := match ws with
 | [] => .error 3
 | s :: r => if named s then .ok (s, r) else .error 3
def anyOf (s : Tx) : Option Int := match Lib.atoiAll s with
 | .ok v => if Lib.itoa v == s then some v else none
 | _ => none
theorem anyOf_ok {s : Tx} {a : Int} (h : Lib.atoiAll s = .ok a) : anyOf s = if Lib.itoa a == s then some a else none := by unfold anyOf; rw [h]
theorem anyOf_bad {s : Tx} (h : ∀ a, Lib.atoiAll s ≠ .ok a) : anyOf s = none := by
 unfold anyOf;split
 · rename_i v e; exact absurd e (h v)
 · rfl
def anyW (ws : List Tx) : Res Int := match ws with
 | [] => .error 3
 | s :: r => match anyOf s with
  | some v => .ok (v, r)
  | none => .error 3
def wB (ws : List Tx) : Res Int := match anyW ws with
 | .error e => .error e
 | .ok (v, r) => if vL v then .ok (v, r) else .error 3
def endW (ws : List Tx) : Res Unit := match ws with
 | [] => .ok ((), [])
 | _ :: _ => .error 3
def restW {α : Type} (one : List Tx → Res α) : Nat → List Tx → Res (List α)
 | _, [] => .ok ([], [])
 | 0, ws => .ok ([], ws)
 | k + 1, ws => match one ws with
  | .error e => .error e
  | .ok (x, r) => match restW one k r with
   | .error e => .error e
   | .ok (l, r') => .ok (x :: l, r')
theorem restW_ok {α : Type} {one : List Tx → Res α} {k : Nat} {s : Tx} {r r' ws' : List Tx} {x : α} {l : List α} (h1 : one (s :: r) = .ok (x, r')) (h2 : restW one k r' = .ok (l, ws')) : restW one (k + 1) (s :: r) = .ok (x :: l, ws') := by
 unfold restW; rw [h1]; dsimp only; rw [h2]
theorem restW_er1 {α : Type} {one : List Tx → Res α} {k : Nat} {s : Tx} {r : List Tx} {e : Int} (h1 : one (s :: r) = .error e) : restW one (k + 1) (s :: r) = .error e := by
 unfold restW; rw [h1]
theorem restW_er2 {α : Type} {one : List Tx → Res α} {k : Nat} {s : Tx} {r r' : List Tx} {x : α} {e : Int} (h1 : one (s :: r) = .ok (x, r')) (h2 : restW one k r' = .error e) : restW one (k + 1) (s :: r) = .error e := by
 unfold restW; rw [h1]; dsimp only; rw [h2]
def uZ (ws : List Tx) : Res (List Tx) := restW rC ws.length ws
def vQ (ws : List Tx) : Res (List Int) := restW wB ws.length ws
def rV (i : Ins) (ws : List Tx) : Res Ins := match rC ws with
 | .error e => .error e
 | .ok (s, r) => match vQ r with
  | .error e => .error e
  | .ok (l, r') => if l.length ≤ 16 then .ok ({ i with kind := 6, name := s, args := l }, r') else .error 2
def wC (ws : List Tx) : Res Ins := match wB ws with
 | .error e => .error e
 | .ok (d, r) => match wantW tEq r with
  | .error e => .error e
  | .ok (_, r) => match rC r with
   | .error e => .error e
   | .ok (s, r) =>
    if s == pW then (match anyW r with
     | .error e => .error e
     | .ok (v, r) => .ok ({ Ins.z with kind := 1, d := d, n := v }, r))
    else if s == tCopy then (match wB r with
     | .error e => .error e
     | .ok (v, r) => .ok ({ Ins.z with kind := 2, d := d, a := v }, r))
    else if s == tLoad then (match wB r with
     | .error e => .error e
     | .ok (v, r) => .ok ({ Ins.z with kind := 4, d := d, a := v }, r))
    else if s == tCall then rV { Ins.z with d := d } r
    else (match vQ r with
     | .error e => .error e
     | .ok (l, r') => if 1 ≤ l.length then (if l.length ≤ 2 then .ok ({ Ins.z with kind := 3, d := d, name := s, args := l }, r') else .error 3) else .error 3)
def wordAt1 (ws : List Tx) : Tx := (ws[1]?).getD []
def oneI (ws : List Tx) : Res Ins :=
 if wordAt1 ws == tEq then wC ws else match nextW ws with
 | .error e => .error e
 | .ok (s, r) =>
  if s == tStore then (match wB r with
   | .error e => .error e
   | .ok (a, r) => match wB r with
    | .error e => .error e
    | .ok (b, r) => .ok ({ Ins.z with kind := 5, a := a, b := b }, r))
  else if s == tCall then rV { Ins.z with d := -1 } r
  else if s == tBr then (match wB r with
   | .error e => .error e
   | .ok (a, r) => match wB r with
    | .error e => .error e
    | .ok (b, r) => match wB r with
     | .error e => .error e
     | .ok (c, r) => .ok ({ Ins.z with kind := 7, a := a, t := b, f := c }, r))
  else if s == tJump then (match wB r with
   | .error e => .error e
   | .ok (a, r) => .ok ({ Ins.z with kind := 8, t := a }, r))
  else if s == tRet then (match wB r with
   | .error e => .error e
   | .ok (a, r) => .ok ({ Ins.z with kind := 9, a := a }, r))
  else .error 3
def ofW (line head : Tx) : Except Int (List Tx) :=
 if Lib.hasPrefix line head && !(Lib.trimPrefix line head == []) then
  (if (wV 32 (Lib.trimPrefix line head)).all (fun s => !(s == [])) then .ok (wV 32 (Lib.trimPrefix line head)) else .error 3)
 else .error 3
structure St where
 step : Nat
 opn : Bool
 ended : Bool
 f : Fct
def St.z : St := ⟨0, false, false, Fct.z⟩
def sF (st : St) (ws : List Tx) : Except Int Fct := match st.step with
 | 0 => match wantW tFunc ws with
  | .error e => .error e
  | .ok (_, r) => match rC r with
   | .error e => .error e
   | .ok (s, r) => match endW r with
    | .error e => .error e
    | .ok _ => .ok { st.f with name := s }
 | 1 => match wantW tRegs ws with
  | .error e => .error e
  | .ok (_, r) => match uZ r with
   | .error e => .error e
   | .ok (l, _) => if l.length ≤ 500 then .ok { st.f with vregs := l } else .error 2
 | 2 => match wantW tParams ws with
  | .error e => .error e
  | .ok (_, r) => match vQ r with
   | .error e => .error e
   | .ok (l, _) => if l.length ≤ 16 then .ok { st.f with params := l } else .error 2
 | _ => match wantW tResult ws with
  | .error e => .error e
  | .ok (_, r) => match rC r with
   | .error e => .error e
   | .ok (s, r) => match endW r with
    | .error e => .error e
    | .ok _ => .ok { st.f with result := s }
theorem headS_blocks {st : St} {ws : List Tx} {f' : Fct} (h : sF st ws = .ok f') : f'.blocks = st.f.blocks := by
 unfold sF at h;repeat' (split at h)
 all_goals first
  | (cases h; done)
  | (injection h with h; subst h; rfl)
def pX (l : List (List Ins)) (i : Ins) : List (List Ins) := l.dropLast ++ [l.getLastD [] ++ [i]]
def insS (st : St) (ws : List Tx) : Except Int Fct := match oneI ws with
 | .error e => .error e
 | .ok (i, r) => match endW r with
  | .error e => .error e
  | .ok _ => if (st.f.blocks.getLastD []).length < 400 then .ok { st.f with blocks := pX st.f.blocks i } else .error 2
theorem insS_blocks {st : St} {ws : List Tx} {f' : Fct} (h : insS st ws = .ok f') : f'.blocks ≠ [] := by
 unfold insS at h;repeat' (split at h)
 all_goals first
  | (cases h; done)
  | (injection h with h; subst h; simp [pX])
def wT (st : St) (s : Tx) : Except Int St :=
 if !st.ended && !(s == []) then
  if st.step < 4 then (match ofW s [] with
   | .error e => .error e
   | .ok ws => match sF st ws with
    | .error e => .error e
    | .ok f => .ok { st with step := st.step + 1, f := f })
  else if s == tEnd then .ok { st with ended := true }
  else if s == wX then (if st.f.blocks.length < 200 then .ok { st with opn := true, f := { st.f with blocks := st.f.blocks ++ [[]] } } else .error 2)
  else if st.opn then (match ofW s tTwo with
   | .error e => .error e
   | .ok ws => match insS st ws with
    | .error e => .error e
    | .ok f => .ok { st with f := f })
  else .error 3
 else .error 3
def rE (s : Tx) : Tx := if (cutB 10 s).2.2 then (cutB 10 s).1 else []
def runS : Nat → Nat → Tx → St → Except (Nat × Int) (St × Nat)
 | 0, no, _, st => .ok (st, no)
 | k + 1, no, s, st =>
  if s == [] then .ok (st, no)
  else match wT st (rE s) with
   | .error e => .error (no, e)
   | .ok st' => runS k (no + 1) (cutB 10 s).2.1 st'
def tellS (r : Except (Nat × Int) (St × Nat)) : Fct × Int × Int := match r with
 | .error (no, e) => (Fct.z, no, e)
 | .ok (st, no) => if st.ended then (st.f, 0, 0) else (Fct.z, no, 3)
def readS (s : Tx) : Fct × Int × Int := if 65536 < s.length then (Fct.z, 0, 2) else tellS (runS (s.length + 1) 1 s St.z)
def Bad (e : Int) : Prop := e = 2 ∨ e = 3
theorem wantW_bad {x : Tx} {ws : List Tx} {e : Int} (h : wantW x ws = .error e) : Bad e := by
 unfold wantW at h;repeat' (split at h)
 all_goals first
  | (cases h; done)
  | (injection h with h; exact .inr h.symm)
theorem nameW_bad {ws : List Tx} {e : Int} (h : rC ws = .error e) : Bad e := by
 unfold rC at h;repeat' (split at h)
 all_goals first
  | (cases h; done)
  | (injection h with h; exact .inr h.symm)
theorem nextW_bad {ws : List Tx} {e : Int} (h : nextW ws = .error e) : Bad e := by
 unfold nextW at h;repeat' (split at h)
 all_goals first
  | (cases h; done)
  | (injection h with h; exact .inr h.symm)
theorem anyW_bad {ws : List Tx} {e : Int} (h : anyW ws = .error e) : Bad e := by
 unfold anyW at h;repeat' (split at h)
 all_goals first
  | (cases h; done)
  | (injection h with h; exact .inr h.symm)
theorem numberW_bad {ws : List Tx} {e : Int} (h : wB ws = .error e) : Bad e := by
 unfold wB at h;split at h
 · rename_i e' h1; injection h with h; subst h; exact anyW_bad h1
 · split at h
   · cases h
   · injection h with h; exact .inr h.symm
theorem endW_bad {ws : List Tx} {e : Int} (h : endW ws = .error e) : Bad e := by
 unfold endW at h;repeat' (split at h)
 all_goals first
  | (cases h; done)
  | (injection h with h; exact .inr h.symm)
theorem restW_bad {α : Type} {one : List Tx → Res α} (ho : ∀ ws e, one ws = .error e → Bad e) : ∀ (k : Nat) (ws : List Tx) (e : Int), restW one k ws = .error e → Bad e := by
 intro k
 induction k with
 | zero => intro ws e h; cases ws <;> cases h
 | succ k ih =>
  intro ws e h
  cases ws with
  | nil => cases h
  | cons s r =>
   cases h1 : one (s :: r) with
   | error e' => rw [restW_er1 h1] at h; injection h with h; subst h; exact ho _ _ h1
   | ok p =>
    obtain ⟨x, r'⟩ := p
    cases h2 : restW one k r' with
    | error e' => rw [restW_er2 h1 h2] at h; injection h with h; subst h; exact ih _ _ h2
    | ok q => obtain ⟨l, r2⟩ := q; rw [restW_ok h1 h2] at h; cases h
theorem restNames_bad {ws : List Tx} {e : Int} (h : uZ ws = .error e) : Bad e := restW_bad (fun _ _ => nameW_bad) _ _ _ h
theorem restNums_bad {ws : List Tx} {e : Int} (h : vQ ws = .error e) : Bad e := restW_bad (fun _ _ => numberW_bad) _ _ _ h
theorem calledI_bad {i : Ins} {ws : List Tx} {e : Int} (h : rV i ws = .error e) : Bad e := by
 unfold rV at h;split at h
 · rename_i h1; injection h with h; subst h; exact nameW_bad h1
 · split at h
   · rename_i h1; injection h with h; subst h; exact restNums_bad h1
   · split at h
     · cases h
     · injection h with h; exact .inl h.symm
theorem definingI_bad {ws : List Tx} {e : Int} (h : wC ws = .error e) : Bad e := by
 unfold wC at h;repeat' (split at h)
 all_goals first
  | (cases h; done)
  | exact calledI_bad h
  | (rename_i h1; injection h with h; subst h; first | exact numberW_bad h1 | exact wantW_bad h1 | exact nameW_bad h1 | exact anyW_bad h1 | exact restNums_bad h1)
  | (injection h with h; exact .inr h.symm)
theorem oneI_bad {ws : List Tx} {e : Int} (h : oneI ws = .error e) : Bad e := by
 unfold oneI at h;repeat' (split at h)
 all_goals first
  | (cases h; done)
  | exact calledI_bad h
  | exact definingI_bad h
  | (rename_i h1; injection h with h; subst h; first | exact numberW_bad h1 | exact nextW_bad h1)
  | (injection h with h; exact .inr h.symm)
theorem ofW_bad {s hd : Tx} {e : Int} (h : ofW s hd = .error e) : Bad e := by
 unfold ofW at h;repeat' (split at h)
 all_goals first
  | (cases h; done)
  | (injection h with h; exact .inr h.symm)
theorem headS_bad {st : St} {ws : List Tx} {e : Int} (h : sF st ws = .error e) : Bad e := by
 unfold sF at h;repeat' (split at h)
 all_goals first
  | (cases h; done)
  | (rename_i h1; injection h with h; subst h; first | exact wantW_bad h1 | exact nameW_bad h1 | exact endW_bad h1 | exact restNames_bad h1 | exact restNums_bad h1)
  | (injection h with h; exact .inl h.symm)
theorem insS_bad {st : St} {ws : List Tx} {e : Int} (h : insS st ws = .error e) : Bad e := by
 unfold insS at h;repeat' (split at h)
 all_goals first
  | (cases h; done)
  | (rename_i h1; injection h with h; subst h; first | exact oneI_bad h1 | exact endW_bad h1)
  | (injection h with h; exact .inl h.symm)
theorem lineS_bad {st : St} {s : Tx} {e : Int} (h : wT st s = .error e) : Bad e := by
 unfold wT at h;repeat' (split at h)
 all_goals first
  | (cases h; done)
  | (rename_i h1; injection h with h; subst h; first | exact ofW_bad h1 | exact headS_bad h1 | exact insS_bad h1)
  | (injection h with h; exact .inl h.symm)
  | (injection h with h; exact .inr h.symm)
def RunOK : Nat → Tx → St → (St → Tx → Prop) → Prop
 | 0, _, _, _ => True
 | k + 1, s, st, Q => s = [] ∨ (Q st (rE s) ∧ ∀ st', wT st (rE s) = .ok st' → RunOK k (cutB 10 s).2.1 st' Q)
theorem cutB_len (c : UInt8) : ∀ s : Tx, s ≠ [] → (cutB c s).2.1.length < s.length ∧ (cutB c s).1.length ≤ s.length := by
 intro s
 induction s with
 | nil => intro h; exact absurd rfl h
 | cons a r ih =>
  intro _;unfold cutB;split
  · simp
  · cases r with
    | nil => simp [cutB]
    | cons b t =>
     have := ih (by simp);simp only [List.length_cons] at this ⊢;omega
theorem lineOf_len (s : Tx) : (rE s).length ≤ s.length := by
 unfold rE;split
 · cases s with
   | nil => simp [cutB]
   | cons a r => exact (cutB_len 10 (a :: r) (by simp)).2
 · simp
theorem runS_nil (k no : Nat) (st : St) : runS (k + 1) no [] st = .ok (st, no) := rfl
theorem runS_er {k no : Nat} {s : Tx} {st : St} {e : Int} (hs : (s == []) = false) (h : wT st (rE s) = .error e) : runS (k + 1) no s st = .error (no, e) := by
 unfold runS; rw [hs, h]; rfl
theorem runS_ok {k no : Nat} {s : Tx} {st st' : St} (hs : (s == []) = false) (h : wT st (rE s) = .ok st') : runS (k + 1) no s st = runS k (no + 1) (cutB 10 s).2.1 st' := by
 conv => lhs; unfold runS
 rw [hs, h]; rfl
theorem runS_bad : ∀ (k no : Nat) (s : Tx) (st : St) (no' : Nat) (e : Int), runS k no s st = .error (no', e) → Bad e := by
 intro k
 induction k with
 | zero => intro no s st no' e h; cases h
 | succ k ih =>
  intro no s st no' e h
  cases hs : (s == []) with
  | true =>
   have : s = [] := by simpa using hs
   subst this;rw [runS_nil] at h; cases h
  | false =>
   cases hl : wT st (rE s) with
   | error e' => rw [runS_er hs hl] at h; injection h with h; injection h with _ h; subst h; exact lineS_bad hl
   | ok st' => rw [runS_ok hs hl] at h; exact ih _ _ _ _ _ h
theorem dec_ofNat {k : Nat} (h : k < 10) : (UInt8.ofNat (48 + k)).toNat = 48 + k := by
 rw [UInt8.toNat_ofNat'];omega
theorem decDigits_dig (u : Nat) : ∀ c ∈ Lib.decDigits u, 48 ≤ c.toNat ∧ c.toNat ≤ 57 := by
 induction u using Nat.strongRecOn with
 | _ u ih =>
  intro c hc;rw [Lib.decDigits] at hc;split at hc
  · rename_i h;simp only [List.mem_cons, List.not_mem_nil, or_false] at hc;subst hc;rw [dec_ofNat h]; omega
  · rename_i h;rw [List.mem_append] at hc;rcases hc with hc | hc
    · exact ih (u / 10) (by omega) c hc
    · simp only [List.mem_cons, List.not_mem_nil, or_false] at hc;subst hc;rw [dec_ofNat (by omega)]; omega
theorem decDigits_ne (u : Nat) : Lib.decDigits u ≠ [] := by
 rw [Lib.decDigits];split
 · simp
 · simp
theorem itoa_chars (n : Int) : ∀ c ∈ Lib.itoa n, c.toNat = 45 ∨ (48 ≤ c.toNat ∧ c.toNat ≤ 57) := by
 intro c hc;unfold Lib.itoa at hc;split at hc
 · rw [List.mem_cons] at hc;rcases hc with rfl | hc
   · exact .inl rfl
   · exact .inr (decDigits_dig _ c hc)
 · exact .inr (decDigits_dig _ c hc)
theorem itoa_ne (n : Int) : Lib.itoa n ≠ [] := by
 unfold Lib.itoa;split
 · simp
 · exact decDigits_ne _
theorem parse_append (l : List UInt8) (c : UInt8) : ∀ (acc u : Nat), Lib.parseUint10 acc l = .ok u → Lib.parseUint10 acc (l ++ [c]) = Lib.parseUint10 u [c] := by
 induction l with
 | nil => intro acc u h; simp only [Lib.parseUint10] at h; injection h with h; subst h; rfl
 | cons x r ih =>
  intro acc u h;rw [List.cons_append];simp only [Lib.parseUint10] at h ⊢;split at h
  · split at h
    · cases h
    · split at h
      · cases h
      · rename_i h1 h2 h3;rw [if_pos h1, if_neg h2, if_neg h3];exact ih _ _ h
  · cases h
theorem parse_dec (u : Nat) (hu : u < 18446744073709551616) : Lib.parseUint10 0 (Lib.decDigits u) = .ok u := by
 induction u using Nat.strongRecOn with
 | _ u ih =>
  rw [Lib.decDigits];split
  · rename_i h;have e := dec_ofNat h;simp only [Lib.parseUint10, e];rw [if_pos (by omega), if_neg (by omega), if_neg (by omega)];congr 1; omega
  · rename_i h;rw [parse_append _ _ 0 (u / 10) (ih (u / 10) (by omega) (by omega))];have e := dec_ofNat (show u % 10 < 10 by omega);simp only [Lib.parseUint10, e];rw [if_pos (by omega), if_neg (by omega), if_neg (by omega)];congr 1; omega
theorem parseMag_dec (u : Nat) (hu : u < 18446744073709551616) : Lib.parseMag (Lib.decDigits u) = .ok u := by
 unfold Lib.parseMag;rw [if_neg (decDigits_ne u), parse_dec u hu]
def Go64 (x : Int) : Prop := -9223372036854775808 ≤ x ∧ x ≤ 9223372036854775807
theorem atoi_itoa {n : Int} (h : Go64 n) : Lib.atoiAll (Lib.itoa n) = .ok n := by
 obtain ⟨h0, h1⟩ := h;unfold Lib.itoa;split
 · rename_i hn;have hm := parseMag_dec n.natAbs (by omega);unfold Lib.atoiAll;dsimp only;have e45 : (45 : UInt8).toNat = 45 := rfl;rw [e45, if_pos (by omega), hm];dsimp only;rw [if_neg (by omega), if_neg (by omega), if_pos rfl];congr 1; omega
 · rename_i hn;have hm := parseMag_dec n.toNat (by omega);have hd := decDigits_dig n.toNat;revert hm hd
   cases e : Lib.decDigits n.toNat with
   | nil => exact absurd e (decDigits_ne _)
   | cons c r =>
    intro hm hd;have hc := hd c (List.mem_cons_self ..);unfold Lib.atoiAll;dsimp only;rw [if_neg (by omega), hm];dsimp only;rw [if_neg (by omega), if_neg (by omega), if_neg (by omega)];congr 1; omega
theorem any_itoa {n : Int} (h : Go64 n) : anyOf (Lib.itoa n) = some n := by
 rw [anyOf_ok (atoi_itoa h), if_pos (by simp)]
theorem rL {n : Int} (h : vL n = true) : Go64 n := by
 have := of_decide_eq_true h;exact ⟨by omega, by omega⟩
theorem anyW_itoa {n : Int} (h : Go64 n) (r : List Tx) : anyW (Lib.itoa n :: r) = .ok (n, r) := by
 unfold anyW; dsimp only; rw [any_itoa h]
theorem wY {n : Int} (h : vL n = true) (r : List Tx) : wB (Lib.itoa n :: r) = .ok (n, r) := by
 unfold wB; rw [anyW_itoa (rL h)]; dsimp only; rw [if_pos h]
theorem restNums_itoa : ∀ (ns : List Int) (k : Nat), ns.length ≤ k → ns.all vL = true → restW wB k (ns.map Lib.itoa) = .ok (ns, []) := by
 intro ns
 induction ns with
 | nil => intro k _ _; cases k <;> rfl
 | cons x r ih =>
  intro k hk ha;obtain ⟨k, rfl⟩ : ∃ j, k = j + 1 := ⟨k - 1, by simp at hk; omega⟩;rw [List.all_cons, Bool.and_eq_true] at ha;rw [List.map_cons];exact restW_ok (wY ha.1 _) (ih k (by simpa using hk) ha.2)
theorem rM {ns : List Int} (ha : ns.all vL = true) : vQ (ns.map Lib.itoa) = .ok (ns, []) :=
 restNums_itoa ns _ (by simp) ha
theorem qC {s : Tx} (h : named s = true) (r : List Tx) : rC (s :: r) = .ok (s, r) := by
 unfold rC; dsimp only; rw [if_pos h]
theorem sS (x : Tx) (r : List Tx) : wantW x (x :: r) = .ok ((), r) := by
 unfold wantW; dsimp only; rw [if_pos (by simp)]
theorem restNames_ok : ∀ (ns : List Tx) (k : Nat), ns.length ≤ k → ns.all named = true → restW rC k ns = .ok (ns, []) := by
 intro ns
 induction ns with
 | nil => intro k _ _; cases k <;> rfl
 | cons x r ih =>
  intro k hk ha;obtain ⟨k, rfl⟩ : ∃ j, k = j + 1 := ⟨k - 1, by simp at hk; omega⟩;rw [List.all_cons, Bool.and_eq_true] at ha;exact restW_ok (qC ha.1 _) (ih k (by simpa using hk) ha.2)
def sU (s : Tx) : Prop := s ≠ [] ∧ (32 : UInt8) ∉ s ∧ (10 : UInt8) ∉ s
theorem nameB_ne {c : UInt8} (h : nameB c = true) : c ≠ 32 ∧ c ≠ 10 ∧ c ≠ 61 := by
 refine ⟨?_, ?_, ?_⟩ <;> (intro e; subst e; revert h; decide)
theorem qD {s : Tx} (h : named s = true) : sU s ∧ s ≠ tEq := by
 unfold named at h;split at h
 · cases h
 · rename_i c r;rw [Bool.and_eq_true, Bool.and_eq_true] at h;obtain ⟨_, _, h⟩ := h;have h' := List.all_eq_true.1 h;refine ⟨⟨by simp, fun hm => (nameB_ne (h' _ hm)).1 rfl, fun hm => (nameB_ne (h' _ hm)).2.1 rfl⟩, fun e => ?_⟩;injection e with e _
   exact (nameB_ne (h' c (List.mem_cons_self ..))).2.2 e
theorem itoa_word (n : Int) : sU (Lib.itoa n) := by
 refine ⟨itoa_ne n, fun h => ?_, fun h => ?_⟩ <;> (have := itoa_chars n _ h; revert this; decide)
theorem itoa_ne_eq (n : Int) : Lib.itoa n ≠ tEq := by
 intro e;have := itoa_chars n 61 (by rw [e]; exact List.mem_cons_self ..);revert this; decide
theorem splitL_no {c : UInt8} : ∀ {s : Tx}, c ∉ s → wV c s = [s] := by
 intro s
 induction s with
 | nil => intro _; rfl
 | cons a r ih =>
  intro h;rw [List.mem_cons, not_or] at h;unfold wV;rw [if_neg (fun e => h.1 e.symm), ih h.2]
theorem splitL_at {c : UInt8} {t : Tx} : ∀ {s : Tx}, c ∉ s → wV c (s ++ c :: t) = s :: wV c t := by
  intro s
  induction s with
  | nil => intro _; show wV c (c :: t) = _; conv => lhs; unfold wV
           rw [if_pos rfl]
  | cons a r ih =>
    intro h;rw [List.mem_cons, not_or] at h;rw [List.cons_append];conv => lhs; unfold wV
    rw [if_neg (fun e => h.1 e.symm), ih h.2]
theorem join_two (x y : Tx) (r : List Tx) (c : UInt8) : Lib.join (x :: y :: r) [c] = x ++ c :: Lib.join (y :: r) [c] := by
 rw [Lib.join_cons, Lib.join_cons];unfold Lib.joinTail;simp
theorem splitL_join {ws : List Tx} : ∀ {w : Tx}, (∀ s ∈ w :: ws, (32 : UInt8) ∉ s) → wV 32 (Lib.join (w :: ws) [32]) = w :: ws := by
 induction ws with
 | nil => intro w h; rw [Lib.join_one]; exact splitL_no (h w (List.mem_cons_self ..))
 | cons y r ih =>
  intro w h;rw [join_two, splitL_at (h w (List.mem_cons_self ..)), ih fun s hs => h s (List.mem_cons_of_mem _ hs)]
theorem join_no {c : UInt8} (hc : c ≠ 32) {ws : List Tx} : ∀ {w : Tx}, (∀ s ∈ w :: ws, c ∉ s) → c ∉ Lib.join (w :: ws) [32] := by
 induction ws with
 | nil => intro w h; rw [Lib.join_one]; exact h w (List.mem_cons_self ..)
 | cons y r ih =>
  intro w h;rw [join_two, List.mem_append, List.mem_cons]
  rintro (e | e | e)
  · exact h w (List.mem_cons_self ..) e
  · exact hc e
  · exact ih (fun s hs => h s (List.mem_cons_of_mem _ hs)) e
theorem join_ne {w : Tx} (ws : List Tx) (h : w ≠ []) : Lib.join (w :: ws) [32] ≠ [] := by
 rw [Lib.join_cons];intro e;exact h (List.append_eq_nil_iff.1 e).1
theorem ofW_join {hd w : Tx} {ws : List Tx} (h : ∀ s ∈ w :: ws, sU s) : ofW (hd ++ Lib.join (w :: ws) [32]) hd = .ok (w :: ws) := by
 have e1 : Lib.hasPrefix (hd ++ Lib.join (w :: ws) [32]) hd = true := by
  unfold Lib.hasPrefix;rw [List.isPrefixOf_iff_prefix];exact List.prefix_append ..
 have e2 : Lib.trimPrefix (hd ++ Lib.join (w :: ws) [32]) hd = Lib.join (w :: ws) [32] := by
  unfold Lib.trimPrefix;rw [if_pos e1, List.drop_left]
 have e3 := splitL_join (w := w) (ws := ws) fun s hs => (h s hs).2.1
 have e4 : (Lib.join (w :: ws) [32] == []) = false := by
  rw [beq_eq_false_iff_ne];exact join_ne ws (h w (List.mem_cons_self ..)).1
 have e5 : (w :: ws).all (fun s => !(s == [])) = true := by
  rw [List.all_eq_true];intro s hs;have := (h s hs).1;simpa using this
 unfold ofW;rw [e1, e2, e3, e4, e5];rfl
def showI (i : Ins) : List Tx :=
 if i.kind = 1 then [Lib.itoa i.d, tEq, pW, Lib.itoa i.n]
 else if i.kind = 2 then [Lib.itoa i.d, tEq, tCopy, Lib.itoa i.a]
 else if i.kind = 3 then [Lib.itoa i.d, tEq, i.name] ++ i.args.map Lib.itoa
 else if i.kind = 4 then [Lib.itoa i.d, tEq, tLoad, Lib.itoa i.a]
 else if i.kind = 5 then [tStore, Lib.itoa i.a, Lib.itoa i.b]
 else if i.kind = 6 then (if i.d = -1 then [] else [Lib.itoa i.d, tEq]) ++ [tCall, i.name] ++ i.args.map Lib.itoa
 else if i.kind = 7 then [tBr, Lib.itoa i.a, Lib.itoa i.t, Lib.itoa i.f]
 else if i.kind = 8 then [tJump, Lib.itoa i.t]
 else [tRet, Lib.itoa i.a]
def InsAll (i : Ins) : Prop := Go64 i.d ∧ Go64 i.a ∧ Go64 i.b ∧ Go64 i.n ∧ Go64 i.t ∧ Go64 i.f ∧ (∀ x ∈ i.args, Go64 x) ∧ i.args.length < 50000
theorem plainI_of {i : Ins} (h : vA i = true) : (1 ≤ i.kind ∧ i.kind ≤ 9) ∧ zeroI (sQ i) = true ∧ (vL i.a = true ∧ vL i.b = true ∧ vL i.t = true ∧ vL i.f = true) ∧ i.args.all vL = true ∧ i.args.length ≤ 16 ∧
    (if i.kind = 3 then named i.name && !wordB i.name && decide (1 ≤ i.args.length) && decide (i.args.length ≤ 2) && vL i.d
     else if i.kind = 6 then named i.name && (decide (i.d = -1) || vL i.d) else vL i.d) = true := by
  unfold vA at h;simp only [Bool.and_eq_true, decide_eq_true_eq] at h;obtain ⟨⟨⟨⟨⟨⟨h1, h2⟩, h3⟩, h4⟩, h5⟩, h6⟩, h7⟩ := h;simp only [List.all_cons, List.all_nil, Bool.and_true, Bool.and_eq_true] at h4;exact ⟨⟨h1, h2⟩, h3, ⟨h4.1, h4.2.1, h4.2.2.1, h4.2.2.2⟩, h5, h6, h7⟩
theorem zero_of {i : Ins} (h : zeroI i = true) : i = Ins.z := by
 unfold zeroI at h;obtain ⟨kind, d, a, b, n, name, args, t, f⟩ := i;obtain ⟨h1, h2, h3, h4, h5, h6, h7, h8, h9⟩ := of_decide_eq_true h;dsimp only at h1 h2 h3 h4 h5 h6 h7 h8 h9;have := List.length_eq_zero_iff.1 h7;subst h1 h2 h3 h4 h5 h6 this h8 h9;rfl
theorem tk : named pW = true ∧ named tCopy = true ∧ named tLoad = true ∧ named tCall = true := by decide
theorem oneI_def {d : Int} {r : List Tx} : oneI (Lib.itoa d :: tEq :: r) = wC (Lib.itoa d :: tEq :: r) := by
 unfold oneI;rw [if_pos (by rfl)]
theorem pY {s w : Tx} {r : List Tx} (h : s ≠ tEq) : (wordAt1 (w :: s :: r) == tEq) = false := by
 rw [beq_eq_false_iff_ne]; exact h
theorem oneI_show {i : Ins} (h : vA i = true) (hn : Go64 i.n) : oneI (showI i) = .ok (i, []) := by
 obtain ⟨⟨h1, h2⟩, h3, ⟨ha, hb, ht, hf⟩, hargs, hal, hk⟩ := plainI_of h;have hz := zero_of h3;have d1 : ∀ {d : Int} {r : List Tx} , vL d = true → wB (Lib.itoa d :: tEq :: r) = .ok (d, tEq :: r) := fun hd => wY hd _;unfold sQ at hz;unfold showI;obtain ⟨kind, d, a, b, n, name, args, t, f⟩ := i;dsimp only at h1 h2 h3 ha hb ht hf hargs hal hk hz hn ⊢;have cs : kind = 1 ∨ kind = 2 ∨ kind = 3 ∨ kind = 4 ∨ kind = 5 ∨ kind = 6 ∨ kind = 7 ∨ kind = 8 ∨ kind = 9 := by omega
 have hz' := hz;rcases cs with rfl | rfl | rfl | rfl | rfl | rfl | rfl | rfl | rfl <;> simp [Ins.z] at hz hk ⊢
 · obtain ⟨rfl, rfl, rfl, rfl, rfl, rfl⟩ := hz;rw [oneI_def]; unfold wC;rw [d1 hk]; dsimp only; rw [sS]; dsimp only; rw [qC tk.1]; dsimp only;rw [if_pos (by rfl), anyW_itoa hn]; rfl
 · obtain ⟨rfl, rfl, rfl, rfl, rfl, rfl⟩ := hz;rw [oneI_def]; unfold wC;rw [d1 hk]; dsimp only; rw [sS]; dsimp only; rw [qC tk.2.1]; dsimp only;rw [if_neg (by decide), if_pos (by rfl), wY ha]; rfl
 · obtain ⟨rfl, rfl, rfl, rfl, rfl⟩ := hz;obtain ⟨⟨⟨⟨k1, k2⟩, k3⟩, k4⟩, k5⟩ := hk
   have w : ∀ x, x = pW ∨ x = tCopy ∨ x = tLoad ∨ x = tCall → (name == x) = false := fun x hx => by
    cases e : (name == x) with
    | false => rfl
    | true =>
     have : name = x := by simpa using e
     subst this;rcases hx with rfl | rfl | rfl | rfl <;> (revert k2; decide)
   rw [oneI_def]; unfold wC;rw [d1 k5]; dsimp only; rw [sS]; dsimp only; rw [qC k1]; dsimp only;rw [w pW (by simp), w tCopy (by simp), w tLoad (by simp), w tCall (by simp)];simp only [Bool.false_eq_true, reduceIte];rw [rM hargs]; dsimp only;rw [if_pos (by omega), if_pos k4]; rfl
 · obtain ⟨rfl, rfl, rfl, rfl, rfl, rfl⟩ := hz;rw [oneI_def]; unfold wC;rw [d1 hk]; dsimp only; rw [sS]; dsimp only; rw [qC tk.2.2.1]; dsimp only;rw [if_neg (by decide), if_neg (by decide), if_pos (by rfl), wY ha]; rfl
 · obtain ⟨rfl, rfl, rfl, rfl, rfl, rfl⟩ := hz;unfold oneI;rw [pY (itoa_ne_eq a)];simp only [Bool.false_eq_true, reduceIte, nextW];rw [if_pos (by rfl), wY ha]; dsimp only; rw [wY hb]; rfl
 · obtain ⟨rfl, rfl, rfl, rfl, rfl⟩ := hz;obtain ⟨k1, k2⟩ := hk
   have hc : ∀ j : Ins, rV j (name :: args.map Lib.itoa) = .ok ({ j with kind := 6, name := name, args := args }, []) := fun j => by
    unfold rV;rw [qC k1]; dsimp only; rw [rM hargs]; dsimp only; rw [if_pos hal]
   by_cases hd : d = -1
   · subst hd;rw [if_pos rfl];unfold oneI;rw [List.nil_append, pY (qD k1).2];simp only [Bool.false_eq_true, reduceIte, nextW];rw [if_neg (by decide), if_pos (by rfl), hc]; rfl
   · rw [if_neg hd];have k3 : vL d = true := k2.resolve_left hd;show oneI (Lib.itoa d :: tEq :: tCall :: name :: args.map Lib.itoa) = _;rw [oneI_def]; unfold wC;rw [d1 k3]; dsimp only; rw [sS]; dsimp only; rw [qC tk.2.2.2]; dsimp only;rw [if_neg (by decide), if_neg (by decide), if_neg (by decide), if_pos (by rfl), hc]; rfl
 · obtain ⟨rfl, rfl, rfl, rfl, rfl⟩ := hz;unfold oneI;rw [pY (itoa_ne_eq a)];simp only [Bool.false_eq_true, reduceIte, nextW];rw [if_neg (by decide), if_neg (by decide), if_pos (by rfl), wY ha]; dsimp only; rw [wY ht]; dsimp only; rw [wY hf]; rfl
 · obtain ⟨rfl, rfl, rfl, rfl, rfl, rfl, rfl⟩ := hz;unfold oneI;rw [pY (itoa_ne_eq t)];simp only [Bool.false_eq_true, reduceIte, nextW];rw [if_neg (by decide), if_neg (by decide), if_neg (by decide), if_pos (by rfl), wY ht]; rfl
 · obtain ⟨rfl, rfl, rfl, rfl, rfl, rfl, rfl⟩ := hz;unfold oneI;rw [pY (itoa_ne_eq a)];simp only [Bool.false_eq_true, reduceIte, nextW];rw [if_neg (by decide), if_neg (by decide), if_neg (by decide), if_neg (by decide), if_pos (by rfl), wY ha]; rfl
theorem cutB_at {c : UInt8} {t : Tx} : ∀ {s : Tx}, c ∉ s → cutB c (s ++ c :: t) = (s, t, true) := by
 intro s
 induction s with
 | nil => intro _; show cutB c (c :: t) = _; unfold cutB; rw [if_pos rfl]
 | cons a r ih =>
  intro h;rw [List.mem_cons, not_or] at h;rw [List.cons_append];unfold cutB;rw [if_neg (fun e => h.1 e.symm), ih h.2]
theorem lineOf_at {s t : Tx} (h : (10 : UInt8) ∉ s) : rE (s ++ 10 :: t) = s ∧ (cutB 10 (s ++ 10 :: t)).2.1 = t := by
 unfold rE;rw [cutB_at h];exact ⟨rfl, rfl⟩
def sB : List Tx → St → Option St
 | [], st => some st
 | l :: r, st => match wT st l with
  | .ok st' => sB r st'
  | .error _ => none
theorem vD {l : Tx} {r : List Tx} {st st' : St} (h : wT st l = .ok st') : sB (l :: r) st = sB r st' := by
 show (match wT st l with | .ok st' => sB r st' | .error _ => none) = _;rw [h]
theorem sV {r : List Tx} : ∀ {l : List Tx} {st st' : St}, sB l st = some st' → sB (l ++ r) st = sB r st' := by
 intro l
 induction l with
 | nil => intro st st' h; injection h with h; subst h; rfl
 | cons a l ih =>
  intro st st' h
  cases e : wT st a with
  | error x => simp only [sB, e] at h; cases h
  | ok st1 => rw [vD e] at h; rw [List.cons_append, vD e]; exact ih h
def wD (ls : List Tx) : Tx := ls.flatMap (· ++ [10])
theorem wU (l : Tx) (r : List Tx) : wD (l :: r) = l ++ 10 :: wD r := by
 unfold wD; rw [List.flatMap_cons, List.append_assoc]; rfl
theorem uP (a b : List Tx) : wD (a ++ b) = wD a ++ wD b := by unfold wD; rw [List.flatMap_append]
theorem textL_len (ls : List Tx) : ls.length ≤ (wD ls).length := by
 induction ls with
 | nil => exact Nat.le_refl _
 | cons l r ih => rw [wU]; simp only [List.length_cons, List.length_append]; omega
theorem runS_lines {Q : St → Tx → Prop} (hQ : ∀ st l st', wT st l = .ok st' → Q st l) (t : Tx) : ∀ (ls : List Tx), (∀ l ∈ ls, (10 : UInt8) ∉ l) → ∀ (k no : Nat) (st st' : St), sB ls st = some st' →
 runS (k + ls.length) no (wD ls ++ t) st = runS k (no + ls.length) t st' ∧ (RunOK k t st' Q → RunOK (k + ls.length) (wD ls ++ t) st Q) := by
 intro ls
 induction ls with
 | nil => intro _ k no st st' h; injection h with h; subst h; exact ⟨rfl, fun h => h⟩
 | cons l r ih =>
  intro hl k no st st' h
  cases e : wT st l with
  | error x => simp only [sB, e] at h; cases h
  | ok st1 =>
   rw [vD e] at h;obtain ⟨i1, i2⟩ := ih (fun x hx => hl x (List.mem_cons_of_mem _ hx)) k (no + 1) st1 st' h;have hat := lineOf_at (t := wD r ++ t) (hl l (List.mem_cons_self ..));have et : wD (l :: r) ++ t = l ++ 10 :: (wD r ++ t) := by rw [wU, List.append_assoc]; rfl
   have ek : k + (l :: r).length = (k + r.length) + 1 := by rw [List.length_cons]; omega
   rw [et, ek];constructor
   · rw [runS_ok (by cases l <;> rfl) (by rw [hat.1]; exact e), hat.2, i1];congr 1; rw [List.length_cons]; omega
   · intro hr;refine .inr ⟨by rw [hat.1]; exact hQ _ _ _ e, fun st2 h2 => ?_⟩;rw [hat.1, e] at h2;injection h2 with h2; subst h2
     rw [hat.2];exact i2 hr
def wG (f : Fct) : List Tx := [Lib.join [tFunc, f.name] [32], Lib.join (tRegs :: f.vregs) [32], Lib.join (tParams :: f.params.map Lib.itoa) [32], Lib.join [tResult, f.result] [32]]
def vH (i : Ins) : Tx := tTwo ++ Lib.join (showI i) [32]
def xA (b : List Ins) : List Tx := wX :: b.map vH
def tN (f : Fct) : List Tx := f.blocks.flatMap xA
def uT (f : Fct) : List Tx := wG f ++ tN f ++ [tEnd]
def rZ (f : Fct) : Tx := if sR f then wD (uT f) else []
theorem plainF_of {f : Fct} (h : sR f = true) : named f.name = true ∧ named f.result = true ∧ f.vregs.length ≤ 500 ∧ f.params.length ≤ 16 ∧ f.blocks.length ≤ 200 ∧ f.params.all vL = true ∧ f.vregs.all named = true ∧
 ∀ b ∈ f.blocks, b.length ≤ 400 ∧ b.all vA = true := by
 unfold sR at h;simp only [Bool.and_eq_true, decide_eq_true_eq] at h;obtain ⟨⟨⟨⟨⟨⟨⟨h1, h2⟩, h3⟩, h4⟩, h5⟩, h6⟩, h7⟩, h8⟩ := h;refine ⟨h1, h2, h3, h4, h5, h6, h7, fun b hb => ?_⟩;have := List.all_eq_true.1 h8 b hb;rw [Bool.and_eq_true] at this;exact ⟨of_decide_eq_true this.1, this.2⟩
theorem kw {s : Tx} (h : s ∈ [tFunc, tRegs, tParams, tResult, pW, tCopy, tLoad, tCall, tStore, tBr, tJump, tRet, tEq]) : sU s := by
 simp only [List.mem_cons, List.not_mem_nil, or_false] at h;rcases h with rfl | rfl | rfl | rfl | rfl | rfl | rfl | rfl | rfl | rfl | rfl | rfl | rfl <;> (refine ⟨?_, ?_, ?_⟩ <;> decide)
theorem all_word {ns : List Int} : ∀ s ∈ ns.map Lib.itoa, sU s := by
 intro s hs;obtain ⟨n, _, rfl⟩ := List.mem_map.1 hs;exact itoa_word n
theorem showI_words {i : Ins} (h : vA i = true) : showI i ≠ [] ∧ ∀ s ∈ showI i, sU s := by
 obtain ⟨⟨h1, h2⟩, _, _, _, _, hk⟩ := plainI_of h;unfold showI;have cs : i.kind = 1 ∨ i.kind = 2 ∨ i.kind = 3 ∨ i.kind = 4 ∨ i.kind = 5 ∨ i.kind = 6 ∨ i.kind = 7 ∨ i.kind = 8 ∨ i.kind = 9 := by omega
 have it := itoa_word;rcases cs with e | e | e | e | e | e | e | e | e <;> rw [e] at hk ⊢ <;> simp at hk ⊢
 · exact ⟨it _, kw (by simp), kw (by simp), it _⟩
 · exact ⟨it _, kw (by simp), kw (by simp), it _⟩
 · exact ⟨it _, kw (by simp), (qD hk.1.1.1.1).1, fun a _ => it a⟩
 · exact ⟨it _, kw (by simp), kw (by simp), it _⟩
 · exact ⟨kw (by simp), it _, it _⟩
 · rintro s (⟨_, rfl | rfl⟩ | rfl | rfl | ⟨a, _, rfl⟩)
   · exact it _
   · exact kw (by simp)
   · exact kw (by simp)
   · exact (qD hk.1).1
   · exact it a
 · exact ⟨kw (by simp), it _, it _, it _⟩
 · exact ⟨kw (by simp), it _⟩
 · exact ⟨kw (by simp), it _⟩
theorem ofW_nil {w : Tx} {ws : List Tx} (h : ∀ s ∈ w :: ws, sU s) : ofW (Lib.join (w :: ws) [32]) [] = .ok (w :: ws) := ofW_join (hd := []) h
theorem join_beq {w : Tx} (ws : List Tx) (h : w ≠ []) : (Lib.join (w :: ws) [32] == []) = false := by
 rw [beq_eq_false_iff_ne]; exact join_ne ws h
theorem ins_step {i : Ins} (h : vA i = true) (hn : Go64 i.n) {g : Fct} {B : List (List Ins)} {p : List Ins} (hg : g.blocks = B ++ [p]) (hp : p.length < 400) :
 wT ⟨4, true, false, g⟩ (vH i) = .ok ⟨4, true, false, { g with blocks := B ++ [p ++ [i]] }⟩ := by
 obtain ⟨h0, hw⟩ := showI_words h;have ho := oneI_show h hn;unfold vH
 cases e : showI i with
 | nil => exact absurd e h0
 | cons w ws =>
  rw [e] at hw ho;have e1 : ofW (tTwo ++ Lib.join (w :: ws) [32]) tTwo = .ok (w :: ws) := ofW_join hw;generalize Lib.join (w :: ws) [32] = J at e1
  unfold wT;dsimp only;have b0 : ((tTwo ++ J) == []) = false := rfl;have b1 : ((tTwo ++ J) == tEnd) = false := rfl;have b2 : ((tTwo ++ J) == wX) = false := rfl;have e3 : g.blocks.getLastD [] = p := by rw [hg]; simp
  have e4 : pX g.blocks i = B ++ [p ++ [i]] := by unfold pX; rw [e3, hg]; simp
  have e5 : insS ⟨4, true, false, g⟩ (w :: ws) = .ok { g with blocks := B ++ [p ++ [i]] } := by
   unfold insS;rw [ho];dsimp only [endW];rw [e3, e4, if_pos hp]
  rw [b0, b1, b2, e1];dsimp only;rw [e5];rfl
theorem inss_steps : ∀ (l : List Ins), l.all vA = true → (∀ i ∈ l, Go64 i.n) → ∀ {g : Fct} {B : List (List Ins)} {p : List Ins}, g.blocks = B ++ [p] → p.length + l.length ≤ 400 →
 sB (l.map vH) ⟨4, true, false, g⟩ = some ⟨4, true, false, { g with blocks := B ++ [p ++ l] }⟩ := by
 intro l
 induction l with
 | nil => intro _ _ g B p hg _; simp [sB, ← hg]
 | cons i r ih =>
  intro ha hn g B p hg hl;rw [List.all_cons, Bool.and_eq_true] at ha;rw [List.length_cons] at hl;rw [List.map_cons, vD (ins_step ha.1 (hn i (List.mem_cons_self ..)) hg (by omega))];rw [ih ha.2 (fun j hj => hn j (List.mem_cons_of_mem _ hj)) (g := { g with blocks := B ++ [p ++ [i]] }) rfl (by simp; omega)];simp
theorem block_steps {b : List Ins} (ha : b.all vA = true) (hn : ∀ i ∈ b, Go64 i.n) (hl : b.length ≤ 400) {g : Fct} (hg : g.blocks.length < 200) (op : Bool) :
 sB (xA b) ⟨4, op, false, g⟩ = some ⟨4, true, false, { g with blocks := g.blocks ++ [b] }⟩ := by
 have e : wT ⟨4, op, false, g⟩ wX = .ok ⟨4, true, false, { g with blocks := g.blocks ++ [[]] }⟩ := by
  unfold wT;dsimp only;have b1 : (wX == []) = false := by decide
  have b2 : (wX == tEnd) = false := by decide
  have b3 : (wX == wX) = true := by decide
  rw [b1, b2, b3];simp [hg]
 unfold xA;rw [vD e, inss_steps b ha hn (g := { g with blocks := g.blocks ++ [[]] }) rfl (by simpa using hl)];simp
theorem body_steps : ∀ (bs : List (List Ins)), (∀ b ∈ bs, b.length ≤ 400 ∧ b.all vA = true ∧ ∀ i ∈ b, Go64 i.n) → ∀ (g : Fct) (op : Bool), g.blocks.length + bs.length ≤ 200 →
 ∃ op', sB (bs.flatMap xA) ⟨4, op, false, g⟩ = some ⟨4, op', false, { g with blocks := g.blocks ++ bs }⟩ := by
 intro bs
 induction bs with
 | nil => intro _ g op _; exact ⟨op, by simp [sB]⟩
 | cons b r ih =>
  intro h g op hl;obtain ⟨h1, h2, h3⟩ := h b (List.mem_cons_self ..);rw [List.length_cons] at hl;obtain ⟨op', e⟩ := ih (fun x hx => h x (List.mem_cons_of_mem _ hx)) { g with blocks := g.blocks ++ [b] } true (by simp; omega);refine ⟨op', ?_⟩;rw [List.flatMap_cons, sV (block_steps h2 h3 h1 (by omega) op), e];simp
theorem head_steps {f : Fct} (h1 : named f.name = true) (h2 : named f.result = true) (h3 : f.vregs.length ≤ 500) (h4 : f.params.length ≤ 16) (h6 : f.params.all vL = true) (h7 : f.vregs.all named = true) :
 sB (wG f) St.z = some ⟨4, false, false, { f with blocks := [] }⟩ := by
 have w2 : ∀ {k s : Tx}, k ∈ [tFunc, tRegs, tParams, tResult, pW, tCopy, tLoad, tCall, tStore, tBr, tJump, tRet, tEq] → named s = true → ∀ x ∈ [k, s], sU x := fun hk hs x hx => by
  simp only [List.mem_cons, List.not_mem_nil, or_false] at hx;rcases hx with rfl | rfl
  · exact kw hk
  · exact (qD hs).1
 have l0 : ∀ (st : St) (w : Tx) (ws : List Tx) (F : Fct), st.ended = false → st.step < 4 → (∀ x ∈ w :: ws, sU x) → sF st (w :: ws) = .ok F → wT st (Lib.join (w :: ws) [32]) = .ok { st with step := st.step + 1, f := F } := fun st w ws F he hs hw hh => by
  unfold wT;rw [he, join_beq ws (hw w (List.mem_cons_self ..)).1];simp only [Bool.not_false, Bool.and_self, reduceIte];rw [if_pos hs, ofW_nil hw];dsimp only;rw [hh]
 unfold wG
 rw [vD (l0 _ _ _ { Fct.z with name := f.name } rfl (of_decide_eq_true rfl) (w2 (by simp) h1) (by
  show sF St.z [tFunc, f.name] = _;unfold sF;dsimp only [St.z];rw [sS]; dsimp only; rw [qC h1]; dsimp only [endW]; rfl))]
 rw [vD (l0 _ _ _ { Fct.z with name := f.name, vregs := f.vregs } rfl (of_decide_eq_true rfl) (fun x hx => by
  rcases List.mem_cons.1 hx with rfl | hx
  · exact kw (by simp)
  · exact (qD (List.all_eq_true.1 h7 x hx)).1) (by
  unfold sF;dsimp only [St.z];rw [sS]; dsimp only;unfold uZ;rw [restNames_ok _ _ (Nat.le_refl _) h7]; dsimp only;rw [if_pos h3]; rfl))]
 rw [vD (l0 _ _ _ { Fct.z with name := f.name, vregs := f.vregs, params := f.params } rfl (of_decide_eq_true rfl) (fun x hx => by
  rcases List.mem_cons.1 hx with rfl | hx
  · exact kw (by simp)
  · exact all_word x hx) (by
  unfold sF;dsimp only [St.z];rw [sS]; dsimp only;rw [rM h6]; dsimp only;rw [if_pos h4]; rfl))]
 rw [vD (l0 _ _ _ { Fct.z with name := f.name, vregs := f.vregs, params := f.params, result := f.result } rfl (of_decide_eq_true rfl) (w2 (by simp) h2) (by
  unfold sF;dsimp only [St.z];rw [sS]; dsimp only; rw [qC h2]; dsimp only [endW]; rfl))]
 rfl
theorem fLines_no {f : Fct} (h : sR f = true) : ∀ l ∈ uT f, (10 : UInt8) ∉ l := by
 obtain ⟨h1, h2, h3, h4, h5, h6, h7, h8⟩ := plainF_of h;have nj : ∀ {w : Tx} {ws : List Tx}, (∀ s ∈ w :: ws, sU s) → (10 : UInt8) ∉ Lib.join (w :: ws) [32] := fun hw => join_no (by decide) fun s hs => (hw s hs).2.2
 have w2 : ∀ {k s : Tx}, k ∈ [tFunc, tRegs, tParams, tResult, pW, tCopy, tLoad, tCall, tStore, tBr, tJump, tRet, tEq] → named s = true → ∀ x ∈ [k, s], sU x := fun hk hs x hx => by
  simp only [List.mem_cons, List.not_mem_nil, or_false] at hx;rcases hx with rfl | rfl
  · exact kw hk
  · exact (qD hs).1
 intro l hl;unfold uT at hl;rw [List.mem_append, List.mem_append] at hl;rcases hl with (hl | hl) | hl
 · unfold wG at hl;simp only [List.mem_cons, List.not_mem_nil, or_false] at hl;rcases hl with rfl | rfl | rfl | rfl
   · exact nj (w2 (by simp) h1)
   · refine nj fun x hx => ?_;rcases List.mem_cons.1 hx with rfl | hx
     · exact kw (by simp)
     · exact (qD (List.all_eq_true.1 h7 x hx)).1
   · refine nj fun x hx => ?_;rcases List.mem_cons.1 hx with rfl | hx
     · exact kw (by simp)
     · exact all_word x hx
   · exact nj (w2 (by simp) h2)
 · unfold tN at hl;obtain ⟨b, hb, hl⟩ := List.mem_flatMap.1 hl;rcases List.mem_cons.1 hl with rfl | hl
   · decide
   · obtain ⟨i, hi, rfl⟩ := List.mem_map.1 hl;obtain ⟨g0, gw⟩ := showI_words (List.all_eq_true.1 (h8 b hb).2 i hi);unfold vH
     cases e : showI i with
     | nil => exact absurd e g0
     | cons w ws =>
      rw [e] at gw;have := nj gw;intro hm;rcases List.mem_append.1 hm with hm | hm
      · revert hm; decide
      · exact this hm
 · simp only [List.mem_cons, List.not_mem_nil, or_false] at hl;subst hl;decide
theorem fLines_steps {f : Fct} (h : sR f = true) (hn : ∀ b ∈ f.blocks, ∀ i ∈ b, Go64 i.n) : ∃ op, sB (uT f) St.z = some ⟨4, op, true, f⟩ := by
 obtain ⟨h1, h2, h3, h4, h5, h6, h7, h8⟩ := plainF_of h;obtain ⟨op, e⟩ := body_steps f.blocks (fun b hb => ⟨(h8 b hb).1, (h8 b hb).2, hn b hb⟩) { f with blocks := [] } false (by simpa using h5);refine ⟨op, ?_⟩;unfold uT tN;rw [List.append_assoc, sV (head_steps h1 h2 h3 h4 h6 h7), sV e];rfl
theorem readS_print {Q : St → Tx → Prop} (hQ : ∀ st l st', wT st l = .ok st' → Q st l) {f : Fct} (h : sR f = true) (hn : ∀ b ∈ f.blocks, ∀ i ∈ b, Go64 i.n) (hl : (rZ f).length ≤ 65536) :
 readS (rZ f) = (f, 0, 0) ∧ RunOK ((rZ f).length + 1) (rZ f) St.z Q := by
 unfold rZ at hl ⊢;rw [if_pos h] at hl ⊢;obtain ⟨op, e⟩ := fLines_steps h hn;have hk := textL_len (uT f);obtain ⟨k, ek⟩ : ∃ k, (wD (uT f)).length + 1 = k + 1 + (uT f).length := ⟨(wD (uT f)).length - (uT f).length, by omega⟩;obtain ⟨r1, r2⟩ := runS_lines hQ [] (uT f) (fLines_no h) (k + 1) 1 St.z _ e;rw [List.append_nil] at r1 r2;unfold readS;rw [if_neg (by omega), ek, r1, runS_nil];exact ⟨rfl, r2 (.inl rfl)⟩
def hd1 : Tx := [102, 117, 110, 99, 32, 102, 10, 114, 101, 103, 115, 10, 112, 97, 114, 97, 109, 115, 10, 114, 101, 115, 117, 108, 116, 32, 103, 10, 98, 108, 111, 99, 107, 10, 32, 32]
theorem printF_plain {f : Fct} (h : sR f = true) : rZ f = wD (uT f) := by unfold rZ; rw [if_pos h]
def retI : Ins := { Ins.z with kind := 9 }
theorem qH : vA retI = true := by decide
theorem retI_go : Go64 retI.n := ⟨by decide, by decide⟩
def tF : Tx := [102]
def tG : Tx := [103]
theorem runS_bad_at {Q : St → Tx → Prop} (hQ : ∀ st l st', wT st l = .ok st' → Q st l) (t : Tx) {ls : List Tx} (hl : ∀ l ∈ ls, (10 : UInt8) ∉ l) {l : Tx} (hl0 : (10 : UInt8) ∉ l) {k : Nat} {st st' : St} (hs : sB ls st = some st') {e : Int} (he : wT st' l = .error e) (hq : Q st' l) :
 runS (k + 1 + ls.length) 1 (wD ls ++ (l ++ 10 :: t)) st = .error (1 + ls.length, e) ∧ RunOK (k + 1 + ls.length) (wD ls ++ (l ++ 10 :: t)) st Q := by
 obtain ⟨r1, r2⟩ := runS_lines hQ (l ++ 10 :: t) ls hl (k + 1) 1 st st' hs;have hat := lineOf_at (t := t) hl0;refine ⟨?_, r2 ?_⟩
 · rw [r1];exact runS_er (by cases l <;> rfl) (by rw [hat.1]; exact he)
 · refine .inr ⟨by rw [hat.1]; exact hq, fun st2 h2 => ?_⟩;rw [hat.1, he] at h2;cases h2
theorem readS_bad {Q : St → Tx → Prop} (hQ : ∀ st l st', wT st l = .ok st' → Q st l) {t : Tx} {ls : List Tx} (hl : ∀ l ∈ ls, (10 : UInt8) ∉ l) {l : Tx} (hl0 : (10 : UInt8) ∉ l) {st' : St} (hs : sB ls St.z = some st') {e : Int} (he : wT st' l = .error e) (hq : Q st' l)
 (hlen : (wD ls ++ (l ++ 10 :: t)).length ≤ 65536) : readS (wD ls ++ (l ++ 10 :: t)) = (Fct.z, ((1 + ls.length : Nat) : Int), e) ∧ RunOK ((wD ls ++ (l ++ 10 :: t)).length + 1) (wD ls ++ (l ++ 10 :: t)) St.z Q := by
 have hk := textL_len ls;obtain ⟨k, ek⟩ : ∃ k, (wD ls ++ (l ++ 10 :: t)).length + 1 = k + 1 + ls.length := ⟨(wD ls ++ (l ++ 10 :: t)).length - ls.length, by simp only [List.length_append] at *; omega⟩;obtain ⟨r1, r2⟩ := runS_bad_at hQ t hl hl0 (k := k) hs he hq;unfold readS;rw [if_neg (by omega), ek, r1];exact ⟨rfl, r2⟩
def uC (w n : Nat) : Fct :=
 if w = 0 then ⟨tF, List.replicate n tG, [], tG, [[retI]]⟩
 else if w = 1 then ⟨tF, [], (List.range n).map fun i : Nat => (i : Int), tG, [[retI]]⟩
 else if w = 2 then ⟨tF, [], [], tG, List.replicate (n + 1) [retI]⟩
 else ⟨tF, [], [], tG, [List.replicate (n + 1) retI]⟩
def limOK (w n : Nat) : Bool := if w = 0 then decide (n ≤ 500) else if w = 1 then decide (n ≤ 16) else if w = 2 then decide (n + 1 ≤ 200) else decide (n + 1 ≤ 400)
theorem named_tF : named tF = true := by decide
theorem named_tG : named tG = true := by decide
theorem limF_plain {w n : Nat} (hn : n ≤ 520) : sR (uC w n) = limOK w n := by
 have a := named_tF;have b := named_tG;have c := qH;have d : ∀ x : Nat, x ≤ 520 → vL (x : Int) = true := fun x hx => decide_eq_true (by omega);unfold uC limOK;split
 · unfold sR;simp [a, b, c]
 · split
   · have e : ((List.range n).map fun i : Nat => (i : Int)).all vL = true := by
      rw [List.all_eq_true];intro x hx;obtain ⟨y, hy, rfl⟩ := List.mem_map.1 hx;exact d y (by have := List.mem_range.1 hy; omega)
     unfold sR;simp only [a, b, e];simp [c]
   · split
     · unfold sR;simp [a, b, c]
     · unfold sR;simp [a, b, c]
theorem limF_go {w n : Nat} : ∀ b ∈ (uC w n).blocks, ∀ i ∈ b, Go64 i.n := by
 have c := retI_go;unfold uC;intro b hb i hi;split at hb
 · simp only [List.mem_cons, List.not_mem_nil, or_false] at hb;subst hb;simp only [List.mem_cons, List.not_mem_nil, or_false] at hi;subst hi; exact c
 · split at hb
   · simp only [List.mem_cons, List.not_mem_nil, or_false] at hb;subst hb;simp only [List.mem_cons, List.not_mem_nil, or_false] at hi;subst hi; exact c
   · split at hb
     · have := List.eq_of_mem_replicate hb;subst this;simp only [List.mem_cons, List.not_mem_nil, or_false] at hi;subst hi; exact c
     · simp only [List.mem_cons, List.not_mem_nil, or_false] at hb;subst hb;have := List.eq_of_mem_replicate hi;subst this; exact c
def vE (n : Nat) (x : Tx) : Tx := (List.replicate n x).flatten
theorem qI (n : Nat) (x : Tx) : vE (n + 1) x = x ++ vE n x := by unfold vE; rw [List.replicate_succ, List.flatten_cons]
theorem sW (n : Nat) (x : Tx) : (vE n x).length = n * x.length := by
 induction n with
 | zero => simp [vE]
 | succ n ih => rw [qI, List.length_append, ih, Nat.add_mul]; omega
abbrev retL : Tx := [32, 32, 114, 101, 116, 32, 48, 10]
def sG (bs : List (List Ins)) : Tx := bs.flatMap fun b => (wX ++ [10]) ++ vE b.length retL
abbrev hdF : Tx := [102, 117, 110, 99, 32, 102, 10, 114, 101, 103, 115]
abbrev hdP : Tx := [10, 112, 97, 114, 97, 109, 115]
abbrev hdR : Tx := [10, 114, 101, 115, 117, 108, 116, 32, 103, 10]
def pZ (f : Fct) : Tx := hdF ++ vE f.vregs.length [32, 103] ++ hdP ++ vE f.params.length [32, 48] ++ hdR ++ sG f.blocks ++ [101, 110, 100, 10]
theorem join_times (w x : Tx) (n : Nat) : Lib.join (w :: List.replicate n x) [32] = w ++ vE n (32 :: x) := by
 rw [Lib.join_cons];unfold Lib.joinTail vE;rw [List.map_replicate]; rfl
theorem itoa0 : Lib.itoa 0 = [48] := by
 unfold Lib.itoa;rw [if_neg (by decide), show (0 : Int).toNat = 0 from rfl, Lib.decDigits_one (by decide)]; rfl
theorem ret_line : vH retI = [32, 32, 114, 101, 116, 32, 48] := by
 unfold vH showI retI;simp [Ins.z, itoa0, Lib.join_cons, Lib.joinTail]
theorem rep_word (n : Nat) {w x : Tx} (hw : sU w) (hx : sU x) : ∀ s ∈ w :: List.replicate n x, sU s := by
 intro s hs;rcases List.mem_cons.1 hs with rfl | hs
 · exact hw
 · have := List.eq_of_mem_replicate hs; subst this; exact hx
theorem word_G : sU tG := (qD named_tG).1
theorem word_F : sU tF := (qD named_tF).1
theorem word_0 : sU [48] := by rw [← itoa0]; exact itoa_word 0
theorem head_line {st : St} {w : Tx} {ws : List Tx} (he : st.ended = false) (hs : st.step < 4) (hw : ∀ x ∈ w :: ws, sU x) : wT st (Lib.join (w :: ws) [32]) = (match sF st (w :: ws) with
 | .error e => .error e
 | .ok f => .ok { st with step := st.step + 1, f := f }) := by
 obtain ⟨sp, op, en, f⟩ := st;dsimp only at he hs;subst he;unfold wT;dsimp only;rw [join_beq ws (hw w (List.mem_cons_self ..)).1];simp only [Bool.not_false, Bool.and_self, reduceIte];rw [if_pos hs, ofW_nil hw];try dsimp only
 try (cases sF ⟨sp, op, false, f⟩ (w :: ws) <;> rfl)
def stA : St := ⟨1, false, false, { Fct.z with name := tF }⟩
theorem step_func : wT St.z (Lib.join [tFunc, tF] [32]) = .ok stA := by
 have := head_line (st := St.z) (w := tFunc) (ws := [tF]) rfl (by decide) (rep_word 1 (kw (by simp)) word_F);rw [this];rfl
def stB : St := ⟨2, false, false, { Fct.z with name := tF }⟩
theorem step_regs0 : wT stA tRegs = .ok stB := by
 have := head_line (st := stA) (w := tRegs) (ws := []) rfl (by decide) (fun x hx => by simp at hx; subst hx; exact kw (by simp));rw [Lib.join_one] at this;rw [this];rfl
theorem regs_bad {n : Nat} (hn : 500 < n) : wT stA (Lib.join (tRegs :: List.replicate n tG) [32]) = .error 2 := by
 rw [head_line rfl (by decide) (rep_word n (kw (by simp)) word_G)]
 have h : sF stA (tRegs :: List.replicate n tG) = .error 2 := by
  unfold sF;dsimp only [stA];rw [sS]; dsimp only;unfold uZ;rw [restNames_ok _ _ (Nat.le_refl _) (by rw [List.all_eq_true]; intro x hx; have := List.eq_of_mem_replicate hx; subst this; exact named_tG)];dsimp only;rw [List.length_replicate, if_neg (by omega)];try rfl
 rw [h]
theorem params_bad {n : Nat} (hn : 16 < n) : wT stB (Lib.join (tParams :: List.replicate n [48]) [32]) = .error 2 := by
 rw [head_line rfl (by decide) (rep_word n (kw (by simp)) word_0)]
 have h : sF stB (tParams :: List.replicate n [48]) = .error 2 := by
  unfold sF;dsimp only [stB];rw [sS]; dsimp only;have e : (List.replicate n ([48] : Tx)) = (List.replicate n (0 : Int)).map Lib.itoa := by rw [List.map_replicate, itoa0]
  rw [e, rM (by rw [List.all_eq_true]; intro x hx; have := List.eq_of_mem_replicate hx; subst this; decide)];dsimp only;rw [List.length_replicate, if_neg (by omega)];try rfl
 rw [h]
def gF (bs : List (List Ins)) : Fct := ⟨tF, [], [], tG, bs⟩
theorem heads_ok : sB (wG (gF [])) St.z = some ⟨4, false, false, gF []⟩ := by
 have := head_steps (f := gF []) named_tF named_tG (by decide) (by decide) rfl rfl;exact this
theorem block_bad {bs : List (List Ins)} {op : Bool} (h : 200 ≤ bs.length) : wT ⟨4, op, false, gF bs⟩ wX = .error 2 := by
 unfold wT;dsimp only [gF];have b1 : (wX == []) = false := by decide
 have b2 : (wX == tEnd) = false := by decide
 have b3 : (wX == wX) = true := by decide
 rw [b1, b2, b3];have : ¬ bs.length < 200 := by omega
 simp [this]
theorem ins_bad {B : List (List Ins)} {p : List Ins} (hp : 400 ≤ p.length) : wT ⟨4, true, false, gF (B ++ [p])⟩ (vH retI) = .error 2 := by
 have hw := showI_words qH;have ho := oneI_show qH retI_go;unfold vH
 cases e : showI retI with
 | nil => exact absurd e hw.1
 | cons w ws =>
  rw [e] at hw ho;have e1 : ofW (tTwo ++ Lib.join (w :: ws) [32]) tTwo = .ok (w :: ws) := ofW_join hw.2;generalize Lib.join (w :: ws) [32] = J at e1
  unfold wT;dsimp only;have b0 : ((tTwo ++ J) == []) = false := rfl;have b1 : ((tTwo ++ J) == tEnd) = false := rfl;have b2 : ((tTwo ++ J) == wX) = false := rfl
  have e5 : insS ⟨4, true, false, gF (B ++ [p])⟩ (w :: ws) = .error 2 := by
   unfold insS;rw [ho];dsimp only [endW, gF];have e9 : (B ++ [p]).getLastD [] = p := by simp
   have e8 : ¬ ((B ++ [p]).getLastD []).length < 400 := by rw [e9]; omega
   exact if_neg e8
  rw [b0, b1, b2, e1];dsimp only;rw [e5];rfl
abbrev OfQ (st : St) (s : Tx) : Prop := (st.step < 4 → ∃ ws, ofW s [] = .ok ws) ∧ (4 ≤ st.step → (s == tEnd) = false → (s == wX) = false → st.opn = true → ∃ ws, ofW s tTwo = .ok ws)
theorem line_F : Lib.join [tFunc, tF] [32] = [102, 117, 110, 99, 32, 102] := by simp [Lib.join_cons, Lib.joinTail, tFunc, tF]
theorem line_G : Lib.join [tResult, tG] [32] = [114, 101, 115, 117, 108, 116, 32, 103] := by simp [Lib.join_cons, Lib.joinTail, tResult, tG]
theorem handB_text : ∀ (bs : List (List Ins)), (∀ b ∈ bs, ∀ i ∈ b, i = retI) → sG bs = wD (bs.flatMap xA) := by
 intro bs
 induction bs with
 | nil => intro _; rfl
 | cons b r ih =>
  intro h
  have e : ∀ b : List Ins, (∀ i ∈ b, i = retI) → wD (b.map vH) = vE b.length retL := by
   intro b
   induction b with
   | nil => intro _; rfl
   | cons i b ih =>
    intro h;rw [List.map_cons, wU, ih (fun j hj => h j (List.mem_cons_of_mem _ hj)), h i (List.mem_cons_self ..), ret_line, List.length_cons, qI];simp
  have ih := ih (fun x hx => h x (List.mem_cons_of_mem _ hx));unfold sG at ih ⊢;rw [List.flatMap_cons, List.flatMap_cons, ih, uP];unfold xA;rw [wU, e b (h b (List.mem_cons_self ..))];simp
theorem heads_text : wD (wG (gF [])) = hdF ++ hdP ++ hdR := by
 unfold wG gF wD;simp [line_F, line_G, Lib.join_one, tRegs, tParams]
theorem heads_no : ∀ l ∈ wG (gF []), (10 : UInt8) ∉ l := by
 unfold wG gF;intro l hl;simp only [line_F, line_G, List.map_nil, Lib.join_one, List.mem_cons, List.not_mem_nil, or_false] at hl;rcases hl with rfl | rfl | rfl | rfl <;> decide
theorem ret_no : (10 : UInt8) ∉ vH retI := by rw [ret_line]; decide
theorem body_no (bs : List (List Ins)) (h : ∀ b ∈ bs, ∀ i ∈ b, i = retI) : ∀ l ∈ bs.flatMap xA, (10 : UInt8) ∉ l := by
 intro l hl;obtain ⟨b, hb, hl⟩ := List.mem_flatMap.1 hl;unfold xA at hl;rcases List.mem_cons.1 hl with rfl | hl
 · decide
 · obtain ⟨i, hi, rfl⟩ := List.mem_map.1 hl;rw [h b hb i hi]; exact ret_no
theorem word_no {w : Tx} {ws : List Tx} (h : ∀ s ∈ w :: ws, sU s) : (10 : UInt8) ∉ Lib.join (w :: ws) [32] := join_no (by decide) fun s hs => (h s hs).2.2
theorem handB_len : ∀ bs : List (List Ins), (sG bs).length = bs.length * 6 + ((bs.map List.length).sum) * 8 := by
 intro bs
 induction bs with
 | nil => rfl
 | cons b r ih =>
  unfold sG at ih ⊢;rw [List.flatMap_cons, List.length_append, ih, List.length_append, sW, List.map_cons, List.sum_cons, List.length_cons];simp [wX]; omega
theorem handT_len (f : Fct) : (pZ f).length = f.vregs.length * 2 + f.params.length * 2 + (sG f.blocks).length + 32 := by
 unfold pZ;simp only [List.length_append, sW];simp;omega
abbrev BadAt (f : Fct) (line : Int) : Prop := readS (pZ f) = (Fct.z, line, 2) ∧ RunOK ((pZ f).length + 1) (pZ f) St.z OfQ
section
variable (hQ : ∀ st l st', wT st l = .ok st' → OfQ st l)
 include hQ
theorem bad0 {n : Nat} (hn : 500 < n) (hb : n ≤ 520) : BadAt (uC 0 n) 2 := by
 have ew : uC 0 n = ⟨tF, List.replicate n tG, [], tG, [[retI]]⟩ := rfl
 have et : pZ (uC 0 n) = wD [Lib.join [tFunc, tF] [32]] ++ (Lib.join (tRegs :: List.replicate n tG) [32] ++ 10 :: (tParams ++ hdR ++ sG [[retI]] ++ [101, 110, 100, 10])) := by
  rw [ew, join_times, wU, line_F];unfold pZ wD;simp [vE, tRegs, tParams, tG]
 have hl : (pZ (uC 0 n)).length ≤ 65536 := by
  rw [handT_len, ew]; simp [handB_len]; omega
 rw [et] at hl
 have := readS_bad (Q := OfQ) hQ (ls := [Lib.join [tFunc, tF] [32]]) (by rw [line_F]; intro l hl; simp only [List.mem_cons, List.not_mem_nil, or_false] at hl; subst hl; decide)
  (word_no (rep_word n (kw (by simp)) word_G)) (st' := stA) (by rw [vD step_func]; rfl) (regs_bad hn) ⟨fun _ => ⟨_, ofW_nil (rep_word n (kw (by simp)) word_G)⟩, fun h => absurd h (by decide)⟩ hl
 unfold BadAt;rw [et];exact this
theorem bad1 {n : Nat} (hn : 16 < n) (hb : n ≤ 520) : BadAt (uC 1 n) 3 := by
  have ew : uC 1 n = ⟨tF, [], (List.range n).map fun i : Nat => (i : Int), tG, [[retI]]⟩ := rfl
  have et : pZ (uC 1 n) = wD [Lib.join [tFunc, tF] [32], tRegs] ++ (Lib.join (tParams :: List.replicate n [48]) [32] ++ 10 :: (tResult ++ [32, 103, 10] ++ sG [[retI]] ++ [101, 110, 100, 10])) := by
    rw [ew, join_times, wU, line_F];unfold pZ wD;simp [vE, tRegs, tParams, tResult]
  have hl : (pZ (uC 1 n)).length ≤ 65536 := by
    rw [handT_len, ew]; simp [handB_len]; omega
  rw [et] at hl
  have := readS_bad (Q := OfQ) hQ (ls := [Lib.join [tFunc, tF] [32], tRegs]) (by rw [line_F]; intro l hl; simp only [List.mem_cons, List.not_mem_nil, or_false] at hl; rcases hl with rfl | rfl <;> decide)
    (word_no (rep_word n (kw (by simp)) word_0)) (st' := stB) (by rw [vD step_func, vD step_regs0]; rfl) (params_bad hn) ⟨fun _ => ⟨_, ofW_nil (rep_word n (kw (by simp)) word_0)⟩, fun h => absurd h (by decide)⟩ hl
  unfold BadAt;rw [et];exact this
 omit hQ in
theorem retB {b : List Ins} (h : ∀ i ∈ b, i = retI) : b.all vA = true ∧ ∀ i ∈ b, Go64 i.n :=
  ⟨by rw [List.all_eq_true]; intro i hi; rw [h i hi]; exact qH, fun i hi => by rw [h i hi]; exact retI_go⟩
 omit hQ in
theorem handB_append (a b : List (List Ins)) : sG (a ++ b) = sG a ++ sG b := by unfold sG; rw [List.flatMap_append]
 omit hQ in
theorem handB_cons (a : List Ins) (b : List (List Ins)) : sG (a :: b) = wX ++ 10 :: (vE a.length retL ++ sG b) := by unfold sG; rw [List.flatMap_cons]; simp
 omit hQ in
theorem times_add (n k : Nat) (x : Tx) : vE (n + k) x = vE n x ++ vE k x := by unfold vE; rw [← List.replicate_append_replicate, List.flatten_append]
 omit hQ in
theorem times_1 (x : Tx) : vE 1 x = x := by simp [vE]
 omit hQ in
theorem handT_plain (X : Tx) : hdF ++ vE 0 [32, 103] ++ hdP ++ vE 0 [32, 48] ++ hdR ++ X ++ [101, 110, 100, 10] = hdF ++ hdP ++ hdR ++ (X ++ [101, 110, 100, 10]) := by simp [vE]
theorem bad2 {n : Nat} (hn : 200 < n + 1) (hb : n ≤ 520) : BadAt (uC 2 n) 405 := by
 have ew : uC 2 n = ⟨tF, [], [], tG, List.replicate (n + 1) [retI]⟩ := rfl;obtain ⟨k, rfl⟩ : ∃ k, n = 200 + k := ⟨n - 200, by omega⟩
 have hr : ∀ b ∈ List.replicate 200 [retI], ∀ i ∈ b, i = retI := fun b hb i hi => by
  have := List.eq_of_mem_replicate hb; subst this; simpa using hi
 have eb : sG (List.replicate (200 + k + 1) [retI]) = wD ((List.replicate 200 [retI]).flatMap xA) ++ (wX ++ 10 :: (retL ++ sG (List.replicate k [retI]))) := by
  have es : List.replicate (200 + k + 1) [retI] = List.replicate 200 [retI] ++ ([retI] :: List.replicate k [retI]) := by
   rw [← List.replicate_succ (n := k), List.replicate_append_replicate, show 200 + k + 1 = 200 + (k + 1) by omega]
  rw [← handB_text _ hr, es, handB_append, handB_cons, List.length_singleton, times_1]
 have et : pZ (uC 2 (200 + k)) = wD (wG (gF []) ++ (List.replicate 200 [retI]).flatMap xA) ++ (wX ++ 10 :: (retL ++ sG (List.replicate k [retI]) ++ [101, 110, 100, 10])) := by
  rw [ew, uP, heads_text];unfold pZ;dsimp only;rw [eb];refine (handT_plain _).trans ?_;simp only [List.append_assoc, List.cons_append]
 have hl : (pZ (uC 2 (200 + k))).length ≤ 65536 := by
  rw [handT_len, ew];simp only [handB_len, List.length_replicate, List.map_replicate, List.sum_replicate_nat];simp; omega
 rw [et] at hl;obtain ⟨op', hs⟩ := body_steps (List.replicate 200 [retI]) (fun b hb => ⟨by have := List.eq_of_mem_replicate hb; subst this; decide, retB (hr b hb)⟩) (gF []) false (by rw [List.length_replicate]; decide)
 have := readS_bad (Q := OfQ) hQ (ls := wG (gF []) ++ (List.replicate 200 [retI]).flatMap xA) (fun l hl => (List.mem_append.1 hl).elim (heads_no l) (body_no _ hr l)) (l := wX) (by decide)
  (st' := ⟨4, op', false, gF (List.replicate 200 [retI])⟩) (by rw [sV heads_ok, hs]; rfl) (block_bad (by rw [List.length_replicate]; exact Nat.le_refl _)) ⟨fun h => absurd h (Nat.lt_irrefl 4), fun _ _ h => absurd h (by decide)⟩ hl
 unfold BadAt;rw [et];refine ⟨this.1.trans ?_, this.2⟩
 have e : (wG (gF []) ++ (List.replicate 200 [retI]).flatMap xA).length = 404 := by
  rw [List.length_append, List.length_flatMap, List.map_replicate, List.sum_replicate_nat]; rfl
 rw [e]; rfl
theorem bad3 {n : Nat} (hn : 400 < n + 1) (hb : n ≤ 520) : BadAt (uC 3 n) 406 := by
 have ew : uC 3 n = ⟨tF, [], [], tG, [List.replicate (n + 1) retI]⟩ := rfl;obtain ⟨k, rfl⟩ : ∃ k, n = 400 + k := ⟨n - 400, by omega⟩;have hr : ∀ i ∈ List.replicate 400 retI, i = retI := fun i hi => List.eq_of_mem_replicate hi
 have hr' : ∀ b ∈ [List.replicate 400 retI], ∀ i ∈ b, i = retI := fun b hb i hi => by
  simp only [List.mem_cons, List.not_mem_nil, or_false] at hb; subst hb; exact hr i hi
 have eb : sG [List.replicate (400 + k + 1) retI] = wD ([List.replicate 400 retI].flatMap xA) ++ (vH retI ++ 10 :: (vE k retL)) := by
  rw [← handB_text _ hr', show 400 + k + 1 = 400 + (k + 1) by omega, ret_line];rw [handB_cons, handB_cons, List.length_replicate, List.length_replicate, times_add 400 (k + 1), qI];show wX ++ 10 :: (vE 400 retL ++ (retL ++ vE k retL) ++ []) = (wX ++ 10 :: (vE 400 retL ++ [])) ++ ([32, 32, 114, 101, 116, 32, 48] ++ 10 :: vE k retL);generalize vE 400 retL = X
  simp
 have et : pZ (uC 3 (400 + k)) = wD (wG (gF []) ++ [List.replicate 400 retI].flatMap xA) ++ (vH retI ++ 10 :: (vE k retL ++ [101, 110, 100, 10])) := by
  rw [ew, uP, heads_text];unfold pZ;dsimp only;rw [eb];refine (handT_plain _).trans ?_;simp only [List.append_assoc, List.cons_append]
 have hl : (pZ (uC 3 (400 + k))).length ≤ 65536 := by
  rw [handT_len, ew];simp only [handB_len, List.length_replicate, List.map_cons, List.map_nil, List.sum_cons, List.sum_nil];simp; omega
 rw [et] at hl;have hs := block_steps (b := List.replicate 400 retI) (retB hr).1 (retB hr).2 (by rw [List.length_replicate]; exact Nat.le_refl _) (g := gF []) (by decide) false;have hw := showI_words qH
 have hof : ∃ ws, ofW (vH retI) tTwo = .ok ws := by
  unfold vH
  cases e : showI retI with
  | nil => exact absurd e hw.1
  | cons w ws => rw [e] at hw; exact ⟨_, ofW_join hw.2⟩
 have := readS_bad (Q := OfQ) hQ (ls := wG (gF []) ++ [List.replicate 400 retI].flatMap xA) (fun l hl => (List.mem_append.1 hl).elim (heads_no l) (body_no _ hr' l)) (l := vH retI) ret_no
  (st' := ⟨4, true, false, gF ([] ++ [List.replicate 400 retI])⟩) (by rw [sV heads_ok, List.flatMap_cons, List.flatMap_nil, List.append_nil, hs]; rfl) (ins_bad (by rw [List.length_replicate]; exact Nat.le_refl _)) ⟨fun h => absurd h (by decide), fun _ _ _ _ => hof⟩ hl
 unfold BadAt;rw [et];refine ⟨this.1.trans ?_, this.2⟩
 have e : (wG (gF []) ++ [List.replicate 400 retI].flatMap xA).length = 405 := by
  rw [List.length_append, List.flatMap_cons, List.flatMap_nil, List.append_nil];unfold xA;rw [List.length_cons, List.length_map, List.length_replicate]; rfl
 rw [e]; rfl
def limLine (w : Nat) : Int := if w = 0 then 2 else if w = 1 then 3 else if w = 2 then 405 else 406
theorem bad_at {w n : Nat} (hw : w < 4) (hn : n ≤ 520) (h : limOK w n = false) : BadAt (uC w n) (limLine w) := by
 match w, hw with
 | 0, _ => exact bad0 hQ (by unfold limOK at h; rw [if_pos rfl] at h; have := of_decide_eq_false h; omega) hn
 | 1, _ => exact bad1 hQ (by unfold limOK at h; rw [if_neg (by decide), if_pos rfl] at h; have := of_decide_eq_false h; omega) hn
 | 2, _ => exact bad2 hQ (by unfold limOK at h; rw [if_neg (by decide), if_neg (by decide), if_pos rfl] at h; have := of_decide_eq_false h; omega) hn
 | 3, _ => exact bad3 hQ (by unfold limOK at h; rw [if_neg (by decide), if_neg (by decide), if_neg (by decide)] at h; have := of_decide_eq_false h; omega) hn
end
theorem lens_le {c : Nat} : ∀ {l : List Tx}, (∀ x ∈ l, x.length ≤ c) → Lib.lens l ≤ l.length * c := by
 intro l
 induction l with
 | nil => intro _; exact Nat.zero_le _
 | cons x l ih =>
  intro h;have h1 := h x (List.mem_cons_self ..);have h2 := ih fun y hy => h y (List.mem_cons_of_mem _ hy);have e : Lib.lens (x :: l) = x.length + Lib.lens l := by simp [Lib.lens]
  rw [e, List.length_cons, Nat.add_mul];omega
theorem join_le {c : Nat} (w : Tx) (l : List Tx) (h : ∀ x ∈ l, x.length ≤ c) : (Lib.join (w :: l) [32]).length ≤ w.length + l.length * (c + 1) := by
 have e : Lib.lens (w :: l) = w.length + Lib.lens l := by simp [Lib.lens]
 have := lens_le h;rw [Lib.join_length, e, Nat.mul_add];simp;omega
theorem head_len {f : Fct} {c : Nat} (hv : ∀ x ∈ f.vregs, x.length ≤ c) (hp : ∀ x ∈ f.params, Go64 x) : (wD (wG f)).length ≤ 40 + f.name.length + f.result.length + f.vregs.length * (c + 1) + f.params.length * 22 := by
 have h1 := join_le (c := f.name.length) tFunc [f.name] (by simp);have h2 := join_le tRegs f.vregs hv
 have h3 := join_le (c := 21) tParams (f.params.map Lib.itoa) (fun x hx => by
  obtain ⟨y, hy, rfl⟩ := List.mem_map.1 hx;exact Lib.itoa_length_le y (hp y hy).1 (hp y hy).2)
 have h4 := join_le (c := f.result.length) tResult [f.result] (by simp);rw [List.length_map] at h3;unfold wG;rw [wU, wU, wU, wU];generalize Lib.join [tFunc, f.name] [32] = a at *
 generalize Lib.join (tRegs :: f.vregs) [32] = b at *
 generalize Lib.join (tParams :: f.params.map Lib.itoa) [32] = d at *
 generalize Lib.join [tResult, f.result] [32] = e at *
 have n1 : tFunc.length = 4 := rfl;have n2 : tRegs.length = 4 := rfl;have n3 : tParams.length = 6 := rfl;have n4 : tResult.length = 6 := rfl;simp only [List.length_append, List.length_cons, List.length_nil, wD, List.flatMap_nil] at *;omega
theorem limF_ret {w n : Nat} : ∀ b ∈ (uC w n).blocks, ∀ i ∈ b, i = retI := by
 unfold uC;intro b hb i hi;split at hb
 · simp only [List.mem_cons, List.not_mem_nil, or_false] at hb; subst hb; simpa using hi
 · split at hb
   · simp only [List.mem_cons, List.not_mem_nil, or_false] at hb; subst hb; simpa using hi
   · split at hb
     · have := List.eq_of_mem_replicate hb; subst this; simpa using hi
     · simp only [List.mem_cons, List.not_mem_nil, or_false] at hb; subst hb; exact List.eq_of_mem_replicate hi
theorem limF_sizes {w n : Nat} (hn : n ≤ 520) : (uC w n).vregs.length ≤ 520 ∧ (uC w n).params.length ≤ 520 ∧ (uC w n).blocks.length ≤ 521 ∧ (∀ b ∈ (uC w n).blocks, b.length ≤ 521) ∧ (sG (uC w n).blocks).length ≤ 20000 ∧ (uC w n).name = tF ∧ (uC w n).result = tG ∧ (∀ x ∈ (uC w n).vregs, x.length ≤ 1) ∧ (∀ x ∈ (uC w n).params, Go64 x) := by
 have g : ∀ x : Nat, x ≤ 520 → Go64 (x : Int) := fun x hx => ⟨by omega, by omega⟩;rw [handB_len];unfold uC;split
 · refine ⟨by simpa using hn, by simp, by simp, by simp, by simp, rfl, rfl, fun x hx => ?_, by simp⟩;have := List.eq_of_mem_replicate hx; subst this; exact Nat.le_refl 1
 · split
   · refine ⟨by simp, by simpa using hn, by simp, by simp, by simp, rfl, rfl, by simp, fun x hx => ?_⟩;obtain ⟨y, hy, rfl⟩ := List.mem_map.1 hx;exact g y (by have := List.mem_range.1 hy; omega)
   · split
     · refine ⟨by simp, by simp, by simpa using hn, fun b hb => ?_, ?_, rfl, rfl, by simp, by simp⟩
       · have := List.eq_of_mem_replicate hb; subst this; simp
       · simp only [List.length_replicate, List.map_replicate, List.sum_replicate_nat]; simp; omega
     · refine ⟨by simp, by simp, by simp, fun b hb => ?_, ?_, rfl, rfl, by simp, by simp⟩
       · simp only [List.mem_cons, List.not_mem_nil, or_false] at hb; subst hb; simpa using hn
       · simp only [List.length_replicate, List.map_cons, List.map_nil, List.sum_cons, List.sum_nil]; simp; omega
theorem limF_short {w n : Nat} (hn : n ≤ 520) : (wD (uT (uC w n))).length ≤ 65536 := by
 obtain ⟨h1, h2, h3, h4, h5, h6, h7, h8, h9⟩ := limF_sizes (w := w) hn;have hh := head_len h8 h9;have hb : wD (tN (uC w n)) = sG (uC w n).blocks := (handB_text _ limF_ret).symm;unfold uT;rw [uP, uP, hb];have n1 : tF.length = 1 := rfl;have n2 : tG.length = 1 := rfl;have n3 : (wD [tEnd]).length = 4 := rfl;rw [h6, h7] at hh;simp only [List.length_append, n3];omega
end Go.Ex.Vir
namespace Go.Proofs
open Go.Shelf
def Tryz.lays169_ren : Go.Shelf.Ren := ⟨fun | 169 => 57 | n => n, fun | 70 => 94 | 9 => 9 | 0 => 0 | 72 => 97 | 37 => 95 | 127 => 154 | 3 => 3 | 5 => 5 | n => n, fun | n => n⟩
theorem Tryz.lays169 : Go.Proofs.Lays.n169 Tryz.prog Tryz.lays169_ren := {
 mixed := by kernel_rfl
 f169 := Tryz.func57.trans (congrArg some (by kernel_rfl))
 t0 := Tryz.underlying0
 a0 := Tryz.isAgg0
 z0 := Tryz.sizeOf0
 v0 := Tryz.zeroValue0
 t3 := Tryz.underlying3
 a3 := Tryz.isAgg3
 z3 := Tryz.sizeOf3
 v3 := Tryz.zeroValue3
 t9 := Tryz.underlying9
 a9 := Tryz.isAgg9
 z9 := Tryz.sizeOf9
 v9 := Tryz.zeroValue9
 t37 := Tryz.underlying95
 a37 := Tryz.isAgg95
 z37 := Tryz.sizeOf95
 v37 := Tryz.zeroValue95
 t70 := Tryz.underlying94
 a70 := Tryz.isAgg94
 z70 := Tryz.sizeOf94
 v70 := Tryz.zeroValue94
 t72 := Tryz.underlying97
 a72 := Tryz.isAgg97
 z72 := Tryz.sizeOf97
 v72 := Tryz.zeroValue97
 t127 := Tryz.underlying154
 a127 := Tryz.isAgg154
 z127 := Tryz.sizeOf154
 v127 := Tryz.zeroValue154 }
theorem Tryz.Builder_Extra_169 : Builder.Extra Tryz.prog Tryz.lays169_ren := {
 sizeBuilder := by kernel_rfl
 liesBuilder := by kernel_rfl
 t5 := Tryz.underlying5
 a5 := Tryz.isAgg5
 z5 := Tryz.sizeOf5
 v5 := Tryz.zeroValue5
 infoByte := by kernel_rfl
 cellsByte := by kernel_rfl
 sizeByte := by kernel_rfl
 neB5 := by decide }
def Tryz.lays156_ren : Go.Shelf.Ren := ⟨fun | 156 => 54 | 165 => 109 | 166 => 53 | 169 => 57 | 240 => 108 | 241 => 151 | 276 => 150 | 277 => 177 | n => n, fun | 31 => 23 | 9 => 9 | 3 => 3 | 4 => 4 | 0 => 0 | 20 => 20 | 72 => 97 | 76 => 100 | 70 => 94 | 37 => 95 | 75 => 99 | 127 => 154 | 164 => 185 | 5 => 5 | 80 => 70 | n => n, fun | n => n⟩
theorem Tryz.lays156 : Go.Proofs.Lays.n156 Tryz.prog Tryz.lays156_ren := {
 mixed := by kernel_rfl
 f156 := Tryz.func54.trans (congrArg some (by kernel_rfl))
 f165 := Tryz.func109.trans (congrArg some (by kernel_rfl))
 f166 := Tryz.func53.trans (congrArg some (by kernel_rfl))
 f169 := Tryz.func57.trans (congrArg some (by kernel_rfl))
 f240 := Tryz.func108.trans (congrArg some (by kernel_rfl))
 f241 := Tryz.func151.trans (congrArg some (by kernel_rfl))
 f276 := Tryz.func150.trans (congrArg some (by kernel_rfl))
 f277 := Tryz.func177.trans (congrArg some (by kernel_rfl))
 t0 := Tryz.underlying0
 a0 := Tryz.isAgg0
 z0 := Tryz.sizeOf0
 v0 := Tryz.zeroValue0
 t3 := Tryz.underlying3
 a3 := Tryz.isAgg3
 z3 := Tryz.sizeOf3
 v3 := Tryz.zeroValue3
 t4 := Tryz.underlying4
 a4 := Tryz.isAgg4
 z4 := Tryz.sizeOf4
 v4 := Tryz.zeroValue4
 t9 := Tryz.underlying9
 a9 := Tryz.isAgg9
 z9 := Tryz.sizeOf9
 v9 := Tryz.zeroValue9
 t20 := Tryz.underlying20
 a20 := Tryz.isAgg20
 z20 := Tryz.sizeOf20
 v20 := Tryz.zeroValue20
 t31 := Tryz.underlying23
 a31 := Tryz.isAgg23
 z31 := Tryz.sizeOf23
 v31 := Tryz.zeroValue23
 t37 := Tryz.underlying95
 a37 := Tryz.isAgg95
 z37 := Tryz.sizeOf95
 v37 := Tryz.zeroValue95
 t70 := Tryz.underlying94
 a70 := Tryz.isAgg94
 z70 := Tryz.sizeOf94
 v70 := Tryz.zeroValue94
 t72 := Tryz.underlying97
 a72 := Tryz.isAgg97
 z72 := Tryz.sizeOf97
 v72 := Tryz.zeroValue97
 t75 := Tryz.underlying99
 a75 := Tryz.isAgg99
 z75 := Tryz.sizeOf99
 v75 := Tryz.zeroValue99
 t76 := Tryz.underlying100
 a76 := Tryz.isAgg100
 z76 := Tryz.sizeOf100
 v76 := Tryz.zeroValue100
 t127 := Tryz.underlying154
 a127 := Tryz.isAgg154
 z127 := Tryz.sizeOf154
 v127 := Tryz.zeroValue154
 t164 := Tryz.underlying185
 a164 := Tryz.isAgg185
 z164 := Tryz.sizeOf185
 v164 := Tryz.zeroValue185 }
theorem Tryz.Builder_Extra_156 : Builder.Extra Tryz.prog Tryz.lays156_ren := {
 sizeBuilder := by kernel_rfl
 liesBuilder := by kernel_rfl
 t5 := Tryz.underlying5
 a5 := Tryz.isAgg5
 z5 := Tryz.sizeOf5
 v5 := Tryz.zeroValue5
 infoByte := by kernel_rfl
 cellsByte := by kernel_rfl
 sizeByte := by kernel_rfl
 neB5 := by decide }
open Go.RowKit in
theorem Tryz.strings_Join_none (a : Option Addr) (c : Nat) (sep : ByteArray) (w : World) :
 Calls Tryz.prog 54 #[.slice a 0 c, .string sep] w fun e w' => e = .returned (.string ⟨#[]⟩) ∧ w' = w := Any.strings_Join_none Tryz.lays156 Tryz.Builder_Extra_156 a c sep w
open Go.RowKit in
theorem Tryz.strings_Join (bk o c : Nat) (xs : List ByteArray) (sep : ByteArray) (w : World) (hcells : ∀ (j : Nat) x, xs[j]? = some x → w.cell? ⟨bk, o + j, none⟩ = some (.string x)) (hbk : bk < w.heap.size) (hN : xs.length ≤ 140737488355328) (hcap : xs.length ≤ c) (hlen : (Lib.join (xs.map (·.data.toList)) sep.data.toList).length ≤ 140737488355328) :
 Calls Tryz.prog 54 #[.slice (some ⟨bk, o, none⟩) xs.length c, .string sep] w fun e w' => e = .returned (.string ⟨(Lib.join (xs.map (·.data.toList)) sep.data.toList).toArray⟩) ∧ Below w.heap.size w w' := Any.strings_Join Tryz.lays156 Tryz.Builder_Extra_156 bk o c xs sep w hcells hbk hN hcap hlen
def Tryz.lays103_ren : Go.Shelf.Ren := ⟨fun | 103 => 181 | 210 => 196 | 206 => 192 | n => n, fun | 9 => 9 | 4 => 4 | 24 => 215 | 3 => 3 | n => n, fun | n => n⟩
theorem Tryz.lays103 : Go.Proofs.Lays.n103 Tryz.prog Tryz.lays103_ren := {
 mixed := by kernel_rfl
 f103 := Tryz.func181.trans (congrArg some (by kernel_rfl))
 f206 := Tryz.func192.trans (congrArg some (by kernel_rfl))
 f210 := Tryz.func196.trans (congrArg some (by kernel_rfl))
 t3 := Tryz.underlying3
 a3 := Tryz.isAgg3
 z3 := Tryz.sizeOf3
 v3 := Tryz.zeroValue3
 t4 := Tryz.underlying4
 a4 := Tryz.isAgg4
 z4 := Tryz.sizeOf4
 v4 := Tryz.zeroValue4
 t9 := Tryz.underlying9
 a9 := Tryz.isAgg9
 z9 := Tryz.sizeOf9
 v9 := Tryz.zeroValue9
 t24 := Tryz.underlying215
 a24 := Tryz.isAgg215
 z24 := Tryz.sizeOf215
 v24 := Tryz.zeroValue215 }
open Go.RowKit in
theorem Tryz.strings_CutPrefix (s p : ByteArray) (w : World) :
 Calls Tryz.prog 181 #[.string s, .string p] w fun e w' => e = .returned (.tuple #[.string ⟨(Lib.trimPrefix s.data.toList p.data.toList).toArray⟩, .bool (Lib.hasPrefix s.data.toList p.data.toList)]) ∧ w' = w := Any.strings_CutPrefix Tryz.lays103 s p w
def Tryz.laysM171_ren : Go.Shelf.Ren := ⟨fun | 171 => 81 | 243 => 131 | 246 => 163 | 283 => 183 | 284 => 184 | 285 => 185 | 286 => 186 | 129 => 199 | 317 => 198 | 318 => 200 | 319 => 201 | 320 => 202 | 337 => 215 | 338 => 216 | n => n, fun | 3 => 3 | 9 => 9 | 2 => 2 | 4 => 4 | 171 => 218 | 0 => 0 | 53 => 219 | 37 => 95 | 5 => 5 | 173 => 222 | 212 => 234 | 51 => 226 | 20 => 20 | 213 => 235 | 46 => 204 | 232 => 255 | 233 => 256 | n => n, fun | 17 => 1 | 18 => 4 | 19 => 5 | n => n⟩
theorem Tryz.laysM171 : Go.Proofs.LaysM.n171 Tryz.prog Tryz.laysM171_ren := {
 mixed := by kernel_rfl
 f129 := Tryz.func199.trans (congrArg some (by kernel_rfl))
 f171 := Tryz.func81.trans (congrArg some (by kernel_rfl))
 f243 := Tryz.func131.trans (congrArg some (by kernel_rfl))
 f246 := Tryz.func163.trans (congrArg some (by kernel_rfl))
 f283 := Tryz.func183.trans (congrArg some (by kernel_rfl))
 f284 := Tryz.func184.trans (congrArg some (by kernel_rfl))
 f285 := Tryz.func185.trans (congrArg some (by kernel_rfl))
 f286 := Tryz.func186.trans (congrArg some (by kernel_rfl))
 f317 := Tryz.func198.trans (congrArg some (by kernel_rfl))
 f318 := Tryz.func200.trans (congrArg some (by kernel_rfl))
 f319 := Tryz.func201.trans (congrArg some (by kernel_rfl))
 f320 := Tryz.func202.trans (congrArg some (by kernel_rfl))
 f337 := Tryz.func215.trans (congrArg some (by kernel_rfl))
 f338 := Tryz.func216.trans (congrArg some (by kernel_rfl))
 t0 := Tryz.underlying0
 a0 := Tryz.isAgg0
 z0 := Tryz.sizeOf0
 v0 := Tryz.zeroValue0
 t2 := Tryz.underlying2
 a2 := Tryz.isAgg2
 z2 := Tryz.sizeOf2
 v2 := Tryz.zeroValue2
 t3 := Tryz.underlying3
 a3 := Tryz.isAgg3
 z3 := Tryz.sizeOf3
 v3 := Tryz.zeroValue3
 t4 := Tryz.underlying4
 a4 := Tryz.isAgg4
 z4 := Tryz.sizeOf4
 v4 := Tryz.zeroValue4
 t5 := Tryz.underlying5
 a5 := Tryz.isAgg5
 z5 := Tryz.sizeOf5
 v5 := Tryz.zeroValue5
 t9 := Tryz.underlying9
 a9 := Tryz.isAgg9
 z9 := Tryz.sizeOf9
 v9 := Tryz.zeroValue9
 t20 := Tryz.underlying20
 a20 := Tryz.isAgg20
 z20 := Tryz.sizeOf20
 v20 := Tryz.zeroValue20
 t37 := Tryz.underlying95
 a37 := Tryz.isAgg95
 z37 := Tryz.sizeOf95
 v37 := Tryz.zeroValue95
 t46 := Tryz.underlying204
 a46 := Tryz.isAgg204
 z46 := Tryz.sizeOf204
 v46 := Tryz.zeroValue204
 t51 := Tryz.underlying226
 a51 := Tryz.isAgg226
 z51 := Tryz.sizeOf226
 v51 := Tryz.zeroValue226
 t53 := Tryz.underlying219
 a53 := Tryz.isAgg219
 z53 := Tryz.sizeOf219
 v53 := Tryz.zeroValue219
 t171 := Tryz.underlying218
 a171 := Tryz.isAgg218
 z171 := Tryz.sizeOf218
 v171 := Tryz.zeroValue218
 t173 := Tryz.underlying222
 a173 := Tryz.isAgg222
 z173 := Tryz.sizeOf222
 v173 := Tryz.zeroValue222
 t212 := Tryz.underlying234
 a212 := Tryz.isAgg234
 z212 := Tryz.sizeOf234
 v212 := Tryz.zeroValue234
 t213 := Tryz.underlying235
 a213 := Tryz.isAgg235
 z213 := Tryz.sizeOf235
 t232 := Tryz.underlying255
 a232 := Tryz.isAgg255
 z232 := Tryz.sizeOf255
 v232 := Tryz.zeroValue255
 t233 := Tryz.underlying256
 a233 := Tryz.isAgg256
 z233 := Tryz.sizeOf256
 v233 := Tryz.zeroValue256
 g17 := by kernel_rfl
 g18 := by kernel_rfl
 g19 := by kernel_rfl
 i0 := by kernel_rfl
 i2 := by kernel_rfl
 i3 := by kernel_rfl
 i4 := by kernel_rfl
 i5 := by kernel_rfl
 i9 := by kernel_rfl
 i20 := by kernel_rfl
 i37 := by kernel_rfl
 i46 := by kernel_rfl
 i51 := by kernel_rfl
 i53 := by kernel_rfl
 i171 := by kernel_rfl
 i173 := by kernel_rfl
 i212 := by kernel_rfl
 i232 := by kernel_rfl
 i233 := by kernel_rfl
 m17 := by kernel_rfl
 m18 := by kernel_rfl
 m19 := by kernel_rfl }
open Go.RowKit Go.Sort Go.Lib in
theorem Tryz.strconv_Itoa (n : Int) (h0 : -9223372036854775808 ≤ n) (h1 : n ≤ 9223372036854775807) (w : World) (htab : Lib.TabIs Tryz.prog w "internal/strconv.uint64pow10" .u64 Lib.pow10Tab) :
 Calls Tryz.prog 81 #[.int .i64 n] w fun e w' => e = .returned (.string ⟨(Lib.itoa n).toArray⟩) ∧ ∃ k os, w' = grow (w.drewN k) os := Any.strconv_Itoa Tryz.laysM171 n h0 h1 w htab
def Tryz.laysC172_ren : Go.Shelf.Ren := ⟨fun | 172 => 179 | 244 => 193 | 245 => 194 | 247 => 203 | 279 => 204 | 280 => 205 | 281 => 206 | 282 => 207 | 287 => 217 | 316 => 218 | 171 => 81 | 205 => 219 | 321 => 225 | 322 => 226 | 243 => 131 | 246 => 163 | 283 => 183 | 284 => 184 | 285 => 185 | 286 => 186 | 129 => 199 | 317 => 198 | 318 => 200 | 319 => 201 | 320 => 202 | 337 => 215 | 338 => 216 | n => n, fun | 9 => 9 | 3 => 3 | 75 => 99 | 76 => 100 | 4 => 4 | 5 => 5 | 167 => 237 | 37 => 95 | 0 => 0 | 85 => 238 | 2 => 2 | 168 => 240 | 53 => 219 | 175 => 246 | 46 => 204 | 210 => 250 | 127 => 154 | 145 => 260 | 143 => 258 | 21 => 21 | 171 => 218 | 173 => 222 | 212 => 234 | 51 => 226 | 20 => 20 | 213 => 235 | 232 => 255 | 233 => 256 | 80 => 70 | n => n, fun | 15 => 2 | 16 => 3 | 17 => 1 | 18 => 4 | 19 => 5 | n => n⟩
theorem Tryz.laysC172 : Go.Proofs.LaysC.n172 Tryz.prog Tryz.laysC172_ren := {
 mixed := by kernel_rfl
 f129 := Tryz.func199.trans (congrArg some (by kernel_rfl))
 f171 := Tryz.func81.trans (congrArg some (by kernel_rfl))
 f172 := Tryz.func179.trans (congrArg some (by kernel_rfl))
 f205 := Tryz.func219.trans (congrArg some (by kernel_rfl))
 f243 := Tryz.func131.trans (congrArg some (by kernel_rfl))
 f244 := Tryz.func193.trans (congrArg some (by kernel_rfl))
 f245 := Tryz.func194.trans (congrArg some (by kernel_rfl))
 f246 := Tryz.func163.trans (congrArg some (by kernel_rfl))
 f247 := Tryz.func203.trans (congrArg some (by kernel_rfl))
 f279 := Tryz.func204.trans (congrArg some (by kernel_rfl))
 f280 := Tryz.func205.trans (congrArg some (by kernel_rfl))
 f281 := Tryz.func206.trans (congrArg some (by kernel_rfl))
 f282 := Tryz.func207.trans (congrArg some (by kernel_rfl))
 f283 := Tryz.func183.trans (congrArg some (by kernel_rfl))
 f284 := Tryz.func184.trans (congrArg some (by kernel_rfl))
 f285 := Tryz.func185.trans (congrArg some (by kernel_rfl))
 f286 := Tryz.func186.trans (congrArg some (by kernel_rfl))
 f287 := Tryz.func217.trans (congrArg some (by kernel_rfl))
 f316 := Tryz.func218.trans (congrArg some (by kernel_rfl))
 f317 := Tryz.func198.trans (congrArg some (by kernel_rfl))
 f318 := Tryz.func200.trans (congrArg some (by kernel_rfl))
 f319 := Tryz.func201.trans (congrArg some (by kernel_rfl))
 f320 := Tryz.func202.trans (congrArg some (by kernel_rfl))
 f321 := Tryz.func225.trans (congrArg some (by kernel_rfl))
 f322 := Tryz.func226.trans (congrArg some (by kernel_rfl))
 f337 := Tryz.func215.trans (congrArg some (by kernel_rfl))
 f338 := Tryz.func216.trans (congrArg some (by kernel_rfl))
 t0 := Tryz.underlying0
 a0 := Tryz.isAgg0
 z0 := Tryz.sizeOf0
 v0 := Tryz.zeroValue0
 t2 := Tryz.underlying2
 a2 := Tryz.isAgg2
 z2 := Tryz.sizeOf2
 v2 := Tryz.zeroValue2
 t3 := Tryz.underlying3
 a3 := Tryz.isAgg3
 z3 := Tryz.sizeOf3
 v3 := Tryz.zeroValue3
 t4 := Tryz.underlying4
 a4 := Tryz.isAgg4
 z4 := Tryz.sizeOf4
 v4 := Tryz.zeroValue4
 t5 := Tryz.underlying5
 a5 := Tryz.isAgg5
 z5 := Tryz.sizeOf5
 v5 := Tryz.zeroValue5
 t9 := Tryz.underlying9
 a9 := Tryz.isAgg9
 z9 := Tryz.sizeOf9
 v9 := Tryz.zeroValue9
 t20 := Tryz.underlying20
 a20 := Tryz.isAgg20
 z20 := Tryz.sizeOf20
 v20 := Tryz.zeroValue20
 t21 := Tryz.underlying21
 a21 := Tryz.isAgg21
 z21 := Tryz.sizeOf21
 v21 := Tryz.zeroValue21
 t37 := Tryz.underlying95
 a37 := Tryz.isAgg95
 z37 := Tryz.sizeOf95
 v37 := Tryz.zeroValue95
 t46 := Tryz.underlying204
 a46 := Tryz.isAgg204
 z46 := Tryz.sizeOf204
 v46 := Tryz.zeroValue204
 t51 := Tryz.underlying226
 a51 := Tryz.isAgg226
 z51 := Tryz.sizeOf226
 v51 := Tryz.zeroValue226
 t53 := Tryz.underlying219
 a53 := Tryz.isAgg219
 z53 := Tryz.sizeOf219
 v53 := Tryz.zeroValue219
 t75 := Tryz.underlying99
 a75 := Tryz.isAgg99
 z75 := Tryz.sizeOf99
 v75 := Tryz.zeroValue99
 t76 := Tryz.underlying100
 a76 := Tryz.isAgg100
 z76 := Tryz.sizeOf100
 v76 := Tryz.zeroValue100
 t85 := Tryz.underlying238
 a85 := Tryz.isAgg238
 z85 := Tryz.sizeOf238
 v85 := Tryz.zeroValue238
 t127 := Tryz.underlying154
 a127 := Tryz.isAgg154
 z127 := Tryz.sizeOf154
 v127 := Tryz.zeroValue154
 t143 := Tryz.underlying258
 a143 := Tryz.isAgg258
 z143 := Tryz.sizeOf258
 v143 := Tryz.zeroValue258
 t145 := Tryz.underlying260
 a145 := Tryz.isAgg260
 z145 := Tryz.sizeOf260
 v145 := Tryz.zeroValue260
 t167 := Tryz.underlying237
 a167 := Tryz.isAgg237
 z167 := Tryz.sizeOf237
 v167 := Tryz.zeroValue237
 t168 := Tryz.underlying240
 a168 := Tryz.isAgg240
 z168 := Tryz.sizeOf240
 v168 := Tryz.zeroValue240
 t171 := Tryz.underlying218
 a171 := Tryz.isAgg218
 z171 := Tryz.sizeOf218
 v171 := Tryz.zeroValue218
 t173 := Tryz.underlying222
 a173 := Tryz.isAgg222
 z173 := Tryz.sizeOf222
 v173 := Tryz.zeroValue222
 t175 := Tryz.underlying246
 a175 := Tryz.isAgg246
 z175 := Tryz.sizeOf246
 v175 := Tryz.zeroValue246
 t210 := Tryz.underlying250
 a210 := Tryz.isAgg250
 z210 := Tryz.sizeOf250
 v210 := Tryz.zeroValue250
 t212 := Tryz.underlying234
 a212 := Tryz.isAgg234
 z212 := Tryz.sizeOf234
 v212 := Tryz.zeroValue234
 t213 := Tryz.underlying235
 a213 := Tryz.isAgg235
 z213 := Tryz.sizeOf235
 t232 := Tryz.underlying255
 a232 := Tryz.isAgg255
 z232 := Tryz.sizeOf255
 v232 := Tryz.zeroValue255
 t233 := Tryz.underlying256
 a233 := Tryz.isAgg256
 z233 := Tryz.sizeOf256
 v233 := Tryz.zeroValue256
 g15 := by kernel_rfl
 g16 := by kernel_rfl
 g17 := by kernel_rfl
 g18 := by kernel_rfl
 g19 := by kernel_rfl
 t80 := Tryz.underlying70
 a80 := Tryz.isAgg70
 z80 := Tryz.sizeOf70
 v80 := Tryz.zeroValue70
 i0 := by kernel_rfl
 i2 := by kernel_rfl
 i3 := by kernel_rfl
 i4 := by kernel_rfl
 i5 := by kernel_rfl
 i9 := by kernel_rfl
 i20 := by kernel_rfl
 i21 := by kernel_rfl
 i37 := by kernel_rfl
 i46 := by kernel_rfl
 i51 := by kernel_rfl
 i53 := by kernel_rfl
 i75 := by kernel_rfl
 i76 := by kernel_rfl
 i80 := by kernel_rfl
 i85 := by kernel_rfl
 i127 := by kernel_rfl
 i143 := by kernel_rfl
 i145 := by kernel_rfl
 i167 := by kernel_rfl
 i168 := by kernel_rfl
 i171 := by kernel_rfl
 i173 := by kernel_rfl
 i175 := by kernel_rfl
 i210 := by kernel_rfl
 i212 := by kernel_rfl
 i232 := by kernel_rfl
 i233 := by kernel_rfl
 m15 := by kernel_rfl
 m16 := by kernel_rfl
 m17 := by kernel_rfl
 m18 := by kernel_rfl
 m19 := by kernel_rfl
 c0 := by kernel_rfl
 c2 := by kernel_rfl
 c3 := by kernel_rfl
 c4 := by kernel_rfl
 c5 := by kernel_rfl
 c9 := by kernel_rfl
 c20 := by kernel_rfl
 c21 := by kernel_rfl
 c37 := by kernel_rfl
 c46 := by kernel_rfl
 c51 := by kernel_rfl
 c53 := by kernel_rfl
 c75 := by kernel_rfl
 c76 := by kernel_rfl
 c80 := by kernel_rfl
 c85 := by kernel_rfl
 c127 := by kernel_rfl
 c143 := by kernel_rfl
 c145 := by kernel_rfl
 c167 := by kernel_rfl
 c168 := by kernel_rfl
 c171 := by kernel_rfl
 c173 := by kernel_rfl
 c175 := by kernel_rfl
 c210 := by kernel_rfl
 c212 := by kernel_rfl
 c213 := by kernel_rfl
 c232 := by kernel_rfl
 c233 := by kernel_rfl }
open Go.RowKit in
theorem Tryz.strconv_Atoi_ok (s : ByteArray) (hmax : s.size ≤ 9223372036854775806) (v : Int) (h : Lib.atoiAll s.data.toList = .ok v) (w : World) :
 Calls Tryz.prog 179 #[.string s] w fun e w' => e = .returned (.tuple #[.int .i64 v, .nilIface]) ∧ (w' = w ∨ ∃ t, w' = Lib.bytesWorld w 5 t) := Any.strconv_Atoi_ok Tryz.laysC172 s hmax v h w
def Tryz.lays145_ren : Go.Shelf.Ren := ⟨fun | 145 => 160 | 220 => 180 | 219 => 195 | 217 => 208 | 225 => 209 | 224 => 210 | 267 => 211 | 266 => 220 | 314 => 221 | n => n, fun | 9 => 9 | 4 => 4 | 59 => 194 | 3 => 3 | 5 => 5 | 46 => 204 | 146 => 227 | 51 => 226 | n => n, fun | 1 => 0 | n => n⟩
theorem Tryz.lays145 : Go.Proofs.Lays.n145 Tryz.prog Tryz.lays145_ren := {
 mixed := by kernel_rfl
 f145 := Tryz.func160.trans (congrArg some (by kernel_rfl))
 f217 := Tryz.func208.trans (congrArg some (by kernel_rfl))
 f219 := Tryz.func195.trans (congrArg some (by kernel_rfl))
 f220 := Tryz.func180.trans (congrArg some (by kernel_rfl))
 f224 := Tryz.func210.trans (congrArg some (by kernel_rfl))
 f225 := Tryz.func209.trans (congrArg some (by kernel_rfl))
 f266 := Tryz.func220.trans (congrArg some (by kernel_rfl))
 f267 := Tryz.func211.trans (congrArg some (by kernel_rfl))
 f314 := Tryz.func221.trans (congrArg some (by kernel_rfl))
 t3 := Tryz.underlying3
 a3 := Tryz.isAgg3
 z3 := Tryz.sizeOf3
 v3 := Tryz.zeroValue3
 t4 := Tryz.underlying4
 a4 := Tryz.isAgg4
 z4 := Tryz.sizeOf4
 v4 := Tryz.zeroValue4
 t5 := Tryz.underlying5
 a5 := Tryz.isAgg5
 z5 := Tryz.sizeOf5
 v5 := Tryz.zeroValue5
 t9 := Tryz.underlying9
 a9 := Tryz.isAgg9
 z9 := Tryz.sizeOf9
 v9 := Tryz.zeroValue9
 t46 := Tryz.underlying204
 a46 := Tryz.isAgg204
 z46 := Tryz.sizeOf204
 v46 := Tryz.zeroValue204
 t51 := Tryz.underlying226
 a51 := Tryz.isAgg226
 z51 := Tryz.sizeOf226
 v51 := Tryz.zeroValue226
 t59 := Tryz.underlying194
 a59 := Tryz.isAgg194
 z59 := Tryz.sizeOf194
 v59 := Tryz.zeroValue194
 t146 := Tryz.underlying227
 a146 := Tryz.isAgg227
 z146 := Tryz.sizeOf227
 v146 := Tryz.zeroValue227
 g1 := by kernel_rfl }
open Go.RowKit Go.Lib in
theorem Tryz.strings_Cut (s sep : ByteArray) (m : Int) (w : World) (hs : s.size < 4294967281) (hm : w.cell? ⟨0, 0, none⟩ = some (.int .i64 m)) :
 Calls Tryz.prog 160 #[.string s, .string sep] w fun e w' => e = .returned (.tuple #[.string ⟨(Lib.cut s.data.toList sep.data.toList).1.toArray⟩, .string ⟨(Lib.cut s.data.toList sep.data.toList).2.1.toArray⟩, .bool (Lib.cut s.data.toList sep.data.toList).2.2]) ∧ ∃ n, w' = w.drewN n := Any.strings_Cut Tryz.lays145 s sep m w hs hm
def Tryz.lays146_ren : Go.Shelf.Ren := ⟨fun | 146 => 182 | 221 => 197 | 268 => 212 | 138 => 213 | 143 => 214 | 195 => 222 | 197 => 223 | 218 => 224 | 219 => 195 | 260 => 227 | 217 => 208 | 225 => 209 | 224 => 210 | 267 => 211 | 266 => 220 | 314 => 221 | n => n, fun | 9 => 9 | 31 => 23 | 3 => 3 | 4 => 4 | 0 => 0 | 105 => 253 | 21 => 21 | 5 => 5 | 46 => 204 | 119 => 261 | 139 => 264 | 138 => 263 | 146 => 227 | 51 => 226 | n => n, fun | 1 => 0 | 3 => 6 | 4 => 7 | n => n⟩
theorem Tryz.lays146 : Go.Proofs.Lays.n146 Tryz.prog Tryz.lays146_ren := {
 mixed := by kernel_rfl
 f138 := Tryz.func213.trans (congrArg some (by kernel_rfl))
 f143 := Tryz.func214.trans (congrArg some (by kernel_rfl))
 f146 := Tryz.func182.trans (congrArg some (by kernel_rfl))
 f195 := Tryz.func222.trans (congrArg some (by kernel_rfl))
 f197 := Tryz.func223.trans (congrArg some (by kernel_rfl))
 f217 := Tryz.func208.trans (congrArg some (by kernel_rfl))
 f218 := Tryz.func224.trans (congrArg some (by kernel_rfl))
 f219 := Tryz.func195.trans (congrArg some (by kernel_rfl))
 f221 := Tryz.func197.trans (congrArg some (by kernel_rfl))
 f224 := Tryz.func210.trans (congrArg some (by kernel_rfl))
 f225 := Tryz.func209.trans (congrArg some (by kernel_rfl))
 f260 := Tryz.func227.trans (congrArg some (by kernel_rfl))
 f266 := Tryz.func220.trans (congrArg some (by kernel_rfl))
 f267 := Tryz.func211.trans (congrArg some (by kernel_rfl))
 f268 := Tryz.func212.trans (congrArg some (by kernel_rfl))
 f314 := Tryz.func221.trans (congrArg some (by kernel_rfl))
 t0 := Tryz.underlying0
 a0 := Tryz.isAgg0
 z0 := Tryz.sizeOf0
 v0 := Tryz.zeroValue0
 t3 := Tryz.underlying3
 a3 := Tryz.isAgg3
 z3 := Tryz.sizeOf3
 v3 := Tryz.zeroValue3
 t4 := Tryz.underlying4
 a4 := Tryz.isAgg4
 z4 := Tryz.sizeOf4
 v4 := Tryz.zeroValue4
 t5 := Tryz.underlying5
 a5 := Tryz.isAgg5
 z5 := Tryz.sizeOf5
 v5 := Tryz.zeroValue5
 t9 := Tryz.underlying9
 a9 := Tryz.isAgg9
 z9 := Tryz.sizeOf9
 v9 := Tryz.zeroValue9
 t21 := Tryz.underlying21
 a21 := Tryz.isAgg21
 z21 := Tryz.sizeOf21
 v21 := Tryz.zeroValue21
 t31 := Tryz.underlying23
 a31 := Tryz.isAgg23
 z31 := Tryz.sizeOf23
 v31 := Tryz.zeroValue23
 t46 := Tryz.underlying204
 a46 := Tryz.isAgg204
 z46 := Tryz.sizeOf204
 v46 := Tryz.zeroValue204
 t51 := Tryz.underlying226
 a51 := Tryz.isAgg226
 z51 := Tryz.sizeOf226
 v51 := Tryz.zeroValue226
 t105 := Tryz.underlying253
 a105 := Tryz.isAgg253
 z105 := Tryz.sizeOf253
 v105 := Tryz.zeroValue253
 t119 := Tryz.underlying261
 a119 := Tryz.isAgg261
 z119 := Tryz.sizeOf261
 t138 := Tryz.underlying263
 a138 := Tryz.isAgg263
 z138 := Tryz.sizeOf263
 v138 := Tryz.zeroValue263
 t139 := Tryz.underlying264
 a139 := Tryz.isAgg264
 z139 := Tryz.sizeOf264
 v139 := Tryz.zeroValue264
 t146 := Tryz.underlying227
 a146 := Tryz.isAgg227
 z146 := Tryz.sizeOf227
 v146 := Tryz.zeroValue227
 g1 := by kernel_rfl
 g3 := by kernel_rfl
 g4 := by kernel_rfl }
open Go.RowKit Go.Lib in
theorem Tryz.strings_Split (s sep : ByteArray) (m : Int) (w : World) (hs : s.size < 4294967281) (hm : w.cell? ⟨0, 0, none⟩ = some (.int .i64 m)) (h1 : 1 ≤ sep.size) :
 Calls Tryz.prog 182 #[.string s, .string sep] w fun e w' =>
  e = .returned (.slice (some ⟨w.heap.size, 0, none⟩) (Lib.countB s sep + 1) (Lib.countB s sep + 1)) ∧ w' = w.alloc (.cells ((Lib.splitB sep 0 (Lib.countB s sep) s).map Value.string).toArray 9) := Any.strings_Split Tryz.lays146 (by kernel_rfl) s sep m w hs hm h1
end Go.Proofs
namespace Go.Proofs.YtapnnpoljobanaaGreatDoor
open Go.Ex Go.RowKit
set_option maxRecDepth 1000000
noncomputable abbrev P := Tryz.prog
theorem zM : xJ 8 P = true := by decide +kernel
theorem mixed : P.follows .mixedOrders = true := by decide +kernel
def tb (m : Int) : List (Nat × List Value) := [(0, [.int .i64 m]), (1, Lib.pow10Tab.map fun z => Value.int .u64 z)]
theorem tb_ok (m : Int) : ∀ p ∈ tb m, p.1 < 8 ∧ p.2.all uN = true := by
 intro p hp;simp only [tb, List.mem_cons, List.not_mem_nil, or_false] at hp;rcases hp with rfl | rfl
 · exact ⟨(by decide : (0 : Nat) < 8), rfl⟩
 · exact ⟨(by decide : (1 : Nat) < 8), by simp [Lib.pow10Tab, uN]⟩
theorem tb_max {m : Int} {wd : World} (h : TabsIn wd (tb m)) : wd.cell? ⟨0, 0, none⟩ = some (.int .i64 m) := by
 obtain ⟨el, fr, e⟩ := h (0, [.int .i64 m]) (by simp [tb]);unfold World.cell?;dsimp only at e ⊢;rw [e]; rfl
theorem tb_pow {m : Int} {wd : World} (h : TabsIn wd (tb m)) : Lib.TabIs P wd "internal/strconv.uint64pow10" .u64 Lib.pow10Tab := by
 obtain ⟨el, fr, e⟩ := h (1, Lib.pow10Tab.map fun z => Value.int .u64 z) (by simp [tb]);unfold Lib.TabIs World.var?;rw [show P.globalNamed "internal/strconv.uint64pow10" = some 1 by kernel_rfl];simp only [Option.bind_some];dsimp only at e;rw [e]
theorem h_cut : hasB P 160 = true := by kernel_rfl
theorem h_cutPrefix : hasB P 181 = true := by kernel_rfl
theorem h_split : hasB P 182 = true := by kernel_rfl
theorem h_join : hasB P 54 = true := by kernel_rfl
theorem h_itoa : hasB P 81 = true := by kernel_rfl
theorem h_check : hasB P 108 = true := by kernel_rfl
theorem h_string : hasB P 57 = true := by kernel_rfl
theorem cut_pure {m : Int} {h : zG} (n : Nat) (ht : TabsH (tb m) h) (s : List UInt8) (c : UInt8) (hs : s.length < 1000000) :
 Pure P 8 160 [str s, str [c]] h n (.tuple #[str (cutB c s).1, str (cutB c s).2.1, .bool (cutB c s).2.2]) := by
 refine qA h_cut rfl rfl ht (tb_ok m) fun wd hw => ?_;refine (Tryz.strings_Cut ⟨⟨s⟩⟩ ⟨#[c]⟩ m wd ?_ (tb_max hw)).mono fun e w' ⟨he, k, hw'⟩ => ?_
 · show s.length < _; omega
 · subst hw';refine ⟨?_, below_drewN (Below.refl _ _) k⟩;rw [he];show Ending.returned (.tuple #[.string ⟨(Lib.cut s [c]).1.toArray⟩, .string ⟨(Lib.cut s [c]).2.1.toArray⟩, .bool (Lib.cut s [c]).2.2]) = _;rw [cut_one]
theorem cutPrefix_pure {h : zG} (n : Nat) (s p : List UInt8) :
 Pure P 8 181 [str s, str p] h n (.tuple #[str (Lib.trimPrefix s p), .bool (Lib.hasPrefix s p)]) := by
 refine qA (tabs := []) h_cutPrefix rfl rfl (fun _ h => by cases h) (fun _ h => by cases h) fun wd hw => ?_;refine (Tryz.strings_CutPrefix ⟨⟨s⟩⟩ ⟨⟨p⟩⟩ wd).mono fun e w' ⟨he, hw'⟩ => ?_;subst hw';exact ⟨he, Below.refl _ _⟩
theorem split_rets {m : Int} {h : zG} (n : Nat) (ht : TabsH (tb m) h) (s : List UInt8) (c : UInt8) (hs : s.length < 1000000) :
 Rets P 8 182 [str s, str [c]] h n fun v' h' n' => v' = .slice (some ⟨n, 0, none⟩) (wV c s).length (wV c s).length ∧ h' = h.set .dead (mkC ((wV c s).map str) 0 0) n ∧ n' = n + 1 := by
 have hl : (wV c s).length < 1000001 := by rw [splitL_length]; have := List.count_le_length (a := c) (l := s); omega
 refine row_of_calls h_split rfl ?_ (Nat.le_refl _) ?_ ht (tb_ok m) (el := 9) fun wd hw => ?_
 · simp [uN]
 · unfold inf; omega
 · refine (Tryz.strings_Split ⟨⟨s⟩⟩ ⟨#[c]⟩ m wd ?_ (tb_max hw) (Nat.le_refl 1)).mono fun e w' ⟨he, hw'⟩ => ?_
   · show s.length < _; omega
   · have e1 : Lib.countB ⟨⟨s⟩⟩ ⟨#[c]⟩ + 1 = (wV c s).length := by rw [count_one, splitL_length]
     have e2 : (Lib.splitB ⟨#[c]⟩ 0 (Lib.countB ⟨⟨s⟩⟩ ⟨#[c]⟩) ⟨⟨s⟩⟩).map Value.string = (wV c s).map str := by
      have := split_one c ⟨⟨s⟩⟩;rw [← this, List.map_map];apply List.map_congr_left;intro x _;rfl
     rw [e1] at he;refine ⟨he, ?_⟩;rw [hw', e2]
theorem join_pure {h : zG} {n : Nat} {sv : Value} {el : Nat} (ls : List (List UInt8)) (sep : List UInt8) (r : Row n h sv el 1 ls.length (ls.map str)) (hn : ls.length < 1000000) (hl : (Lib.join ls sep).length < 1000000) :
 Pure P 8 54 [sv, str sep] h n (str (Lib.join ls sep)) := by
 refine pure_of_calls_row (tabs := []) h_join r (by simp [uN]) rfl rfl (fun _ h => by cases h) (fun _ h => by cases h) fun wd sv' _ hsv => ?_;rcases hsv with ⟨h0, a, c, rfl⟩ | ⟨bk, o, c, rfl, hc, hb, hcells⟩
 · have : ls = [] := List.length_eq_zero_iff.1 h0;subst this;refine (Tryz.strings_Join_none a c ⟨⟨sep⟩⟩ wd).mono fun e w' ⟨he, hw'⟩ => ?_;subst hw';exact ⟨he, Below.refl _ _⟩
 · have e1 : (ls.map fun l => (⟨⟨l⟩⟩ : ByteArray)).length = ls.length := List.length_map ..;have e2 : (ls.map fun l => (⟨⟨l⟩⟩ : ByteArray)).map (·.data.toList) = ls := by rw [List.map_map]; exact List.map_id' _
   have := Tryz.strings_Join bk o c (ls.map fun l => (⟨⟨l⟩⟩ : ByteArray)) ⟨⟨sep⟩⟩ wd (fun j x hj => hcells j (.string x) (by
    rw [List.getElem?_map] at hj ⊢
    cases e : ls[j]? with
    | none => rw [e] at hj; cases hj
    | some l => rw [e] at hj; injection hj with hj; subst hj; rfl)) hb (by rw [e1]; omega) (by rw [e1]; exact hc) (by rw [e2]; show (Lib.join ls sep).length ≤ _; omega)
   rw [e1, e2] at this;exact this.mono fun _ _ ⟨he, hw'⟩ => ⟨he, hw'⟩
theorem itoa_pure {m : Int} {h : zG} (n : Nat) (ht : TabsH (tb m) h) (a : Int) (h0 : -9223372036854775808 ≤ a) (h1 : a ≤ 9223372036854775807) :
 Pure P 8 81 [.int .i64 a] h n (str (Lib.itoa a)) := by
 refine qA h_itoa rfl rfl ht (tb_ok m) fun wd hw => ?_;refine (Tryz.strconv_Itoa a h0 h1 wd (tb_pow hw)).mono fun e w' ⟨he, k, os, hw'⟩ => ?_;subst hw';exact ⟨he, Lib.below_grow _ _ (Nat.le_refl _) k os⟩
theorem h_atoi : hasB P 179 = true := by kernel_rfl
theorem atoi_pure {h : zG} (n : Nat) (s : List UInt8) (v : Int) (hs : s.length ≤ 1000000) (hv : Lib.atoiAll s = .ok v) :
 Pure P 8 179 [str s] h n (.tuple #[.int .i64 v, .nilIface]) := by
 refine qA (tabs := []) h_atoi rfl rfl (fun _ h => by cases h) (fun _ h => by cases h) fun wd hw => ?_;refine (Tryz.strconv_Atoi_ok ⟨⟨s⟩⟩ (by show s.length ≤ _; omega) v hv wd).mono fun e w' ⟨he, hw'⟩ => ?_;rcases hw' with rfl | ⟨t, rfl⟩
 · exact ⟨he, Below.refl _ _⟩
 · exact ⟨he, Lib.bytesWorld_below _ _ _⟩
theorem check_fresh {b n : Nat} {h : zG} {sv : Value} (hB : Bld 97 h b (.pointer none) sv) :
 Rets P 8 108 [.pointer (some ⟨b, 0, none⟩)] h n fun v h' n' => v = .tuple #[] ∧ h' = h.set .dead (stC (zT h b) 0 [.pointer (some ⟨b, 0, none⟩)]) b ∧ n' = n :=
 copyCheck_fresh h_check hB fun wd c h1 h2 h3 => Any.Builder_copyCheck_fresh { Tryz.lays156 with } { Tryz.Builder_Extra_156 with } c wd h1 h2 h3
theorem check_used {b n : Nat} {h : zG} {sv : Value} (hB : Bld 97 h b (.pointer (some ⟨b, 0, none⟩)) sv) :
 Rets P 8 108 [.pointer (some ⟨b, 0, none⟩)] h n fun v h' n' => v = .tuple #[] ∧ h' = h ∧ n' = n :=
 copyCheck_used h_check hB fun wd c h1 => Any.Builder_copyCheck_used { Tryz.lays156 with } { Tryz.Builder_Extra_156 with } c wd h1
theorem string_rets {b lo n : Nat} {h : zG} {p sv : Value} {l : List UInt8} (hB : Bld 97 h b p sv) (ho : Own lo n h sv 5 1 l.length (bytesV l)) (hne : xK sv ≠ some b) (hlen : l.length < 1000000) :
 Rets P 8 57 [.pointer (some ⟨b, 0, none⟩)] h n fun v h' n' => v = str l ∧ n' = n ∧ (∀ b', xK sv ≠ some b' → zT h' b' = zT h b') :=
 builder_String h_string hB ho hne hlen
  (fun wd c x hx => (Any.Builder_String_nil Tryz.lays169 Tryz.Builder_Extra_169 wd.heap.size c x wd hx).mono fun _ _ ⟨he, hb⟩ => ⟨he, hb⟩)
  (fun wd c g cap x cur h0 h1 h2 h3 h4 h5 => (string_model Tryz.lays169 Tryz.Builder_Extra_169 c g cap x cur l wd h0 hlen h1 h2 h3 h4 h5).mono fun _ _ ⟨he, hb⟩ => ⟨he, hb⟩)
open Go.Ex
theorem sh41 : yF P 41 = .scal := by kernel_rfl
theorem us41 : und P 41 = some (.slice 51) := by kernel_rfl
theorem ix41 : ixOf P 41 = .slice 1 := by kernel_rfl
theorem ap41 : apTB P 41 41 51 1 = true := by kernel_rfl
theorem on41 : oneTB P 41 51 = true := by kernel_rfl
theorem sh51 : yF P 51 = .scal := by kernel_rfl
theorem us51 : und P 51 = some (.slice 50) := by kernel_rfl
theorem ix51 : ixOf P 51 = .slice 9 := by kernel_rfl
theorem ap51 : apTB P 51 51 50 9 = true := by kernel_rfl
theorem sh114 : yF P 114 = .scal := by kernel_rfl
theorem us114 : und P 114 = some (.slice 113) := by kernel_rfl
theorem ix114 : ixOf P 114 = .slice 1 := by kernel_rfl
theorem sh40 : yF P 40 = .scal := by kernel_rfl
theorem us40 : und P 40 = some (.slice 3) := by kernel_rfl
theorem ix40 : ixOf P 40 = .slice 1 := by kernel_rfl
theorem ap40 : apTB P 40 40 3 1 = true := by kernel_rfl
theorem on40 : oneTB P 40 3 = true := by kernel_rfl
theorem sh23 : yF P 23 = .scal := by kernel_rfl
theorem us23 : und P 23 = some (.slice 9) := by kernel_rfl
theorem ix23 : ixOf P 23 = .slice 1 := by kernel_rfl
theorem ap23 : apTB P 23 23 9 1 = true := by kernel_rfl
theorem on23 : oneTB P 23 9 = true := by kernel_rfl
theorem in23 : (inf? P 9).map (·.size) = some 1 := by kernel_rfl
theorem sh25 : yF P 25 = .scal := by kernel_rfl
theorem ze25 : wK P 25 = some (.int .i64 0) := by kernel_rfl
theorem sh43 : yF P 43 = .agg 5 := by kernel_rfl
theorem ze43 : wK P 43 = some (.agg ⟨[str [], .slice none 0 0, .slice none 0 0, str [], .slice none 0 0]⟩) := by kernel_rfl
theorem fa43_0 (b : Nat) : zB P 43 0 (.pointer (some ⟨b, 0, none⟩)) = some (.pointer (some ⟨b, 0, none⟩)) := by rw [yE (o := 0) (by kernel_rfl), Nat.zero_add]
theorem sX (b : Nat) : zB P 43 1 (.pointer (some ⟨b, 0, none⟩)) = some (.pointer (some ⟨b, 1, none⟩)) := by rw [yE (o := 1) (by kernel_rfl), Nat.zero_add]
theorem fa43_2 (b : Nat) : zB P 43 2 (.pointer (some ⟨b, 0, none⟩)) = some (.pointer (some ⟨b, 2, none⟩)) := by rw [yE (o := 2) (by kernel_rfl), Nat.zero_add]
theorem fa43_3 (b : Nat) : zB P 43 3 (.pointer (some ⟨b, 0, none⟩)) = some (.pointer (some ⟨b, 3, none⟩)) := by rw [yE (o := 3) (by kernel_rfl), Nat.zero_add]
theorem tA (b : Nat) : zB P 43 4 (.pointer (some ⟨b, 0, none⟩)) = some (.pointer (some ⟨b, 4, none⟩)) := by rw [yE (o := 4) (by kernel_rfl), Nat.zero_add]
theorem sh50 : yF P 50 = .agg 9 := by kernel_rfl
theorem ze50 : wK P 50 = some (.agg ⟨[.int .i64 0, .int .i64 0, .int .i64 0, .int .i64 0, .int .i64 0, str [], .slice none 0 0, .int .i64 0, .int .i64 0]⟩) := by kernel_rfl
theorem tO (b : Nat) : zB P 50 0 (.pointer (some ⟨b, 0, none⟩)) = some (.pointer (some ⟨b, 0, none⟩)) := by rw [yE (o := 0) (by kernel_rfl), Nat.zero_add]
theorem fa50_1 (b : Nat) : zB P 50 1 (.pointer (some ⟨b, 0, none⟩)) = some (.pointer (some ⟨b, 1, none⟩)) := by rw [yE (o := 1) (by kernel_rfl), Nat.zero_add]
theorem rS (b : Nat) : zB P 50 2 (.pointer (some ⟨b, 0, none⟩)) = some (.pointer (some ⟨b, 2, none⟩)) := by rw [yE (o := 2) (by kernel_rfl), Nat.zero_add]
theorem fa50_3 (b : Nat) : zB P 50 3 (.pointer (some ⟨b, 0, none⟩)) = some (.pointer (some ⟨b, 3, none⟩)) := by rw [yE (o := 3) (by kernel_rfl), Nat.zero_add]
theorem fa50_4 (b : Nat) : zB P 50 4 (.pointer (some ⟨b, 0, none⟩)) = some (.pointer (some ⟨b, 4, none⟩)) := by rw [yE (o := 4) (by kernel_rfl), Nat.zero_add]
theorem qX (b : Nat) : zB P 50 5 (.pointer (some ⟨b, 0, none⟩)) = some (.pointer (some ⟨b, 5, none⟩)) := by rw [yE (o := 5) (by kernel_rfl), Nat.zero_add]
theorem sY (b : Nat) : zB P 50 6 (.pointer (some ⟨b, 0, none⟩)) = some (.pointer (some ⟨b, 6, none⟩)) := by rw [yE (o := 6) (by kernel_rfl), Nat.zero_add]
theorem fa50_7 (b : Nat) : zB P 50 7 (.pointer (some ⟨b, 0, none⟩)) = some (.pointer (some ⟨b, 7, none⟩)) := by rw [yE (o := 7) (by kernel_rfl), Nat.zero_add]
theorem fa50_8 (b : Nat) : zB P 50 8 (.pointer (some ⟨b, 0, none⟩)) = some (.pointer (some ⟨b, 8, none⟩)) := by rw [yE (o := 8) (by kernel_rfl), Nat.zero_add]
theorem sh4 : yF P 4 = .scal := by kernel_rfl
theorem sh1 : yF P 1 = .scal := by kernel_rfl
theorem sh113 : yF P 113 = .scal := by kernel_rfl
theorem sh3 : yF P 3 = .scal := by kernel_rfl
theorem ze3 : wK P 3 = some (.int .i64 0) := by kernel_rfl
theorem sh9 : yF P 9 = .scal := by kernel_rfl
theorem us9 : und P 9 = some .string := by kernel_rfl
theorem fa116_0 (b : Nat) : zB P 116 0 (.pointer (some ⟨b, 0, none⟩)) = some (.pointer (some ⟨b, 0, none⟩)) := by rw [yE (o := 0) (by kernel_rfl), Nat.zero_add]
theorem fa116_1 (b : Nat) : zB P 116 1 (.pointer (some ⟨b, 0, none⟩)) = some (.pointer (some ⟨b, 1, none⟩)) := by rw [yE (o := 1) (by kernel_rfl), Nat.zero_add]
theorem fa116_2 (b : Nat) : zB P 116 2 (.pointer (some ⟨b, 0, none⟩)) = some (.pointer (some ⟨b, 2, none⟩)) := by rw [yE (o := 2) (by kernel_rfl), Nat.zero_add]
theorem fa116_3 (b : Nat) : zB P 116 3 (.pointer (some ⟨b, 0, none⟩)) = some (.pointer (some ⟨b, 3, none⟩)) := by rw [yE (o := 3) (by kernel_rfl), Nat.zero_add]
theorem fa116_4 (b : Nat) : zB P 116 4 (.pointer (some ⟨b, 0, none⟩)) = some (.pointer (some ⟨b, 4, none⟩)) := by rw [yE (o := 4) (by kernel_rfl), Nat.zero_add]
theorem fa116_5 (b : Nat) : zB P 116 5 (.pointer (some ⟨b, 0, none⟩)) = some (.pointer (some ⟨b, 5, none⟩)) := by rw [yE (o := 5) (by kernel_rfl), Nat.zero_add]
theorem fa189_0 (b : Nat) : zB P 189 0 (.pointer (some ⟨b, 0, none⟩)) = some (.pointer (some ⟨b, 0, none⟩)) := by rw [yE (o := 0) (by kernel_rfl), Nat.zero_add]
theorem qY (b : Nat) : zB P 111 0 (.pointer (some ⟨b, 0, none⟩)) = some (.pointer (some ⟨b, 0, none⟩)) := by rw [yE (o := 0) (by kernel_rfl), Nat.zero_add]
end Go.Proofs.YtapnnpoljobanaaGreatDoor
