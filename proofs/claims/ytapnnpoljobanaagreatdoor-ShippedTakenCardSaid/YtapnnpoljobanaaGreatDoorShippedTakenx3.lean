/- What the law leans on: an executor of the model that is sound, deduction over it, and the walks through the code (part 3 of 21). Conditions: those that each theorem states. -/
import Derived.Test.YtapnnpoljobanaaGreatDoorShippedTakenx2
import Derived.Calls
import Derived.Lib.IndexMore
import Derived.Lib.Split
import Derived.Lib.CountLaws
import Derived.Shelf.Strings.Builder1
import Derived.Shelf.Strings.Builder2
import Derived.Shelf.Strings.OnBuilder
import Derived.Shelf.Small.Wraps
import Derived.Shelf.Strconv.Itoa0
import Derived.Shelf.Strconv.Itoa1
import Derived.Shelf.LaysM
import Derived.Shelf.Strconv.Itoa2
import Derived.Shelf.Strconv.Itoa3
import Derived.Test.YtapnnpoljobanaaGreatDoorProg
import Derived.Test.YtapnnpoljobanaaGreatDoorRows
import Derived.KernelRfl
import Derived.Lib.AppendIntMem
import Derived.WalkSmall

namespace Go.Ex
inductive Ty where
  | any
  | val
  | int (k : IntKind)
  | bool
noncomputable def tyOf (P : Program) (t : TypeId) : Ty :=
  match und P t with
  | some (.int k) => .int k
  | some .bool => .bool
  | _ => .any
noncomputable def fi (x : Int) (K : Int → Bool) : Bool := Int.rec (fun m => K (.ofNat m)) (fun m => K (.negSucc m)) x
noncomputable def fb (x : Bool) (K : Bool → Bool) : Bool := Bool.rec (K false) (K true) x
noncomputable def fn (x : Nat) (K : Nat → Bool) : Bool := Nat.rec (K 0) (fun m _ => K (Nat.succ m)) x
noncomputable def opt {α : Type} (x : Option α) (K : α → Bool) : Bool := Option.rec false K x
noncomputable abbrev yPut (t : Fr) (i : Nat) (v : Value) (k : Fr → Bool) : Bool :=
  Tr.Pa.rec (motive := fun _ => Fr → (Fr → Bool) → Bool)
    (fun t k => Tr.rec (k (.nD .lF v .lF)) (fun l _ r _ _ => k (.nD l v r)) t)
    (fun _ ih t k => Tr.rec (ih .lF fun l => k (.nD l undef .lF)) (fun l w r _ _ => ih l fun l => k (.nD l w r)) t)
    (fun _ ih t k => Tr.rec (ih .lF fun r => k (.nD .lF undef r)) (fun l w r _ _ => ih r fun r => k (.nD l w r)) t) (Tr.pa (Nat.succ i) i) t k
noncomputable abbrev yPutO (t : Fr) (dst : Option Tmp) (v : Value) (k : Fr → Bool) : Bool := Option.rec (k t) (fun i => yPut t i v k) dst
noncomputable def gt (b : Bool) (x : Bool) : Bool := Bool.rec false x b
noncomputable def rtI (kd : IntKind) (v : Value) (K : Int → Bool) : Bool := onInt v (fun k a => Bool.rec false (K a) (yI k kd)) false
noncomputable def rtB (v : Value) (K : Bool → Bool) : Bool := zW v K false
noncomputable abbrev rtS (T : Ty) (v : Value) (K : Value → Bool) : Bool :=
  Ty.rec (motive := fun _ => Value → (Value → Bool) → Bool) (fun v K => K v) (fun v K => zA v K) (fun kd v K => rtI kd v fun a => K (.int kd a)) (fun v K => rtB v fun b => K (.bool b)) T v K
abbrev KH := zE → Nat → Value → Bool
abbrev KC := zF → zE → Nat → Bool
noncomputable def qBin (P : Program) (op : BinOp) (ty : TypeId) (q : Bool) (x y : Value) : Option Value :=
  aBin P op ty (Bool.rec (.func 0) (.const undef) q) (.func 0) x y
noncomputable def xF (f : Int → Int → Int) (P : Program) (op : BinOp) (ty : TypeId) (q : Bool) (x y : Value) (K : Value → Bool) : Bool :=
  onInt x (fun k1 a => onInt y (fun k2 b => Bool.rec false (fi (yK k1 (f a b)) fun c => K (.int k1 c)) (yI k1 k2)) (opt (qBin P op ty q x y) K)) (opt (qBin P op ty q x y) K)
noncomputable def zK (f : Int → Int → Bool) (P : Program) (op : BinOp) (ty : TypeId) (q : Bool) (x y : Value) (K : Bool → Bool) : Bool :=
  onInt x (fun k1 a => onInt y (fun k2 b => Bool.rec false (fb (f a b) fun c => K c) (yI k1 k2)) (opt (qBin P op ty q x y) fun v => rtB v fun c => K c)) (opt (qBin P op ty q x y) fun v => rtB v fun c => K c)
noncomputable abbrev yCmp (f : Int → Int → Bool) (P : Program) (op : BinOp) (ty : TypeId) (q : Bool) (x y : Value) (K : Value → Bool) : Bool := zK f P op ty q x y fun c => K (.bool c)
noncomputable def yOther (P : Program) (op : BinOp) (ty : TypeId) (q : Bool) (x y : Value) (K : Value → Bool) : Bool :=
  onInt x (fun k1 _ => opt (qBin P op ty q x y) fun v => rtI k1 v fun c => K (.int k1 c)) (opt (qBin P op ty q x y) K)
noncomputable abbrev yBin (P : Program) (op : BinOp) (ty : TypeId) (q : Bool) (x y : Value) (K : Value → Bool) : Bool :=
  BinOp.rec (motive := fun _ => Program → TypeId → Bool → Value → Value → (Value → Bool) → Bool)
    (fun P ty q x y K => xF wV P .add ty q x y K)
    (fun P ty q x y K => xF isub P .sub ty q x y K)
    (fun P ty q x y K => xF Int.mul P .mul ty q x y K)
    (fun P ty q x y K => yOther P .quo ty q x y K)
    (fun P ty q x y K => yOther P .rem ty q x y K)
    (fun P ty q x y K => yOther P .and ty q x y K)
    (fun P ty q x y K => yOther P .or ty q x y K)
    (fun P ty q x y K => yOther P .xor ty q x y K)
    (fun P ty q x y K => yOther P .shl ty q x y K)
    (fun P ty q x y K => yOther P .shr ty q x y K)
    (fun P ty q x y K => yOther P .andNot ty q x y K)
    (fun P ty q x y K => yCmp yO P .eql ty q x y K)
    (fun P ty q x y K => yCmp (fun a b => Bool.rec true false (yO a b)) P .neq ty q x y K)
    (fun P ty q x y K => yCmp wE P .lss ty q x y K)
    (fun P ty q x y K => yCmp ileB P .leq ty q x y K)
    (fun P ty q x y K => yCmp (fun a b => wE b a) P .gtr ty q x y K)
    (fun P ty q x y K => yCmp (fun a b => ileB b a) P .geq ty q x y K) op P ty q x y K
noncomputable def zP (P : Program) (ty : TypeId) (h : zE) (v : Value) : Option Value :=
  onPtr v (fun b off => onCells (zN h b) (fun c kn _ _ =>
      Sh.rec none (Bool.rec none (zA (Tr.get undef c off) some) (Nat.blt off kn))
        (fun sz => Bool.rec none (some (.agg ⟨c.toListFrom undef off sz⟩)) (Nat.ble (Nat.add off sz) kn)) (wA P ty)) none) none
noncomputable abbrev yLoad (P : Program) (ty : TypeId) (T : Ty) (h : zE) (v : Value) (K : Value → Bool) : Bool := opt (zP P ty h v) fun x => rtS T x K
def wZ (v : Value) : Option Value :=
  match v with
  | .pointer (some p) => some (.pointer (some p))
  | .func (.func f) fs cs => some (.func (.func f) fs cs)
  | .func (.yield f) fs cs => some (.func (.yield f) fs cs)
  | .map r => some (.map r)
  | .slice p i c => some (.slice p i c)
  | _ => none
noncomputable def zC (P : Program) (ty : TypeId) (f : Nat) (v : Value) : Option Value :=
  onPtr v (fun b off => Option.rec none (fun o => some (.pointer (some ⟨b, Nat.add off o, none⟩))) (offOf P ty f)) none
noncomputable def zQ (P : Program) (ty : TypeId) (v ix : Value) : Option Value :=
  onInt ix (fun _ i => Int.rec (fun i => Ix.rec none
      (fun sz => onSlice v (fun b off len _ => Bool.rec none (some (.pointer (some ⟨b, Nat.add off (Nat.mul i sz), none⟩))) (Nat.blt i len)) none)
      (fun len sz => onPtr v (fun b off => Bool.rec none (some (.pointer (some ⟨b, Nat.add off (Nat.mul i sz), none⟩))) (Nat.blt i len)) none) (ixOf P ty)) (fun _ => none) i) none
noncomputable def qMakeIface (P : Program) (ty : TypeId) (v : Value) : Option Value :=
  match und P ty with
  | some (.interface _) => none
  | some _ => zA v fun v => some (.iface ty v)
  | none => none
noncomputable def zZ (i : Nat) (v : Value) : Option Value :=
  match v with
  | .tuple vs => Option.rec none (fun v => zA v some) (vs.toList[i]?)
  | _ => none
noncomputable def qConvert (P : Program) (src dst : TypeId) (v : Value) : Option Value :=
  match und P src with
  | some _ => aConvert P dst v
  | none => none
noncomputable def eAlloc (P : Program) (el : TypeId) (h : zE) (n : Nat) (K : KH) : Bool :=
  opt (yT P el) fun z => zT h n (mkCellsT (cellsOf z) el) fun h' n' => K h' n' (.pointer (some ⟨n, 0, none⟩))
noncomputable def eBox (el : TypeId) (v : Value) (h : zE) (n : Nat) (K : KH) : Bool :=
  vL .lF 0 (cellsOf v) fun c => zT h n (.cells c (cellsOf v).length (Nat.succ el) 0) fun h' n' => K h' n' (.pointer (some ⟨n, 0, none⟩))
noncomputable def yC (P : Program) (ty : TypeId) (len : Nat) (parts : List (Nat × Value)) (h : zE) (n : Nat) (K : KH) : Bool :=
  opt (wH P ty len parts) fun ob => zT h n ob fun h' n' => K h' n' (.slice (some ⟨n, 0, none⟩) len len)
noncomputable def xG (P : Program) (ty : TypeId) (p v : Value) (h : zE) (n : Nat) (K : KH) : Bool :=
  onPtr p (fun b off => Sh.rec false
      (Bool.rec false (storeAt h b off (cellsOf v) fun h' => K h' n undef) (Nat.beq (cellsOf v).length 1))
      (fun sz => Bool.rec false (storeAt h b off (cellsOf v) fun h' => K h' n undef) (Nat.beq (cellsOf v).length sz)) (wA P ty)) false
noncomputable def eMakeMap (h : zE) (n : Nat) (K : KH) : Bool := zT h n (.map [] 0) fun h' n' => K h' n' (.map (some n))
noncomputable def eMakeSlice (P : Program) (ty : TypeId) (l c : Value) (h : zE) (n : Nat) (K : KH) : Bool :=
  opt (wI P ty l c) fun p => zT h n p.1 fun h' n' => K h' n' (.slice (some ⟨n, 0, none⟩) p.2.1 p.2.2)
noncomputable def eMapSet (P : Program) (ty : TypeId) (m key v : Value) (h : zE) (n : Nat) (K : KH) : Bool := xS P ty m key v h fun h => K h n undef
noncomputable def eAppend (P : Program) (tys : List TypeId) (args : List Value) (h : zE) (n : Nat) (K : KH) : Bool := xappend P tys args h n fun v h n => K h n v
noncomputable def eClear (P : Program) (tys : List TypeId) (args : List Value) (h : zE) (n : Nat) (K : KH) : Bool := xclear P tys args h fun h => K h n (.tuple #[])
noncomputable abbrev eCall (lo : Lo) (T : Ty) (g : FuncId) (args : List Value) (h : zE) (n : Nat) (K : KH) (Kp : KC) : Bool :=
  lo.call g args false none h n fun o _ h n => Out.rec (fun v => rtS T v (K h n)) (fun c => Kp c h n) o
noncomputable abbrev eInvoke (lo : Lo) (T : Ty) (f : Value) (args : List Value) (h : zE) (n : Nat) (K : KH) (Kp : KC) : Bool :=
  xinvoke lo f args h n (fun v h n => rtS T v (K h n)) (fun c h n => Kp c h n)
noncomputable def ePanic (v : Value) (h : zE) (n : Nat) (Kp : KC) : Bool :=
  match v with
  | .iface ty v => Kp [⟨.iface ty v, false, false⟩] h n
  | _ => false
noncomputable abbrev yFn (f : Fn) (K : FuncId → Bool) : Bool :=
  match f with
  | .func f => K f
  | _ => false
noncomputable abbrev yBuiltin (b : Builtin) (T : Ty) (P : Program) (tys : List TypeId) (args : List Value) (h : zE) (n : Nat) (K : KH) : Bool :=
  match b with
  | .append => eAppend P tys args h n K
  | .clear => eClear P tys args h n K
  | .len => opt (zU P .len tys args h) fun v => rtS T v (K h n)
  | .cap => opt (zU P .cap tys args h) fun v => rtS T v (K h n)
  | .max => opt (zU P .max tys args h) fun v => rtS T v (K h n)
  | .min => opt (zU P .min tys args h) fun v => rtS T v (K h n)
  | _ => false
noncomputable abbrev yOp (o : Op) (T : Ty) (P : Program) (lo : Lo) (t : Fr) (h : zE) (n : Nat) (K : KH) (Kp : KC) : Bool :=
  Op.rec (motive := fun _ => Ty → Program → Lo → Fr → zE → Nat → KH → KC → Bool)
    (fun x _ _ _ t h n K _ => K h n (ev t x))
    (fun x _ _ _ t h n K _ => K h n (ev t x))
    (fun c x y T _ _ t h n K _ => zW (ev t c) (fun b => rtS T (Bool.rec (ev t y) (ev t x) b) (K h n)) false)
    (fun el _ P _ _ h n K _ => eAlloc P el h n K)
    (fun el x _ _ _ t h n K _ => eBox el (ev t x) h n K)
    (fun ty parts _ P _ t h n K _ => opt (aBuild P ty (parts.toList.map fun p => (p.1, ev t p.2))) (K h n))
    (fun ty len parts _ P _ t h n K _ => yC P ty len (parts.toList.map fun p => (p.1, ev t p.2)) h n K)
    (fun ty m key v _ P _ t h n K _ => eMapSet P ty (ev t m) (ev t key) (ev t v) h n K)
    (fun ty x T P _ t h n K _ => yLoad P ty T h (ev t x) (K h n))
    (fun ty x v _ P _ t h n K _ => xG P ty (ev t x) (ev t v) h n K)
    (fun _ _ _ _ _ _ _ _ _ => false) (fun _ _ _ _ _ _ _ _ _ => false)
    (fun x _ _ _ t h n K _ => opt (wZ (ev t x)) (K h n))
    (fun op ty x y _ _ P _ t h n K _ => yBin P op ty (yF x || yF y) (ev t x) (ev t y) (K h n))
    (fun op _ x T _ _ t h n K _ => opt (aUn op (ev t x)) fun v => rtS T v (K h n))
    (fun src dst x T P _ t h n K _ => opt (qConvert P src dst (ev t x)) fun v => rtS T v (K h n))
    (fun _ _ _ _ _ _ _ _ _ _ => false)
    (fun ty x _ P _ t h n K _ => opt (qMakeIface P ty (ev t x)) (K h n))
    (fun f first cap _ _ _ t h n K _ => yFn f (fun f => K h n (.func (.func f) ⟨first.toList.map (ev t)⟩ ⟨cap.toList.map (ev t)⟩)))
    (fun _ r _ _ _ _ h n K _ => Option.rec (eMakeMap h n K) (fun _ => false) r)
    (fun _ _ _ _ _ _ _ _ _ _ => false)
    (fun ty l c _ P _ t h n K _ => eMakeSlice P ty (ev t l) (ev t c) h n K)
    (fun ty x lo hi mx _ P _ t h n K _ => opt (aSlice P h ty (ev t x) (lo.map (ev t)) (hi.map (ev t)) (mx.map (ev t))) (K h n))
    (fun ty x f _ P _ t h n K _ => opt (zC P ty f (ev t x)) (K h n))
    (fun ty x f T P _ t h n K _ => opt (aField P ty (ev t x) f) fun v => rtS T v (K h n))
    (fun ty x ix _ P _ t h n K _ => opt (zQ P ty (ev t x) (ev t ix)) (K h n))
    (fun ty x ix T P _ t h n K _ => opt (aIndex P ty (ev t x) (ev t ix)) fun v => rtS T v (K h n))
    (fun ty x key ok T P _ t h n K _ => opt (wG P h ty (ev t x) (ev t key) ok) fun v => rtS T v (K h n))
    (fun ty m key v _ P _ t h n K _ => eMapSet P ty (ev t m) (ev t key) (ev t v) h n K)
    (fun _ _ _ _ _ _ _ _ _ _ _ => false) (fun _ _ _ _ _ _ _ _ _ _ _ _ => false) (fun _ _ _ _ _ _ _ _ _ _ => false) (fun _ _ _ _ _ _ _ _ _ _ => false) (fun _ _ _ _ _ _ _ _ _ => false)
    (fun x _ asserted ok _ P _ t h n K _ => opt (vB P (ev t x) asserted ok) (K h n))
    (fun x i T _ _ t h n K _ => opt (zZ i (ev t x)) fun v => rtS T v (K h n))
    (fun c T P lo t h n K Kp => Call.rec (fun callee args tys => Callee.rec
      (fun f => Operand.rec (fun i => eInvoke lo T (zB t i) (args.toList.map (ev t)) h n K Kp) (fun v => eInvoke lo T v (args.toList.map (ev t)) h n K Kp) (fun _ => false)
        (fun g => eCall lo T g (args.toList.map (ev t)) h n K Kp) f)
      (fun _ _ => false)
      (fun b => yBuiltin b T P tys.toList (args.toList.map (ev t)) h n K) callee) c)
    (fun _ _ _ _ _ _ _ _ _ => false) (fun _ _ _ _ _ _ _ _ _ => false)
    (fun x _ _ _ t h n _ Kp => ePanic (ev t x) h n Kp)
    (fun _ _ _ _ _ _ _ _ _ _ => false) (fun _ _ _ _ _ _ _ _ _ _ _ => false) (fun _ _ _ _ _ _ _ _ _ _ => false) o T P lo t h n K Kp
noncomputable def full (F : Nat) : (Nat → Value) → Nat → Fr :=
  Nat.rec (motive := fun _ => (Nat → Value) → Nat → Fr) (fun _ _ => .lF)
    (fun _ ih f n => Nat.rec .lF (fun m _ => .nD (ih (fun i => f (Nat.succ (Nat.add i i))) (Nat.div (Nat.succ m) 2)) (f 0) (ih (fun i => f (Nat.succ (Nat.succ (Nat.add i i)))) (Nat.div m 2))) n) F
noncomputable abbrev rtGo (l : List Ty) (i : Nat) (t t' : Fr) (K : Fr → Bool) : Bool :=
  List.rec (motive := fun _ => Nat → Fr → Fr → (Fr → Bool) → Bool) (fun _ _ t' K => K t')
    (fun T _ ih i t t' K => Ty.rec (motive := fun _ => Bool) (ih (Nat.succ i) t t' K) (zA (zB t i) fun v => yPut t' i v fun t' => ih (Nat.succ i) t t' K)
      (fun kd => rtI kd (zB t i) fun a => yPut t' i (.int kd a) fun t' => ih (Nat.succ i) t t' K)
      (rtB (zB t i) fun b => yPut t' i (.bool b) fun t' => ih (Nat.succ i) t t' K) T) l i t t' K
noncomputable abbrev rt (N : Nat) (l : List Ty) (t : Fr) (K : Fr → Bool) : Bool := rtGo l 0 t (full N (zB t) N) K
noncomputable abbrev onW (w : W) (f : List Deferred → Option zF → zE → Nat → Bool) : Bool := W.rec f w
abbrev yR := Nat → FuncId → Nat → List Ty
abbrev KN := Fr → W → Bool
noncomputable def ntmX (P : Program) (f : FuncId) : Nat := Option.rec 0 (fun fn => fn.ntmps) (Tr.get none (fnT P) f)
noncomputable abbrev meet (P : Program) (hint : yR) (kind : Nat) (f : FuncId) (id : Nat) (kn : KN) : KN :=
  fun t w => rt (ntmX P f) (hint kind f id) t fun t => onW w fun d u h n => kn t ⟨d, u, h, n⟩
noncomputable def vN (c : Code) : Nat :=
  Option.rec 0 (fun x => x) (Code.rec (motive := fun _ => Option Nat) none (fun id _ _ => some id) (fun _ _ a b => Option.rec b some a) (fun _ _ _ a b => Option.rec b some a) (fun _ _ a => a) (fun _ a => Option.rec none (fun x => some (Nat.add x 1000000)) a)
    (fun _ _ _ _ a b => Option.rec b some a) (fun _ => none) (fun _ a => a) (fun _ => none) (fun _ => none) none (fun _ => none) c)
noncomputable def endsB (c : Code) : Bool :=
  Code.rec (motive := fun _ => Bool) true (fun _ _ _ => true) (fun _ _ a b => Bool.rec false b a) (fun _ _ _ a b => Bool.rec b true a) (fun _ _ _ => true) (fun _ _ => false)
    (fun _ _ _ _ _ _ => true) (fun _ => false) (fun _ a => a) (fun _ => true) (fun _ => false) false (fun _ => false) c
noncomputable def plainC (c : Code) : Bool :=
  Code.rec (motive := fun _ => Bool) true (fun _ _ _ => true) (fun _ _ a b => Bool.rec false b a) (fun _ ca cb a b => Bool.rec false (Bool.rec false (Bool.rec true (Bool.rec true false (endsB cb)) (endsB ca)) b) a) (fun _ _ _ => false) (fun _ _ => false)
    (fun _ _ _ _ _ _ => false) (fun _ => true) (fun _ _ => false) (fun _ => true) (fun _ => true) true (fun _ => true) c
noncomputable def yW (c : Code) : Bool :=
  Code.rec (motive := fun _ => Bool) false (fun _ _ _ => false) (fun _ _ _ _ => false) (fun _ _ _ _ _ => false) (fun _ _ _ => false) (fun _ _ => true)
    (fun _ _ _ _ _ _ => false) (fun _ => false) (fun _ _ => false) (fun _ => false) (fun _ => false) false (fun _ => false) c
noncomputable def br (z : Bool) (a b : Bool) : Bool := Bool.rec b a z
noncomputable def brJ (z : Bool) (A B : KN → Bool) (kn : KN) : Bool := Bool.rec (B kn) (A kn) z
noncomputable def blkJ (A : KN → Bool) (kn : KN) : Bool := A kn
noncomputable def blkA (id : Nat) (kn : KN) (ka : KX) : KX :=
  fun x t w => AX.rec (kn t w) (fun i => Bool.rec (ka (.exit i) t w) (kn t w) (Nat.beq i id)) (fun i => ka (.goto i) t w) (ka .ret t w) (fun c => ka (.panic c) t w) x
noncomputable def endA (kn : KN) (ka : KX) : KX :=
  fun x t w => AX.rec (kn t w) (fun i => ka (.exit i) t w) (fun i => ka (.goto i) t w) (ka .ret t w) (fun c => ka (.panic c) t w) x
noncomputable def scpA (ka : KX) : KX :=
  fun x t w => AX.rec (ka .normal t w) (fun i => ka (.exit i) t w) (fun _ => false) (ka .ret t w) (fun c => ka (.panic c) t w) x
noncomputable def noK : KN := fun _ _ => false
abbrev LP := Nat → Cx → Fr → W → KX → Bool
noncomputable def grd (b : Bool) (dop : KH → Bool) (kv : KH) (h : zE) (n : Nat) : Bool := Bool.rec (kv h n undef) (dop kv) b
noncomputable def nt (b : Bool) : Bool := Bool.rec true false b
noncomputable def gv (v : Value) : Bool := zW v (fun z => z) false
noncomputable def gnv (v : Value) : Bool := zW v nt false
noncomputable abbrev wnt (all : Array Oper) (t : Fr) (g : Nat) (b : Bool) : Bool :=
  Option.rec false (fun d => Bool.rec (gnv (zB t d)) (gv (zB t d)) b) (dstOf all g)
noncomputable abbrev yOps (P : Program) (lo : Lo) (all : Array Oper) (l : List Oper) (t : Fr) (d : List Deferred) (u : Option zF) (h : zE) (n : Nat) (kn : KN) (ka : KX) : Bool :=
  List.rec (motive := fun _ => Program → Lo → Array Oper → Fr → List Deferred → Option zF → zE → Nat → KN → KX → Bool)
    (fun _ _ _ t d u h n kn _ => kn t ⟨d, u, h, n⟩)
    (fun o _ ih P lo all t d u h n kn ka =>
      Option.rec
        (yOp o.op (tyOf P o.type) P lo t h n (fun h n v => yPutO t o.dst v fun t => ih P lo all t d u h n kn ka) fun c h n => ka (.panic c) t ⟨d, u, h, n⟩)
        (fun g => grd (wnt all t g.1 g.2) (fun kv => yOp o.op (tyOf P o.type) P lo t h n kv fun c h n => ka (.panic c) t ⟨d, u, h, n⟩)
          (fun h n v => yPutO t o.dst v fun t => ih P lo all t d u h n kn ka) h n) o.guard) l P lo all t d u h n kn ka
structure Lk where
  g : Bool
  f : W → Bool
  low : Nat
  high : Nat
noncomputable def sameO (v : Value) (o : Option Value) : Bool := opt o fun x => sameB x v
noncomputable def lkQ (q : zE → Option Value) (p v : Value) (w : W) : Bool := gt (blkLt w.n p) (sameO v (q w.h))
noncomputable def lkHd (l : List Value) : Value := List.rec undef (fun v _ _ => v) l
noncomputable abbrev lkOf (o : Op) (P : Program) (t : Fr) (v : Value) : W → Bool :=
  match o with
  | .load ty x => lkQ (fun h => zP P ty h (ev t x)) (ev t x) v
  | .lookup ty x key ok => lkQ (fun h => wG P h ty (ev t x) (ev t key) ok) (ev t x) v
  | .slice ty x lo hi mx => lkQ (fun h => aSlice P h ty (ev t x) (lo.map (ev t)) (hi.map (ev t)) (mx.map (ev t))) (ev t x) v
  | .call ⟨.builtin b, args, tys⟩ => lkQ (fun h => zU P b tys.toList (args.toList.map (ev t)) h) (lkHd (args.toList.map (ev t))) v
  | _ => fun _ => false
noncomputable def lkOne (l : Lk) (k : Nat) (hs : List W) : Bool :=
  List.rec (motive := fun _ => Nat → Bool) (fun _ => true)
    (fun w _ ih k => gt (Bool.rec true (gt (l.f w) true) (Nat.ble l.low (Nat.pred k) && Nat.ble (Nat.pred k) l.high)) (ih (Nat.pred k))) hs k
noncomputable def lks (hs : List W) (ls : List Lk) : Bool :=
  List.rec (motive := fun _ => Bool) true (fun l _ ih => gt (Bool.rec true (lkOne l hs.length hs) l.g) ih) ls
noncomputable abbrev gOf (all : Array Oper) (t : Fr) (g : Option (Nat × Bool)) : Bool := Option.rec true (fun g => wnt all t g.1 g.2) g
noncomputable abbrev yDraw (P : Program) (lo : Lo) (all : Array Oper) (l : List DOp) (t : Fr) (d : List Deferred) (u : Option zF) (h : zE) (n : Nat) (hs : List W) (ls : List Lk) (kn : KN) (ka : KX) : Bool :=
  List.rec (motive := fun _ => Program → Lo → Array Oper → Fr → List Deferred → Option zF → zE → Nat → List W → List Lk → KN → KX → Bool)
    (fun _ _ _ t d u h n hs ls kn _ => gt (lks hs ls) (kn t ⟨d, u, h, n⟩))
    (fun x _ ih P lo all t d u h n hs ls kn ka =>
      (fun (kv : KH) (kp : KC) => Option.rec (yOp x.o.op (tyOf P x.o.type) P lo t h n kv kp)
          (fun g => grd (wnt all t g.1 g.2) (fun kv => yOp x.o.op (tyOf P x.o.type) P lo t h n kv kp) kv h n) x.o.guard)
        (Bool.rec
          (fun h n v => yPutO t x.o.dst v fun t' => ih P lo all t' d u h n hs
            (Bool.rec ls (Bool.rec (⟨gOf all t x.o.guard, lkOf x.o.op P t v, x.low, x.high⟩ :: ls) ls (Nat.beq x.low x.high)) (Nat.beq x.kd 1)) kn ka)
          (fun h' n' v => gt (Nat.ble n n') (yPutO t x.o.dst v fun t' => ih P lo all t' d u h' n' (⟨d, u, h', n'⟩ :: hs) ls kn ka)) (Nat.beq x.kd 3))
        (fun c h n => Bool.rec false (gt (lks hs ls) (ka (.panic c) t ⟨d, u, h, n⟩)) (Nat.beq x.kd 3 && x.solo))) l P lo all t d u h n hs ls kn ka
noncomputable abbrev yDrawn (P : Program) (lo : Lo) (ops : Array Oper) (t : Fr) (d : List Deferred) (u : Option zF) (h : zE) (n : Nat) (kn : KN) (ka : KX) : Bool :=
  Option.rec false (fun l => yDraw P lo ops l t d u h n [⟨d, u, h, n⟩] [] kn ka) (plan ops)
noncomputable def yRange (lo : Lo) (f : Value) (params : Array Tmp) (assign body : Code) (cx : Cx) (t : Fr) (d : List Deferred) (u : Option zF) (h : zE) (n : Nat) (k : KX) : Bool :=
  match cx.round with
  | none => zT h n (.deferred true) fun h' n' => xrange lo (.const f) params assign body cx t ({ target := .collected n, args := #[] } :: d) u h' n' n k
  | some l => match zN h l with
    | .loop ll _ => xrange lo (.const f) params assign body cx t d u h n ll.defers k
    | _ => false
noncomputable abbrev yCode (P : Program) (hint : yR) (lo : Lo) (lp : LP) (c : Code) : Cx → Fr → W → KN → KX → Bool :=
  Code.rec (motive := fun _ => Program → yR → Lo → LP → Cx → Fr → W → KN → KX → Bool)
    (fun _ _ _ _ _ t w kn _ => kn t w)
    (fun _ ops draw P _ lo _ _ t w kn ka => onW w fun d u h n => Bool.rec (yOps P lo ops ops.toList t d u h n kn ka) (yDrawn P lo ops t d u h n kn ka) draw)
    (fun _ _ iha ihb P hint lo lp cx t w kn ka => iha P hint lo lp cx t w (fun t w => ihb P hint lo lp cx t w kn ka) ka)
    (fun c a b iha ihb P hint lo lp cx t w kn ka => zW (ev t c) (fun z =>
        Bool.rec (brJ z (fun kk => iha P hint lo lp cx t w kk ka) (fun kk => ihb P hint lo lp cx t w kk ka) (meet P hint 2 cx.fn (vN (.seq a b)) kn))
          (br z (iha P hint lo lp cx t w kn ka) (ihb P hint lo lp cx t w kn ka))
          (plainC a && plainC b && nt (endsB a && endsB b))) false)
    (fun id b ih P hint lo lp cx t w kn ka =>
        Bool.rec (blkJ (fun kk => ih P hint lo lp cx t w kk (blkA id kk ka)) (meet P hint 1 cx.fn id kn)) (ih P hint lo lp cx t w (meet P hint 1 cx.fn id kn) (blkA id (meet P hint 1 cx.fn id kn) ka)) (yW b))
    (fun b _ _ _ _ lp cx t w _ ka => lp (vN (.loop b)) cx t w (endA noK ka))
    (fun f params assign body _ _ P hint lo _ cx t w kn ka => onW w fun d u h n => yRange lo (ev t f) params assign body cx t d u h n (endA (meet P hint 3 cx.fn (vN body) kn) ka))
    (fun id _ _ _ _ _ t w _ ka => ka (.exit id) t w)
    (fun _ ih P hint lo lp cx t w kn ka => ih P hint lo lp cx t w kn (scpA ka))
    (fun _ _ _ _ _ _ t w kn _ => kn t w)
    (fun l _ _ _ _ _ t w _ ka => ka (.goto l) t w)
    (fun _ _ _ _ _ t w _ ka => ka .ret t w)
    (fun _ _ _ _ _ _ _ _ _ _ => false)
    c P hint lo lp
noncomputable abbrev wU (P : Program) (hint : yR) (lo : Lo) (lp : LP) (b : Code) (cx : Cx) (t : Fr) (w : W) (ka : KX) : Bool :=
  rt (ntmX P cx.fn) (hint 0 cx.fn (vN (.loop b))) t fun t => onW w fun d u h n => yCode P hint lo lp b cx t ⟨d, u, h, n⟩ (fun t w => lp (vN (.loop b)) cx t w ka) ka
noncomputable def zD (P : Program) (lo : Lo) (f : FuncId) (k : KO) : KX :=
  fun x t w => opt (vI P f) fun fb => AX.rec (xleave P lo fb.1 none t w k) (fun _ => false) (fun _ => false) (xleave P lo fb.1 none t w k) (fun c => xleave P lo fb.1 (some c) t w k) x
noncomputable abbrev argsGo (l : List Ty) (args : List Value) (i : Nat) (t : Fr) (K : Fr → Bool) : Bool :=
  List.rec (motive := fun _ => List Ty → Nat → Fr → (Fr → Bool) → Bool) (fun _ _ t K => K t)
    (fun v _ ih l i t K => List.rec (yPut t i v fun t => ih [] (Nat.succ i) t K) (fun T r _ => rtS T v fun v => yPut t i v fun t => ih r (Nat.succ i) t K) l) args l i t K
noncomputable abbrev zY (P : Program) (hint : yR) (lo : Lo) (lp : LP) (f : FuncId) (args : List Value) (df : Bool) (u : Option zF) (h : zE) (n : Nat) (k : KO) : Bool :=
  opt (vI P f) fun fb => Bool.rec false (argsGo (hint 4 f 0) args 0 (full (ntmX P f) (fun _ => undef) (ntmX P f)) fun t =>
    yCode P hint lo lp fb.2 ⟨f, none, df⟩ t ⟨[], u, h, n⟩ (fun t w => zD P lo f k .ret t w) (zD P lo f k)) (Nat.ble args.length (ntmX P f))
noncomputable def yG (c : Code) : List Code :=
  Code.rec (motive := fun _ => List Code) [] (fun _ _ _ => []) (fun _ _ a b => a ++ b) (fun _ _ _ a b => a ++ b) (fun _ _ a => a) (fun b a => .loop b :: a)
    (fun _ _ _ _ a b => a ++ b) (fun _ => []) (fun _ a => a) (fun _ => []) (fun _ => []) [] (fun _ => []) c
noncomputable def findC (i : Nat) (l : List Code) : Code := List.rec .skip (fun c _ ih => Bool.rec ih c (Nat.beq (vN c) i)) l
noncomputable def zJ (P : Program) (f : FuncId) (i : Nat) : Code := Option.rec .skip (fun fb => findC i (yG fb.2)) (vI P f)
theorem fi_eq (x : Int) (K : Int → Bool) : fi x K = K x := by cases x <;> rfl
theorem fb_eq (x : Bool) (K : Bool → Bool) : fb x K = K x := by cases x <;> rfl
theorem yA {α : Type} {x : Option α} {K : α → Bool} (h : opt x K = true) : ∃ v, x = some v ∧ K v = true := by
  cases x with
  | none => cases h
  | some v => exact ⟨v, rfl, h⟩
theorem gt_true {b x : Bool} (h : gt b x = true) : b = true ∧ x = true := by
  cases b with
  | false => cases h
  | true => exact ⟨rfl, h⟩
theorem rtI_true {kd : IntKind} {v : Value} {K : Int → Bool} (h : rtI kd v K = true) : ∃ a, v = .int kd a ∧ K a = true := by
  unfold rtI at h
  cases v with
  | int k a =>
    have h' : (Bool.rec false (K a) (yI k kd) : Bool) = true := h
    cases e : yI k kd with
    | false => rw [e] at h'; cases h'
    | true =>
      rw [e] at h';obtain rfl := xO e;exact ⟨a, rfl, h'⟩
  | _ => cases h
theorem rtB_true {v : Value} {K : Bool → Bool} (h : rtB v K = true) : ∃ b, v = .bool b ∧ K b = true := by
  unfold rtB at h
  cases v with
  | bool b => exact ⟨b, rfl, h⟩
  | _ => cases h
theorem xE {T : Ty} {v : Value} {K : Value → Bool} (h : rtS T v K = true) : K v = true := by
  cases T with
  | any => exact h
  | val => have h' : zA v K = true := h; rwa [yX] at h'
  | int kd => obtain ⟨a, rfl, h2⟩ := rtI_true (K := fun a => K (.int kd a)) h; exact h2
  | bool => obtain ⟨a, rfl, h2⟩ := rtB_true (K := fun b => K (.bool b)) h; exact h2
theorem asksFirst_q {ox oy ox' oy' : Operand} (h : (yF ox || yF oy) = (yF ox' || yF oy')) (x y : Value) : xY ox oy x y = xY ox' oy' x y := by
  unfold xY;split
  · exact h
  · rfl
  · rfl
theorem aBin_q {P : Program} {op : BinOp} {ty : TypeId} {ox oy ox' oy' : Operand} (h : (yF ox || yF oy) = (yF ox' || yF oy')) (x y : Value) : aBin P op ty ox oy x y = aBin P op ty ox' oy' x y := by
  unfold aBin;split
  all_goals first
    | rfl
    | (split <;> first | rfl | rw [asksFirst_q h])
theorem qBin_eq (P : Program) (op : BinOp) (ty : TypeId) (ox oy : Operand) (x y : Value) : qBin P op ty (yF ox || yF oy) x y = aBin P op ty ox oy x y := by
  unfold qBin;refine aBin_q ?_ x y;cases h : (yF ox || yF oy) <;> rfl
theorem binV_other {P : Program} {op : BinOp} {ty : TypeId} {ox oy : Operand} {x y : Value} (h : ∀ a b, ¬ (∃ k1 k2, x = .int k1 a ∧ y = .int k2 b)) : binV P op ty ox oy x y = aBin P op ty ox oy x y := by
  unfold binV
  cases x with
  | int k1 a => cases y with
    | int k2 b => exact absurd ⟨k1, k2, rfl, rfl⟩ (h a b)
    | _ => rfl
  | _ => rfl
theorem binV_ints {P : Program} {op : BinOp} {ty : TypeId} {ox oy : Operand} {k1 k2 : IntKind} {a b : Int} : binV P op ty ox oy (.int k1 a) (.int k2 b) =
    (Bool.rec (aBin P op ty ox oy (.int k1 a) (.int k2 b)) (intOp op k1 a b (aBin P op ty ox oy (.int k1 a) (.int k2 b))) (yI k1 k2) : Option Value) := rfl
theorem arith_some (kd : IntKind) (c : Int) : (Int.rec (fun m => some (.int kd (.ofNat m))) (fun m => some (.int kd (.negSucc m))) c : Option Value) = some (.int kd c) := by cases c <;> rfl
theorem yArith_ok {P : Program} {f : Int → Int → Int} {op : BinOp} {ty : TypeId} {ox oy : Operand} {x y : Value} {K : Value → Bool} (hop : ∀ k a b s, intOp op k a b s = some (.int k (yK k (f a b))) ∨ (intOp op k a b s = s ∧ ∀ ox oy, aBin P op ty ox oy (.int k a) (.int k b) = some (.int k (yK k (f a b)))))
    (h : xF f P op ty (yF ox || yF oy) x y K = true) : ∃ v, binV P op ty ox oy x y = some v ∧ K v = true := by
  unfold xF at h
  cases x with
  | int k1 a => cases y with
    | int k2 b =>
      have h' : (Bool.rec false (fi (yK k1 (f a b)) fun c => K (.int k1 c)) (yI k1 k2) : Bool) = true := h
      cases e : yI k1 k2 with
      | false => rw [e] at h'; cases h'
      | true =>
        rw [e] at h';have h' : (fi (yK k1 (f a b)) fun c => K (.int k1 c)) = true := h';rw [fi_eq] at h';refine ⟨_, ?_, h'⟩;rw [binV_ints, e];obtain rfl := xO e;rcases hop k1 a b (aBin P op ty ox oy (.int k1 a) (.int k1 b)) with h1 | ⟨h1, h2⟩
        · exact h1
        · exact h1.trans (h2 ox oy)
    | _ =>
      obtain ⟨v, h1, h2⟩ := yA (show opt _ K = true from h);rw [qBin_eq] at h1;exact ⟨v, (binV_other fun a b ⟨k1, k2, e1, e2⟩ => by cases e2).trans h1, h2⟩
  | _ =>
    obtain ⟨v, h1, h2⟩ := yA (show opt _ K = true from h);rw [qBin_eq] at h1;exact ⟨v, (binV_other fun a b ⟨k1, k2, e1, e2⟩ => by cases e1).trans h1, h2⟩
theorem yCmp_ok {P : Program} {f : Int → Int → Bool} {op : BinOp} {ty : TypeId} {ox oy : Operand} {x y : Value} {K : Value → Bool} (hop : ∀ k a b s, intOp op k a b s = some (.bool (f a b)))
    (h : yCmp f P op ty (yF ox || yF oy) x y K = true) : ∃ v, binV P op ty ox oy x y = some v ∧ K v = true := by
  unfold yCmp at h
  have rest : ∀ {x y : Value}, (opt (qBin P op ty (yF ox || yF oy) x y) fun v => rtB v fun c => K (.bool c)) = true → (∀ a b, ¬ (∃ k1 k2, x = .int k1 a ∧ y = .int k2 b)) → ∃ v, binV P op ty ox oy x y = some v ∧ K v = true := by
    intro x y h hn;obtain ⟨v, h1, h2⟩ := yA h;obtain ⟨b, rfl, h3⟩ := rtB_true h2;rw [qBin_eq] at h1;exact ⟨_, (binV_other hn).trans h1, h3⟩
  cases x with
  | int k1 a => cases y with
    | int k2 b =>
      have h' : (Bool.rec false (fb (f a b) fun c => K (.bool c)) (yI k1 k2) : Bool) = true := h
      cases e : yI k1 k2 with
      | false => rw [e] at h'; cases h'
      | true =>
        rw [e] at h';have h' : (fb (f a b) fun c => K (.bool c)) = true := h';rw [fb_eq] at h';refine ⟨_, ?_, h'⟩;rw [binV_ints, e];exact hop _ _ _ _
    | _ => exact rest h fun a b ⟨k1, k2, e1, e2⟩ => by cases e2
  | _ => exact rest h fun a b ⟨k1, k2, e1, e2⟩ => by cases e1
theorem wQ {P : Program} {op : BinOp} {ty : TypeId} {ox oy : Operand} {x y : Value} {K : Value → Bool} (hop : ∀ k a b s, intOp op k a b s = s)
    (h : yOther P op ty (yF ox || yF oy) x y K = true) : ∃ v, binV P op ty ox oy x y = some v ∧ K v = true := by
  have key : ∀ v, aBin P op ty ox oy x y = some v → binV P op ty ox oy x y = some v := by
    intro v hv;by_cases hi : ∃ k1 a k2 b, x = .int k1 a ∧ y = .int k2 b
    · obtain ⟨k1, a, k2, b, rfl, rfl⟩ := hi;rw [binV_ints]
      cases yI k1 k2 with
      | false => exact hv
      | true => exact (hop _ _ _ _).trans hv
    · exact (binV_other fun a b ⟨k1, k2, e1, e2⟩ => hi ⟨k1, a, k2, b, e1, e2⟩).trans hv
  unfold yOther at h
  cases x with
  | int k1 a =>
    have h' : (opt (qBin P op ty (yF ox || yF oy) (.int k1 a) y) fun v => rtI k1 v fun c => K (.int k1 c)) = true := h;obtain ⟨v, h1, h2⟩ := yA h';obtain ⟨c, rfl, h3⟩ := rtI_true h2;rw [qBin_eq] at h1;exact ⟨_, key _ h1, h3⟩
  | _ =>
    obtain ⟨v, h1, h2⟩ := yA (show opt _ K = true from h);rw [qBin_eq] at h1;exact ⟨v, key _ h1, h2⟩
theorem yBin_ok {P : Program} {op : BinOp} {ty : TypeId} {ox oy : Operand} {x y : Value} {K : Value → Bool} (h : yBin P op ty (yF ox || yF oy) x y K = true) : ∃ v, binV P op ty ox oy x y = some v ∧ K v = true := by
  cases op with
  | add => exact yArith_ok (f := wV) (fun k a b s => .inl (arith_some k _)) h
  | sub => exact yArith_ok (f := isub) (fun k a b s => .inl (arith_some k _)) h
  | mul => exact yArith_ok (f := Int.mul) (fun k a b s => .inr ⟨rfl, fun ox oy => by
      show (cond (yI k k) (aArith .mul k a b) none : Option Value) = _;have : yI k k = true := by cases k <;> rfl
      rw [this]; rfl⟩) h
  | quo => exact wQ (fun _ _ _ _ => rfl) h
  | rem => exact wQ (fun _ _ _ _ => rfl) h
  | and => exact wQ (fun _ _ _ _ => rfl) h
  | or => exact wQ (fun _ _ _ _ => rfl) h
  | xor => exact wQ (fun _ _ _ _ => rfl) h
  | shl => exact wQ (fun _ _ _ _ => rfl) h
  | shr => exact wQ (fun _ _ _ _ => rfl) h
  | andNot => exact wQ (fun _ _ _ _ => rfl) h
  | eql => exact yCmp_ok (fun _ _ _ _ => rfl) h
  | neq => exact yCmp_ok (fun _ _ _ _ => rfl) h
  | lss => exact yCmp_ok (fun _ _ _ _ => rfl) h
  | leq => exact yCmp_ok (fun _ _ _ _ => rfl) h
  | gtr => exact yCmp_ok (fun _ _ _ _ => rfl) h
  | geq => exact yCmp_ok (fun _ _ _ _ => rfl) h
noncomputable def same (d : List Deferred) (u : Option zF) (w : W) : Bool := @decide (w.d = d ∧ w.u = u) (Classical.propDecidable _)
theorem same_mk (d : List Deferred) (u : Option zF) (h : zE) (n : Nat) : same d u ⟨d, u, h, n⟩ = true := by simp [same]
theorem same_true {d : List Deferred} {u : Option zF} {w : W} (h : same d u w = true) : w.d = d ∧ w.u = u := by simpa [same] using h
section
variable {P : Program} {ng : Nat}
theorem yOp_ok {lo : Lo} (hP : zV ng P = true) (hS : Sound P ng lo) {o : Oper} {T : Ty} {t : Fr} {d : List Deferred} {u : Option zF} {h : zE} {n : Nat} {K : KH} {Kp : KC} {cx : Cx} (hx : yOp o.op T P lo t h n K Kp = true) :
    ∃ out w', w'.d = d ∧ w'.u = u ∧ (Out.rec (motive := fun _ => Bool) (fun v => K w'.h w'.n v) (fun c => Kp c w'.h w'.n) out) = true ∧ OpTo P ng o cx t ⟨d, u, h, n⟩ out w' ∧
      (yE o.op = 0 ∨ yE o.op = 1 → ∃ v, out = .ret v ∧ w' = ⟨d, u, h, n⟩ ∧ xX o.op P t h = some v) := by
  have Q : ∀ {v : Value}, xX o.op P t h = some v → K h n v = true → ∃ out w', w'.d = d ∧ w'.u = u ∧ (Out.rec (motive := fun _ => Bool) (fun v => K w'.h w'.n v) (fun c => Kp c w'.h w'.n) out) = true ∧ OpTo P ng o cx t ⟨d, u, h, n⟩ out w' ∧
      (yE o.op = 0 ∨ yE o.op = 1 → ∃ v, out = .ret v ∧ w' = ⟨d, u, h, n⟩ ∧ xX o.op P t h = some v) := by
    intro v hq hk;refine ⟨.ret v, ⟨d, u, h, n⟩, rfl, rfl, hk, vE ?_ (effVal_quiet hP hq), fun _ => ⟨v, rfl, rfl, hq⟩⟩;intro c e;rw [e] at hq;cases hq
  have E : ∀ (kv : KV) (kp : KP), (yE o.op = 2 ∨ yE o.op = 3) → eff o.op P lo cx t ⟨d, u, h, n⟩ kv kp = true → (∀ w' v, kv w' v = true → same d u w' = true ∧ K w'.h w'.n v = true) → (∀ c w', kp c w' = true → same d u w' = true ∧ Kp c w'.h w'.n = true) →
      ∃ out w', w'.d = d ∧ w'.u = u ∧ (Out.rec (motive := fun _ => Bool) (fun v => K w'.h w'.n v) (fun c => Kp c w'.h w'.n) out) = true ∧ OpTo P ng o cx t ⟨d, u, h, n⟩ out w' ∧
      (yE o.op = 0 ∨ yE o.op = 1 → ∃ v, out = .ret v ∧ w' = ⟨d, u, h, n⟩ ∧ xX o.op P t h = some v) := by
    intro kv kp hk he h1 h2;obtain ⟨out, w', g1, g2⟩ := eff_ok hP hS he
    cases out with
    | ret v => obtain ⟨s1, s2⟩ := h1 w' v g1; obtain ⟨s3, s4⟩ := same_true s1; exact ⟨_, w', s3, s4, s2, g2, fun e => by omega⟩
    | panic c => obtain ⟨s1, s2⟩ := h2 c w' g1; obtain ⟨s3, s4⟩ := same_true s1; exact ⟨_, w', s3, s4, s2, g2, fun e => by omega⟩
  let kv : KV := fun w' v => K w'.h w'.n v && same d u w'
  have hkv : ∀ h' n' v, kv ⟨d, u, h', n'⟩ v = K h' n' v := fun h' n' v => by simp [kv, same_mk]
  have E1 : (yE o.op = 2 ∨ yE o.op = 3) → eff o.op P lo cx t ⟨d, u, h, n⟩ kv (fun _ _ => false) = true → _ := fun hk he => E kv (fun _ _ => false) hk he (fun w' v e => by
    simp only [kv, Bool.and_eq_true] at e;exact ⟨e.2, e.1⟩) (fun c w' e => Bool.noConfusion e)
  cases hop : o.op with
  | move x => rw [hop] at hx Q; exact Q (v := ev t x) (by show zA (ev t x) some = _; rw [yX]) hx
  | assign x => rw [hop] at hx Q; exact Q (v := ev t x) (by show zA (ev t x) some = _; rw [yX]) hx
  | pick c x y =>
    rw [hop] at hx Q;have hx : zW (ev t c) (fun b => rtS T (Bool.rec (ev t y) (ev t x) b) (K h n)) false = true := hx;rcases onBool_some hx with ⟨b, e1, e2⟩ | e2
    case inr => cases e2
    refine Q (v := Bool.rec (ev t y) (ev t x) b) ?_ (xE e2);show zW (ev t c) (fun b => zA (Bool.rec (ev t y) (ev t x) b) some) none = _;rw [e1];exact yX _ _
  | alloc el =>
    rw [hop] at hx E1;refine E1 (.inl rfl) ?_;show (Option.rec false (fun z => zT h n (mkCellsT (cellsOf z) el) fun h' n' => kv ⟨d, u, h', n'⟩ (.pointer (some ⟨n, 0, none⟩))) (yT P el) : Bool) = true;simp only [hkv]; exact hx
  | box el x =>
    rw [hop] at hx E1;refine E1 (.inl rfl) ?_;show (vL .lF 0 (cellsOf (ev t x)) fun c => zT h n (.cells c (cellsOf (ev t x)).length (Nat.succ el) 0) fun h' n' => kv ⟨d, u, h', n'⟩ (.pointer (some ⟨n, 0, none⟩))) = true;simp only [hkv]; exact hx
  | build ty parts => rw [hop] at hx Q; obtain ⟨v, h1, h2⟩ := yA hx; exact Q (v := v) h1 h2
  | buildSlice ty len parts =>
    rw [hop] at hx E1;refine E1 (.inl rfl) ?_;show (Option.rec false (fun ob => zT h n ob fun h' n' => kv ⟨d, u, h', n'⟩ (.slice (some ⟨n, 0, none⟩) len len)) (wH P ty len (parts.toList.map fun p => (p.1, ev t p.2))) : Bool) = true;simp only [hkv]; exact hx
  | insert ty m key v =>
    rw [hop] at hx E1;refine E1 (.inr rfl) ?_;show xS P ty (ev t m) (ev t key) (ev t v) h (fun h => kv ⟨d, u, h, n⟩ undef) = true;simp only [hkv]; exact hx
  | load ty x => rw [hop] at hx Q; obtain ⟨v, h1, h2⟩ := yA hx; exact Q (v := v) h1 (xE h2)
  | store ty x v =>
    rw [hop] at hx E1;refine E1 (.inr rfl) ?_
    show onPtr (ev t x) (fun b off => Sh.rec false
      (Bool.rec false (storeAt h b off (cellsOf (ev t v)) fun h' => kv ⟨d, u, h', n⟩ undef) (Nat.beq (cellsOf (ev t v)).length 1))
      (fun sz => Bool.rec false (storeAt h b off (cellsOf (ev t v)) fun h' => kv ⟨d, u, h', n⟩ undef) (Nat.beq (cellsOf (ev t v)).length sz)) (wA P ty)) false = true
    simp only [hkv]; exact hx
  | ready g => rw [hop] at hx; cases hx
  | waits g => rw [hop] at hx; cases hx
  | nilCheck x => rw [hop] at hx Q; obtain ⟨v, h1, h2⟩ := yA hx; exact Q (v := v) h1 h2
  | binOp op ty x y yt => rw [hop] at hx Q; obtain ⟨v, h1, h2⟩ := yBin_ok hx; exact Q (v := v) h1 h2
  | unOp op ty x => rw [hop] at hx Q; obtain ⟨v, h1, h2⟩ := yA hx; exact Q (v := v) h1 (xE h2)
  | convert src dst x => rw [hop] at hx Q; obtain ⟨v, h1, h2⟩ := yA hx; exact Q (v := v) h1 (xE h2)
  | sliceToArrayPointer _ _ => rw [hop] at hx; cases hx
  | makeInterface ty x => rw [hop] at hx Q; obtain ⟨v, h1, h2⟩ := yA hx; exact Q (v := v) h1 h2
  | makeFunc f first cap =>
    rw [hop] at hx Q
    cases f with
    | func f => exact Q (v := .func (.func f) ⟨first.toList.map (ev t)⟩ ⟨cap.toList.map (ev t)⟩) rfl hx
    | _ => cases hx
  | makeMap ty r =>
    rw [hop] at hx E1
    cases r with
    | some _ => cases hx
    | none =>
      refine E1 (.inl rfl) ?_;show (zT h n (.map [] 0) fun h' n' => kv ⟨d, u, h', n'⟩ (.map (some n))) = true;simp only [hkv]; exact hx
  | makeChan _ _ => rw [hop] at hx; cases hx
  | makeSlice ty l c =>
    rw [hop] at hx E1;refine E1 (.inl rfl) ?_;obtain ⟨p, h1, h2⟩ := yA hx;obtain ⟨ob, i, m⟩ := p
    show (match wI P ty (ev t l) (ev t c) with
      | some (ob, i, m) => zT h n ob fun h' n' => kv ⟨d, u, h', n'⟩ (.slice (some ⟨n, 0, none⟩) i m)
      | none => false) = true
    rw [h1];simp only [hkv]; exact h2
  | slice ty x lo hi mx => rw [hop] at hx Q; obtain ⟨v, h1, h2⟩ := yA hx; exact Q (v := v) h1 h2
  | fieldAddr ty x f => rw [hop] at hx Q; obtain ⟨v, h1, h2⟩ := yA hx; exact Q (v := v) h1 h2
  | field ty x f => rw [hop] at hx Q; obtain ⟨v, h1, h2⟩ := yA hx; exact Q (v := v) h1 (xE h2)
  | indexAddr ty x i => rw [hop] at hx Q; obtain ⟨v, h1, h2⟩ := yA hx; exact Q (v := v) h1 h2
  | index ty x i => rw [hop] at hx Q; obtain ⟨v, h1, h2⟩ := yA hx; exact Q (v := v) h1 (xE h2)
  | lookup ty x key ok => rw [hop] at hx Q; obtain ⟨v, h1, h2⟩ := yA hx; exact Q (v := v) h1 (xE h2)
  | mapUpdate ty m key v =>
    rw [hop] at hx E1;refine E1 (.inr rfl) ?_;show xS P ty (ev t m) (ev t key) (ev t v) h (fun h => kv ⟨d, u, h, n⟩ undef) = true;simp only [hkv]; exact hx
  | mapEntry _ _ _ => rw [hop] at hx; cases hx
  | entryStore _ _ _ _ => rw [hop] at hx; cases hx
  | range _ _ => rw [hop] at hx; cases hx
  | next _ _ => rw [hop] at hx; cases hx
  | entry _ => rw [hop] at hx; cases hx
  | typeAssert x ty a ok => rw [hop] at hx Q; obtain ⟨v, h1, h2⟩ := yA hx; exact Q (v := v) h1 h2
  | extract x i => rw [hop] at hx Q; obtain ⟨v, h1, h2⟩ := yA hx; exact Q (v := v) h1 (xE h2)
  | go _ => rw [hop] at hx; cases hx
  | defer _ => rw [hop] at hx; cases hx
  | panic x =>
    rw [hop] at hx E;have hx : ePanic (ev t x) h n Kp = true := hx
    refine E (fun _ _ => false) (fun c w' => Kp c w'.h w'.n && same d u w') (.inr rfl) ?_ (fun w' v e => Bool.noConfusion e) (fun c w' e => by
      simp only [Bool.and_eq_true] at e;exact ⟨e.2, e.1⟩)
    show (match ev t x with
      | .iface ty v => (Kp [⟨.iface ty v, false, false⟩] h n && same d u ⟨d, u, h, n⟩)
      | _ => false) = true
    unfold ePanic at hx;split at hx
    · rename_i ty v e;try rw [e]
      simp [same_mk, hx]
    · cases hx
  | send _ _ => rw [hop] at hx; cases hx
  | recv _ _ _ => rw [hop] at hx; cases hx
  | select _ _ => rw [hop] at hx; cases hx
  | call c =>
    obtain ⟨callee, args, tys⟩ := c;rw [hop] at hx Q E E1
    have inv : ∀ f : Operand, callee = .value f → eInvoke lo T (ev t f) (args.toList.map (ev t)) h n K Kp = true → _ := fun f e he => E
      (fun w' v => rtS T v (K w'.h w'.n) && same d u w') (fun c w' => Kp c w'.h w'.n && same d u w') (.inr (by rw [e]; rfl)) (by
        rw [e];show xinvoke lo (ev t f) (args.toList.map (ev t)) h n (fun v h n => rtS T v (K h n) && same d u ⟨d, u, h, n⟩) (fun c h n => Kp c h n && same d u ⟨d, u, h, n⟩) = true;simp only [same_mk, Bool.and_true];exact he) (fun w' v e => by
        simp only [Bool.and_eq_true] at e;exact ⟨e.2, xE e.1⟩) (fun c w' e => by
        simp only [Bool.and_eq_true] at e;exact ⟨e.2, e.1⟩)
    cases callee with
    | value f =>
      cases f with
      | tmp i => exact inv _ rfl hx
      | const v => exact inv _ rfl hx
      | global g => cases hx
      | func g =>
        refine inv _ rfl ?_;have hx : eCall lo T g (args.toList.map (ev t)) h n K Kp = true := hx;show lo.call g ([] ++ (args.toList.map (ev t) ++ [])) false none h n (fun o _ h n => Out.rec (fun v => rtS T v (K h n)) (fun c => Kp c h n) o) = true;rw [List.append_nil, List.nil_append];exact hx
    | invoke r m => cases hx
    | builtin b =>
      have hx : yBuiltin b T P tys.toList (args.toList.map (ev t)) h n K = true := hx
      cases b with
      | append =>
        refine E1 (.inr rfl) ?_;show (xappend P tys.toList (args.toList.map (ev t)) h n fun v h n => kv ⟨d, u, h, n⟩ v) = true;simp only [hkv]; exact hx
      | clear =>
        refine E1 (.inr rfl) ?_;show (xclear P tys.toList (args.toList.map (ev t)) h fun h => kv ⟨d, u, h, n⟩ (.tuple #[])) = true;simp only [hkv]; exact hx
      | len => obtain ⟨v, h1, h2⟩ := yA hx; exact Q (v := v) h1 (xE h2)
      | cap => obtain ⟨v, h1, h2⟩ := yA hx; exact Q (v := v) h1 (xE h2)
      | max => obtain ⟨v, h1, h2⟩ := yA hx; exact Q (v := v) h1 (xE h2)
      | min => obtain ⟨v, h1, h2⟩ := yA hx; exact Q (v := v) h1 (xE h2)
      | _ => cases hx
end
theorem full_get : ∀ (F : Nat) (f : Nat → Value) (n i : Nat), n ≤ F → zB (full F f n) i = if i < n then f i else undef := by
  intro F
  induction F with
  | zero => intro f n i h; rw [if_neg (by omega)]; exact Tr.get_leaf _ _
  | succ F ih =>
    intro f n i h
    cases n with
    | zero => rw [if_neg (by omega)]; exact Tr.get_leaf _ _
    | succ m =>
      show Tr.getP undef (Tr.pa (Nat.succ i) i) (.nD (full F (fun i => f (Nat.succ (Nat.add i i))) (Nat.div (Nat.succ m) 2)) (f 0) (full F (fun i => f (Nat.succ (Nat.succ (Nat.add i i)))) (Nat.div m 2))) = _
      cases i with
      | zero => rw [if_pos (by omega)]; rfl
      | succ j =>
        rw [Tr.pa_succ];have hd1 : Nat.div (Nat.succ m) 2 = (m + 1) / 2 := rfl;have hd2 : Nat.div m 2 = m / 2 := rfl;by_cases hj : j % 2 = 0
        · rw [if_pos hj];show Tr.getP undef (Tr.pa (j + 1) (j / 2)) (full F (fun i => f (Nat.succ (Nat.add i i))) (Nat.div (Nat.succ m) 2)) = _;rw [Tr.pa_fuel (j + 1) (Nat.succ (j / 2)) (j / 2) (by omega) (by omega)];have := ih (fun i => f (Nat.succ (Nat.add i i))) (Nat.div (Nat.succ m) 2) (j / 2) (by rw [hd1]; omega);refine Eq.trans this ?_;rw [hd1];by_cases h2 : j / 2 < (m + 1) / 2
          · rw [if_pos h2, if_pos (by omega)];have : Nat.succ (Nat.add (j / 2) (j / 2)) = j + 1 := by show j / 2 + j / 2 + 1 = j + 1; omega
            rw [this]
          · rw [if_neg h2, if_neg (by omega)]
        · rw [if_neg hj];show Tr.getP undef (Tr.pa (j + 1) (j / 2)) (full F (fun i => f (Nat.succ (Nat.succ (Nat.add i i)))) (Nat.div m 2)) = _;rw [Tr.pa_fuel (j + 1) (Nat.succ (j / 2)) (j / 2) (by omega) (by omega)];have := ih (fun i => f (Nat.succ (Nat.succ (Nat.add i i)))) (Nat.div m 2) (j / 2) (by rw [hd2]; omega);refine Eq.trans this ?_;rw [hd2];by_cases h2 : j / 2 < m / 2
          · rw [if_pos h2, if_pos (by omega)];have : Nat.succ (Nat.succ (Nat.add (j / 2) (j / 2))) = j + 1 := by show j / 2 + j / 2 + 1 + 1 = j + 1; omega
            rw [this]
          · rw [if_neg h2, if_neg (by omega)]
def SameF (N : Nat) (t t2 : Fr) : Prop := ∀ i, i < N → zB t2 i = zB t i
theorem SameF.refl (N : Nat) (t : Fr) : SameF N t t := fun _ _ => rfl
theorem SameF.trans {N : Nat} {a b c : Fr} (h : SameF N a b) (k : SameF N b c) : SameF N a c := fun i hi => (k i hi).trans (h i hi)
theorem TmR.same {ρ : Inj} {N : Nat} {t t2 : Fr} {ts : Array Value} (h : SameF N t t2) (r : TmR ρ N t ts) : TmR ρ N t2 ts :=
  ⟨r.sz, fun i v e => by
    have hi : i < N := by
      rw [← r.sz];rcases Nat.lt_or_ge i ts.size with h1 | h1
      · exact h1
      · rw [Array.getElem?_eq_none h1] at e; cases e
    rw [h i hi]; exact r.tm i v e⟩
theorem fget_set (t : Fr) (v : Value) (i j : Nat) : zB (Tr.set undef v t i) j = if i = j then v else zB t j := Tr.get_set_if _ _ _ _ _
theorem vQ {t : Fr} {i : Nat} {v : Value} {K : Fr → Bool} (h : fsetK t i v K = true) : K (Tr.set undef v t i) = true := by
  unfold fsetK at h
  rwa [Tr.setK_eq] at h
theorem rtGo_true {N : Nat} : ∀ {l : List Ty} {i : Nat} {t t' : Fr} {K : Fr → Bool}, SameF N t t' → rtGo l i t t' K = true → ∃ t2, SameF N t t2 ∧ K t2 = true := by
  intro l
  induction l with
  | nil => intro i t t' K hs h; exact ⟨t', hs, h⟩
  | cons T l ih =>
    intro i t t' K hs h
    have put : ∀ {v : Value}, zB t i = v → SameF N t (Tr.set undef v t' i) := by
      intro v hv j hj;rw [fget_set];by_cases e : i = j
      · subst e; rw [if_pos rfl, hv]
      · rw [if_neg e]; exact hs j hj
    cases T with
    | any => exact ih (i := Nat.succ i) (t' := t') hs h
    | val =>
      have h' : (zA (zB t i) fun v => fsetK t' i v fun t' => rtGo l (Nat.succ i) t t' K) = true := h;rw [yX] at h';exact ih (put rfl) (vQ h')
    | int kd =>
      obtain ⟨a, e, h'⟩ := rtI_true (K := fun a => fsetK t' i (.int kd a) fun t' => rtGo l (Nat.succ i) t t' K) h;exact ih (put e) (vQ h')
    | bool =>
      obtain ⟨a, e, h'⟩ := rtB_true (K := fun b => fsetK t' i (.bool b) fun t' => rtGo l (Nat.succ i) t t' K) h;exact ih (put e) (vQ h')
theorem rt_true {N : Nat} {l : List Ty} {t : Fr} {K : Fr → Bool} (h : rt N l t K = true) : ∃ t2, SameF N t t2 ∧ K t2 = true :=
  rtGo_true (fun i hi => by rw [full_get N (zB t) N i (Nat.le_refl _), if_pos hi]) h
theorem onW_eq (w : W) (f : List Deferred → Option zF → zE → Nat → Bool) : onW w f = f w.d w.u w.h w.n := by cases w; rfl
theorem meet_true {P : Program} {hint : yR} {kind : Nat} {f : FuncId} {id : Nat} {kn : KN} {t : Fr} {w : W} (h : meet P hint kind f id kn t w = true) : ∃ t2, SameF (ntmX P f) t t2 ∧ kn t2 w = true := by
  unfold meet at h;obtain ⟨t2, h1, h2⟩ := rt_true h;rw [onW_eq] at h2;exact ⟨t2, h1, h2⟩
section
variable {P : Program} {ng : Nat}
theorem In.same {ρ : Inj} {base : Nat} {w0 : World} {b : Frame} {a : Act} {wd : World} {cs : List Frame} {cx : Cx} {t t2 : Fr} {w : W} (h : SameF (ntm P cx.fn) t t2) (I : In P ng ρ base w0 b a wd cs cx t w) : In P ng ρ base w0 b a wd cs cx t2 w :=
  ⟨I.fn, I.kind, I.rd, I.rdf, I.tm.same h, I.hp, I.dr, I.ur, I.fnd⟩
theorem Leads.pre {b : Frame} {k0 k : List Item} {cx : Cx} {t t2 t' : Fr} {w w' : W} {x : AX} (h : SameF (ntm P cx.fn) t t2) (r : Leads P ng b k0 k cx t2 w x t' w') : Leads P ng b k0 k cx t w x t' w' :=
  fun ρ base w0 a wd cs hI => r ρ base w0 a wd cs (hI.same h)
theorem Leads.post {b : Frame} {k0 k : List Item} {cx : Cx} {t t' t2 : Fr} {w w' : W} {x : AX} (h : SameF (ntm P cx.fn) t' t2) (r : Leads P ng b k0 k cx t w x t' w') : Leads P ng b k0 k cx t w x t2 w' := by
  intro ρ base w0 a wd cs hI;obtain ⟨ρ', a', wd', cs', h1, h2, h3, h4⟩ := r ρ base w0 a wd cs hI;exact ⟨ρ', a', wd', cs', h1.same h, h2, h3, h4⟩
theorem CodeTo.pre {c : Code} {cx : Cx} {t t2 t' : Fr} {w w' : W} {x : AX} (h : SameF (ntm P cx.fn) t t2) (r : CodeTo P ng c cx t2 w x t' w') : CodeTo P ng c cx t w x t' w' := fun hc b k => (r hc b k).pre h
theorem CodeTo.post {c : Code} {cx : Cx} {t t' t2 : Fr} {w w' : W} {x : AX} (h : SameF (ntm P cx.fn) t' t2) (r : CodeTo P ng c cx t w x t' w') : CodeTo P ng c cx t w x t2 w' := fun hc b k => (r hc b k).post h
theorem wnt_eq (all : Array Oper) (t : Fr) (g : Nat) (b : Bool) : wnt all t g b = wanted all t (some (g, b)) := by
  show (Option.rec false (fun d => Bool.rec (gnv (zB t d)) (gv (zB t d)) b) (dstOf all g) : Bool) = (Option.rec false (fun d => zW (zB t d) (fun z => Bool.rec (Bool.rec true false b) b z) false) (dstOf all g) : Bool)
  cases dstOf all g with
  | none => rfl
  | some d =>
    show (Bool.rec (gnv (zB t d)) (gv (zB t d)) b : Bool) = zW (zB t d) (fun z => Bool.rec (Bool.rec true false b) b z) false
    cases b <;> cases zB t d with
      | bool z => cases z <;> rfl
      | _ => rfl
theorem op_done (hP : zV ng P = true) {all : Array Oper} {o : Oper} {cx : Cx} {t : Fr} {w w' : W} {out : Out} (hm : o ∈ all.toList)
    (h : (wanted all t o.guard = false ∧ out = .ret undef ∧ w' = w) ∨ (wanted all t o.guard = true ∧ OpTo P ng o cx t w out w')) :
      ∀ (_ : ∀ o ∈ all.toList, wP ng (ntm P cx.fn) o = true) (ρ : Inj) (base : Nat) (w0 : World) (b : Frame) (a : Act) (wd : World) (cs : List Frame), In P ng ρ base w0 b a wd cs cx t w → ∀ (i : Nat) (rest : List Nat) (k : List Item), all[i]? = some o →
        ∃ ρ' a' wd' cs', In0 P ng ρ' base w0 b a' wd' cs' cx w' ∧ a'.tmps = a.tmps ∧ Grow ρ w.h w.n wd ρ' w'.h w'.n wd' ∧ CsTo cx.df cs cs' ∧
          Done P (lone (b.atR a (.inRegion all (i :: rest) :: k)) cs wd) b a' cs' wd' ρ' o all i rest k out := by
  have _ := hP;intro hc ρ base w0 b a wd cs hI i rest k ho
  have hops : OpsR ρ t a o := by
    intro x hx;exact ev_rv hI.hp hI.tm (List.all_eq_true.1 (Bool.and_eq_true_iff.1 (hc o hm)).1 x hx)
  have hwant : Region.wanted o (yielded all a.tmps) = wanted all t o.guard := by
    refine wanted_ok fun g q _ d hd => ?_
    have hlt : d < ntm P cx.fn := by
      unfold dstOf at hd
      cases ho : all[g]? with
      | none => rw [ho] at hd; cases hd
      | some og =>
        rw [ho] at hd;have hmem : og ∈ all.toList := by rw [← Array.getElem?_toList] at ho; exact List.mem_iff_getElem?.2 ⟨g, ho⟩
        have := (Bool.and_eq_true_iff.1 (hc og hmem)).2;dsimp only at hd;rw [hd] at this;exact zX this
    have hlt2 : d < a.tmps.size := Nat.lt_of_lt_of_le hlt hI.tm.le;exact ⟨a.tmps[d], Array.getElem?_eq_getElem hlt2, (hI.tm.tm d _ (Array.getElem?_eq_getElem hlt2)).boolOf⟩
  rcases h with ⟨hw, rfl, rfl⟩ | ⟨hw, h⟩
  · exact ⟨ρ, a, wd, cs, hI.in0, rfl, Grow.refl _ _ _ _ hI.hp.dom, CsTo.refl _ _, undef, RV.undef ρ, .one (skip_put ho (hwant.trans hw))⟩
  · exact h ρ base w0 b a wd cs hI.in0 hops all i rest k ho (hwant.trans hw)
theorem yOne {lo : Lo} (hP : zV ng P = true) (hS : Sound P ng lo) {all : Array Oper} {o : Oper} {T : Ty} {t : Fr} {d : List Deferred} {u : Option zF} {h : zE} {n : Nat} {K : KH} {Kp : KC} (cx : Cx)
    (hx : (Option.rec (yOp o.op T P lo t h n K Kp) (fun g => grd (wnt all t g.1 g.2) (fun kv => yOp o.op T P lo t h n kv Kp) K h n) o.guard : Bool) = true) :
    ∃ out w', w'.d = d ∧ w'.u = u ∧ (Out.rec (motive := fun _ => Bool) (fun v => K w'.h w'.n v) (fun c => Kp c w'.h w'.n) out) = true ∧
      ((wanted all t o.guard = false ∧ out = .ret undef ∧ w' = ⟨d, u, h, n⟩) ∨ (wanted all t o.guard = true ∧ OpTo P ng o cx t ⟨d, u, h, n⟩ out w' ∧ yOp o.op T P lo t h n K Kp = true ∧
        (yE o.op = 0 ∨ yE o.op = 1 → ∃ v, out = .ret v ∧ w' = ⟨d, u, h, n⟩ ∧ xX o.op P t h = some v))) := by
  cases hg : o.guard with
  | none =>
    rw [hg] at hx;have hx : yOp o.op T P lo t h n K Kp = true := hx;obtain ⟨out, w', h1, h2, h3, h4, h5⟩ := yOp_ok (d := d) (u := u) (cx := cx) hP hS hx;exact ⟨out, w', h1, h2, h3, .inr ⟨rfl, h4, hx, h5⟩⟩
  | some g =>
    rw [hg] at hx;have hx : grd (wnt all t g.1 g.2) (fun kv => yOp o.op T P lo t h n kv Kp) K h n = true := hx;have hw := wnt_eq all t g.1 g.2
    cases hb : wnt all t g.1 g.2 with
    | true =>
      rw [hb] at hx hw;have hx : yOp o.op T P lo t h n K Kp = true := hx;obtain ⟨out, w', h1, h2, h3, h4, h5⟩ := yOp_ok (d := d) (u := u) (cx := cx) hP hS hx;exact ⟨out, w', h1, h2, h3, .inr ⟨hw.symm, h4, hx, h5⟩⟩
    | false =>
      rw [hb] at hx hw;exact ⟨.ret undef, ⟨d, u, h, n⟩, rfl, rfl, hx, .inl ⟨hw.symm, rfl, rfl⟩⟩
theorem W.eta {w : W} {d : List Deferred} {u : Option zF} (h1 : w.d = d) (h2 : w.u = u) : w = ⟨d, u, w.h, w.n⟩ := by cases w; cases h1; cases h2; rfl
theorem yOps_ok {lo : Lo} (hP : zV ng P = true) (hS : Sound P ng lo) {all : Array Oper} {cx : Cx} : ∀ (l : List Oper) (t : Fr) (d : List Deferred) (u : Option zF) (h : zE) (n : Nat) (kn : KN) (ka : KX), (∀ o ∈ l, o ∈ all.toList) → yOps P lo all l t d u h n kn ka = true →
    ∃ x t' w', endA kn ka x t' w' = true ∧ ((∀ o ∈ all.toList, wP ng (ntm P cx.fn) o = true) → ∀ (is : List Nat), is.length = l.length → (∀ (j i : Nat), is[j]? = some i → all[i]? = l[j]?) → ∀ (b : Frame) (kk : List Item),
      Leads P ng b (.inRegion all is :: kk) kk cx t ⟨d, u, h, n⟩ x t' w') := by
  intro l
  induction l with
  | nil =>
    intro t d u h n kn ka _ hx;refine ⟨.normal, t, ⟨d, u, h, n⟩, hx, fun _ is hl _ b kk => ?_⟩;have : is = [] := List.length_eq_zero_iff.1 hl;subst this;exact zO (fun _ _ _ => stepR_region_end) (xA b kk cx t ⟨d, u, h, n⟩)
  | cons o l ih =>
    intro t d u h n kn ka hmem hx;obtain ⟨out, w1, e1, e2, hk, h0⟩ := yOne (o := o) (all := all) (T := tyOf P o.type) (t := t) (d := d) (u := u) (h := h) (n := n) (K := fun h n v => putT t o.dst v fun t => yOps P lo all l t d u h n kn ka) (Kp := fun c h n => ka (.panic c) t ⟨d, u, h, n⟩) hP hS cx hx;have h1 := op_done hP (hmem o (by simp)) (h0.imp id fun q => ⟨q.1, q.2.1⟩);have ew := W.eta e1 e2
    have head : ∀ {is : List Nat}, is.length = (o :: l).length → (∀ (j i : Nat), is[j]? = some i → all[i]? = (o :: l)[j]?) → ∃ i is', is = i :: is' ∧ all[i]? = some o ∧ is'.length = l.length ∧ (∀ (j i : Nat), is'[j]? = some i → all[i]? = l[j]?) := by
      intro is hl hi
      cases is with
      | nil => simp at hl
      | cons i is' => exact ⟨i, is', rfl, by simpa using hi 0 i rfl, by simpa using hl, fun j i2 h => by simpa using hi (j + 1) i2 (by simpa using h)⟩
    cases out with
    | panic c =>
      refine ⟨.panic c, t, w1, by rw [ew]; exact hk, fun hc is hl hi b kk ρ base w0 a wd cs hI => ?_⟩;obtain ⟨i, is', rfl, ho, _, _⟩ := head hl hi;obtain ⟨ρ', a', wd', cs', i1, i2, i3, i4, c', i5, i6⟩ := h1 hc ρ base w0 b a wd cs hI i is' kk ho;exact ⟨ρ', a', wd', cs', i1.toIn (by rw [i2]; exact hI.tm.mono (i3.le hI.hp.dom)), i3, i4, _, c', i5, i6⟩
    | ret v =>
      have hk' := xP hk;obtain ⟨x, t', w', hk2, h2⟩ := ih (putF t o.dst v) d u w1.h w1.n kn ka (fun q hq => hmem q (by simp [hq])) hk';rw [← ew] at h2;refine ⟨x, t', w', hk2, fun hc is hl hi b kk ρ base w0 a wd cs hI => ?_⟩;obtain ⟨i, is', rfl, ho, hl', hi'⟩ := head hl hi;obtain ⟨ρ', a', wd', cs', i1, i2, i3, i4, v', i5, i6⟩ := h1 hc ρ base w0 b a wd cs hI i is' kk ho;have htm : TmR ρ' (ntm P cx.fn) t a'.tmps := by rw [i2]; exact hI.tm.mono (i3.le hI.hp.dom)
      obtain ⟨ρ2, a2, wd2, cs2, g1, g2, g3, g4⟩ := h2 hc is' hl' hi' b kk ρ' base w0 (a'.put o.dst v') wd' cs' ((i1.act (put_defers a' o.dst v')).toIn (htm.putF i5 o.dst));exact ⟨ρ2, a2, wd2, cs2, g1, i3.trans g2, i4.trans g3, g4.of_steps i6⟩
end
theorem looksOK_mk {P : Program} {k : Nat} {hs : List W} : ∀ {ls : List Look}, (∀ l ∈ ls, lookOK P l k hs = true) → xQ P k hs ls = true := by
  intro ls
  induction ls with
  | nil => intro _; rfl
  | cons l ls ih =>
    intro h;show (lookOK P l k hs && xQ P k hs ls) = true;rw [h l (by simp), ih fun q hq => h q (by simp [hq])];rfl
theorem lks_mem {hs : List W} : ∀ {ls : List Lk}, lks hs ls = true → ∀ e ∈ ls, e.g = true → lkOne e hs.length hs = true := by
  intro ls
  induction ls with
  | nil => intro _ e he; simp at he
  | cons l ls ih =>
    intro h e he hg;have h' : gt (Bool.rec true (lkOne l hs.length hs) l.g) (lks hs ls) = true := h;obtain ⟨h1, h2⟩ := gt_true h';rcases List.mem_cons.1 he with rfl | he
    · rw [hg] at h1; exact h1
    · exact ih h2 e he hg
def LkR (P : Program) (l : Look) (e : Lk) : Prop := e.g = true ∧ e.low = l.low ∧ e.high = l.high ∧ ∀ w, e.f w = true → lookLt w.n l.o l.t = true ∧ ∃ v, xX l.o P l.t w.h = some v ∧ sameB v l.v = true
theorem lkOne_ok {P : Program} {l : Look} {e : Lk} (hr : LkR P l e) : ∀ {hs : List W} {k : Nat}, lkOne e k hs = true → lookOK P l k hs = true := by
  obtain ⟨_, h1, h2, h3⟩ := hr;intro hs
  induction hs with
  | nil => intro k _; rfl
  | cons w hs ih =>
    intro k h;have h' : gt (Bool.rec true (gt (e.f w) true) (Nat.ble e.low (Nat.pred k) && Nat.ble (Nat.pred k) e.high)) (lkOne e (Nat.pred k) hs) = true := h;obtain ⟨g1, g2⟩ := gt_true h'
    show ((cond (Nat.ble l.low (Nat.pred k) && Nat.ble (Nat.pred k) l.high) (lookLt w.n l.o l.t && (match xX l.o P l.t w.h with
      | some v => sameB v l.v
      | none => false)) true) && lookOK P l (Nat.pred k) hs) = true
    rw [ih g2, Bool.and_true, ← h1, ← h2]
    cases hb : (Nat.ble e.low (Nat.pred k) && Nat.ble (Nat.pred k) e.high) with
    | false => rfl
    | true =>
      rw [hb] at g1;obtain ⟨g3, _⟩ := gt_true g1;obtain ⟨q1, v, q2, q3⟩ := h3 w g3
      show (lookLt w.n l.o l.t && (match xX l.o P l.t w.h with
        | some v => sameB v l.v
        | none => false)) = true
      rw [q1, q2];exact q3
def LsR (P : Program) (ls : List Look) (es : List Lk) : Prop := ∀ l ∈ ls, ∃ e ∈ es, LkR P l e
theorem LsR.ok {P : Program} {ls : List Look} {es : List Lk} (h : LsR P ls es) {hs : List W} (hl : lks hs es = true) : xQ P hs.length hs ls = true :=
  looksOK_mk fun l hm => let ⟨_, he, hr⟩ := h l hm; lkOne_ok hr (lks_mem hl _ he hr.1)
theorem lkQ_true {q : zE → Option Value} {p v : Value} {w : W} (h : lkQ q p v w = true) : blkLt w.n p = true ∧ ∃ x, q w.h = some x ∧ sameB x v = true := by
  unfold lkQ at h;obtain ⟨h1, h2⟩ := gt_true h;exact ⟨h1, yA h2⟩
theorem lkOf_ok {o : Op} (hk : yE o = 1) {P : Program} {t : Fr} {v : Value} {w : W} (h : lkOf o P t v w = true) : lookLt w.n o t = true ∧ ∃ x, xX o P t w.h = some x ∧ sameB x v = true := by
  cases o with
  | load ty x => exact lkQ_true h
  | lookup ty x key ok => exact lkQ_true h
  | slice ty x lo hi mx => exact lkQ_true h
  | call c =>
    obtain ⟨callee, args, tys⟩ := c
    cases callee with
    | value f => cases hk
    | invoke r m => cases hk
    | builtin b =>
      obtain ⟨h1, h2⟩ := lkQ_true h;refine ⟨?_, h2⟩;show (match args.toList with | x :: _ => blkLt w.n (ev t x) | [] => true) = true;generalize args.toList = l at h1
      cases l with
      | nil => rfl
      | cons x l => exact h1
  | makeMap ty r => cases r <;> cases hk
  | _ => cases hk
section
variable {P : Program} {ng : Nat}
theorem yOp_new {lo : Lo} (hP : zV ng P = true) {o : Oper} {T : Ty} {t : Fr} {d : List Deferred} {u : Option zF} {h : zE} {n : Nat} {K : KH} {Kp : KC} (hk : yE o.op = 2) (hx : yOp o.op T P lo t h n K Kp = true) :
    ∃ v ob, NewVal P ng o t v ob ∧ K (h.set .dead ob n) (n + 1) (v n) = true := by
  have fin : eff o.op P lo ⟨0, none, false⟩ t ⟨d, u, h, n⟩ (fun w' v => K w'.h w'.n v) (fun _ _ => false) = true → ∃ v ob, NewVal P ng o t v ob ∧ K (h.set .dead ob n) (n + 1) (v n) = true := fun he => new_ok hP hk he
  cases hop : o.op with
  | alloc el => rw [hop] at hx fin; exact fin hx
  | box el x => rw [hop] at hx fin; exact fin hx
  | buildSlice ty len parts => rw [hop] at hx fin; exact fin hx
  | makeMap ty r =>
    rw [hop] at hx fin
    cases r with
    | none => exact fin hx
    | some _ => cases hx
  | makeSlice ty l c =>
    rw [hop] at hx fin;refine fin ?_;obtain ⟨p, h1, h2⟩ := yA hx;obtain ⟨ob, i, m⟩ := p
    show (match wI P ty (ev t l) (ev t c) with
      | some (ob, i, m) => zT h n ob fun h' n' => K h' n' (.slice (some ⟨n, 0, none⟩) i m)
      | none => false) = true
    rw [h1];exact h2
  | insert _ _ _ _ => rw [hop] at hk; cases hk
  | store _ _ _ => rw [hop] at hk; cases hk
  | mapUpdate _ _ _ _ => rw [hop] at hk; cases hk
  | defer _ => rw [hop] at hk; cases hk
  | panic _ => rw [hop] at hk; cases hk
  | call c =>
    rw [hop] at hk;obtain ⟨callee, asz, ts⟩ := c
    cases callee with
    | builtin b => cases b <;> cases hk
    | value f => cases hk
    | invoke r m => cases hk
  | _ => rw [hop] at hk hx; first | (cases hk; done) | cases hx
theorem yDraw_ok {lo : Lo} (hP : zV ng P = true) (hS : Sound P ng lo) {all : Array Oper} {cx : Cx} : ∀ (L : List DOp) (t : Fr) (d : List Deferred) (u : Option zF) (h : zE) (n : Nat) (hs : List W) (es : List Lk) (ls : List Look) (kn : KN) (ka : KX), (∀ x ∈ L, x.kd = yE x.o.op) → LsR P ls es →
    yDraw P lo all L t d u h n hs es kn ka = true → Drew P ng all cx L t ⟨d, u, h, n⟩ hs ls (endA kn ka) := by
  intro L
  induction L with
  | nil =>
    intro t d u h n hs es ls kn ka _ hls hx;have hx : gt (lks hs es) (kn t ⟨d, u, h, n⟩) = true := hx;obtain ⟨h1, h2⟩ := gt_true hx;exact .inl ⟨[], t, ⟨d, u, h, n⟩, rfl, .nil t _, h2, hls.ok h1⟩
  | cons x L ih =>
    intro t d u h n hs es ls kn ka hkd hls hx;have hkd' : ∀ y ∈ L, y.kd = yE y.o.op := fun y hy => hkd y (by simp [hy]);have hkx := hkd x (by simp);have h9 : yE x.o.op ≤ 3 := by unfold yE; split <;> (try split) <;> omega
    by_cases h3 : x.kd = 3
    ·
      have hb : Nat.beq x.kd 3 = true := by rw [h3]; rfl
      have hx1 : (Option.rec (yOp x.o.op (tyOf P x.o.type) P lo t h n (fun h' n' v => gt (Nat.ble n n') (putT t x.o.dst v fun t' => yDraw P lo all L t' d u h' n' (⟨d, u, h', n'⟩ :: hs) es kn ka))
            (fun c h n => Bool.rec false (gt (lks hs es) (ka (.panic c) t ⟨d, u, h, n⟩)) x.solo))
          (fun g => grd (wnt all t g.1 g.2) (fun kv => yOp x.o.op (tyOf P x.o.type) P lo t h n kv (fun c h n => Bool.rec false (gt (lks hs es) (ka (.panic c) t ⟨d, u, h, n⟩)) x.solo))
            (fun h' n' v => gt (Nat.ble n n') (putT t x.o.dst v fun t' => yDraw P lo all L t' d u h' n' (⟨d, u, h', n'⟩ :: hs) es kn ka)) h n) x.o.guard : Bool) = true := by
        have hx' := hx;unfold yDraw at hx';dsimp only at hx';rw [hb] at hx';exact hx'
      obtain ⟨out, w1, e1, e2, hk, h0⟩ := yOne (d := d) (u := u) hP hS cx hx1;have ew := W.eta e1 e2
      cases out with
      | panic c =>
        have hk : (Bool.rec false (gt (lks hs es) (ka (.panic c) t ⟨d, u, w1.h, w1.n⟩)) x.solo : Bool) = true := hk
        cases hso : x.solo with
        | false => rw [hso] at hk; cases hk
        | true =>
          rw [hso] at hk;obtain ⟨k1, k2⟩ := gt_true hk;rcases h0 with ⟨_, q, _⟩ | ⟨q1, q2, _, _⟩
          · cases q
          · exact .inr ⟨[], x, L, c, t, ⟨d, u, h, n⟩, w1, rfl, .nil t _, q1, q2, hso, hls.ok k1, by rw [ew]; exact k2⟩
      | ret v =>
        have hk : gt (Nat.ble n w1.n) (putT t x.o.dst v fun t' => yDraw P lo all L t' d u w1.h w1.n (⟨d, u, w1.h, w1.n⟩ :: hs) es kn ka) = true := hk;obtain ⟨k1, k2⟩ := gt_true hk;have k3 := xP k2;rw [← ew] at k3;have hrest := ih _ _ _ _ _ _ _ _ _ _ hkd' hls k3;rw [← ew] at hrest;rcases h0 with ⟨q1, q2, q3⟩ | ⟨q1, q2, _, _⟩
        · injection q2 with q2
          subst q2 q3;exact Drew.cons (r := ⟨x, t, ⟨d, u, h, n⟩, true, undef, ⟨d, u, h, n⟩⟩) (.skip q1) (by dsimp only; rw [hb]; exact hrest)
        · exact Drew.cons (r := ⟨x, t, ⟨d, u, h, n⟩, false, v, w1⟩) (.act q1 (by omega) q2 (xN k1)) (by
            dsimp only;rw [hb];have : Nat.beq x.kd 1 = false := by rw [h3]; rfl
            rw [this];exact hrest)
    ·
      have hb : Nat.beq x.kd 3 = false := by
        cases e : Nat.beq x.kd 3 with
        | false => rfl
        | true => exact absurd (zI e) h3
      let ext : Value → List Lk := fun v => Bool.rec es (Bool.rec (⟨gOf all t x.o.guard, lkOf x.o.op P t v, x.low, x.high⟩ :: es) es (Nat.beq x.low x.high)) (Nat.beq x.kd 1)
      have hx1 : (Option.rec (yOp x.o.op (tyOf P x.o.type) P lo t h n (fun h n v => putT t x.o.dst v fun t' => yDraw P lo all L t' d u h n hs (ext v) kn ka) (fun _ _ _ => false))
          (fun g => grd (wnt all t g.1 g.2) (fun kv => yOp x.o.op (tyOf P x.o.type) P lo t h n kv (fun _ _ _ => false))
            (fun h n v => putT t x.o.dst v fun t' => yDraw P lo all L t' d u h n hs (ext v) kn ka) h n) x.o.guard : Bool) = true := by
        have hx' := hx;unfold yDraw at hx';dsimp only at hx';rw [hb] at hx';exact hx'
      have hsub : ∀ v, LsR P ls (ext v) := by
        intro v l hl;obtain ⟨e, he, hr⟩ := hls l hl;refine ⟨e, ?_, hr⟩;show e ∈ (Bool.rec es (Bool.rec (⟨gOf all t x.o.guard, lkOf x.o.op P t v, x.low, x.high⟩ :: es) es (Nat.beq x.low x.high)) (Nat.beq x.kd 1) : List Lk)
        cases Nat.beq x.kd 1 with
        | false => exact he
        | true => cases Nat.beq x.low x.high with
          | true => exact he
          | false => exact List.mem_cons_of_mem _ he
      obtain ⟨out, w1, e1, e2, hk, h0⟩ := yOne (d := d) (u := u) hP hS cx hx1;have ew := W.eta e1 e2
      cases out with
      | panic c => cases hk
      | ret v =>
        have k3 := xP hk;rcases h0 with ⟨q1, q2, q3⟩ | ⟨q1, q2, q4, q5⟩
        · injection q2 with q2
          subst q2 q3;have hrest := ih _ _ _ _ _ _ _ _ _ _ hkd' (hsub undef) k3;exact Drew.cons (r := ⟨x, t, ⟨d, u, h, n⟩, true, undef, ⟨d, u, h, n⟩⟩) (.skip q1) (by dsimp only; rw [hb]; exact hrest)
        · by_cases h2 : x.kd = 2
          · obtain ⟨v2, ob, n1, n2⟩ := yOp_new (ng := ng) (d := d) (u := u) hP (hkx.symm.trans h2) q4;have hrest := ih _ _ _ _ _ _ _ _ _ _ hkd' (hsub (v2 n)) (xP n2)
            exact Drew.cons (r := ⟨x, t, ⟨d, u, h, n⟩, false, v2 n, W.mk d u (h.set .dead ob n) (n + 1)⟩) (.made q1 h2 n1) (by
              dsimp only;rw [hb];have : Nat.beq x.kd 1 = false := by rw [h2]; rfl
              rw [this];exact hrest)
          · have h01 : yE x.o.op = 0 ∨ yE x.o.op = 1 := by omega
            obtain ⟨v2, r1, r2, r3⟩ := q5 h01;injection r1 with r1
            subst r1 r2
            have hnew : LsR P (cond (!false && (Nat.beq x.kd 1 && !Nat.beq x.low x.high)) (⟨x.o.op, t, v, x.low, x.high⟩ :: ls) ls) (ext v) := by
              cases k1 : Nat.beq x.kd 1 with
              | false => exact hsub v
              | true =>
                cases k2 : Nat.beq x.low x.high with
                | true => exact hsub v
                | false =>
                  intro l hl;rcases List.mem_cons.1 (show l ∈ (⟨x.o.op, t, v, x.low, x.high⟩ : Look) :: ls from hl) with rfl | hl
                  · refine ⟨⟨gOf all t x.o.guard, lkOf x.o.op P t v, x.low, x.high⟩, ?_, ?_, rfl, rfl, fun w hw => lkOf_ok (hkx.symm.trans (zI k1)) hw⟩
                    · show _ ∈ (Bool.rec es (Bool.rec (⟨gOf all t x.o.guard, lkOf x.o.op P t v, x.low, x.high⟩ :: es) es (Nat.beq x.low x.high)) (Nat.beq x.kd 1) : List Lk);rw [k1, k2];exact List.mem_cons_self
                    · show (Option.rec true (fun g => wnt all t g.1 g.2) x.o.guard : Bool) = true
                      cases hg : x.o.guard with
                      | none => rfl
                      | some g => rw [hg] at q1; exact (wnt_eq all t g.1 g.2).trans q1
                  · exact hsub v l hl
            have hrest := ih _ _ _ _ _ _ _ _ _ _ hkd' hnew k3
            exact Drew.cons (r := ⟨x, t, ⟨d, u, h, n⟩, false, v, ⟨d, u, h, n⟩⟩) (.look q1 (by omega) r3) (by
              dsimp only;rw [hb];exact hrest)
theorem yDrawn_ok {lo : Lo} (hP : zV ng P = true) (hmix : P.follows .mixedOrders = true) (hS : Sound P ng lo) {ops : Array Oper} {cx : Cx} {t : Fr} {d : List Deferred} {u : Option zF} {h : zE} {n : Nat} {kn : KN} {ka : KX} (id : Nat)
    (hx : yDrawn P lo ops t d u h n kn ka = true) : ∃ x t' w', endA kn ka x t' w' = true ∧ CodeTo P ng (.region id ops true) cx t ⟨d, u, h, n⟩ x t' w' := by
  obtain ⟨L, hpl, h1⟩ := yA hx;exact drew_ok hP hmix hpl (yDraw_ok hP hS L t d u h n _ [] [] kn ka (plan_kd hpl) (fun l hl => by simp at hl) h1) id
end
section
variable {P : Program} {ng : Nat}
theorem yRange_eq (lo : Lo) (f : Operand) (params : Array Tmp) (assign body : Code) (cx : Cx) (t : Fr) (d : List Deferred) (u : Option zF) (h : zE) (n : Nat) (k : KX) :
    yRange lo (ev t f) params assign body cx t d u h n k = xcode P lo (.rangeFunc f params assign body) cx t ⟨d, u, h, n⟩ k := by
  unfold yRange;obtain ⟨fn, rd, df⟩ := cx
  cases rd with
  | none => rfl
  | some l => rfl
theorem ntmX_all (P : Program) (f : FuncId) (hf : ∃ fn, P.funcs[f]? = some fn) : ntmX P f = ntm P f := by
  obtain ⟨fn, hf⟩ := hf;unfold ntmX ntm;rw [hf]
  have : Tr.get none (fnT P) f = some fn := by
    unfold fnT;have h2 : P.funcs.toList[f]? = some fn := by rw [Array.getElem?_toList]; exact hf
    have key : ∀ (l : List Func) (t : Tr (Option Func)) (i j : Nat) (x : Func), l[j]? = some x → Tr.get none (wT t i l) (i + j) = some x := by
      intro l
      induction l with
      | nil => intro t i j x h; simp at h
      | cons y l ih =>
        intro t i j x h
        cases j with
        | zero =>
          simp at h; subst h
          have keep : ∀ (l : List Func) (t : Tr (Option Func)) (i j : Nat), j < i → Tr.get none (wT t i l) j = Tr.get none t j := by
            intro l
            induction l with
            | nil => intro t i j _; rfl
            | cons z l ih2 =>
              intro t i j hj;show Tr.get none (wT (t.set none (some z) i) (i + 1) l) j = _;rw [ih2 _ _ _ (by omega), Tr.get_set_if, if_neg (by omega)]
          show Tr.get none (wT (t.set none (some y) i) (i + 1) l) i = some y;rw [keep _ _ _ _ (by omega), Tr.get_set_if, if_pos rfl]
        | succ j =>
          have := ih (t.set none (some y) i) (i + 1) j x (by simpa using h);rw [← this];show Tr.get none (wT (t.set none (some y) i) (i + 1) l) (i + (j + 1)) = _;congr 1; omega
    have := key P.funcs.toList .lF 0 f fn h2
    rwa [Nat.zero_add] at this
  rw [this];rfl
theorem SameF.of_X {f : FuncId} {t t2 : Fr} (hf : ∃ fn, P.funcs[f]? = some fn) (h : SameF (ntmX P f) t t2) : SameF (ntm P f) t t2 := by
  rw [← ntmX_all P f hf]; exact h
theorem CodeTo.none {c : Code} {cx : Cx} {t t' : Fr} {w w' : W} {x : AX} (hf : ¬ ∃ fn, P.funcs[cx.fn]? = some fn) : CodeTo P ng c cx t w x t' w' := by
  intro _ b k ρ base w0 a wd cs hI;exact absurd (by obtain ⟨fn, h⟩ := hI.fnd; exact ⟨fn, by rw [← hI.fn]; exact h⟩) hf
theorem codeTo_post {c : Code} {cx : Cx} {t t' t2 : Fr} {w w' : W} {x : AX} (h : SameF (ntmX P cx.fn) t' t2) (r : CodeTo P ng c cx t w x t' w') : CodeTo P ng c cx t w x t2 w' := by
  by_cases hf : ∃ fn, P.funcs[cx.fn]? = some fn
  · exact r.post (SameF.of_X hf h)
  · exact CodeTo.none hf
theorem vA {c : Code} {cx : Cx} {t t' t2 : Fr} {w w' : W} {x : AX} (h : SameF (ntmX P cx.fn) t t2) (r : CodeTo P ng c cx t2 w x t' w') : CodeTo P ng c cx t w x t' w' := by
  by_cases hf : ∃ fn, P.funcs[cx.fn]? = some fn
  · exact r.pre (SameF.of_X hf h)
  · exact CodeTo.none hf
def LpOK (P : Program) (ng : Nat) (lp : LP) : Prop := ∀ i cx t w k, lp i cx t w k = true → ∃ x t' w', k x t' w' = true ∧ CodeTo P ng (zJ P cx.fn i) cx t w x t' w'
def Loops (P : Program) (f : FuncId) (c : Code) : Prop := ∀ l ∈ yG c, zJ P f (vN l) = l
theorem Loops.left {f : FuncId} {a b : List Code} (h : ∀ l ∈ a ++ b, zJ P f (vN l) = l) : ∀ l ∈ a, zJ P f (vN l) = l := fun l hl => h l (List.mem_append.2 (.inl hl))
theorem Loops.right {f : FuncId} {a b : List Code} (h : ∀ l ∈ a ++ b, zJ P f (vN l) = l) : ∀ l ∈ b, zJ P f (vN l) = l := fun l hl => h l (List.mem_append.2 (.inr hl))
theorem yCode_ok {lo : Lo} {lp : LP} (hP : zV ng P = true) (hmix : P.follows .mixedOrders = true) (hS : Sound P ng lo) (hL : LpOK P ng lp) (hint : yR) :
    ∀ c cx t w kn ka, Loops P cx.fn c → yCode P hint lo lp c cx t w kn ka = true → ∃ x t' w', endA kn ka x t' w' = true ∧ CodeTo P ng c cx t w x t' w' := by
  intro c
  induction c with
  | skip => exact fun cx t w kn ka _ h => ⟨.normal, t, w, h, fun _ b k => zO (fun _ _ _ => stepR_skip) (xA b k cx t w)⟩
  | label l => exact fun cx t w kn ka _ h => ⟨.normal, t, w, h, fun _ b k => zO (fun _ _ _ => stepR_label) (xA b k cx t w)⟩
  | region id ops draw =>
    intro cx t w kn ka hl h;have h' : (onW w fun d u h n => Bool.rec (yOps P lo ops ops.toList t d u h n kn ka) (yDrawn P lo ops t d u h n kn ka) draw) = true := h;rw [onW_eq] at h';obtain ⟨d, u, hh, n⟩ := w
    cases draw with
    | true => exact yDrawn_ok hP hmix hS id h'
    | false =>
      obtain ⟨x, t', w', hk, h1⟩ := yOps_ok hP hS (cx := cx) ops.toList t d u hh n kn ka (fun _ h => h) h';refine ⟨x, t', w', hk, fun hc b kk => zO (fun _ _ _ => stepR_region) (h1 ?_ (List.range ops.size) (by simp) ?_ b kk)⟩
      · exact List.all_eq_true.1 hc
      · intro j i hj
        have : i = j := by
          by_cases h9 : j < ops.size
          · rw [List.getElem?_range h9] at hj;injection hj with hj; exact hj.symm
          · rw [List.getElem?_eq_none (by simpa using h9)] at hj;cases hj
        subst this;rw [Array.getElem?_toList]
  | rangeFunc f params asg body _ _ =>
    intro cx t w kn ka hl h;obtain ⟨d, u, hh, n⟩ := w;have h' : yRange lo (ev t f) params asg body cx t d u hh n (endA (meet P hint 3 cx.fn (vN body) kn) ka) = true := h;rw [yRange_eq (P := P)] at h';obtain ⟨x, t', w', hk, h1⟩ := xrangeFunc_ok hS f params asg body cx t _ _ h'
    cases x with
    | normal =>
      obtain ⟨t2, s1, s2⟩ := meet_true (show meet P hint 3 cx.fn (vN body) kn t' w' = true from hk);exact ⟨.normal, t2, w', s2, codeTo_post s1 h1⟩
    | exit i => exact ⟨.exit i, t', w', hk, h1⟩
    | goto i => exact ⟨.goto i, t', w', hk, h1⟩
    | ret => exact ⟨.ret, t', w', hk, h1⟩
    | panic c => exact ⟨.panic c, t', w', hk, h1⟩
  | exit id => exact fun cx t w kn ka _ h => ⟨.exit id, t, w, h, fun _ b k ρ _ _ a wd cs hI => ⟨ρ, a, wd, cs, hI, Grow.refl _ _ _ _ hI.hp.dom, CsTo.refl _ _, k, rfl, Steps.refl _ _⟩⟩
  | goto l => exact fun cx t w kn ka _ h => ⟨.goto l, t, w, h, fun _ b k ρ _ _ a wd cs hI => ⟨ρ, a, wd, cs, hI, Grow.refl _ _ _ _ hI.hp.dom, CsTo.refl _ _, k, rfl, Steps.refl _ _⟩⟩
  | ret => exact fun cx t w kn ka _ h => ⟨.ret, t, w, h, fun _ b k ρ _ _ a wd cs hI => ⟨ρ, a, wd, cs, hI, Grow.refl _ _ _ _ hI.hp.dom, CsTo.refl _ _, k, Steps.refl _ _⟩⟩
  | refuse why => exact fun cx t w kn ka _ h => (Bool.false_ne_true h).elim
  | seq a b iha ihb =>
    intro cx t w kn ka hl h;obtain ⟨x, t1, w1, hk, h1⟩ := iha cx t w _ _ (Loops.left hl) h;have ok : ∀ {N}, yJ ng N (.seq a b) = true → yJ ng N a = true ∧ yJ ng N b = true := fun h => Bool.and_eq_true_iff.1 h
    have pass : x ≠ .normal → CodeTo P ng (.seq a b) cx t w x t1 w1 := fun hx hc fr k =>
      zO (fun _ _ _ => stepR_seq) ((h1 (ok hc).1 fr (.code b :: k)).pass hx (fun _ _ => rfl) (fun _ _ => rfl))
    cases x with
    | normal =>
      obtain ⟨x2, t2, w2, hk2, h2⟩ := ihb cx t1 w1 kn ka (Loops.right hl) hk;exact ⟨x2, t2, w2, hk2, fun hc fr k => zO (fun _ _ _ => stepR_seq) ((h1 (ok hc).1 fr (.code b :: k)).trans (h2 (ok hc).2 fr k))⟩
    | exit i => exact ⟨.exit i, t1, w1, hk, pass AX.noConfusion⟩
    | goto i => exact ⟨.goto i, t1, w1, hk, pass AX.noConfusion⟩
    | ret => exact ⟨.ret, t1, w1, hk, pass AX.noConfusion⟩
    | panic c => exact ⟨.panic c, t1, w1, hk, pass AX.noConfusion⟩
  | cond c a b iha ihb =>
    intro cx t w kn ka hl h
    have h' : zW (ev t c) (fun z =>
        Bool.rec (brJ z (fun kk => yCode P hint lo lp a cx t w kk ka) (fun kk => yCode P hint lo lp b cx t w kk ka) (meet P hint 2 cx.fn (vN (.seq a b)) kn))
          (br z (yCode P hint lo lp a cx t w kn ka) (yCode P hint lo lp b cx t w kn ka))
          (plainC a && plainC b && nt (endsB a && endsB b))) false = true := h
    rcases onBool_some h' with ⟨q, hq, h2⟩ | h2
    case inr => cases h2
    have fin : ∀ {x t' w'}, CodeTo P ng (if q then a else b) cx t w x t' w' → CodeTo P ng (.cond c a b) cx t w x t' w' := by
      intro x t' w' hc hok fr k ρ base w0 ac wd cs hI;obtain ⟨o1, o2⟩ := Bool.and_eq_true_iff.1 hok;obtain ⟨o2, o3⟩ := Bool.and_eq_true_iff.1 o2;have hr := ev_rv hI.hp hI.tm o1;rw [hq] at hr;have hr := hr.of_bool;obtain ⟨ρ', a', wd', cs', h1, h2, h3, h4⟩ := hc (by cases q <;> assumption) fr k ρ base w0 ac wd cs hI;exact ⟨ρ', a', wd', cs', h1, h2, h3, h4.of_steps (.one (stepR_cond hr))⟩
    cases hfl : (plainC a && plainC b && nt (endsB a && endsB b)) with
    | true =>
      rw [hfl] at h2
      cases q with
      | true => obtain ⟨x, t', w', hk, h3⟩ := iha cx t w kn ka (Loops.left hl) h2; exact ⟨x, t', w', hk, fin h3⟩
      | false => obtain ⟨x, t', w', hk, h3⟩ := ihb cx t w kn ka (Loops.right hl) h2; exact ⟨x, t', w', hk, fin h3⟩
    | false =>
      rw [hfl] at h2
      have join : ∀ {x t' w'}, endA (meet P hint 2 cx.fn (vN (.seq a b)) kn) ka x t' w' = true → CodeTo P ng (if q then a else b) cx t w x t' w' → ∃ x t' w', endA kn ka x t' w' = true ∧ CodeTo P ng (.cond c a b) cx t w x t' w' := by
        intro x t' w' hk h3
        cases x with
        | normal =>
          obtain ⟨t2, s1, s2⟩ := meet_true (show meet P hint 2 cx.fn (vN (.seq a b)) kn t' w' = true from hk);exact ⟨.normal, t2, w', s2, fin (codeTo_post s1 h3)⟩
        | exit i => exact ⟨.exit i, t', w', hk, fin h3⟩
        | goto i => exact ⟨.goto i, t', w', hk, fin h3⟩
        | ret => exact ⟨.ret, t', w', hk, fin h3⟩
        | panic c => exact ⟨.panic c, t', w', hk, fin h3⟩
      cases q with
      | true => obtain ⟨x, t', w', hk, h3⟩ := iha cx t w _ ka (Loops.left hl) h2; exact join hk h3
      | false => obtain ⟨x, t', w', hk, h3⟩ := ihb cx t w _ ka (Loops.right hl) h2; exact join hk h3
  | block id b ih =>
    intro cx t w kn ka hl h
    have h1 : ∃ x t1 w1, endA (meet P hint 1 cx.fn id kn) (blkA id (meet P hint 1 cx.fn id kn) ka) x t1 w1 = true ∧ CodeTo P ng b cx t w x t1 w1 := by
      have h' : (Bool.rec (blkJ (fun kk => yCode P hint lo lp b cx t w kk (blkA id kk ka)) (meet P hint 1 cx.fn id kn)) (yCode P hint lo lp b cx t w (meet P hint 1 cx.fn id kn) (blkA id (meet P hint 1 cx.fn id kn) ka)) (yW b) : Bool) = true := h
      cases hb : yW b with
      | true => rw [hb] at h'; exact ih cx t w _ _ hl h'
      | false => rw [hb] at h'; exact ih cx t w _ _ hl h'
    obtain ⟨x, t1, w1, hk, h1⟩ := h1;have ok : ∀ {N}, yJ ng N (.block id b) = true → yJ ng N b = true := fun h => h
    have pass : x ≠ .normal → (∀ i, x = .exit i → i ≠ id) → CodeTo P ng (.block id b) cx t w x t1 w1 := fun hx hi hc fr k =>
      zO (fun _ _ _ => stepR_block) ((h1 (ok hc) fr (.inBlock id :: k)).pass hx (fun i e => by
        have : (id == i) = false := by simpa using fun e2 => hi i e e2.symm
        simp [exitTo, this]) (fun _ _ => rfl))
    cases x with
    | normal =>
      obtain ⟨t2, s1, s2⟩ := meet_true (show meet P hint 1 cx.fn id kn t1 w1 = true from hk);have hb : CodeTo P ng (.block id b) cx t w .normal t1 w1 := fun hc fr k => zO (fun _ _ _ => stepR_block) ((h1 (ok hc) fr (.inBlock id :: k)).trans (zO (fun _ _ _ => stepR_inBlock) (xA fr k cx t1 w1)));exact ⟨.normal, t2, w1, s2, codeTo_post s1 hb⟩
    | exit i =>
      have hk' : (Bool.rec (ka (.exit i) t1 w1) (meet P hint 1 cx.fn id kn t1 w1) (Nat.beq i id) : Bool) = true := hk
      cases hi : Nat.beq i id with
      | true =>
        rw [hi] at hk';obtain rfl := zI hi;obtain ⟨t2, s1, s2⟩ := meet_true hk';have hb : CodeTo P ng (.block i b) cx t w .normal t1 w1 := fun hc fr k => zO (fun _ _ _ => stepR_block) (leads_block (h1 (ok hc) fr (.inBlock i :: k)));exact ⟨.normal, t2, w1, s2, codeTo_post s1 hb⟩
      | false =>
        rw [hi] at hk'
        exact ⟨.exit i, t1, w1, hk', pass AX.noConfusion fun j e e2 => by
          injection e with e
          subst e e2;rw [Nat.beq_refl] at hi; cases hi⟩
    | goto i => exact ⟨.goto i, t1, w1, hk, pass AX.noConfusion fun _ e => by cases e⟩
    | ret => exact ⟨.ret, t1, w1, hk, pass AX.noConfusion fun _ e => by cases e⟩
    | panic c => exact ⟨.panic c, t1, w1, hk, pass AX.noConfusion fun _ e => by cases e⟩
  | loop b _ =>
    intro cx t w kn ka hl h;obtain ⟨x, t', w', hk, h1⟩ := hL _ _ _ _ _ (show lp (vN (.loop b)) cx t w (endA noK ka) = true from h);have hc : zJ P cx.fn (vN (.loop b)) = .loop b := hl _ (List.mem_cons_self ..);rw [hc] at h1;refine ⟨x, t', w', ?_, h1⟩
    cases x with
    | normal => cases hk
    | _ => exact hk
  | scope b ih =>
    intro cx t w kn ka hl h;obtain ⟨x, t1, w1, hk, h1⟩ := ih cx t w _ _ hl (show yCode P hint lo lp b cx t w kn (scpA ka) = true from h)
    have pass : x ≠ .normal → (∀ l, x ≠ .goto l) → CodeTo P ng (.scope b) cx t w x t1 w1 := fun hx hg hc fr k =>
      zO (fun _ _ _ => stepR_scope) ((h1 hc fr (.inScope b :: k)).pass hx (fun _ _ => rfl) (fun l e => absurd e (hg l)))
    cases x with
    | normal => exact ⟨.normal, t1, w1, hk, fun hc fr k => zO (fun _ _ _ => stepR_scope) ((h1 hc fr (.inScope b :: k)).trans (zO (fun _ _ _ => stepR_inScope) (xA fr k cx t1 w1)))⟩
    | exit i => exact ⟨.exit i, t1, w1, hk, pass AX.noConfusion fun _ => AX.noConfusion⟩
    | goto i => exact (Bool.false_ne_true hk).elim
    | ret => exact ⟨.ret, t1, w1, hk, pass AX.noConfusion fun _ => AX.noConfusion⟩
    | panic c => exact ⟨.panic c, t1, w1, hk, pass AX.noConfusion fun _ => AX.noConfusion⟩
theorem yLoop_ok {lo : Lo} {lp : LP} (hP : zV ng P = true) (hmix : P.follows .mixedOrders = true) (hS : Sound P ng lo) (hL : LpOK P ng lp) (hint : yR) {b : Code} {cx : Cx} {t : Fr} {w : W} {ka : KX}
    (hl : Loops P cx.fn (.loop b)) (h : wU P hint lo lp b cx t w ka = true) : ∃ x t' w', ka x t' w' = true ∧ CodeTo P ng (.loop b) cx t w x t' w' := by
  unfold wU at h;obtain ⟨t0, s1, h2⟩ := rt_true h;rw [onW_eq] at h2;obtain ⟨x, t1, w1, hk, h1⟩ := yCode_ok hP hmix hS hL hint b cx t0 w _ _ (fun l h => hl l (List.mem_cons_of_mem _ h)) h2
  have pass : x ≠ .normal → CodeTo P ng (.loop b) cx t0 w x t1 w1 := fun hx hc fr k =>
    zO (fun _ _ _ => stepR_loop) ((h1 hc fr (.inLoop b :: k)).pass hx (fun _ _ => rfl) (fun _ _ => rfl))
  cases x with
  | normal =>
    obtain ⟨x2, t2, w2, hk2, h2⟩ := hL _ _ _ _ _ (show lp (vN (.loop b)) cx t1 w1 ka = true from hk);rw [show zJ P cx.fn (vN (.loop b)) = .loop b from hl _ (List.mem_cons_self ..)] at h2
    exact ⟨x2, t2, w2, hk2, vA s1 fun hc fr k => zO (fun _ _ _ => stepR_loop)
      ((h1 hc fr (.inLoop b :: k)).trans (zO (fun _ _ _ => stepR_inLoop) (leads_unloop (h2 hc fr k))))⟩
  | exit i => exact ⟨.exit i, t1, w1, hk, vA s1 (pass AX.noConfusion)⟩
  | goto i => exact ⟨.goto i, t1, w1, hk, vA s1 (pass AX.noConfusion)⟩
  | ret => exact ⟨.ret, t1, w1, hk, vA s1 (pass AX.noConfusion)⟩
  | panic c => exact ⟨.panic c, t1, w1, hk, vA s1 (pass AX.noConfusion)⟩
end
section
variable {P : Program} {ng : Nat}
noncomputable def isSo (p : Prop) : Bool := @decide p (Classical.propDecidable p)
theorem isSo_iff {p : Prop} : isSo p = true ↔ p := @decide_eq_true_iff p (Classical.propDecidable p)
theorem args0_eq {t : Fr} {i : Nat} {l : List Value} {k : Fr → Bool} : args0 t i l k = k (Tr.ofListFrom undef t i l) := by
  induction l generalizing t i with
  | nil => rfl
  | cons v r ih =>
    show (zA v fun v => fsetK t i v fun t => args0 t (Nat.succ i) r k) = _;rw [yX];unfold fsetK;rw [Tr.setK_eq, ih];rfl
noncomputable def loS (P : Program) (ng : Nat) : Lo where
  code c cx t w k := isSo (∃ x t' w', k x t' w' = true ∧ CodeTo P ng c cx t w x t' w')
  call f args df u h n k := isSo (∃ o u' h' n', k o u' h' n' = true ∧ CallTo P ng f args df u h n o u' h' n')
  round l args h n k := isSo (∃ o h' n', k o h' n' = true ∧ RoundTo P ng l args h n o h' n')
  leave fn mode t w k := isSo (∃ o u' h' n', k o u' h' n' = true ∧ LeaveTo P ng fn mode t w o u' h' n')
theorem loS_code {c : Code} {cx : Cx} {t : Fr} {w : W} {k : KX} : (loS P ng).code c cx t w k = true ↔ ∃ x t' w', k x t' w' = true ∧ CodeTo P ng c cx t w x t' w' := by
  unfold loS; exact isSo_iff
theorem loS_call {f : FuncId} {args : List Value} {df : Bool} {u : Option zF} {h : zE} {n : Nat} {k : KO} : (loS P ng).call f args df u h n k = true ↔ ∃ o u' h' n', k o u' h' n' = true ∧ CallTo P ng f args df u h n o u' h' n' := by
  unfold loS; exact isSo_iff
theorem loS_round {l : Nat} {args : List Value} {h : zE} {n : Nat} {k : Out → zE → Nat → Bool} : (loS P ng).round l args h n k = true ↔ ∃ o h' n', k o h' n' = true ∧ RoundTo P ng l args h n o h' n' := by
  unfold loS; exact isSo_iff
theorem loS_leave {fn : Func} {mode : Option zF} {t : Fr} {w : W} {k : KO} : (loS P ng).leave fn mode t w k = true ↔ ∃ o u' h' n', k o u' h' n' = true ∧ LeaveTo P ng fn mode t w o u' h' n' := by
  unfold loS; exact isSo_iff
theorem sound_loS : Sound P ng (loS P ng) where
  code _ _ _ _ _ h := loS_code.1 h
  call _ _ _ _ _ _ _ h := loS_call.1 h
  round _ _ _ _ _ h := loS_round.1 h
  leave _ _ _ _ _ h := loS_leave.1 h
theorem argsGo_true {N : Nat} : ∀ {args : List Value} {l : List Ty} {i : Nat} {t : Fr} {K : Fr → Bool} , argsGo l args i t K = true → ∃ t', SameF N (Tr.ofListFrom undef t i args) t' ∧ K t' = true := by
  intro args
  induction args with
  | nil => intro l i t K h; exact ⟨t, SameF.refl _ _, h⟩
  | cons v r ih =>
    intro l i t K h
    cases l with
    | nil =>
      have h' : (fsetK t i v fun t => argsGo [] r (Nat.succ i) t K) = true := h;exact ih (vQ h')
    | cons T l =>
      have h' : (rtS T v fun v => fsetK t i v fun t => argsGo l r (Nat.succ i) t K) = true := h;have := xE h';exact ih (vQ this)
theorem yCall_ok {lo : Lo} {lp : LP} (hP : zV ng P = true) (hmix : P.follows .mixedOrders = true) (hS : Sound P ng lo) (hL : LpOK P ng lp) (hint : yR)
    {f : FuncId} (hlo : ∀ fb, vI P f = some fb → Loops P f fb.2) {args : List Value} {df : Bool} {u : Option zF} {h : zE} {n : Nat} {k : KO} (hx : zY P hint lo lp f args df u h n k = true) :
    ∃ o u' h' n', k o u' h' n' = true ∧ CallTo P ng f args df u h n o u' h' n' := by
  refine xcall_ok hP sound_loS ?_;unfold zY at hx;unfold xcall
  cases hb : vI P f with
  | none => rw [hb] at hx; cases hx
  | some p =>
    obtain ⟨fn, body⟩ := p;rw [hb] at hx
    have hx1 : (Bool.rec false (argsGo (hint 4 f 0) args 0 (full (ntmX P f) (fun _ => undef) (ntmX P f)) fun t =>
      yCode P hint lo lp body ⟨f, none, df⟩ t ⟨[], u, h, n⟩ (fun t w => zD P lo f k .ret t w) (zD P lo f k)) (Nat.ble args.length (ntmX P f)) : Bool) = true := hx
    have hn : ntmX P f = fn.ntmps := by
      rw [ntmX_all P f ⟨fn, (bodyOf_some hb).1⟩, ntm_eq (bodyOf_some hb).1]
    rw [hn] at hx1
    have hlen : Nat.ble args.length fn.ntmps = true := by
      cases e : Nat.ble args.length fn.ntmps with
      | true => rfl
      | false => rw [e] at hx1; cases hx1
    rw [hlen] at hx1
    show (Bool.rec false (args0 fr0 0 args fun t =>
      (loS P ng).code body ⟨f, none, df⟩ t ⟨[], u, h, n⟩ fun x t w => AX.rec ((loS P ng).leave fn none t w k) (fun _ => false) (fun _ => false) ((loS P ng).leave fn none t w k) (fun c => (loS P ng).leave fn (some c) t w k) x) (Nat.ble args.length fn.ntmps) : Bool) = true
    rw [hlen]
    show (args0 fr0 0 args fun t =>
      (loS P ng).code body ⟨f, none, df⟩ t ⟨[], u, h, n⟩ fun x t w => AX.rec ((loS P ng).leave fn none t w k) (fun _ => false) (fun _ => false) ((loS P ng).leave fn none t w k) (fun c => (loS P ng).leave fn (some c) t w k) x) = true
    obtain ⟨t0, s1, hx2⟩ := argsGo_true (N := ntmX P f) hx1;obtain ⟨x, t', w', hk, hc⟩ := yCode_ok hP hmix hS hL hint body _ _ _ _ _ (hlo _ hb) hx2
    have hfr : SameF (ntmX P f) (Tr.ofListFrom undef fr0 0 args) t0 := by
      refine SameF.trans ?_ s1;intro i hi;unfold zB;rw [Tr.get_ofListFrom, Tr.get_ofListFrom];have h1 := full_get fn.ntmps (fun _ => undef) fn.ntmps i (Nat.le_refl _);have h2 : zB fr0 i = undef := Tr.get_leaf _ _;unfold zB at h1 h2;rw [h1, h2];simp
    have hc2 := vA (cx := ⟨f, none, df⟩) hfr hc;rw [args0_eq];have lift : ∀ mode, xleave P lo fn mode t' w' k = true → (loS P ng).leave fn mode t' w' k = true := fun mode h => loS_leave.2 (xleave_ok hP hS h);have hk' : zD P lo f k x t' w' = true := by cases x <;> exact hk
    unfold zD at hk';rw [hb] at hk';refine loS_code.2 ⟨x, t', w', ?_, hc2⟩
    cases x with
    | normal => exact lift _ hk'
    | exit i => cases hk'
    | goto i => cases hk'
    | ret => exact lift _ hk'
    | panic c => exact lift _ hk'
end
noncomputable def sel (b : Bool) (x y : Value) : Value := Bool.rec y x b
noncomputable def letV (v : Value) (K : Value → Bool) : Bool := K v
noncomputable def ineB (a b : Int) : Bool := Bool.rec true false (yO a b)
noncomputable def igtB (a b : Int) : Bool := wE b a
noncomputable def igeB (a b : Int) : Bool := ileB b a
noncomputable def yH (lo : Lo) (g : FuncId) (args : List Value) (h : zE) (n : Nat) (Kp : KC) (K : Value → zE → Nat → Bool) : Bool :=
  lo.call g args false none h n fun o _ h n => Out.rec (fun v => K v h n) (fun c => Kp c h n) o
noncomputable def callI (lo : Lo) (kd : IntKind) (g : FuncId) (args : List Value) (h : zE) (n : Nat) (Kp : KC) (K : Int → zE → Nat → Bool) : Bool :=
  lo.call g args false none h n fun o _ h n => Out.rec (fun v => rtI kd v fun a => K a h n) (fun c => Kp c h n) o
noncomputable def xR (lo : Lo) (g : FuncId) (args : List Value) (h : zE) (n : Nat) (Kp : KC) (K : Bool → zE → Nat → Bool) : Bool :=
  lo.call g args false none h n fun o _ h n => Out.rec (fun v => rtB v fun a => K a h n) (fun c => Kp c h n) o
noncomputable def invokeV (lo : Lo) (f : Value) (args : List Value) (h : zE) (n : Nat) (Kp : KC) (K : Value → zE → Nat → Bool) : Bool :=
  xinvoke lo f args h n (fun v h n => K v h n) (fun c h n => Kp c h n)
noncomputable def invokeB (lo : Lo) (f : Value) (args : List Value) (h : zE) (n : Nat) (Kp : KC) (K : Bool → zE → Nat → Bool) : Bool :=
  xinvoke lo f args h n (fun v h n => rtB v fun a => K a h n) (fun c h n => Kp c h n)
noncomputable def unL (c : Code) : Code := Code.rec (motive := fun _ => Code) .skip (fun _ _ _ => .skip) (fun _ _ _ _ => .skip) (fun _ _ _ _ _ => .skip) (fun _ _ _ => .skip) (fun b _ => b)
    (fun _ _ _ _ _ _ => .skip) (fun _ => .skip) (fun _ _ => .skip) (fun _ => .skip) (fun _ => .skip) .skip (fun _ => .skip) c
noncomputable def notIn (i : Nat) (l : List Code) : Bool := List.rec true (fun c _ ih => Bool.rec ih false (Nat.beq (vN c) i)) l
noncomputable def freshB (l : List Code) : Bool := List.rec true (fun c r ih => Bool.rec false ih (notIn (vN c) r)) l
theorem findC_of {l : List Code} (h : freshB l = true) : ∀ c ∈ l, findC (vN c) l = c := by
  induction l with
  | nil => intro c hc; simp at hc
  | cons x r ih =>
    intro c hc;have h' : (Bool.rec false (freshB r) (notIn (vN x) r) : Bool) = true := h
    cases hn : notIn (vN x) r with
    | false => rw [hn] at h'; cases h'
    | true =>
      rw [hn] at h';show (Bool.rec (findC (vN c) r) x (Nat.beq (vN x) (vN c)) : Code) = c;rcases List.mem_cons.1 hc with rfl | hc
      · rw [Nat.beq_refl]
      · have hne : Nat.beq (vN x) (vN c) = false := by
          have : ∀ r : List Code, c ∈ r → notIn (vN x) r = true → Nat.beq (vN x) (vN c) = false := by
            intro r
            induction r with
            | nil => intro hc; simp at hc
            | cons y r ih2 =>
              intro hc hn;have hn' : (Bool.rec (notIn (vN x) r) false (Nat.beq (vN y) (vN x)) : Bool) = true := hn
              cases hb : Nat.beq (vN y) (vN x) with
              | true => rw [hb] at hn'; cases hn'
              | false =>
                rw [hb] at hn';rcases List.mem_cons.1 hc with rfl | hc
                · cases h9 : Nat.beq (vN x) (vN c) with
                  | false => rfl
                  | true => rw [zI h9, Nat.beq_refl] at hb; cases hb
                · exact ih2 hc hn'
          exact this r hc hn
        rw [hne];exact ih h' c hc
theorem loopsOf_sub {c b : Code} (hm : Code.loop b ∈ yG c) : ∀ l ∈ yG b, l ∈ yG c := by
  induction c with
  | skip => simp [yG] at hm
  | region id ops draw => simp [yG] at hm
  | seq x y ihx ihy =>
    have e : yG (.seq x y) = yG x ++ yG y := rfl;rw [e] at hm ⊢;intro l hl;rcases List.mem_append.1 hm with h | h
    · exact List.mem_append.2 (.inl (ihx h l hl))
    · exact List.mem_append.2 (.inr (ihy h l hl))
  | cond z x y ihx ihy =>
    have e : yG (.cond z x y) = yG x ++ yG y := rfl;rw [e] at hm ⊢;intro l hl;rcases List.mem_append.1 hm with h | h
    · exact List.mem_append.2 (.inl (ihx h l hl))
    · exact List.mem_append.2 (.inr (ihy h l hl))
  | block id x ih => exact ih hm
  | loop x ih =>
    have e : yG (.loop x) = .loop x :: yG x := rfl;rw [e] at hm ⊢;intro l hl;rcases List.mem_cons.1 hm with h | h
    · injection h with h; subst h; exact List.mem_cons_of_mem _ hl
    · exact List.mem_cons_of_mem _ (ih h l hl)
  | rangeFunc f ps x y ihx ihy =>
    have e : yG (.rangeFunc f ps x y) = yG x ++ yG y := rfl;rw [e] at hm ⊢;intro l hl;rcases List.mem_append.1 hm with h | h
    · exact List.mem_append.2 (.inl (ihx h l hl))
    · exact List.mem_append.2 (.inr (ihy h l hl))
  | exit id => simp [yG] at hm
  | scope x ih => exact ih hm
  | label l => simp [yG] at hm
  | goto l => simp [yG] at hm
  | ret => simp [yG] at hm
  | refuse w => simp [yG] at hm
noncomputable def zL (P : Program) (f : FuncId) : Bool := Option.rec true (fun fb => freshB (yG fb.2)) (vI P f)
theorem loops_of {P : Program} {f : FuncId} (h : zL P f = true) : ∀ fb, vI P f = some fb → Loops P f fb.2 := by
  intro fb hb l hl;unfold zL at h;rw [hb] at h;unfold zJ;rw [hb];exact findC_of h l hl
abbrev CF := Lo → LP → List Value → Bool → Option zF → zE → Nat → KO → Bool
abbrev BF := Lo → LP → Option Nat → Bool → Fr → W → KX → Bool
structure EntF (P : Program) (ng : Nat) where
  f : FuncId
  F : CF
  ok : ∀ lo lp, Sound P ng lo → LpOK P ng lp → ∀ args df u h n k, F lo lp args df u h n k = true → ∃ o u' h' n', k o u' h' n' = true ∧ CallTo P ng f args df u h n o u' h' n'
structure EntL (P : Program) (ng : Nat) where
  f : FuncId
  i : Nat
  B : BF
  ok : ∀ lo lp, Sound P ng lo → LpOK P ng lp → ∀ rd df t w k, B lo lp rd df t w k = true → ∃ x t' w', k x t' w' = true ∧ CodeTo P ng (zJ P f i) ⟨f, rd, df⟩ t w x t' w'
section
variable {P : Program} {ng : Nat}
noncomputable def getF (t : Tr (Option (EntF P ng))) (f : FuncId) : Option (EntF P ng) := Tr.get none t f
noncomputable def callF (t : Tr (Option (EntF P ng))) (lo : Lo) (lp : LP) (f : FuncId) (args : List Value) (df : Bool) (u : Option zF) (h : zE) (n : Nat) (k : KO) : Bool :=
  Option.rec (xcall P lo f args df u h n k) (fun e => Bool.rec false (e.F lo lp args df u h n k) (Nat.beq e.f f)) (getF t f)
noncomputable def loopF (l : List (EntL P ng)) (lo : Lo) (lp : LP) (i : Nat) (cx : Cx) (t : Fr) (w : W) (k : KX) : Bool :=
  List.rec (lo.code (zJ P cx.fn i) cx t w k)
    (fun e _ ih => Bool.rec ih (Bool.rec ih (e.B lo lp cx.round cx.df t w k) (Nat.beq e.f cx.fn)) (Nat.beq e.i i)) l
structure Two where
  lo : Lo
  lp : LP
theorem callF_ok {t : Tr (Option (EntF P ng))} {lo : Lo} {lp : LP} (hP : zV ng P = true) (hS : Sound P ng lo) (hL : LpOK P ng lp) {f : FuncId} {args : List Value} {df : Bool} {u : Option zF} {h : zE} {n : Nat} {k : KO}
    (hx : callF t lo lp f args df u h n k = true) : ∃ o u' h' n', k o u' h' n' = true ∧ CallTo P ng f args df u h n o u' h' n' := by
  unfold callF at hx
  cases hg : getF t f with
  | none => rw [hg] at hx; exact xcall_ok hP hS hx
  | some e =>
    rw [hg] at hx;have hx' : (Bool.rec false (e.F lo lp args df u h n k) (Nat.beq e.f f) : Bool) = true := hx
    cases hb : Nat.beq e.f f with
    | false => rw [hb] at hx'; cases hx'
    | true =>
      rw [hb] at hx';obtain rfl := zI hb;exact e.ok lo lp hS hL args df u h n k hx'
theorem loopF_ok {lo : Lo} {lp : LP} (hS : Sound P ng lo) (hL : LpOK P ng lp) : ∀ {l : List (EntL P ng)} {i : Nat} {cx : Cx} {t : Fr} {w : W} {k : KX}, loopF l lo lp i cx t w k = true →
    ∃ x t' w', k x t' w' = true ∧ CodeTo P ng (zJ P cx.fn i) cx t w x t' w' := by
  intro l
  induction l with
  | nil => intro i cx t w k h; exact hS.code _ _ _ _ _ h
  | cons e r ih =>
    intro i cx t w k h;have h' : (Bool.rec (loopF r lo lp i cx t w k) (Bool.rec (loopF r lo lp i cx t w k) (e.B lo lp cx.round cx.df t w k) (Nat.beq e.f cx.fn)) (Nat.beq e.i i) : Bool) = true := h
    cases h1 : Nat.beq e.i i with
    | false => rw [h1] at h'; exact ih h'
    | true =>
      rw [h1] at h'
      cases h2 : Nat.beq e.f cx.fn with
      | false => rw [h2] at h'; exact ih h'
      | true =>
        rw [h2] at h';obtain ⟨fn, rd, df⟩ := cx;obtain rfl := zI h1;obtain rfl : e.f = fn := zI h2;exact e.ok lo lp hS hL rd df t w k h'
theorem entL_ok {hint : yR} {f : FuncId} {i : Nat} (hP : zV ng P = true) (hmix : P.follows .mixedOrders = true) (hl : zL P f = true) {b : Code} (hb : zJ P f i = .loop b) {fb : Func × Code} (hf : vI P f = some fb) (hm : Code.loop b ∈ yG fb.2)
    {X : Lo → LP → Option Nat → Bool → Fr → W → KX → Bool} (he : ∀ lo lp rd df t w k, wU P hint lo lp (unL (zJ P f i)) ⟨f, rd, df⟩ t w k = X lo lp rd df t w k) :
    ∀ lo lp, Sound P ng lo → LpOK P ng lp → ∀ rd df t w k, X lo lp rd df t w k = true → ∃ x t' w', k x t' w' = true ∧ CodeTo P ng (zJ P f i) ⟨f, rd, df⟩ t w x t' w' := by
  intro lo lp hS hL rd df t w k hx;rw [← he, hb] at hx;rw [hb];refine yLoop_ok hP hmix hS hL hint (b := b) ?_ hx;have := loops_of hl fb hf;intro l hl2;refine this l ?_;rcases List.mem_cons.1 hl2 with rfl | h3
  · exact hm
  · exact loopsOf_sub hm l h3
end
section
variable {P : Program} {ng : Nat}
def xK : Value → Bool
  | .int _ _ | .bool _ | .string _ | .nilIface | .nilFunc => true
  | _ => false
theorem RV.scal {ρ ρ' : Inj} {v v' : Value} (hv : xK v = true) (r : RV ρ v v') : RV ρ' v v' := by
  cases r <;> first | (cases hv; done) | skip
  · exact .bool _
  · exact .int _ _
  · exact .string _
  · exact .nilFunc
  · exact .nilIface
theorem RV.scals {ρ ρ' : Inj} {v v' : Value} (hv : xK v = true ∨ ∃ l : List Value, v = .tuple ⟨l⟩ ∧ l.all xK = true) (r : RV ρ v v') : RV ρ' v v' := by
  rcases hv with hv | ⟨l, rfl, hl⟩
  · exact r.scal hv
  · cases r with
    | tuple hc c1 => exact .tuple hc fun i w w' a b => (c1 i w w' a b).scal (List.all_eq_true.1 hl w (List.mem_iff_getElem?.2 ⟨i, a⟩))
def Rets (P : Program) (ng : Nat) (f : FuncId) (args : List Value) (h : zE) (n : Nat) (Q : Value → zE → Nat → Prop) : Prop :=
  ∀ (u : Option zF) (k : KO), (∀ v h' n', Q v h' n' → k (.ret v) u h' n' = true) → (loS P ng).call f args false u h n k = true
abbrev Pure (P : Program) (ng : Nat) (f : FuncId) (args : List Value) (h : zE) (n : Nat) (v : Value) : Prop :=
  Rets P ng f args h n fun v' h' n' => v' = v ∧ h' = h ∧ n' = n
theorem Rets.does {f : FuncId} {args : List Value} {h : zE} {n : Nat} {Q : Value → zE → Nat → Prop} (r : Rets P ng f args h n Q) (u : Option zF) : ∃ v h' n', Q v h' n' ∧ CallTo P ng f args false u h n (.ret v) u h' n' := by
  have := r u (fun o u' h' n' => isSo (∃ v, o = .ret v ∧ u' = u ∧ Q v h' n')) (fun v h' n' q => isSo_iff.2 ⟨v, rfl, rfl, q⟩);obtain ⟨o, u', h', n', hk, hc⟩ := loS_call.1 this;obtain ⟨v, rfl, rfl, q⟩ := isSo_iff.1 hk;exact ⟨v, h', n', q, hc⟩
theorem findC_mem {i : Nat} {l : List Code} {b : Code} (h : findC i l = .loop b) : Code.loop b ∈ l := by
  induction l with
  | nil => cases h
  | cons c r ih =>
    have h' : (Bool.rec (findC i r) c (Nat.beq (vN c) i) : Code) = .loop b := h
    cases e : Nat.beq (vN c) i with
    | true => rw [e] at h'; exact List.mem_cons.2 (.inl h'.symm)
    | false => rw [e] at h'; exact List.mem_cons_of_mem _ (ih h')
theorem unL_of {c : Code} (h : yW c = true) : c = .loop (unL c) := by
  cases c <;> first | (cases h; done) | rfl
noncomputable def resOf (P : Program) (f : FuncId) : Option (List ResultVar) := (vI P f).map fun fb => fb.1.results.toList
end
theorem opt_ap {α : Type} (x : α) (K : α → Bool) : opt (some x) K = K x := rfl
theorem rtI_ap (k : IntKind) (a : Int) (K : Int → Bool) : rtI k (.int k a) K = K a := by cases k <;> rfl
theorem rtB_ap (b : Bool) (K : Bool → Bool) : rtB (.bool b) K = K b := rfl
theorem vR {R : Type} (b : Bool) (f : Bool → R) (d : R) : zW (.bool b) f d = f b := rfl
theorem grd_t (d : KH → Bool) (kv : KH) (h : zE) (n : Nat) : grd true d kv h n = d kv := rfl
theorem grd_f (d : KH → Bool) (kv : KH) (h : zE) (n : Nat) : grd false d kv h n = kv h n undef := rfl
theorem br_t (a b : Bool) : br true a b = a := rfl
theorem br_f (a b : Bool) : br false a b = b := rfl
theorem nt_t : nt true = false := rfl
theorem nt_f : nt false = true := rfl
theorem sel_t (x y : Value) : sel true x y = x := rfl
theorem sel_f (x y : Value) : sel false x y = y := rfl
theorem not_ap (b : Bool) : aUn .not (.bool b) = some (.bool (!b)) := rfl
theorem igtB_ap (a b : Int) : igtB a b = decide (b < a) := iltB_eq b a
theorem igeB_ap (a b : Int) : igeB a b = decide (b ≤ a) := ileB_eq b a
theorem cmpI (f : Int → Int → Bool) (P : Program) (op : BinOp) (ty : TypeId) (q : Bool) (k : IntKind) (a b : Int) (K : Bool → Bool) : zK f P op ty q (.int k a) (.int k b) K = K (f a b) := by
  show (Bool.rec false (fb (f a b) fun c => K c) (yI k k) : Bool) = _;have : yI k k = true := by cases k <;> rfl
  rw [this, fb_eq]
theorem cmpS_eq (f : Int → Int → Bool) (P : Program) (ty : TypeId) (q : Bool) (a b : ByteArray) (K : Bool → Bool) : zK f P .eql ty q (.string a) (.string b) K = K (a.data.toList == b.data.toList) := by
  show rtB (.bool (zR a.data.toList b.data.toList)) (fun c => K c) = _;rw [xI]; rfl
theorem len_str {P : Program} {ty : TypeId} (hu : und P ty = some .string) (s : ByteArray) (r : List Value) (h : zE) : zU P .len [ty] (.string s :: r) h = some (.int .i64 (.ofNat s.data.toList.length)) := by
  show aLen P h ty (.string s) = _;unfold aLen; rw [hu]
theorem len_sl {P : Program} {ty e : TypeId} (hu : und P ty = some (.slice e)) (p : Option Addr) (n c : Nat) (r : List Value) (h : zE) : zU P .len [ty] (.slice p n c :: r) h = some (.int .i64 (.ofNat n)) := by
  show aLen P h ty (.slice p n c) = _;unfold aLen; rw [hu]
theorem zH {a b : Bool} (h : a = b) (hb : b = true) : a = true := h.trans hb
section
variable {v : Value}
end
noncomputable def cellOf (o : AObj) (i : Nat) : Option Value := match o with
  | .cells c n _ _ => if i < n then some (Tr.get undef c i) else none
  | _ => none
def infoOf (o : AObj) : Option (Nat × Nat × Nat) := match o with
  | .cells _ n z kd => some (n, z, kd)
  | _ => none
noncomputable def stC (o : AObj) (off : Nat) (vs : List Value) : AObj := match o with
  | .cells c n z kd => .cells (Tr.ofListFrom undef c off vs) n z kd
  | o => o
noncomputable def wD (h : zE) (b i : Nat) : Option Value := cellOf (zN h b) i
def rowAt (h : zE) (b off : Nat) (vs : List Value) : Prop := ∀ j v, vs[j]? = some v → wD h b (off + j) = some v
section
variable {P : Program} {ng : Nat}
theorem blt_of {a b : Nat} (h : a < b) : Nat.blt a b = true := by rw [Nat.blt_eq]; exact h
end
noncomputable def apTB (P : Program) (sT xT el sz : Nat) : Bool :=
  match und P sT, und P xT with
  | some (.slice e), some xd => match xd with
    | .int _ => false
    | _ => match inf? P e, yT P e with
      | some ei, some z => Nat.beq e el && (Nat.beq ei.size sz && (Nat.beq (cellsOf z).length sz && (Nat.blt 0 sz && Nat.blt ei.bytes 100000)))
      | _, _ => false
  | _, _ => false
def Own (lo n : Nat) (h : zE) (v : Value) (e sz : Nat) (len : Nat) (vs : List Value) : Prop :=
  (v = .slice none 0 0 ∧ len = 0 ∧ vs = []) ∨ ∃ b, lo ≤ b ∧ b < n ∧ v = .slice (some ⟨b, 0, none⟩) len inf ∧ infoOf (zN h b) = some (vs.length, zc e sz, 1) ∧ vs.length = len * sz ∧ 0 < len ∧ ∀ i, wD h b i = vs[i]?
def Row (n : Nat) (h : zE) (v : Value) (e sz len : Nat) (vs : List Value) : Prop :=
  (v = .slice none 0 0 ∧ len = 0 ∧ vs = []) ∨ ∃ b off cap m z kd, b < n ∧ v = .slice (some ⟨b, off, none⟩) len cap ∧ vs.length = len * sz ∧ infoOf (zN h b) = some (m, z, kd) ∧ off + vs.length ≤ m ∧ rowAt h b off vs ∧ ((cap < inf ∧ len ≤ cap) ∨ (cap = inf ∧ kd = 1 ∧ z = zc e sz ∧ 1 ≤ sz))
def blkOf : Value → Option Nat
  | .slice (some a) _ _ => some a.block
  | _ => none
section
variable {P : Program}
end
def TabsH (tabs : List (Nat × List Value)) (h : zE) : Prop := ∀ p ∈ tabs, (∃ z, infoOf (zN h p.1) = some (p.2.length, z, 2)) ∧ ∀ i, wD h p.1 i = p.2[i]?
noncomputable def hasB (P : Program) (f : FuncId) : Bool := match P.funcs[f]? with
  | some fn => match fn.body with
    | some _ => !(fn.name == "runtime.NumGoroutine")
    | none => false
  | none => false
section
variable {P : Program} {ng : Nat}
theorem hasB_of {f : FuncId} (h : hasB P f = true) : ∃ fn body, P.funcs[f]? = some fn ∧ fn.body = some body ∧ (fn.name == "runtime.NumGoroutine") = false := by
  unfold hasB at h;split at h
  · rename_i fn e;split at h
    · rename_i body e2;exact ⟨fn, body, e, e2, by simpa using h⟩
    · cases h
  · cases h
theorem scal_one {ρ : Inj} {v v' : Value} (hv : xK v = true) (r : RV ρ v v') : v' = v := by
  cases r <;> first | (cases hv; done) | rfl
theorem TabsH.world {tabs : List (Nat × List Value)} {h : zE} {n : Nat} {ρ : Inj} {base : Nat} {w0 wd : World} (t : TabsH tabs h) (hg : ∀ p ∈ tabs, p.1 < ng ∧ p.2.all xK = true) (r : HeapR P ng ρ base w0 h n wd) : TabsIn wd tabs := by
  intro p hp;obtain ⟨⟨z, h1⟩, h2⟩ := t p hp;obtain ⟨g1, g2⟩ := hg p hp;obtain ⟨B, e1, e2⟩ := r.glob p.1 g1;have hl : zN h p.1 ≠ .dead := fun e => by rw [e] at h1; cases h1
  obtain ⟨o, q1, q2⟩ := r.obj p.1 B e1 hl;unfold wD at h2;cases ho : zN h p.1 <;> rw [ho] at h1 <;> first | (cases h1; done) | skip
  rename_i c k z' kd;have h1' : some (k, z', kd) = some (p.2.length, z, 2) := h1;simp only [Option.some.injEq, Prod.mk.injEq] at h1';obtain ⟨rfl, rfl, rfl⟩ := h1';rw [ho] at q2 h2
  cases q2 with
  | cells hn hs hk hz hv hb hf =>
    rename_i c' el lo hi;rw [e2] at q1;have hsz : c'.size = p.2.length := by rw [hs]; exact (hk (by omega)).symm
    have : c' = ⟨p.2⟩ := by
      apply Array.ext
      · simpa using hsz
      · intro i i1 i2;have i3 : i < p.2.length := by omega
        have r1 := hv i c'[i] i3 (Array.getElem?_eq_getElem i1);have r2 := h2 i;unfold cellOf at r2;dsimp only at r2;rw [if_pos i3, List.getElem?_eq_getElem i3] at r2;injection r2 with r2
        rw [r2] at r1;have := scal_one (List.all_eq_true.1 g2 _ (List.getElem_mem i3)) r1;rw [this]; rfl
    rw [this] at q1;exact ⟨el, (lo, hi), q1⟩
theorem scals_same {ρ : Inj} {args args' : List Value} (ha : args.all xK = true) (r : RVs ρ args args') : args' = args := by
  apply List.ext_getElem?;intro i
  cases e : args[i]? with
  | none => exact List.getElem?_eq_none (by rw [← r.1]; exact List.getElem?_eq_none_iff.1 e)
  | some x =>
    obtain ⟨x', e1, e2⟩ := r.at e;rw [e1, scal_one (List.all_eq_true.1 ha x (List.mem_iff_getElem?.2 ⟨i, e⟩)) e2]
theorem RV.scal_refl {ρ : Inj} {v : Value} (hv : xK v = true) : RV ρ v v := by
  cases v <;> first | (cases hv; done) | skip
  · exact .bool _
  · exact .int _ _
  · exact .string _
  · exact .nilFunc
  · exact .nilIface
def isRes (v : Value) : Bool := match v with
  | .tuple l => l.toList.all xK
  | v => xK v
theorem RV.res_refl {ρ : Inj} {v : Value} (hv : isRes v = true) : RV ρ v v := by
  cases v <;> first | (cases hv; done) | skip
  · exact .bool _
  · exact .int _ _
  · exact .string _
  · exact .nilFunc
  · exact .nilIface
  · rename_i l;refine .tuple rfl fun i w w' a b => ?_;rw [a] at b; injection b with b; subst b
    exact RV.scal_refl (List.all_eq_true.1 hv w (List.mem_iff_getElem?.2 ⟨i, a⟩))
theorem pure_of_calls {f : FuncId} {args : List Value} {h : zE} {n : Nat} {v : Value} {tabs : List (Nat × List Value)} (hf : hasB P f = true) (ha : args.all xK = true) (hv : isRes v = true) (ht : TabsH tabs h) (hg : ∀ p ∈ tabs, p.1 < ng ∧ p.2.all xK = true)
    (H : ∀ wd : World, TabsIn wd tabs → Calls P f ⟨args⟩ wd fun e w' => e = .returned v ∧ Go.RowKit.Below wd.heap.size wd w') : Pure P ng f args h n v := by
  intro u k hk;refine loS_call.2 ⟨.ret v, u, h, n, hk _ _ _ ⟨rfl, rfl, rfl⟩, hasB_of hf, fun ρ base w0 wd args' cs hH hra hu => ?_⟩;obtain rfl := scals_same ha hra;obtain ⟨e, w', fr, ⟨rfl, hb⟩, hc, hfn, hl⟩ := H wd (ht.world hg hH) cs;obtain ⟨k1, k2⟩ := hH.stay hb;obtain ⟨y1, y2, y3, y4⟩ := hl;exact ⟨ρ, w', fr, cs, hc, k1, k2, CsTo.refl _ _, (fun e => Bool.noConfusion e), hfn, v, y1, y2, y3, y4, RV.res_refl hv⟩
end
abbrev str (l : List UInt8) : Value := .string ⟨⟨l⟩⟩
section
variable {P : Program} {ng : Nat}
theorem len_strL {ty : TypeId} (hu : und P ty = some .string) (l : List UInt8) (r : List Value) (h : zE) : zU P .len [ty] (str l :: r) h = some (.int .i64 (l.length : Nat)) := len_str hu _ r h
theorem cmpSL_eq (f : Int → Int → Bool) (ty : TypeId) (q : Bool) (a b : List UInt8) (K : Bool → Bool) : zK f P .eql ty q (str a) (str b) K = K (a == b) := cmpS_eq f P ty q _ _ K
end
section
variable {P : Program} {ng : Nat}
theorem Row.world {n : Nat} {h : zE} {v v' : Value} {el len : Nat} {vs : List Value} {ρ : Inj} {base : Nat} {w0 wd : World} (r : Row n h v el 1 len vs) (hs : vs.all xK = true) (hH : HeapR P ng ρ base w0 h n wd) (hv : RV ρ v v') :
    (len = 0 ∧ ∃ a c, v' = .slice a 0 c) ∨ (∃ bk o c, v' = .slice (some ⟨bk, o, none⟩) len c ∧ len ≤ c ∧ bk < wd.heap.size ∧ ∀ (j : Nat) x, vs[j]? = some x → wd.cell? ⟨bk, o + j, none⟩ = some x) := by
  rcases r with ⟨rfl, rfl, rfl⟩ | ⟨b, off, cap, m, z, kd, hb, rfl, hl, hi, hm, hr, hc⟩
  · cases hv; exact .inl ⟨rfl, _, _, rfl⟩
  · rw [Nat.mul_one] at hl;have hlive : zN h b ≠ .dead := fun e => by rw [e] at hi; cases hi
    have main : ∀ (B : Bl), ρ b = some B → B.b < wd.heap.size ∧ ∀ (j : Nat) x, vs[j]? = some x → wd.cell? ⟨B.b, off + j, none⟩ = some x := by
      intro B eB;obtain ⟨o, q1, q2⟩ := hH.obj b B eB hlive
      have hsz : B.b < wd.heap.size := by
        rcases Nat.lt_or_ge B.b wd.heap.size with h1 | h1
        · exact h1
        · rw [Array.getElem?_eq_none h1] at q1; cases q1
      refine ⟨hsz, fun j x hj => ?_⟩;have hcell := hr j x hj;unfold wD at hcell;cases ho : zN h b <;> rw [ho] at hcell <;> first | (cases hcell; done) | skip
      rename_i c kn z' kd';unfold cellOf at hcell;dsimp only at hcell;rw [ho] at q2
      cases q2 with
      | cells hn hs' hk hz hv' hb' hf =>
        rename_i c' el lo hi';by_cases hlt : off + j < kn
        · rw [if_pos hlt] at hcell;injection hcell with hcell
          have h2 : off + j < c'.size := by omega
          have rr := hv' (off + j) c'[off + j] hlt (Array.getElem?_eq_getElem h2);rw [hcell] at rr;have e3 := scal_one (List.all_eq_true.1 hs x (List.mem_iff_getElem?.2 ⟨j, hj⟩)) rr;unfold World.cell?;dsimp only;rw [q1];show c'[off + j]? = some x;rw [Array.getElem?_eq_getElem h2, e3]
        · rw [if_neg hlt] at hcell; cases hcell
    cases hv with
    | slice e hc' hlc ho =>
      rename_i B o';obtain ⟨m1, m2⟩ := main B e;rcases ho with rfl | h0
      · exact .inr ⟨B.b, o', cap, rfl, hlc, m1, m2⟩
      · exact .inl ⟨by omega, _, _, by rw [show len = 0 by omega]⟩
    | opened e hlc ho =>
      rename_i B o' c';obtain ⟨m1, m2⟩ := main B e;rcases ho with ⟨rfl, _⟩ | ⟨h0, _⟩
      · exact .inr ⟨B.b, o', c', rfl, hlc, m1, m2⟩
      · exact .inl ⟨by omega, _, _, by rw [show len = 0 by omega]⟩
theorem pure_of_calls_row {f : FuncId} {sv : Value} {args : List Value} {h : zE} {n el len : Nat} {vs : List Value} {v : Value} {tabs : List (Nat × List Value)} (hf : hasB P f = true) (r : Row n h sv el 1 len vs) (hvs : vs.all xK = true) (ha : args.all xK = true) (hv : isRes v = true)
    (ht : TabsH tabs h) (hg : ∀ p ∈ tabs, p.1 < ng ∧ p.2.all xK = true)
    (H : ∀ (wd : World) (sv' : Value), TabsIn wd tabs → ((len = 0 ∧ ∃ a c, sv' = .slice a 0 c) ∨ (∃ bk o c, sv' = .slice (some ⟨bk, o, none⟩) len c ∧ len ≤ c ∧ bk < wd.heap.size ∧ ∀ (j : Nat) x, vs[j]? = some x → wd.cell? ⟨bk, o + j, none⟩ = some x)) →
      Calls P f ⟨sv' :: args⟩ wd fun e w' => e = .returned v ∧ Go.RowKit.Below wd.heap.size wd w') : Pure P ng f (sv :: args) h n v := by
  intro u k hk;refine loS_call.2 ⟨.ret v, u, h, n, hk _ _ _ ⟨rfl, rfl, rfl⟩, hasB_of hf, fun ρ base w0 wd args' cs hH hra hu => ?_⟩;obtain ⟨sv', r', rfl, hsv, hr'⟩ := hra.of_cons;obtain rfl := scals_same ha hr';obtain ⟨e, w', fr, ⟨rfl, hb⟩, hc, hfn, hl⟩ := H wd sv' (ht.world hg hH) (r.world hvs hH hsv) cs;obtain ⟨k1, k2⟩ := hH.stay hb;obtain ⟨y1, y2, y3, y4⟩ := hl;exact ⟨ρ, w', fr, cs, hc, k1, k2, CsTo.refl _ _, (fun e => Bool.noConfusion e), hfn, v, y1, y2, y3, y4, RV.res_refl hv⟩
end
def Bld (T : Nat) (h : zE) (b : Nat) (p sv : Value) : Prop := infoOf (zN h b) = some (2, T + 1, 0) ∧ wD h b 0 = some p ∧ wD h b 1 = some sv
structure OneTurned (w w' : World) (g : Nat) : Prop where
  os : w'.os = w.os
  tape : w'.tape = w.tape
  output : w'.output = w.output
  size : w'.heap.size = w.heap.size
  rest : ∀ c, c ≠ g → w'.heap[c]? = w.heap[c]?
section
variable {P : Program} {ng : Nat}
theorem Bld.world {T : Nat} {h : zE} {b n : Nat} {p sv : Value} {ρ : Inj} {base : Nat} {w0 wd : World} {B : Bl} (hB : Bld T h b p sv) (hH : HeapR P ng ρ base w0 h n wd) (e : ρ b = some B) :
    ∃ x y c, zN h b = .cells c 2 (T + 1) 0 ∧ Tr.get undef c 0 = p ∧ Tr.get undef c 1 = sv ∧ wd.heap[B.b]? = some (.cells #[x, y] T (0, 0)) ∧ RV ρ p x ∧ RV ρ sv y ∧ base ≤ B.b ∧ B.n = 2 := by
  obtain ⟨h1, h2, h3⟩ := hB;have hlive : zN h b ≠ .dead := fun e => by rw [e] at h1; cases h1
  obtain ⟨o, q1, q2⟩ := hH.obj b B e hlive;unfold wD at h2 h3;cases ho : zN h b <;> rw [ho] at h1 <;> first | (cases h1; done) | skip
  rename_i c kn z kd;have h1' : some (kn, z, kd) = some (2, T + 1, 0) := h1;simp only [Option.some.injEq, Prod.mk.injEq] at h1';obtain ⟨rfl, rfl, rfl⟩ := h1';rw [ho] at q2 h2 h3;have g0 : Tr.get undef c 0 = p := by have : some (Tr.get undef c 0) = some p := h2; injection this
  have g1 : Tr.get undef c 1 = sv := by have : some (Tr.get undef c 1) = some sv := h3; injection this
  cases q2 with
  | cells hn hs hk hz hv hb hf =>
    rename_i c' el lo hi;obtain ⟨rfl, rfl⟩ := hf (by decide);have hel : T + 1 = el + 1 := hz.2 rfl (by omega);obtain rfl : T = el := by omega
    have hn2 := hk (by decide);have hsz : c'.size = 2 := by omega
    have e0 : c'[0]? = some (c'[0]'(by omega)) := Array.getElem?_eq_getElem (by omega);have e1 : c'[1]? = some (c'[1]'(by omega)) := Array.getElem?_eq_getElem (by omega);have r0 := hv 0 _ (by omega) e0;have r1 := hv 1 _ (by omega) e1;rw [g0] at r0;rw [g1] at r1;refine ⟨_, _, c, rfl, g0, g1, ?_, r0, r1, hb (by decide), hn2.symm⟩;rw [q1];congr 2
    apply Array.ext
    · simp [hsz]
    · intro i i1 i2;have : i = 0 ∨ i = 1 := by omega
      rcases this with rfl | rfl <;> rfl
theorem copyCheck_fresh {f : FuncId} {T b n : Nat} {h : zE} {sv : Value} (hf : hasB P f = true) (hB : Bld T h b (.pointer none) sv)
    (H : ∀ (wd : World) (c : Nat), wd.cell? ⟨c, 0, none⟩ = some (.pointer none) → wd.shape? c = some (T, 2) → wd.frozen? ⟨c, 0, none⟩ = false →
      Calls P f #[.pointer (some ⟨c, 0, none⟩)] wd fun e w' => e = .returned (.tuple #[]) ∧ w' = wd.setCell ⟨c, 0, none⟩ (.pointer (some ⟨c, 0, none⟩))) :
    Rets P ng f [.pointer (some ⟨b, 0, none⟩)] h n fun v h' n' => v = .tuple #[] ∧ h' = h.set .dead (stC (zN h b) 0 [.pointer (some ⟨b, 0, none⟩)]) b ∧ n' = n := by
  intro u k hk;refine loS_call.2 ⟨_, u, _, _, hk _ _ _ ⟨rfl, rfl, rfl⟩, hasB_of hf, fun ρ base w0 wd args' cs hH hra hu => ?_⟩;obtain ⟨v', r', rfl, hv, hr'⟩ := hra.of_cons;obtain rfl := hr'.of_nil
  cases hv with
  | ptr e =>
    rename_i B;obtain ⟨x, y, c, ho, g0, g1, q1, rx, ry, hbase, hBn⟩ := hB.world hH e;cases rx
    have hc0 : wd.cell? ⟨B.b, 0, none⟩ = some (.pointer none) := by unfold World.cell?; dsimp only; rw [q1]; rfl
    have hsh : wd.shape? B.b = some (T, 2) := by unfold World.shape?; rw [q1]; rfl
    have hfz : wd.frozen? ⟨B.b, 0, none⟩ = false := by unfold World.frozen?; dsimp only; rw [q1]; rfl
    obtain ⟨e2, w', fr, ⟨rfl, rfl⟩, hcm, hfn, hl⟩ := H wd B.b hc0 hsh hfz cs;obtain ⟨y1, y2, y3, y4⟩ := hl
    have hheap : (wd.setCell ⟨B.b, 0, none⟩ (.pointer (some ⟨B.b, 0, none⟩))).heap[B.b]? = some (.cells #[.pointer (some ⟨B.b, 0, none⟩), y] T (0, 0)) := by
      unfold World.setCell;dsimp only;rw [Array.getElem?_modify, if_pos rfl, q1];rfl
    obtain ⟨k1, k2⟩ := hH.turn e (by rw [ho]; exact AObj.noConfusion) (stC (zN h b) 0 [.pointer (some ⟨b, 0, none⟩)]) (.cells #[.pointer (some ⟨B.b, 0, none⟩), y] T (0, 0)) (wd.setCell ⟨B.b, 0, none⟩ (.pointer (some ⟨B.b, 0, none⟩))) hbase (by
        rw [ho];refine .cells (by omega) (by simp [hBn]) (fun _ => hBn.symm) ⟨fun h => absurd h (by decide), fun _ _ => rfl⟩ (fun i v' hi e3 => ?_) (fun _ => hbase) (fun _ => ⟨rfl, rfl⟩);rw [Tr.get_ofListFrom];have hi2 : i = 0 ∨ i = 1 := by omega
        rcases hi2 with rfl | rfl
        · rw [if_pos (by simp)];have e4 : some (Value.pointer (some ⟨B.b, 0, none⟩)) = some v' := e3;injection e4 with e4; subst e4
          exact .ptr e
        · rw [if_neg (by simp), g1];have e4 : some y = some v' := e3;injection e4 with e4; subst e4
          exact ry) hheap (by simp [World.setCell]) (fun c hc => by
        unfold World.setCell;dsimp only;rw [Array.getElem?_modify, if_neg (fun h => hc h.symm)]) rfl rfl rfl
    exact ⟨ρ, _, fr, cs, hcm, k1, k2, CsTo.refl _ _, (fun e => Bool.noConfusion e), hfn, _, y1, y2, y3, y4, RV.res_refl rfl⟩
theorem copyCheck_used {f : FuncId} {T b n : Nat} {h : zE} {sv : Value} (hf : hasB P f = true) (hB : Bld T h b (.pointer (some ⟨b, 0, none⟩)) sv)
    (H : ∀ (wd : World) (c : Nat), wd.cell? ⟨c, 0, none⟩ = some (.pointer (some ⟨c, 0, none⟩)) → Calls P f #[.pointer (some ⟨c, 0, none⟩)] wd fun e w' => e = .returned (.tuple #[]) ∧ w' = wd) :
    Rets P ng f [.pointer (some ⟨b, 0, none⟩)] h n fun v h' n' => v = .tuple #[] ∧ h' = h ∧ n' = n := by
  intro u k hk;refine loS_call.2 ⟨_, u, _, _, hk _ _ _ ⟨rfl, rfl, rfl⟩, hasB_of hf, fun ρ base w0 wd args' cs hH hra hu => ?_⟩;obtain ⟨v', r', rfl, hv, hr'⟩ := hra.of_cons;obtain rfl := hr'.of_nil
  cases hv with
  | ptr e =>
    rename_i B;obtain ⟨x, y, c, ho, g0, g1, q1, rx, ry, hbase, hBn⟩ := hB.world hH e
    cases rx with
    | ptr e' =>
      rename_i B';rw [e] at e';injection e' with e'
      subst e';have hc0 : wd.cell? ⟨B.b, 0, none⟩ = some (.pointer (some ⟨B.b, 0, none⟩)) := by unfold World.cell?; dsimp only; rw [q1]; rfl
      obtain ⟨e2, w', fr, ⟨rfl, rfl⟩, hcm, hfn, hl⟩ := H wd B.b hc0 cs;obtain ⟨y1, y2, y3, y4⟩ := hl;exact ⟨ρ, _, fr, cs, hcm, hH, Grow.refl _ _ _ _ hH.dom, CsTo.refl _ _, (fun e => Bool.noConfusion e), hfn, _, y1, y2, y3, y4, RV.res_refl rfl⟩
abbrev vF (l : List UInt8) : List Value := l.map fun b => Value.int .u8 (b.toNat : Nat)
theorem builder_String {f : FuncId} {T e8 b lo n : Nat} {h : zE} {p sv : Value} {l : List UInt8} (hf : hasB P f = true) (hB : Bld T h b p sv) (ho : Own lo n h sv e8 1 l.length (vF l)) (hne : blkOf sv ≠ some b) (hlen : l.length < 1000000)
    (H0 : ∀ (wd : World) (c : Nat) (x : Value), wd.heap[c]? = some (.cells #[x, .slice none 0 0] T (0, 0)) → Calls P f #[.pointer (some ⟨c, 0, none⟩)] wd fun e w' => e = .returned (.string ⟨#[]⟩) ∧ Go.RowKit.Below wd.heap.size wd w')
    (H : ∀ (wd : World) (c g cap : Nat) (x : Value) (cur : Array Value), l ≠ [] → wd.heap[c]? = some (.cells #[x, .slice (some ⟨g, 0, none⟩) l.length cap] T (0, 0)) → wd.heap[g]? = some (.cells cur e8 (0, 0)) → l.length ≤ cap → cap ≤ cur.size →
      (∀ (j : Nat) (y : UInt8), l[j]? = some y → cur[j]? = some (.int .u8 (y.toNat : Nat))) → Calls P f #[.pointer (some ⟨c, 0, none⟩)] wd fun e w' => e = .returned (.string ⟨⟨l⟩⟩) ∧ OneTurned wd w' g) :
    Rets P ng f [.pointer (some ⟨b, 0, none⟩)] h n fun v h' n' => v = str l ∧ n' = n ∧ (∀ b', blkOf sv ≠ some b' → zN h' b' = zN h b') := by
  intro u k hk;rcases ho with ⟨rfl, h0, h1⟩ | ⟨b2, q1, q2, rfl, q3, q4, q5, q6⟩
  · have hl0 : l = [] := List.length_eq_zero_iff.1 h0;subst hl0;refine loS_call.2 ⟨_, u, _, _, hk _ _ _ ⟨rfl, rfl, fun _ _ => rfl⟩, hasB_of hf, fun ρ base w0 wd args' cs hH hra hu => ?_⟩;obtain ⟨v', r', rfl, hv, hr'⟩ := hra.of_cons;obtain rfl := hr'.of_nil
    cases hv with
    | ptr e =>
      rename_i B;obtain ⟨x, y, c, ho, g0, g1, w1, rx, ry, hbase, hBn⟩ := hB.world hH e;cases ry
      obtain ⟨e2, w', fr, ⟨rfl, hbl⟩, hcm, hfn, hl⟩ := H0 wd B.b x w1 cs;obtain ⟨y1, y2, y3, y4⟩ := hl;obtain ⟨k1, k2⟩ := hH.stay hbl;exact ⟨ρ, _, fr, cs, hcm, k1, k2, CsTo.refl _ _, (fun e => Bool.noConfusion e), hfn, _, y1, y2, y3, y4, RV.res_refl rfl⟩
  · refine loS_call.2 ⟨.ret (str l), u, h.set .dead .dead b2, n, hk _ _ _ ⟨rfl, rfl, fun b' hb' => ?_⟩, hasB_of hf, fun ρ base w0 wd args' cs hH hra hu => ?_⟩
    · rw [zS, if_neg (fun e => hb' (by rw [e]; rfl))]
    · obtain ⟨v', r', rfl, hv, hr'⟩ := hra.of_cons;obtain rfl := hr'.of_nil
      cases hv with
      | ptr e =>
        rename_i B;obtain ⟨x, y, c, ho, g0, g1, w1, rx, ry, hbase, hBn⟩ := hB.world hH e;have hlive : zN h b2 ≠ .dead := fun e => by rw [e] at q3; cases q3
        cases ry with
        | slice _ hc => exact absurd rfl hc
        | opened eg hl' hog =>
          rename_i G o' c';obtain ⟨o, z1, z2⟩ := hH.obj b2 G eg hlive;unfold wD at q6;cases hob : zN h b2 <;> rw [hob] at q3 <;> first | (cases q3; done) | skip
          rename_i cc kn z kd;have h1' : some (kn, z, kd) = some ((vF l).length, zc e8 1, 1) := q3;simp only [Option.some.injEq, Prod.mk.injEq] at h1';obtain ⟨rfl, rfl, rfl⟩ := h1';rw [hob] at z2 q6
          cases z2 with
          | cells hn hs hk' hz hv hb hf' =>
            rename_i cur el lo' hi';obtain ⟨rfl, rfl⟩ := hf' (by decide);obtain ⟨hel, hGz⟩ := zc_inj (hz.1 rfl);subst hel
            have hc' : o' = 0 ∧ 0 + c' * G.z = G.n := by
              rcases hog with h9 | ⟨_, h9⟩
              · exact h9
              · exact absurd h9 (Nat.lt_irrefl _)
            obtain ⟨rfl, hcn⟩ := hc';rw [← hGz] at hcn
            have hcur : ∀ (j : Nat) (y : UInt8), l[j]? = some y → cur[j]? = some (.int .u8 (y.toNat : Nat)) := by
              intro j y hj;have hjl : j < l.length := (List.getElem?_eq_some_iff.1 hj).1;have hjk : j < (vF l).length := by simpa using hjl
              have r2 := q6 j;unfold cellOf at r2;dsimp only at r2;rw [if_pos hjk] at r2;have e5 : (vF l)[j]? = some (.int .u8 (y.toNat : Nat)) := by rw [List.getElem?_map, hj]; rfl
              rw [e5] at r2;injection r2 with r2
              have hjc : j < cur.size := by omega
              have r1 := hv j cur[j] hjk (Array.getElem?_eq_getElem hjc);rw [r2] at r1;rw [Array.getElem?_eq_getElem hjc, scal_one rfl r1]
            obtain ⟨e2, w', fr, ⟨rfl, ht⟩, hcm, hfn, hl⟩ := H wd B.b G.b c' x cur (fun e9 => by rw [e9] at q5; exact absurd q5 (Nat.lt_irrefl _)) w1 z1 hl' (by omega) hcur cs;obtain ⟨y1, y2, y3, y4⟩ := hl;obtain ⟨k1, k2⟩ := hH.kill b2;have hGbase : base ≤ G.b := hb (by decide)
            have hother : ∀ a A, ρ a = some A → zN (h.set .dead .dead b2) a ≠ .dead → A.b ≠ G.b := by
              intro a A ea hla heq;rw [zS] at hla;by_cases hab : b2 = a
              · rw [if_pos hab] at hla; exact hla rfl
              · rw [if_neg hab] at hla;exact hab (hH.inj b2 a G A eg ea hlive hla heq.symm)
            refine ⟨ρ, w', fr, cs, hcm, ⟨k1.dom, fun a A ea hla => ?_, k1.inj, ?_, by rw [ht.size]; exact k1.size, k1.glob, k1.ngn⟩, ⟨k2.nn, k2.old, k2.new, fun cx hcx hk9 => ?_, by rw [ht.size]; exact Nat.le_refl _, k2.dead, ht.tape⟩, CsTo.refl _ _, (fun e => Bool.noConfusion e), hfn, _, y1, y2, y3, y4, RV.res_refl rfl⟩
            · obtain ⟨o1, p1, p2⟩ := k1.obj a A ea hla;exact ⟨o1, by rw [ht.rest _ (hother a A ea hla)]; exact p1, p2⟩
            · exact k1.below.trans ⟨ht.os, ht.tape, ht.output, by rw [ht.size]; exact Nat.le_refl _, fun kx hkx => ht.rest kx (by omega)⟩
            · exact ht.rest cx (fun h9 => hk9 b2 G eg hlive h9.symm)
end
open Go
open Go.Shelf Go.RowKit Go.Proofs
variable {P : Program} {ρ : Ren}
theorem freeze_one (w : World) (g m : Nat) : OneTurned w (w.freeze ⟨g, 0, none⟩ m) g := by
  unfold World.freeze;split
  · exact ⟨rfl, rfl, rfl, rfl, fun _ _ => rfl⟩
  · refine ⟨rfl, rfl, rfl, by simp, fun c hc => ?_⟩;dsimp only;rw [Array.getElem?_modify, if_neg (fun h => hc h.symm)]
theorem OneTurned.drew {w w' : World} {g : Nat} (h : OneTurned w.drew w' g) : OneTurned w w' g := ⟨h.os, h.tape, h.output, h.size, h.rest⟩
set_option maxHeartbeats 1000000 in
set_option maxRecDepth 100000 in
theorem string_model (L : Lays.n169 P ρ) (X : Builder.Extra P ρ) (b g cap : Nat) (p : Value) (cur : Array Value) (l : List UInt8) (w : World) (h0 : l ≠ []) (hmx : l.length < 1000000) (hbk : w.heap[b]? = some (.cells #[p, .slice (some ⟨g, 0, none⟩) l.length cap] (ρ.t 72) (0, 0))) (hg : w.heap[g]? = some (.cells cur (ρ.t 5) (0, 0)))
    (hnc : l.length ≤ cap) (hcs : cap ≤ cur.size) (hcur : ∀ (j : Nat) (y : UInt8), l[j]? = some y → cur[j]? = some (.int .u8 (y.toNat : Nat))) :
    Calls P (ρ.f 169) #[.pointer (some ⟨b, 0, none⟩)] w fun e w' => e = .returned (.string ⟨l.toArray⟩) ∧ OneTurned w w' g := by
  have hl0 : l.length ≠ 0 := by simpa using h0
  have c1 : w.drew.cell? ⟨b, 1, none⟩ = some (.slice (some ⟨g, 0, none⟩) l.length cap) := by
    have : w.drew.heap[b]? = some (.cells #[p, .slice (some ⟨g, 0, none⟩) l.length cap] (ρ.t 72) (0, 0)) := hbk;rw [Lib.cell_of_heap this]; rfl
  have hSD : (Builtin.unsafeSliceData_ #[(ρ.t 37)] (ρ.t 127) #[.slice (some ⟨g, 0, none⟩) l.length cap]).run P w.drew = .ok (.pointer (some ⟨g, 0, none⟩)) w.drew :=
    Lib.run_unsafeSliceData_row _ _ _ _ _ _ (by omega)
  have hUS : (Builtin.unsafeString_ #[(ρ.t 127), (ρ.t 3)] (ρ.t 9) #[.pointer (some ⟨g, 0, none⟩), .int .i64 l.length]).run P w.drew = .ok (.string ⟨l.toArray⟩) (w.drew.freeze ⟨g, 0, none⟩ l.length) := by
    refine Lib.run_unsafeString_row w.drew (ρ.t 127) (ρ.t 3) (ρ.t 9) (ρ.t 5) L.t127 X.cellsByte g cur.size (by have hg' : w.drew.heap[g]? = some (.cells cur (ρ.t 5) (0, 0)) := hg; simp [World.shape?, hg']) l h0 (by omega) (by omega) ?_;intro j x hx;have hg' : w.drew.heap[g]? = some (.cells cur (ρ.t 5) (0, 0)) := hg;have e9 : Addr.add ⟨g, 0, none⟩ j = ⟨g, j, none⟩ := by simp [Addr.add]; omega
    rw [e9, Lib.cell_of_heap hg'];exact hcur j x hx
  have mixed := L.mixed;have t72 := L.t72; have a72 := L.a72; have z72 := L.z72; have v72 := L.v72; have u72 := run_underlying L.t72;have t70 := L.t70; have a70 := L.a70; have z70 := L.z70; have v70 := L.v70; have u70 := run_underlying L.t70;have t37 := L.t37; have a37 := L.a37; have z37 := L.z37; have v37 := L.v37; have u37 := run_underlying L.t37;have t127 := L.t127; have a127 := L.a127; have z127 := L.z127; have v127 := L.v127; have u127 := run_underlying L.t127;have t3 := L.t3; have a3 := L.a3; have z3 := L.z3; have v3 := L.v3; have u3 := run_underlying L.t3;have t9 := L.t9; have a9 := L.a9; have z9 := L.z9; have v9 := L.v9; have u9 := run_underlying L.t9;have t5 := X.t5; have a5 := X.a5; have z5 := X.z5; have v5 := X.v5; have u5 := run_underlying X.t5
  go_enter L.f169, Body.n169_ntmps ρ
  go_wp2
  go_region_o
  all_goals (go_wp2; go_ret; exact ⟨rfl, (freeze_one _ _ _).drew⟩)
section
variable {P : Program} {ng : Nat}
end
section
variable {P : Program} {ng : Nat}
noncomputable def Two.nextH (P : Program) {ng : Nat} (hk : HookH) (tf : Tr (Option (EntF P ng))) (tl : Tr (List (EntL P ng))) (lo : Lo) (lp : LP) : Two :=
  ⟨Lo.hookH hk ⟨xcode P lo, callF tf lo lp, xround lo, xleave P lo⟩, fun i cx t w k => loopF (Tr.get [] tl cx.fn) lo lp i cx t w k⟩
noncomputable def runYH (P : Program) {ng : Nat} (hk : HookH) (tf : Tr (Option (EntF P ng))) (tl : Tr (List (EntL P ng))) (fuel : Nat) : Two :=
  Nat.rec ⟨Lo.bot, fun _ _ _ _ _ => false⟩ (fun _ p => Two.nextH P hk tf tl p.lo p.lp) fuel
theorem runYH_ok (hP : zV ng P = true) (hmix : P.follows .mixedOrders = true) {hk : HookH} (hh : HookHOK P ng hk) (tf : Tr (Option (EntF P ng))) (tl : Tr (List (EntL P ng))) :
    ∀ fuel, Sound P ng (runYH P hk tf tl fuel).lo ∧ LpOK P ng (runYH P hk tf tl fuel).lp := by
  intro fuel
  induction fuel with
  | zero => exact ⟨sound_bot, fun _ _ _ _ _ h => (Bool.false_ne_true h).elim⟩
  | succ n ih =>
    have hn := sound_next (draw_ok hP hmix) hP ih.1;refine ⟨hookH_sound hh ⟨hn.code, fun _ _ _ _ _ _ _ h => callF_ok hP ih.1 ih.2 h, hn.round, hn.leave⟩, fun i cx t w k h => loopF_ok ih.1 ih.2 h⟩
noncomputable def entL (hP : zV ng P = true) (hmix : P.follows .mixedOrders = true) {hint : yR} (f : FuncId) (hl : zL P f = true) (i : Nat) (hi : yW (zJ P f i) = true) (B : BF)
    (he : ∀ lo lp rd df t w k, wU P hint lo lp (unL (zJ P f i)) ⟨f, rd, df⟩ t w k = B lo lp rd df t w k) : EntL P ng where
  f := f
  i := i
  B := B
  ok := by
    have hb := unL_of hi
    cases hf : vI P f with
    | none => unfold zJ at hi; rw [hf] at hi; cases hi
    | some fb =>
      have hm : Code.loop (unL (zJ P f i)) ∈ yG fb.2 := by
        have hb2 := hb;unfold zJ at hb2;rw [hf] at hb2;have := findC_mem hb2;unfold zJ;rw [hf];exact this
      exact entL_ok hP hmix hl hb hf hm he
noncomputable def entF0 (hP : zV ng P = true) (hmix : P.follows .mixedOrders = true) {hint : yR} (f : FuncId) (hl : zL P f = true) (F : Lo → LP → Bool → Option zF → zE → Nat → KO → Bool)
    (he : ∀ lo lp df u h n k, zY P hint lo lp f [] df u h n k = F lo lp df u h n k) : EntF P ng where
  f := f
  F := fun lo lp args df u h n k => List.rec (F lo lp df u h n k) (fun _ _ _ => false) args
  ok := fun lo lp hS hL args df u h n k hx => by
    cases args with
    | cons _ _ => cases hx
    | nil =>
      have hx2 : (F lo lp df u h n k) = true := hx;rw [← he] at hx2;exact yCall_ok hP hmix hS hL hint (loops_of hl) hx2
noncomputable def xL (hP : zV ng P = true) (hmix : P.follows .mixedOrders = true) {hint : yR} (f : FuncId) (hl : zL P f = true) (F : Lo → LP → Value → Bool → Option zF → zE → Nat → KO → Bool)
    (he : ∀ lo lp p0 df u h n k, zY P hint lo lp f [p0] df u h n k = F lo lp p0 df u h n k) : EntF P ng where
  f := f
  F := fun lo lp args df u h n k => List.rec false (fun p0 r1 _ => List.rec (F lo lp p0 df u h n k) (fun _ _ _ => false) r1) args
  ok := fun lo lp hS hL args df u h n k hx => by
    cases args with
    | nil => cases hx
    | cons p0 r1 =>
      cases r1 with
      | cons _ _ => cases hx
      | nil =>
        have hx2 : (F lo lp p0 df u h n k) = true := hx;rw [← he] at hx2;exact yCall_ok hP hmix hS hL hint (loops_of hl) hx2
noncomputable def wL (hP : zV ng P = true) (hmix : P.follows .mixedOrders = true) {hint : yR} (f : FuncId) (hl : zL P f = true) (F : Lo → LP → Value → Value → Bool → Option zF → zE → Nat → KO → Bool)
    (he : ∀ lo lp p0 p1 df u h n k, zY P hint lo lp f [p0, p1] df u h n k = F lo lp p0 p1 df u h n k) : EntF P ng where
  f := f
  F := fun lo lp args df u h n k => List.rec false (fun p0 r1 _ => List.rec false (fun p1 r2 _ => List.rec (F lo lp p0 p1 df u h n k) (fun _ _ _ => false) r2) r1) args
  ok := fun lo lp hS hL args df u h n k hx => by
    cases args with
    | nil => cases hx
    | cons p0 r1 =>
      cases r1 with
      | nil => cases hx
      | cons p1 r2 =>
        cases r2 with
        | cons _ _ => cases hx
        | nil =>
          have hx2 : (F lo lp p0 p1 df u h n k) = true := hx;rw [← he] at hx2;exact yCall_ok hP hmix hS hL hint (loops_of hl) hx2
noncomputable def entF3 (hP : zV ng P = true) (hmix : P.follows .mixedOrders = true) {hint : yR} (f : FuncId) (hl : zL P f = true) (F : Lo → LP → Value → Value → Value → Bool → Option zF → zE → Nat → KO → Bool)
    (he : ∀ lo lp p0 p1 p2 df u h n k, zY P hint lo lp f [p0, p1, p2] df u h n k = F lo lp p0 p1 p2 df u h n k) : EntF P ng where
  f := f
  F := fun lo lp args df u h n k => List.rec false (fun p0 r1 _ => List.rec false (fun p1 r2 _ => List.rec false (fun p2 r3 _ => List.rec (F lo lp p0 p1 p2 df u h n k) (fun _ _ _ => false) r3) r2) r1) args
  ok := fun lo lp hS hL args df u h n k hx => by
    cases args with
    | nil => cases hx
    | cons p0 r1 =>
      cases r1 with
      | nil => cases hx
      | cons p1 r2 =>
        cases r2 with
        | nil => cases hx
        | cons p2 r3 =>
          cases r3 with
          | cons _ _ => cases hx
          | nil =>
            have hx2 : (F lo lp p0 p1 p2 df u h n k) = true := hx;rw [← he] at hx2;exact yCall_ok hP hmix hS hL hint (loops_of hl) hx2
noncomputable def entF4 (hP : zV ng P = true) (hmix : P.follows .mixedOrders = true) {hint : yR} (f : FuncId) (hl : zL P f = true) (F : Lo → LP → Value → Value → Value → Value → Bool → Option zF → zE → Nat → KO → Bool)
    (he : ∀ lo lp p0 p1 p2 p3 df u h n k, zY P hint lo lp f [p0, p1, p2, p3] df u h n k = F lo lp p0 p1 p2 p3 df u h n k) : EntF P ng where
  f := f
  F := fun lo lp args df u h n k => List.rec false (fun p0 r1 _ => List.rec false (fun p1 r2 _ => List.rec false (fun p2 r3 _ => List.rec false (fun p3 r4 _ => List.rec (F lo lp p0 p1 p2 p3 df u h n k) (fun _ _ _ => false) r4) r3) r2) r1) args
  ok := fun lo lp hS hL args df u h n k hx => by
    cases args with
    | nil => cases hx
    | cons p0 r1 =>
      cases r1 with
      | nil => cases hx
      | cons p1 r2 =>
        cases r2 with
        | nil => cases hx
        | cons p2 r3 =>
          cases r3 with
          | nil => cases hx
          | cons p3 r4 =>
            cases r4 with
            | cons _ _ => cases hx
            | nil =>
              have hx2 : (F lo lp p0 p1 p2 p3 df u h n k) = true := hx;rw [← he] at hx2;exact yCall_ok hP hmix hS hL hint (loops_of hl) hx2
end
def BldN (T k : Nat) (h : zE) (b : Nat) (p sv : Value) : Prop := infoOf (zN h b) = some (k, T + 1, 0) ∧ wD h b 0 = some p ∧ wD h b 1 = some sv
section
variable {P : Program} {ng : Nat}
theorem BldN.world {T k : Nat} (hk2 : 2 ≤ k) {h : zE} {b n : Nat} {p sv : Value} {ρ : Inj} {base : Nat} {w0 wd : World} {B : Bl} (hB : BldN T k h b p sv) (hH : HeapR P ng ρ base w0 h n wd) (e : ρ b = some B) :
    ∃ (a : Array Value) (c : Tr Value), zN h b = .cells c k (T + 1) 0 ∧ Tr.get undef c 0 = p ∧ Tr.get undef c 1 = sv ∧ wd.heap[B.b]? = some (.cells a T (0, 0)) ∧ a.size = k ∧ (∀ i v', i < k → a[i]? = some v' → RV ρ (Tr.get undef c i) v') ∧ base ≤ B.b ∧ B.n = k := by
  obtain ⟨h1, h2, h3⟩ := hB;have hlive : zN h b ≠ .dead := fun e => by rw [e] at h1; cases h1
  obtain ⟨o, q1, q2⟩ := hH.obj b B e hlive;unfold wD at h2 h3;cases ho : zN h b <;> rw [ho] at h1 <;> first | (cases h1; done) | skip
  rename_i c kn z kd;have h1' : some (kn, z, kd) = some (k, T + 1, 0) := h1;simp only [Option.some.injEq, Prod.mk.injEq] at h1';obtain ⟨rfl, rfl, rfl⟩ := h1';rw [ho] at q2 h2 h3
  have g0 : Tr.get undef c 0 = p := by
    have : (if 0 < kn then some (Tr.get undef c 0) else none) = some p := h2;rw [if_pos (by omega)] at this;injection this
  have g1 : Tr.get undef c 1 = sv := by
    have : (if 1 < kn then some (Tr.get undef c 1) else none) = some sv := h3;rw [if_pos (by omega)] at this;injection this
  cases q2 with
  | cells hn hs hk hz hv hb hf =>
    rename_i c' el lo hi;obtain ⟨rfl, rfl⟩ := hf (by decide);have hel : T + 1 = el + 1 := hz.2 rfl (by omega);obtain rfl : T = el := by omega
    have hn2 := hk (by decide);exact ⟨c', c, rfl, g0, g1, q1, by omega, fun i v' hi e3 => hv i v' hi e3, hb (by decide), hn2.symm⟩
theorem copyCheckN_fresh {f : FuncId} {T k b n : Nat} (hk2 : 2 ≤ k) {h : zE} {sv : Value} (hf : hasB P f = true) (hB : BldN T k h b (.pointer none) sv)
    (H : ∀ (wd : World) (c : Nat), wd.cell? ⟨c, 0, none⟩ = some (.pointer none) → wd.shape? c = some (T, k) → wd.frozen? ⟨c, 0, none⟩ = false →
      Calls P f #[.pointer (some ⟨c, 0, none⟩)] wd fun e w' => e = .returned (.tuple #[]) ∧ w' = wd.setCell ⟨c, 0, none⟩ (.pointer (some ⟨c, 0, none⟩))) :
    Rets P ng f [.pointer (some ⟨b, 0, none⟩)] h n fun v h' n' => v = .tuple #[] ∧ h' = h.set .dead (stC (zN h b) 0 [.pointer (some ⟨b, 0, none⟩)]) b ∧ n' = n := by
  intro u kk hk;refine loS_call.2 ⟨_, u, _, _, hk _ _ _ ⟨rfl, rfl, rfl⟩, hasB_of hf, fun ρ base w0 wd args' cs hH hra hu => ?_⟩;obtain ⟨v', r', rfl, hv, hr'⟩ := hra.of_cons;obtain rfl := hr'.of_nil
  cases hv with
  | ptr e =>
    rename_i B;obtain ⟨a, c, ho, g0, g1, q1, hsz, hra2, hbase, hBn⟩ := hB.world hk2 hH e
    have ea : a[0]? = some (.pointer none) := by
      have e0 : a[0]? = some (a[0]'(by omega)) := Array.getElem?_eq_getElem (by omega);have r0 := hra2 0 _ (by omega) e0;rw [g0] at r0;rw [e0];generalize a[0]'(by omega) = y at r0
      cases r0; rfl
    have hc0 : wd.cell? ⟨B.b, 0, none⟩ = some (.pointer none) := by unfold World.cell?; dsimp only; rw [q1]; exact ea
    have hsh : wd.shape? B.b = some (T, k) := by unfold World.shape?; rw [q1]; rw [← hsz]
    have hfz : wd.frozen? ⟨B.b, 0, none⟩ = false := by unfold World.frozen?; dsimp only; rw [q1]; rfl
    obtain ⟨e2, w', fr, ⟨rfl, rfl⟩, hcm, hfn, hl⟩ := H wd B.b hc0 hsh hfz cs;obtain ⟨y1, y2, y3, y4⟩ := hl
    have hheap : (wd.setCell ⟨B.b, 0, none⟩ (.pointer (some ⟨B.b, 0, none⟩))).heap[B.b]? = some (.cells (a.set! 0 (.pointer (some ⟨B.b, 0, none⟩))) T (0, 0)) := by
      unfold World.setCell;dsimp only;rw [Array.getElem?_modify, if_pos rfl, q1];rfl
    obtain ⟨k1, k2⟩ := hH.turn e (by rw [ho]; exact AObj.noConfusion) (stC (zN h b) 0 [.pointer (some ⟨b, 0, none⟩)]) (.cells (a.set! 0 (.pointer (some ⟨B.b, 0, none⟩))) T (0, 0)) (wd.setCell ⟨B.b, 0, none⟩ (.pointer (some ⟨B.b, 0, none⟩))) hbase (by
        rw [ho];refine .cells (by omega) (by simp [hBn, hsz]) (fun _ => hBn.symm) ⟨fun h => absurd h (by decide), fun _ _ => rfl⟩ (fun i v' hi e3 => ?_) (fun _ => hbase) (fun _ => ⟨rfl, rfl⟩);rw [Tr.get_ofListFrom];rcases Nat.eq_zero_or_pos i with rfl | hp
        · rw [if_pos (by simp)];rw [Array.set!_eq_setIfInBounds, Array.getElem?_setIfInBounds_self_of_lt (by omega)] at e3;injection e3 with e4; subst e4
          exact .ptr e
        · rw [if_neg (by simp; omega)];rw [Array.set!_eq_setIfInBounds, Array.getElem?_setIfInBounds_ne (by omega)] at e3;exact hra2 i v' hi e3) hheap (by simp [World.setCell]) (fun c hc => by
        unfold World.setCell;dsimp only;rw [Array.getElem?_modify, if_neg (fun h => hc h.symm)]) rfl rfl rfl
    exact ⟨ρ, _, fr, cs, hcm, k1, k2, CsTo.refl _ _, (fun e => Bool.noConfusion e), hfn, _, y1, y2, y3, y4, RV.res_refl rfl⟩
theorem copyCheckN_used {f : FuncId} {T k b n : Nat} (hk2 : 2 ≤ k) {h : zE} {sv : Value} (hf : hasB P f = true) (hB : BldN T k h b (.pointer (some ⟨b, 0, none⟩)) sv)
    (H : ∀ (wd : World) (c : Nat), wd.cell? ⟨c, 0, none⟩ = some (.pointer (some ⟨c, 0, none⟩)) → Calls P f #[.pointer (some ⟨c, 0, none⟩)] wd fun e w' => e = .returned (.tuple #[]) ∧ w' = wd) :
    Rets P ng f [.pointer (some ⟨b, 0, none⟩)] h n fun v h' n' => v = .tuple #[] ∧ h' = h ∧ n' = n := by
  intro u kk hk;refine loS_call.2 ⟨_, u, _, _, hk _ _ _ ⟨rfl, rfl, rfl⟩, hasB_of hf, fun ρ base w0 wd args' cs hH hra hu => ?_⟩;obtain ⟨v', r', rfl, hv, hr'⟩ := hra.of_cons;obtain rfl := hr'.of_nil
  cases hv with
  | ptr e =>
    rename_i B;obtain ⟨a, c, ho, g0, g1, q1, hsz, hra2, hbase, hBn⟩ := hB.world hk2 hH e
    have ea : a[0]? = some (.pointer (some ⟨B.b, 0, none⟩)) := by
      have e0 : a[0]? = some (a[0]'(by omega)) := Array.getElem?_eq_getElem (by omega);have r0 := hra2 0 _ (by omega) e0;rw [g0] at r0;rw [e0];generalize a[0]'(by omega) = y at r0
      cases r0 with
      | ptr e' =>
        rename_i B';rw [e] at e';injection e' with e'
        subst e';rfl
    have hc0 : wd.cell? ⟨B.b, 0, none⟩ = some (.pointer (some ⟨B.b, 0, none⟩)) := by unfold World.cell?; dsimp only; rw [q1]; exact ea
    obtain ⟨e2, w', fr, ⟨rfl, rfl⟩, hcm, hfn, hl⟩ := H wd B.b hc0 cs;obtain ⟨y1, y2, y3, y4⟩ := hl;exact ⟨ρ, _, fr, cs, hcm, hH, Grow.refl _ _ _ _ hH.dom, CsTo.refl _ _, (fun e => Bool.noConfusion e), hfn, _, y1, y2, y3, y4, RV.res_refl rfl⟩
theorem builderN_String {f : FuncId} {T k e8 b lo n : Nat} (hk2 : 2 ≤ k) {h : zE} {p sv : Value} {l : List UInt8} (hf : hasB P f = true) (hB : BldN T k h b p sv) (ho : Own lo n h sv e8 1 l.length (vF l)) (hne : blkOf sv ≠ some b) (hlen : l.length < 1000000) (h0 : 0 < l.length)
    (H : ∀ (wd : World) (c g cap : Nat) (cur : Array Value), l ≠ [] → wd.cell? ⟨c, 1, none⟩ = some (.slice (some ⟨g, 0, none⟩) l.length cap) → wd.heap[g]? = some (.cells cur e8 (0, 0)) → l.length ≤ cap → cap ≤ cur.size →
      (∀ (j : Nat) (y : UInt8), l[j]? = some y → cur[j]? = some (.int .u8 (y.toNat : Nat))) → Calls P f #[.pointer (some ⟨c, 0, none⟩)] wd fun e w' => e = .returned (.string ⟨⟨l⟩⟩) ∧ OneTurned wd w' g) :
    Rets P ng f [.pointer (some ⟨b, 0, none⟩)] h n fun v h' n' => v = str l ∧ n' = n ∧ (∀ b', blkOf sv ≠ some b' → zN h' b' = zN h b') := by
  intro u kk hk;rcases ho with ⟨rfl, h0', h1⟩ | ⟨b2, q1, q2, rfl, q3, q4, q5, q6⟩
  · omega
  · refine loS_call.2 ⟨.ret (str l), u, h.set .dead .dead b2, n, hk _ _ _ ⟨rfl, rfl, fun b' hb' => ?_⟩, hasB_of hf, fun ρ base w0 wd args' cs hH hra hu => ?_⟩
    · rw [zS, if_neg (fun e => hb' (by rw [e]; rfl))]
    · obtain ⟨v', r', rfl, hv, hr'⟩ := hra.of_cons;obtain rfl := hr'.of_nil
      cases hv with
      | ptr e =>
        rename_i B;obtain ⟨a, c, hoB, g0, g1, w1, hsz, hra2, hbase, hBn⟩ := hB.world hk2 hH e;have e1 : a[1]? = some (a[1]'(by omega)) := Array.getElem?_eq_getElem (by omega);have ry := hra2 1 _ (by omega) e1;rw [g1] at ry;generalize a[1]'(by omega) = y at ry e1
        have hlive : zN h b2 ≠ .dead := fun e => by rw [e] at q3; cases q3
        cases ry with
        | slice _ hc => exact absurd rfl hc
        | opened eg hl' hog =>
          rename_i G o' c';obtain ⟨o, z1, z2⟩ := hH.obj b2 G eg hlive;unfold wD at q6;cases hob : zN h b2 <;> rw [hob] at q3 <;> first | (cases q3; done) | skip
          rename_i cc kn z kd;have h1' : some (kn, z, kd) = some ((vF l).length, zc e8 1, 1) := q3;simp only [Option.some.injEq, Prod.mk.injEq] at h1';obtain ⟨rfl, rfl, rfl⟩ := h1';rw [hob] at z2 q6
          cases z2 with
          | cells hn hs hk' hz hv hb hf' =>
            rename_i cur el lo' hi';obtain ⟨rfl, rfl⟩ := hf' (by decide);obtain ⟨hel, hGz⟩ := zc_inj (hz.1 rfl);subst hel
            have hc' : o' = 0 ∧ 0 + c' * G.z = G.n := by
              rcases hog with h9 | ⟨_, h9⟩
              · exact h9
              · exact absurd h9 (Nat.lt_irrefl _)
            obtain ⟨rfl, hcn⟩ := hc';rw [← hGz] at hcn
            have hcur : ∀ (j : Nat) (y : UInt8), l[j]? = some y → cur[j]? = some (.int .u8 (y.toNat : Nat)) := by
              intro j y hj;have hjl : j < l.length := (List.getElem?_eq_some_iff.1 hj).1;have hjk : j < (vF l).length := by simpa using hjl
              have r2 := q6 j;unfold cellOf at r2;dsimp only at r2;rw [if_pos hjk] at r2;have e5 : (vF l)[j]? = some (.int .u8 (y.toNat : Nat)) := by rw [List.getElem?_map, hj]; rfl
              rw [e5] at r2;injection r2 with r2
              have hjc : j < cur.size := by omega
              have r1 := hv j cur[j] hjk (Array.getElem?_eq_getElem hjc);rw [r2] at r1;rw [Array.getElem?_eq_getElem hjc, scal_one rfl r1]
            have hcell : wd.cell? ⟨B.b, 1, none⟩ = some (.slice (some ⟨G.b, 0, none⟩) l.length c') := by unfold World.cell?; dsimp only; rw [w1]; exact e1
            obtain ⟨e2, w', fr, ⟨rfl, ht⟩, hcm, hfn, hl⟩ := H wd B.b G.b c' cur (fun e9 => by rw [e9] at q5; exact absurd q5 (Nat.lt_irrefl _)) hcell z1 hl' (by omega) hcur cs;obtain ⟨y1, y2, y3, y4⟩ := hl;obtain ⟨k1, k2⟩ := hH.kill b2;have hGbase : base ≤ G.b := hb (by decide)
            have hother : ∀ a A, ρ a = some A → zN (h.set .dead .dead b2) a ≠ .dead → A.b ≠ G.b := by
              intro a A ea hla heq;rw [zS] at hla;by_cases hab : b2 = a
              · rw [if_pos hab] at hla; exact hla rfl
              · rw [if_neg hab] at hla;exact hab (hH.inj b2 a G A eg ea hlive hla heq.symm)
            refine ⟨ρ, w', fr, cs, hcm, ⟨k1.dom, fun a A ea hla => ?_, k1.inj, ?_, by rw [ht.size]; exact k1.size, k1.glob, k1.ngn⟩, ⟨k2.nn, k2.old, k2.new, fun cx hcx hk9 => ?_, by rw [ht.size]; exact Nat.le_refl _, k2.dead, ht.tape⟩, CsTo.refl _ _, (fun e => Bool.noConfusion e), hfn, _, y1, y2, y3, y4, RV.res_refl rfl⟩
            · obtain ⟨o1, p1, p2⟩ := k1.obj a A ea hla;exact ⟨o1, by rw [ht.rest _ (hother a A ea hla)]; exact p1, p2⟩
            · exact k1.below.trans ⟨ht.os, ht.tape, ht.output, by rw [ht.size]; exact Nat.le_refl _, fun kx hkx => ht.rest kx (by omega)⟩
            · exact ht.rest cx (fun h9 => hk9 b2 G eg hlive h9.symm)
end
section
variable {P : Program} {ρ : Ren}
set_option maxHeartbeats 1000000 in
set_option maxRecDepth 100000 in
theorem stringN_model (L : Lays.n169 P ρ) (X : Builder.Extra P ρ) (b g cap : Nat) (cur : Array Value) (l : List UInt8) (w : World) (h0 : l ≠ []) (hmx : l.length < 1000000) (hbk : w.cell? ⟨b, 1, none⟩ = some (.slice (some ⟨g, 0, none⟩) l.length cap)) (hg : w.heap[g]? = some (.cells cur (ρ.t 5) (0, 0)))
    (hnc : l.length ≤ cap) (hcs : cap ≤ cur.size) (hcur : ∀ (j : Nat) (y : UInt8), l[j]? = some y → cur[j]? = some (.int .u8 (y.toNat : Nat))) :
    Calls P (ρ.f 169) #[.pointer (some ⟨b, 0, none⟩)] w fun e w' => e = .returned (.string ⟨l.toArray⟩) ∧ OneTurned w w' g := by
  have hl0 : l.length ≠ 0 := by simpa using h0
  have c1 : w.drew.cell? ⟨b, 1, none⟩ = some (.slice (some ⟨g, 0, none⟩) l.length cap) := hbk
  have hSD : (Builtin.unsafeSliceData_ #[(ρ.t 37)] (ρ.t 127) #[.slice (some ⟨g, 0, none⟩) l.length cap]).run P w.drew = .ok (.pointer (some ⟨g, 0, none⟩)) w.drew :=
    Lib.run_unsafeSliceData_row _ _ _ _ _ _ (by omega)
  have hUS : (Builtin.unsafeString_ #[(ρ.t 127), (ρ.t 3)] (ρ.t 9) #[.pointer (some ⟨g, 0, none⟩), .int .i64 l.length]).run P w.drew = .ok (.string ⟨l.toArray⟩) (w.drew.freeze ⟨g, 0, none⟩ l.length) := by
    refine Lib.run_unsafeString_row w.drew (ρ.t 127) (ρ.t 3) (ρ.t 9) (ρ.t 5) L.t127 X.cellsByte g cur.size (by have hg' : w.drew.heap[g]? = some (.cells cur (ρ.t 5) (0, 0)) := hg; simp [World.shape?, hg']) l h0 (by omega) (by omega) ?_;intro j x hx;have hg' : w.drew.heap[g]? = some (.cells cur (ρ.t 5) (0, 0)) := hg;have e9 : Addr.add ⟨g, 0, none⟩ j = ⟨g, j, none⟩ := by simp [Addr.add]; omega
    rw [e9, Lib.cell_of_heap hg'];exact hcur j x hx
  have mixed := L.mixed;have t72 := L.t72; have a72 := L.a72; have z72 := L.z72; have v72 := L.v72; have u72 := run_underlying L.t72;have t70 := L.t70; have a70 := L.a70; have z70 := L.z70; have v70 := L.v70; have u70 := run_underlying L.t70;have t37 := L.t37; have a37 := L.a37; have z37 := L.z37; have v37 := L.v37; have u37 := run_underlying L.t37;have t127 := L.t127; have a127 := L.a127; have z127 := L.z127; have v127 := L.v127; have u127 := run_underlying L.t127;have t3 := L.t3; have a3 := L.a3; have z3 := L.z3; have v3 := L.v3; have u3 := run_underlying L.t3;have t9 := L.t9; have a9 := L.a9; have z9 := L.z9; have v9 := L.v9; have u9 := run_underlying L.t9;have t5 := X.t5; have a5 := X.a5; have z5 := X.z5; have v5 := X.v5; have u5 := run_underlying X.t5
  go_enter L.f169, Body.n169_ntmps ρ
  go_wp2
  go_region_o
  all_goals (go_wp2; go_ret; exact ⟨rfl, (freeze_one _ _ _).drew⟩)
set_option maxHeartbeats 1000000 in
set_option maxRecDepth 100000 in
theorem checkN_model (L : Lays.n240 P ρ) (X : Builder.X72 P ρ) (T k b : Nat) (hk : 0 < k) (hl : liesAt P P.depth T (k / P.cellsOf T) 0 (ρ.t 72) 1 = true) (w : World) (h0 : w.cell? ⟨b, 0, none⟩ = some (.pointer none)) (hsh : w.shape? b = some (T, k)) (hfz : w.frozen? ⟨b, 0, none⟩ = false) :
    Calls P (ρ.f 240) #[.pointer (some ⟨b, 0, none⟩)] w fun e w' => e = .returned (.tuple #[]) ∧ w' = w.setCell ⟨b, 0, none⟩ (.pointer (some ⟨b, 0, none⟩)) := by
  obtain ⟨j, hj, hjs⟩ := Option.map_eq_some_iff.1 X.sizeBuilder;have mixed := L.mixed;have t72 := L.t72; have a72 := L.a72; have z72 := L.z72; have v72 := L.v72; have u72 := run_underlying L.t72;have t70 := L.t70; have a70 := L.a70; have z70 := L.z70; have v70 := L.v70; have u70 := run_underlying L.t70;have t9 := L.t9; have a9 := L.a9; have z9 := L.z9; have v9 := L.v9; have u9 := run_underlying L.t9;have t4 := L.t4; have a4 := L.a4; have z4 := L.z4; have v4 := L.v4; have u4 := run_underlying L.t4;have t164 := L.t164; have a164 := L.a164; have z164 := L.z164; have v164 := L.v164; have u164 := run_underlying L.t164
  go_enter L.f240, Body.n240_ntmps ρ
  go_wp2
  rw [Lib.run_to_unsafe w ⟨b, 0, none⟩ L.t70 L.t164 hj (by rw [hjs]; decide) hsh hk];simp only [Result.andThen];rw [Oper.upon_value]
  go_wp2
  rw [run_callFunc_extern L.f276 (by kernel_rfl) (by kernel_rfl) (by kernel_rfl) (e := Extern.AbiNoEscape.same) (by kernel_rfl)];rw [Lib.run_noEscape];simp only [Result.andThen];rw [Oper.upon_value]
  go_wp2
  rw [Lib.run_from_unsafe w ⟨b, 0, none⟩ L.t164 L.t70 hj hsh hl];simp only [Result.andThen];rw [Oper.upon_value]
  go_wp2
  go_end0
  exact ⟨rfl, rfl⟩
end
theorem bytesEq_iff {x y : List UInt8} : zR x y = true ↔ x = y := by rw [xI]; simp
section
variable {P : Program} {ng : Nat}
noncomputable def finS (v : Value) : KO := fun o _ _ _ => Out.rec (fun x => eqV1 x v) (fun _ => false) o
theorem finS_ret {v : Value} {o : Out} {u : Option zF} {h : zE} {n : Nat} (hf : finS v o u h n = true) : o = .ret v := by
  cases o with
  | ret x => rw [eqV1_eq (x := x) (y := v) hf]
  | panic c => cases hf
theorem RV.scal_same {ρ : Inj} {v v' : Value} (hv : xK v = true) (r : RV ρ v v') : v' = v := by
  cases r <;> first | (cases hv; done) | rfl
theorem wR {lo : Lo} (hS : Sound P ng lo) {f : FuncId} {args : List Value} {v : Value} {tabs : List (Nat × List Value)} (hok : tabsOK ng tabs = true) (hint : args.all xK = true) (hv : xK v = true ∨ ∃ l : List Value, v = .tuple ⟨l⟩ ∧ l.all xK = true)
    (hx : lo.call f args false none (vH tabs) ng (finS v) = true) {h : zE} (ht : tabsB tabs h = true) (u : Option zF) (n : Nat) : CallTo P ng f args false u h n (.ret v) u h n := by
  obtain ⟨o, u', h', n', hk, hfn, hc⟩ := hS.call _ _ _ _ _ _ _ hx;obtain rfl := finS_ret hk;refine ⟨hfn, fun ρ base w0 wd args' cs hH ha hu => ?_⟩
  have hpl : args' = args := by
    apply List.ext_getElem?;intro i
    cases e : args[i]? with
    | none =>
      have := List.getElem?_eq_none_iff.1 e;exact List.getElem?_eq_none (by rw [← ha.1]; exact this)
    | some x =>
      obtain ⟨x', e1, e2⟩ := ha.at e;rw [e1, e2.scal_same (List.all_eq_true.1 hint x (List.mem_iff_getElem?.2 ⟨i, e⟩))]
  subst hpl
  have hpa : RVs (ρ.cut ng) args' args' := by
    refine ⟨rfl, fun i v v' e e' => ?_⟩;rw [e] at e'; injection e' with e'; subst e'
    have := List.all_eq_true.1 hint v (List.mem_iff_getElem?.2 ⟨i, e⟩);cases v <;> first | (cases this; done) | exact .bool _ | exact .int _ _ | exact .string _ | exact .nilFunc | exact .nilIface
  obtain ⟨ρ', wd', fr, cs', s1, s2, s3, s4, s5, s6, s7⟩ := hc (ρ.cut ng) wd.heap.size wd wd args' cs (hH.fresh hok ht) hpa (fun e => by cases e)
  have hcs : cs' = cs := by
    rcases s4 with e | ⟨e, _⟩
    · exact e
    · cases e
  subst hcs;obtain ⟨k1, k2⟩ := hH.stay s2.below;refine ⟨ρ, wd', fr, cs', s1, k1, k2, CsTo.refl _ _, (fun e => Bool.noConfusion e), s6, ?_⟩;obtain ⟨v', y1, y2, y3, y4, y5⟩ := s7;exact ⟨v', y1, y2, y3, y4, y5.scals hv⟩
end
section
variable {P : Program} {ng : Nat}
theorem CallTo.frameH {f : FuncId} {args : List Value} {df : Bool} {u u' : Option zF} {l h1 hh g : zE} {n n' : Nat} {o : Out} (c : CallTo P ng f args df u l n o u' h1 n') (hs : Sub l hh)
    (hg : ∀ b, zN g b = zN h1 b ∨ (b < n ∧ zN l b = .dead ∧ zN g b = zN hh b)) : CallTo P ng f args df u hh n o u' g n' := by
  refine ⟨c.1, fun ρ base w0 wd args' cs hH ha hu => ?_⟩;obtain ⟨ρ', wd', fr, cs', s1, s2, s3, s4, s5, s6, s7⟩ := c.2 ρ base w0 wd args' cs (hH.sub hs) ha hu
  have up : ∀ {x}, zN l x ≠ .dead → zN hh x ≠ .dead := fun {x} hx => by
    rcases hs x with h9 | h9
    · exact absurd h9 hx
    · rw [h9]; exact hx
  have hlt : ∀ {x X}, ρ x = some X → x < n := fun {x X} e => by
    rcases Nat.lt_or_ge x n with h9 | h9
    · exact h9
    · rw [hH.dom x h9] at e; cases e
  have hle : ρ.le ρ' := fun x X e => by rw [s3.old x (hlt e)]; exact e
  have hobj : ∀ b X, b < n → zN l b = .dead → ρ' b = some X → zN hh b ≠ .dead → (∃ o', wd'.heap[X.b]? = some o' ∧ ObjR P ng ρ' base X (zN hh b) o') ∧ X.b < wd.heap.size ∧ ρ b = some X := by
    intro b X hb hl e hd;have e0 : ρ b = some X := by rw [← s3.old b hb]; exact e
    obtain ⟨o', q1, q2⟩ := hH.obj b X e0 hd
    have hsz : X.b < wd.heap.size := by
      rcases Nat.lt_or_ge X.b wd.heap.size with h9 | h9
      · exact h9
      · rw [Array.getElem?_eq_none h9] at q1; cases q1
    have hk := s3.keep X.b hsz fun x X2 ex hlx heq => by
      have hne : x ≠ b := fun e9 => by subst e9; exact hlx hl
      exact hne (hH.inj x b X2 X ex e0 (up hlx) hd heq)
    exact ⟨⟨o', by rw [hk]; exact q1, q2.mono hle⟩, hsz, e0⟩
  have apart : ∀ x X b B, zN h1 x ≠ .dead → ρ' x = some X → b < n → zN l b = .dead → ρ' b = some B → zN hh b ≠ .dead → X.b ≠ B.b := by
    intro x X b B hlx ex hb hl eb hd heq;obtain ⟨_, hsz, eb0⟩ := hobj b B hb hl eb hd;have h1b : zN h1 b = .dead := s3.dead b hb hl;have hne : x ≠ b := fun e9 => by subst e9; exact hlx h1b
    rcases Nat.lt_or_ge x n with h9 | h9
    · have ex0 : ρ x = some X := by rw [← s3.old x h9]; exact ex
      have hlx2 : zN l x ≠ .dead := fun e9 => hlx (s3.dead x h9 e9);exact hne (hH.inj x b X B ex0 eb0 (up hlx2) hd heq)
    · rcases s3.new x X h9 ex with h8 | ⟨y, Y, hy, ey, eyb, hly⟩
      · omega
      · have hyb : y ≠ b := fun e9 => by subst e9; exact hly hl
        exact hyb (hH.inj y b Y B ey eb0 (up hly) hd (eyb.trans heq))
  refine ⟨ρ', wd', fr, cs', s1, ⟨s2.dom, fun x X e hlx => ?_, fun x y X Y ex ey hlx hly heq => ?_, s2.below, s2.size, s2.glob, s2.ngn⟩, ⟨s3.nn, s3.old, fun x X hx e => ?_, fun cx hcx hk => s3.keep cx hcx fun x X e hlx => hk x X e (up hlx), s3.size, fun x hx hd => ?_, s3.tape⟩, s4, s5, s6, s7⟩
  · rcases hg x with h9 | ⟨h7, h8, h9⟩
    · rw [h9] at hlx ⊢; exact s2.obj x X e hlx
    · rw [h9] at hlx ⊢; exact (hobj x X h7 h8 e hlx).1
  · rcases hg x with h9 | ⟨h7, h8, h9⟩
    · rw [h9] at hlx;rcases hg y with g9 | ⟨g7, g8, g9⟩
      · rw [g9] at hly; exact s2.inj x y X Y ex ey hlx hly heq
      · rw [g9] at hly; exact absurd heq (apart x X y Y hlx ex g7 g8 ey hly)
    · rw [h9] at hlx;rcases hg y with g9 | ⟨g7, g8, g9⟩
      · rw [g9] at hly; exact absurd heq.symm (apart y Y x X hly ey h7 h8 ex hlx)
      · rw [g9] at hly;exact hH.inj x y X Y (hobj x X h7 h8 ex hlx).2.2 (hobj y Y g7 g8 ey hly).2.2 hlx hly heq
  · rcases s3.new x X hx e with h8 | ⟨y, Y, hy, ey, eyb, hly⟩
    · exact .inl h8
    · exact .inr ⟨y, Y, hy, ey, eyb, up hly⟩
  · rcases hg x with h9 | ⟨h7, h8, h9⟩
    · rw [h9];refine s3.dead x hx ?_;rcases hs x with h8 | h8
      · exact h8
      · rw [← h8]; exact hd
    · rw [h9]; exact hd
noncomputable def isDead (o : AObj) : Bool := match o with
  | .dead => true
  | _ => false
noncomputable def carry (n : Nat) (l hh : zE) (bs : List Nat) (h1 : zE) : zE :=
  List.rec (motive := fun _ => zE → zE) (fun g => g) (fun b _ ih g => Bool.rec (ih g) (g.setK .dead (zN hh b) b fun g => ih g) (Nat.blt b n && isDead (zN l b))) bs h1
theorem carry_ok {n : Nat} {l hh : zE} : ∀ (bs : List Nat) (h1 g : zE), (∀ b, zN g b = zN h1 b ∨ (b < n ∧ zN l b = .dead ∧ zN g b = zN hh b)) → ∀ b, zN (carry n l hh bs g) b = zN h1 b ∨ (b < n ∧ zN l b = .dead ∧ zN (carry n l hh bs g) b = zN hh b) := by
  intro bs
  induction bs with
  | nil => intro h1 g h; exact h
  | cons x bs ih =>
    intro h1 g h;have e : carry n l hh (x :: bs) g = (Bool.rec (carry n l hh bs g) (g.setK .dead (zN hh x) x fun g => carry n l hh bs g) (Nat.blt x n && isDead (zN l x)) : zE) := rfl;rw [e]
    cases hc : (Nat.blt x n && isDead (zN l x)) with
    | false => exact ih h1 g h
    | true =>
      obtain ⟨c1, c2⟩ := Bool.and_eq_true_iff.1 hc
      have c3 : zN l x = .dead := by
        unfold isDead at c2;split at c2
        · assumption
        · cases c2
      show ∀ b, zN (g.setK .dead (zN hh x) x fun g => carry n l hh bs g) b = zN h1 b ∨ (b < n ∧ zN l b = .dead ∧ zN (g.setK .dead (zN hh x) x fun g => carry n l hh bs g) b = zN hh b);rw [Tr.setK_eq];refine ih h1 _ fun b => ?_;rw [zS];by_cases hx : x = b
      · subst hx;rw [if_pos rfl];exact .inr ⟨zX c1, c3, rfl⟩
      · rw [if_neg hx]; exact h b
noncomputable def eqV2 (x y : Value) : Bool := match x, y with
  | .tuple a, .tuple b => eqVs a.toList b.toList eqV1
  | x, y => eqV1 x y
theorem eqV2_eq {x y : Value} (h : eqV2 x y = true) : x = y := by
  unfold eqV2 at h;split at h
  · rw [Array.toList_inj.1 (eqVs_eq (fun _ _ => eqV1_eq) h)]
  · exact eqV1_eq h
structure OnceC where
  o : Once
  bs : List Nat
noncomputable def OnceC.fin (c : OnceC) : KO := fun x _ h n => Out.rec (fun v => Bool.rec false (Bool.rec false (subH c.o.r.h h) (Nat.beq n c.o.r.n)) (eqV2 v c.o.r.v)) (fun _ => false) x
noncomputable def OnceC.run (c : OnceC) (lo : Lo) : Bool := lo.call c.o.f c.o.args false none c.o.h c.o.n c.fin
theorem onceC_to {lo : Lo} (hS : Sound P ng lo) {c : OnceC} (hr : c.run lo = true) (u : Option zF) : CallTo P ng c.o.f c.o.args false u c.o.h c.o.n (.ret c.o.r.v) u c.o.r.h c.o.r.n := by
  obtain ⟨x, u', h', n', hk, hc⟩ := hS.call _ _ _ _ _ _ _ hr
  cases x with
  | panic c => cases hk
  | ret v =>
    have hk' : (Bool.rec false (Bool.rec false (subH c.o.r.h h') (Nat.beq n' c.o.r.n)) (eqV2 v c.o.r.v) : Bool) = true := hk
    cases e1 : eqV2 v c.o.r.v with
    | false => rw [e1] at hk'; cases hk'
    | true =>
      rw [e1] at hk'
      cases e2 : Nat.beq n' c.o.r.n with
      | false => rw [e2] at hk'; cases hk'
      | true =>
        rw [e2] at hk';obtain rfl := eqV2_eq e1;obtain rfl := zI e2;exact (hc.chain u).sub (Sub.refl _) (subH_ok hk')
noncomputable def hookC (l : List OnceC) : HookH := fun f args h n => List.rec none (fun c _ ih => Bool.rec ih (some ⟨c.o.r.v, carry c.o.n c.o.h h c.bs c.o.r.h, c.o.r.n⟩) (c.o.fits f args h n)) l
theorem hookC_ok {lo : Lo} (hS : Sound P ng lo) : ∀ {l : List OnceC}, (∀ c ∈ l, c.run lo = true) → HookHOK P ng (hookC l) := by
  intro l
  induction l with
  | nil => intro _ f args h n r e; cases e
  | cons c l ih =>
    intro hl f args h n r e u;have e' : (Bool.rec (hookC l f args h n) (some ⟨c.o.r.v, carry c.o.n c.o.h h c.bs c.o.r.h, c.o.r.n⟩) (c.o.fits f args h n) : Option Rsl) = some r := e
    cases ef : c.o.fits f args h n with
    | false => rw [ef] at e'; exact ih (fun o' ho => hl o' (List.mem_cons_of_mem _ ho)) f args h n r e' u
    | true =>
      rw [ef] at e';injection e' with e'
      subst e';unfold Once.fits at ef
      cases e1 : Nat.beq c.o.f f with
      | false => rw [e1] at ef; cases ef
      | true =>
        rw [e1] at ef
        cases e2 : Nat.beq c.o.n n with
        | false => rw [e2] at ef; cases ef
        | true =>
          rw [e2] at ef
          cases e3 : eqVs c.o.args args eqV1 with
          | false => rw [e3] at ef; cases ef
          | true =>
            rw [e3] at ef;obtain rfl := zI e1;obtain rfl := zI e2;obtain rfl := eqVs_eq (fun _ _ => eqV1_eq) e3;exact (onceC_to hS (hl c (List.mem_cons_self ..)) u).frameH (subH_ok ef) (carry_ok _ _ _ fun b => .inl rfl)
theorem nextH_ok (hP : zV ng P = true) (hmix : P.follows .mixedOrders = true) {hk : HookH} (hh : HookHOK P ng hk) (tf : Tr (Option (EntF P ng))) (tl : Tr (List (EntL P ng))) {lo : Lo} {lp : LP} (hS : Sound P ng lo) (hL : LpOK P ng lp) :
    Sound P ng (Two.nextH P hk tf tl lo lp).lo := by
  have hn := sound_next (draw_ok hP hmix) hP hS;exact hookH_sound hh ⟨hn.code, fun _ _ _ _ _ _ _ h => callF_ok hP hS hL h, hn.round, hn.leave⟩
end
end Go.Ex
namespace Go.Proofs
open Go.Shelf
def Tryz.lays169_ren : Go.Shelf.Ren := ⟨fun | 169 => 57 | n => n, fun | 70 => 94 | 9 => 9 | 0 => 0 | 72 => 97 | 37 => 95 | 127 => 154 | 3 => 3 | 5 => 5 | n => n, fun | n => n⟩
theorem Tryz.lays169 : Go.Proofs.Lays.n169 Tryz.prog Tryz.lays169_ren := {
  mixed := by kernel_rfl
  f169 := Tryz.func57.trans (congrArg some (by kernel_rfl))
  t0 := Tryz.underlying0
  a0 := Tryz.isAgg0
  z0 := Tryz.sizeOf0
  v0 := Tryz.zeroValue0
  t3 := Tryz.underlying3
  a3 := Tryz.isAgg3
  z3 := Tryz.sizeOf3
  v3 := Tryz.zeroValue3
  t9 := Tryz.underlying9
  a9 := Tryz.isAgg9
  z9 := Tryz.sizeOf9
  v9 := Tryz.zeroValue9
  t37 := Tryz.underlying95
  a37 := Tryz.isAgg95
  z37 := Tryz.sizeOf95
  v37 := Tryz.zeroValue95
  t70 := Tryz.underlying94
  a70 := Tryz.isAgg94
  z70 := Tryz.sizeOf94
  v70 := Tryz.zeroValue94
  t72 := Tryz.underlying97
  a72 := Tryz.isAgg97
  z72 := Tryz.sizeOf97
  v72 := Tryz.zeroValue97
  t127 := Tryz.underlying154
  a127 := Tryz.isAgg154
  z127 := Tryz.sizeOf154
  v127 := Tryz.zeroValue154 }
theorem Tryz.Builder_Extra_169 : Builder.Extra Tryz.prog Tryz.lays169_ren := {
  sizeBuilder := by kernel_rfl
  liesBuilder := by kernel_rfl
  t5 := Tryz.underlying5
  a5 := Tryz.isAgg5
  z5 := Tryz.sizeOf5
  v5 := Tryz.zeroValue5
  infoByte := by kernel_rfl
  cellsByte := by kernel_rfl
  sizeByte := by kernel_rfl
  neB5 := by decide }
def Tryz.lays156_ren : Go.Shelf.Ren := ⟨fun | 156 => 54 | 165 => 109 | 166 => 53 | 169 => 57 | 240 => 108 | 241 => 151 | 276 => 150 | 277 => 177 | n => n, fun | 31 => 23 | 9 => 9 | 3 => 3 | 4 => 4 | 0 => 0 | 20 => 20 | 72 => 97 | 76 => 100 | 70 => 94 | 37 => 95 | 75 => 99 | 127 => 154 | 164 => 185 | 5 => 5 | 80 => 70 | n => n, fun | n => n⟩
theorem Tryz.lays156 : Go.Proofs.Lays.n156 Tryz.prog Tryz.lays156_ren := {
  mixed := by kernel_rfl
  f156 := Tryz.func54.trans (congrArg some (by kernel_rfl))
  f165 := Tryz.func109.trans (congrArg some (by kernel_rfl))
  f166 := Tryz.func53.trans (congrArg some (by kernel_rfl))
  f169 := Tryz.func57.trans (congrArg some (by kernel_rfl))
  f240 := Tryz.func108.trans (congrArg some (by kernel_rfl))
  f241 := Tryz.func151.trans (congrArg some (by kernel_rfl))
  f276 := Tryz.func150.trans (congrArg some (by kernel_rfl))
  f277 := Tryz.func177.trans (congrArg some (by kernel_rfl))
  t0 := Tryz.underlying0
  a0 := Tryz.isAgg0
  z0 := Tryz.sizeOf0
  v0 := Tryz.zeroValue0
  t3 := Tryz.underlying3
  a3 := Tryz.isAgg3
  z3 := Tryz.sizeOf3
  v3 := Tryz.zeroValue3
  t4 := Tryz.underlying4
  a4 := Tryz.isAgg4
  z4 := Tryz.sizeOf4
  v4 := Tryz.zeroValue4
  t9 := Tryz.underlying9
  a9 := Tryz.isAgg9
  z9 := Tryz.sizeOf9
  v9 := Tryz.zeroValue9
  t20 := Tryz.underlying20
  a20 := Tryz.isAgg20
  z20 := Tryz.sizeOf20
  v20 := Tryz.zeroValue20
  t31 := Tryz.underlying23
  a31 := Tryz.isAgg23
  z31 := Tryz.sizeOf23
  v31 := Tryz.zeroValue23
  t37 := Tryz.underlying95
  a37 := Tryz.isAgg95
  z37 := Tryz.sizeOf95
  v37 := Tryz.zeroValue95
  t70 := Tryz.underlying94
  a70 := Tryz.isAgg94
  z70 := Tryz.sizeOf94
  v70 := Tryz.zeroValue94
  t72 := Tryz.underlying97
  a72 := Tryz.isAgg97
  z72 := Tryz.sizeOf97
  v72 := Tryz.zeroValue97
  t75 := Tryz.underlying99
  a75 := Tryz.isAgg99
  z75 := Tryz.sizeOf99
  v75 := Tryz.zeroValue99
  t76 := Tryz.underlying100
  a76 := Tryz.isAgg100
  z76 := Tryz.sizeOf100
  v76 := Tryz.zeroValue100
  t127 := Tryz.underlying154
  a127 := Tryz.isAgg154
  z127 := Tryz.sizeOf154
  v127 := Tryz.zeroValue154
  t164 := Tryz.underlying185
  a164 := Tryz.isAgg185
  z164 := Tryz.sizeOf185
  v164 := Tryz.zeroValue185 }
theorem Tryz.Builder_Extra_156 : Builder.Extra Tryz.prog Tryz.lays156_ren := {
  sizeBuilder := by kernel_rfl
  liesBuilder := by kernel_rfl
  t5 := Tryz.underlying5
  a5 := Tryz.isAgg5
  z5 := Tryz.sizeOf5
  v5 := Tryz.zeroValue5
  infoByte := by kernel_rfl
  cellsByte := by kernel_rfl
  sizeByte := by kernel_rfl
  neB5 := by decide }
open Go.RowKit in
theorem Tryz.strings_Join_none (a : Option Addr) (c : Nat) (sep : ByteArray) (w : World) :
    Calls Tryz.prog 54 #[.slice a 0 c, .string sep] w fun e w' => e = .returned (.string ⟨#[]⟩) ∧ w' = w := Any.strings_Join_none Tryz.lays156 Tryz.Builder_Extra_156 a c sep w
open Go.RowKit in
theorem Tryz.strings_Join (bk o c : Nat) (xs : List ByteArray) (sep : ByteArray) (w : World) (hcells : ∀ (j : Nat) x, xs[j]? = some x → w.cell? ⟨bk, o + j, none⟩ = some (.string x)) (hbk : bk < w.heap.size) (hN : xs.length ≤ 140737488355328) (hcap : xs.length ≤ c) (hlen : (Lib.join (xs.map (·.data.toList)) sep.data.toList).length ≤ 140737488355328) :
    Calls Tryz.prog 54 #[.slice (some ⟨bk, o, none⟩) xs.length c, .string sep] w fun e w' => e = .returned (.string ⟨(Lib.join (xs.map (·.data.toList)) sep.data.toList).toArray⟩) ∧ Below w.heap.size w w' := Any.strings_Join Tryz.lays156 Tryz.Builder_Extra_156 bk o c xs sep w hcells hbk hN hcap hlen
def Tryz.laysM171_ren : Go.Shelf.Ren := ⟨fun | 171 => 81 | 243 => 131 | 246 => 163 | 283 => 183 | 284 => 184 | 285 => 185 | 286 => 186 | 129 => 199 | 317 => 198 | 318 => 200 | 319 => 201 | 320 => 202 | 337 => 215 | 338 => 216 | n => n, fun | 3 => 3 | 9 => 9 | 2 => 2 | 4 => 4 | 171 => 218 | 0 => 0 | 53 => 219 | 37 => 95 | 5 => 5 | 173 => 222 | 212 => 234 | 51 => 226 | 20 => 20 | 213 => 235 | 46 => 204 | 232 => 255 | 233 => 256 | n => n, fun | 17 => 1 | 18 => 4 | 19 => 5 | n => n⟩
theorem Tryz.laysM171 : Go.Proofs.LaysM.n171 Tryz.prog Tryz.laysM171_ren := {
  mixed := by kernel_rfl
  f129 := Tryz.func199.trans (congrArg some (by kernel_rfl))
  f171 := Tryz.func81.trans (congrArg some (by kernel_rfl))
  f243 := Tryz.func131.trans (congrArg some (by kernel_rfl))
  f246 := Tryz.func163.trans (congrArg some (by kernel_rfl))
  f283 := Tryz.func183.trans (congrArg some (by kernel_rfl))
  f284 := Tryz.func184.trans (congrArg some (by kernel_rfl))
  f285 := Tryz.func185.trans (congrArg some (by kernel_rfl))
  f286 := Tryz.func186.trans (congrArg some (by kernel_rfl))
  f317 := Tryz.func198.trans (congrArg some (by kernel_rfl))
  f318 := Tryz.func200.trans (congrArg some (by kernel_rfl))
  f319 := Tryz.func201.trans (congrArg some (by kernel_rfl))
  f320 := Tryz.func202.trans (congrArg some (by kernel_rfl))
  f337 := Tryz.func215.trans (congrArg some (by kernel_rfl))
  f338 := Tryz.func216.trans (congrArg some (by kernel_rfl))
  t0 := Tryz.underlying0
  a0 := Tryz.isAgg0
  z0 := Tryz.sizeOf0
  v0 := Tryz.zeroValue0
  t2 := Tryz.underlying2
  a2 := Tryz.isAgg2
  z2 := Tryz.sizeOf2
  v2 := Tryz.zeroValue2
  t3 := Tryz.underlying3
  a3 := Tryz.isAgg3
  z3 := Tryz.sizeOf3
  v3 := Tryz.zeroValue3
  t4 := Tryz.underlying4
  a4 := Tryz.isAgg4
  z4 := Tryz.sizeOf4
  v4 := Tryz.zeroValue4
  t5 := Tryz.underlying5
  a5 := Tryz.isAgg5
  z5 := Tryz.sizeOf5
  v5 := Tryz.zeroValue5
  t9 := Tryz.underlying9
  a9 := Tryz.isAgg9
  z9 := Tryz.sizeOf9
  v9 := Tryz.zeroValue9
  t20 := Tryz.underlying20
  a20 := Tryz.isAgg20
  z20 := Tryz.sizeOf20
  v20 := Tryz.zeroValue20
  t37 := Tryz.underlying95
  a37 := Tryz.isAgg95
  z37 := Tryz.sizeOf95
  v37 := Tryz.zeroValue95
  t46 := Tryz.underlying204
  a46 := Tryz.isAgg204
  z46 := Tryz.sizeOf204
  v46 := Tryz.zeroValue204
  t51 := Tryz.underlying226
  a51 := Tryz.isAgg226
  z51 := Tryz.sizeOf226
  v51 := Tryz.zeroValue226
  t53 := Tryz.underlying219
  a53 := Tryz.isAgg219
  z53 := Tryz.sizeOf219
  v53 := Tryz.zeroValue219
  t171 := Tryz.underlying218
  a171 := Tryz.isAgg218
  z171 := Tryz.sizeOf218
  v171 := Tryz.zeroValue218
  t173 := Tryz.underlying222
  a173 := Tryz.isAgg222
  z173 := Tryz.sizeOf222
  v173 := Tryz.zeroValue222
  t212 := Tryz.underlying234
  a212 := Tryz.isAgg234
  z212 := Tryz.sizeOf234
  v212 := Tryz.zeroValue234
  t213 := Tryz.underlying235
  a213 := Tryz.isAgg235
  z213 := Tryz.sizeOf235
  t232 := Tryz.underlying255
  a232 := Tryz.isAgg255
  z232 := Tryz.sizeOf255
  v232 := Tryz.zeroValue255
  t233 := Tryz.underlying256
  a233 := Tryz.isAgg256
  z233 := Tryz.sizeOf256
  v233 := Tryz.zeroValue256
  g17 := by kernel_rfl
  g18 := by kernel_rfl
  g19 := by kernel_rfl
  i0 := by kernel_rfl
  i2 := by kernel_rfl
  i3 := by kernel_rfl
  i4 := by kernel_rfl
  i5 := by kernel_rfl
  i9 := by kernel_rfl
  i20 := by kernel_rfl
  i37 := by kernel_rfl
  i46 := by kernel_rfl
  i51 := by kernel_rfl
  i53 := by kernel_rfl
  i171 := by kernel_rfl
  i173 := by kernel_rfl
  i212 := by kernel_rfl
  i232 := by kernel_rfl
  i233 := by kernel_rfl
  m17 := by kernel_rfl
  m18 := by kernel_rfl
  m19 := by kernel_rfl }
open Go.RowKit Go.Sort Go.Lib in
theorem Tryz.strconv_Itoa (n : Int) (h0 : -9223372036854775808 ≤ n) (h1 : n ≤ 9223372036854775807) (w : World) (htab : Lib.TabIs Tryz.prog w "internal/strconv.uint64pow10" .u64 Lib.pow10Tab) :
    Calls Tryz.prog 81 #[.int .i64 n] w fun e w' => e = .returned (.string ⟨(Lib.itoa n).toArray⟩) ∧ ∃ k os, w' = grow (w.drewN k) os := Any.strconv_Itoa Tryz.laysM171 n h0 h1 w htab
end Go.Proofs
namespace Go.Proofs.YtapnnpoljobanaaGreatDoor
open Go.Ex Go.RowKit
set_option maxRecDepth 1000000
noncomputable abbrev P := Tryz.prog
theorem zG : zV 8 P = true := by decide +kernel
theorem mixed : P.follows .mixedOrders = true := by decide +kernel
def tb : List (Nat × List Value) := [(1, Lib.pow10Tab.map fun z => Value.int .u64 z)]
theorem tb_ok : ∀ p ∈ tb, p.1 < 8 ∧ p.2.all xK = true := by
  intro p hp;simp only [tb, List.mem_cons, List.not_mem_nil, or_false] at hp;subst hp;exact ⟨(by decide : (1 : Nat) < 8), by simp [Lib.pow10Tab, xK]⟩
theorem tb_pow {wd : World} (h : TabsIn wd tb) : Lib.TabIs P wd "internal/strconv.uint64pow10" .u64 Lib.pow10Tab := by
  obtain ⟨el, fr, e⟩ := h (1, Lib.pow10Tab.map fun z => Value.int .u64 z) (by simp [tb]);unfold Lib.TabIs World.var?;rw [show P.globalNamed "internal/strconv.uint64pow10" = some 1 by kernel_rfl];simp only [Option.bind_some];dsimp only at e;rw [e]
theorem h_join : hasB P 54 = true := by kernel_rfl
theorem h_itoa : hasB P 81 = true := by kernel_rfl
theorem h_check : hasB P 108 = true := by kernel_rfl
theorem h_string : hasB P 57 = true := by kernel_rfl
theorem join_pure {h : zE} {n : Nat} {sv : Value} {el : Nat} (ls : List (List UInt8)) (sep : List UInt8) (r : Row n h sv el 1 ls.length (ls.map str)) (hn : ls.length < 1000000) (hl : (Lib.join ls sep).length < 1000000) :
    Pure P 8 54 [sv, str sep] h n (str (Lib.join ls sep)) := by
  refine pure_of_calls_row (tabs := []) h_join r (by simp [xK]) rfl rfl (fun _ h => by cases h) (fun _ h => by cases h) fun wd sv' _ hsv => ?_;rcases hsv with ⟨h0, a, c, rfl⟩ | ⟨bk, o, c, rfl, hc, hb, hcells⟩
  · have : ls = [] := List.length_eq_zero_iff.1 h0;subst this;refine (Tryz.strings_Join_none a c ⟨⟨sep⟩⟩ wd).mono fun e w' ⟨he, hw'⟩ => ?_;subst hw';exact ⟨he, Below.refl _ _⟩
  · have e1 : (ls.map fun l => (⟨⟨l⟩⟩ : ByteArray)).length = ls.length := List.length_map ..;have e2 : (ls.map fun l => (⟨⟨l⟩⟩ : ByteArray)).map (·.data.toList) = ls := by rw [List.map_map]; exact List.map_id' _
    have := Tryz.strings_Join bk o c (ls.map fun l => (⟨⟨l⟩⟩ : ByteArray)) ⟨⟨sep⟩⟩ wd (fun j x hj => hcells j (.string x) (by
      rw [List.getElem?_map] at hj ⊢
      cases e : ls[j]? with
      | none => rw [e] at hj; cases hj
      | some l => rw [e] at hj; injection hj with hj; subst hj; rfl)) hb (by rw [e1]; omega) (by rw [e1]; exact hc) (by rw [e2]; show (Lib.join ls sep).length ≤ _; omega)
    rw [e1, e2] at this;exact this.mono fun _ _ ⟨he, hw'⟩ => ⟨he, hw'⟩
theorem itoa_pure {h : zE} (n : Nat) (ht : TabsH tb h) (a : Int) (h0 : -9223372036854775808 ≤ a) (h1 : a ≤ 9223372036854775807) :
    Pure P 8 81 [.int .i64 a] h n (str (Lib.itoa a)) := by
  refine pure_of_calls h_itoa rfl rfl ht tb_ok fun wd hw => ?_;refine (Tryz.strconv_Itoa a h0 h1 wd (tb_pow hw)).mono fun e w' ⟨he, k, os, hw'⟩ => ?_;subst hw';exact ⟨he, Lib.below_grow _ _ (Nat.le_refl _) k os⟩
theorem check_fresh {b n : Nat} {h : zE} {sv : Value} (hB : Bld 97 h b (.pointer none) sv) :
    Rets P 8 108 [.pointer (some ⟨b, 0, none⟩)] h n fun v h' n' => v = .tuple #[] ∧ h' = h.set .dead (stC (zN h b) 0 [.pointer (some ⟨b, 0, none⟩)]) b ∧ n' = n :=
  copyCheck_fresh h_check hB fun wd c h1 h2 h3 => Any.Builder_copyCheck_fresh { Tryz.lays156 with } { Tryz.Builder_Extra_156 with } c wd h1 h2 h3
theorem check_used {b n : Nat} {h : zE} {sv : Value} (hB : Bld 97 h b (.pointer (some ⟨b, 0, none⟩)) sv) :
    Rets P 8 108 [.pointer (some ⟨b, 0, none⟩)] h n fun v h' n' => v = .tuple #[] ∧ h' = h ∧ n' = n :=
  copyCheck_used h_check hB fun wd c h1 => Any.Builder_copyCheck_used { Tryz.lays156 with } { Tryz.Builder_Extra_156 with } c wd h1
theorem string_rets {b lo n : Nat} {h : zE} {p sv : Value} {l : List UInt8} (hB : Bld 97 h b p sv) (ho : Own lo n h sv 5 1 l.length (vF l)) (hne : blkOf sv ≠ some b) (hlen : l.length < 1000000) :
    Rets P 8 57 [.pointer (some ⟨b, 0, none⟩)] h n fun v h' n' => v = str l ∧ n' = n ∧ (∀ b', blkOf sv ≠ some b' → zN h' b' = zN h b') :=
  builder_String h_string hB ho hne hlen
    (fun wd c x hx => (Any.Builder_String_nil Tryz.lays169 Tryz.Builder_Extra_169 wd.heap.size c x wd hx).mono fun _ _ ⟨he, hb⟩ => ⟨he, hb⟩)
    (fun wd c g cap x cur h0 h1 h2 h3 h4 h5 => (string_model Tryz.lays169 Tryz.Builder_Extra_169 c g cap x cur l wd h0 hlen h1 h2 h3 h4 h5).mono fun _ _ ⟨he, hb⟩ => ⟨he, hb⟩)
theorem check3_fresh {b n : Nat} {h : zE} {sv : Value} (hB : BldN 136 3 h b (.pointer none) sv) :
    Rets P 8 108 [.pointer (some ⟨b, 0, none⟩)] h n fun v h' n' => v = .tuple #[] ∧ h' = h.set .dead (stC (zN h b) 0 [.pointer (some ⟨b, 0, none⟩)]) b ∧ n' = n :=
  copyCheckN_fresh (by decide) h_check hB fun wd c h1 h2 h3 => checkN_model { Tryz.lays156 with } { Tryz.Builder_Extra_156 with } 136 3 c (by decide) (by kernel_rfl) wd h1 h2 h3
theorem check3_used {b n : Nat} {h : zE} {sv : Value} (hB : BldN 136 3 h b (.pointer (some ⟨b, 0, none⟩)) sv) :
    Rets P 8 108 [.pointer (some ⟨b, 0, none⟩)] h n fun v h' n' => v = .tuple #[] ∧ h' = h ∧ n' = n :=
  copyCheckN_used (by decide) h_check hB fun wd c h1 => Any.Builder_copyCheck_used { Tryz.lays156 with } { Tryz.Builder_Extra_156 with } c wd h1
theorem string3_rets {b lo n : Nat} {h : zE} {p sv : Value} {l : List UInt8} (hB : BldN 136 3 h b p sv) (ho : Own lo n h sv 5 1 l.length (vF l)) (hne : blkOf sv ≠ some b) (hlen : l.length < 1000000) (h0 : 0 < l.length) :
    Rets P 8 57 [.pointer (some ⟨b, 0, none⟩)] h n fun v h' n' => v = str l ∧ n' = n ∧ (∀ b', blkOf sv ≠ some b' → zN h' b' = zN h b') :=
  builderN_String (by decide) h_string hB ho hne hlen h0 (fun wd c g cap cur h0 h1 h2 h3 h4 h5 => stringN_model Tryz.lays169 Tryz.Builder_Extra_169 c g cap cur l wd h0 hlen h1 h2 h3 h4 h5)
theorem does_pure {f : FuncId} {args : List Value} {h : zE} {n : Nat} {v : Value} (r : Pure P 8 f args h n v) (u : Option zF) : CallTo P 8 f args false u h n (.ret v) u h n := by
  obtain ⟨v', h', n', ⟨rfl, rfl, rfl⟩, hc⟩ := r.does u;exact hc
def Fine (f : FuncId) (args : List Value) (h : zE) (n : Nat) (o : Option Rsl) : Prop := ∀ r, o = some r → ∀ u, CallTo P 8 f args false u h n (.ret r.v) u r.h r.n
theorem Fine.none {f : FuncId} {args : List Value} {h : zE} {n : Nat} : Fine f args h n none := fun _ e => by cases e
theorem Fine.pure {f : FuncId} {args : List Value} {h : zE} {n : Nat} {v : Value} (r : Pure P 8 f args h n v) : Fine f args h n (some ⟨v, h, n⟩) := fun r' e u => by
  injection e with e; subst e; exact does_pure r u
theorem Fine.cond {f : FuncId} {args : List Value} {h : zE} {n : Nat} {b : Bool} {o : Option Rsl} (ho : b = true → Fine f args h n o) : Fine f args h n (_root_.cond b o Option.none) := by
  cases b with
  | true => exact ho rfl
  | false => exact Fine.none
def pow : List Value := Lib.pow10Tab.map fun z => Value.int .u64 z
def powL : List Value := [.int .u64 1, .int .u64 10, .int .u64 100, .int .u64 1000, .int .u64 10000, .int .u64 100000, .int .u64 1000000, .int .u64 10000000, .int .u64 100000000, .int .u64 1000000000, .int .u64 10000000000, .int .u64 100000000000, .int .u64 1000000000000, .int .u64 10000000000000, .int .u64 100000000000000, .int .u64 1000000000000000, .int .u64 10000000000000000, .int .u64 100000000000000000, .int .u64 1000000000000000000, .int .u64 10000000000000000000]
theorem powL_eq : powL = pow := by kernel_rfl
theorem tabB_H {vs : List Value} {o : AObj} (h : tabB vs o = true) : (∃ z, infoOf o = some (vs.length, z, 2)) ∧ ∀ i, cellOf o i = vs[i]? := by
  unfold tabB at h;split at h
  · rename_i c n z kd;obtain ⟨h1, h2⟩ := Bool.and_eq_true_iff.1 h;obtain ⟨h2, h3⟩ := Bool.and_eq_true_iff.1 h2;obtain rfl := zI h1;obtain rfl := zI h2;refine ⟨⟨z, rfl⟩, fun i => ?_⟩;unfold cellOf;dsimp only;by_cases hi : i < vs.length
    · rw [if_pos hi, List.getElem?_eq_getElem hi];have := cellsB_at h3 (List.getElem?_eq_getElem hi);rw [Nat.zero_add] at this;rw [this]
    · rw [if_neg hi, List.getElem?_eq_none (by omega)]
  · cases h
noncomputable def withT (h : zE) (K : Option Rsl) : Option Rsl := cond (tabB powL (zN h 1)) K none
theorem fine_withT {f : FuncId} {args : List Value} {h : zE} {n : Nat} {K : Option Rsl} (hk : TabsH tb h → Fine f args h n K) : Fine f args h n (withT h K) := by
  unfold withT;refine Fine.cond fun ht => hk fun p hp => ?_;simp only [tb, List.mem_cons, List.not_mem_nil, or_false] at hp;subst hp;rw [powL_eq] at ht;exact tabB_H ht
noncomputable def fits (s : List UInt8) : Bool := Nat.blt s.length 1000000
theorem fits_lt {s : List UInt8} (h : fits s = true) : s.length < 1000000 := zX h
noncomputable def forceL {R : Type} (l : List UInt8) (K : List UInt8 → R) : R := List.rec (motive := fun _ => (List UInt8 → R) → R) (fun K => K []) (fun x _ ih K => ih fun r => K (x :: r)) l K
theorem forceL_eq {R : Type} : ∀ (l : List UInt8) (K : List UInt8 → R), forceL l K = K l := by
  intro l
  induction l with
  | nil => intro K; rfl
  | cons x r ih => intro K; exact ih _
noncomputable def onStr {R : Type} (v : Value) (f : List UInt8 → R) (d : R) : R := match v with
  | .string ⟨⟨s⟩⟩ => f s
  | _ => d
theorem onStr_some {v : Value} {f : List UInt8 → Option Rsl} {r : Rsl} (e : onStr v f none = some r) : ∃ s, v = str s ∧ f s = some r := by
  unfold onStr at e;split at e
  · exact ⟨_, rfl, e⟩
  · cases e
noncomputable def strs (l : List Value) (K : List (List UInt8) → Option Rsl) : Option Rsl :=
  List.rec (motive := fun _ => (List (List UInt8) → Option Rsl) → Option Rsl) (fun K => K []) (fun v _ ih K => onStr v (fun s => ih fun r => K (s :: r)) none) l K
theorem strs_of {l : List Value} {K : List (List UInt8) → Option Rsl} {r : Rsl} (e : strs l K = some r) : ∃ ls, l = ls.map str ∧ K ls = some r := by
  induction l generalizing K with
  | nil => exact ⟨[], rfl, e⟩
  | cons v l ih =>
    have e' : onStr v (fun s => strs l fun r => K (s :: r)) none = some r := e;obtain ⟨s, rfl, e2⟩ := onStr_some e';obtain ⟨ls, e3, e4⟩ := ih e2;exact ⟨s :: ls, by rw [e3]; rfl, e4⟩
noncomputable def rowS (h : zE) (n : Nat) (v : Value) (K : List Value → Option Rsl) : Option Rsl := match v with
  | .slice none 0 0 => K []
  | .slice (some ⟨b, off, none⟩) len cap => match zN h b with
    | .cells c kn z kd => cond (Nat.blt b n && (Nat.ble (Nat.add off len) kn && cond (Nat.beq cap inf) (Nat.beq kd 1 && Nat.beq z (zc 9 1)) (Nat.blt cap inf && Nat.ble len cap))) (K (c.toListFrom undef off len)) none
    | _ => none
  | _ => none
theorem rowS_of {h : zE} {n : Nat} {v : Value} {K : List Value → Option Rsl} {r : Rsl} (e : rowS h n v K = some r) : ∃ vs, Row n h v 9 1 vs.length vs ∧ K vs = some r := by
  unfold rowS at e;split at e
  · exact ⟨[], .inl ⟨rfl, rfl, rfl⟩, e⟩
  · rename_i b off len cap;split at e
    · rename_i c kn z kd ho
      cases hb : (Nat.blt b n && (Nat.ble (Nat.add off len) kn && cond (Nat.beq cap inf) (Nat.beq kd 1 && Nat.beq z (zc 9 1)) (Nat.blt cap inf && Nat.ble len cap))) with
      | false => rw [hb] at e; cases e
      | true =>
        rw [hb] at e;have e' : K (c.toListFrom undef off len) = some r := e;obtain ⟨b1, b2⟩ := Bool.and_eq_true_iff.1 hb;obtain ⟨b2, b3⟩ := Bool.and_eq_true_iff.1 b2;have hl : (c.toListFrom undef off len).length = len := Tr.length_toListFrom ..;have h2 : off + len ≤ kn := xN b2;refine ⟨_, .inr ⟨b, off, cap, kn, z, kd, zX b1, by rw [hl], by rw [Nat.mul_one], by rw [ho]; rfl, by rw [hl]; exact h2, fun j x hj => ?_, ?_⟩, e'⟩
        · rw [Tr.getElem?_toListFrom] at hj;split at hj
          · rename_i hlt;injection hj with hj
            unfold wD;rw [ho];unfold cellOf;dsimp only;rw [if_pos (by omega), hj]
          · cases hj
        · rw [hl]
          cases hc : Nat.beq cap inf with
          | true =>
            rw [hc] at b3;obtain ⟨c1, c2⟩ := Bool.and_eq_true_iff.1 b3;exact .inr ⟨zI hc, zI c1, zI c2, Nat.le_refl _⟩
          | false =>
            rw [hc] at b3;obtain ⟨c1, c2⟩ := Bool.and_eq_true_iff.1 b3;exact .inl ⟨zX c1, xN c2⟩
    · cases e
  · cases e
noncomputable def joinH (args : List Value) (h : zE) (n : Nat) : Option Rsl := match args with
  | [v, .string ⟨⟨sep⟩⟩] => rowS h n v fun vs => strs vs fun ls => forceL (Lib.join ls sep) fun t => cond (Nat.blt ls.length 1000000 && fits t) (some ⟨str t, h, n⟩) none
  | _ => none
theorem joinH_ok (args : List Value) (h : zE) (n : Nat) : Fine 54 args h n (joinH args h n) := by
  unfold joinH;split
  · rename_i v sep;intro r e u;obtain ⟨vs, h1, e1⟩ := rowS_of e;obtain ⟨ls, rfl, e2⟩ := strs_of e1;rw [forceL_eq] at e2
    cases hb : (Nat.blt ls.length 1000000 && fits (Lib.join ls sep)) with
    | false => rw [hb] at e2; cases e2
    | true =>
      rw [hb] at e2;obtain ⟨b1, b2⟩ := Bool.and_eq_true_iff.1 hb;injection e2 with e2
      subst e2;rw [List.length_map] at h1;exact does_pure (join_pure ls sep h1 (zX b1) (fits_lt b2)) u
  · exact Fine.none
noncomputable def decK (f : Nat) : Nat → List UInt8 → List UInt8 :=
  Nat.rec (motive := fun _ => Nat → List UInt8 → List UInt8) (fun _ acc => acc)
    (fun _ ih n acc => Bool.rec (ih (Nat.div n 10) (UInt8.ofNat (Nat.add 48 (Nat.mod n 10)) :: acc)) (UInt8.ofNat (Nat.add 48 n) :: acc) (Nat.blt n 10)) f
theorem decK_eq : ∀ (f n : Nat) (acc : List UInt8), n < 10 ^ (f + 1) → decK (f + 1) n acc = Lib.decDigits n ++ acc := by
  intro f
  induction f with
  | zero =>
    intro n acc h;have e : decK 1 n acc = (Bool.rec (decK 0 (Nat.div n 10) (UInt8.ofNat (Nat.add 48 (Nat.mod n 10)) :: acc)) (UInt8.ofNat (Nat.add 48 n) :: acc) (Nat.blt n 10) : List UInt8) := rfl;have h2 : n < 10 := by simpa using h
    rw [e, blt_of h2];unfold Lib.decDigits;rw [dif_pos h2]; rfl
  | succ f ih =>
    intro n acc h;have e : decK (f + 1 + 1) n acc = (Bool.rec (decK (f + 1) (Nat.div n 10) (UInt8.ofNat (Nat.add 48 (Nat.mod n 10)) :: acc)) (UInt8.ofNat (Nat.add 48 n) :: acc) (Nat.blt n 10) : List UInt8) := rfl;rw [e];unfold Lib.decDigits;by_cases h2 : n < 10
    · rw [blt_of h2, dif_pos h2]; rfl
    · have h3 : Nat.blt n 10 = false := by
        cases e9 : Nat.blt n 10 with
        | false => rfl
        | true => exact absurd (zX e9) h2
      rw [h3, dif_neg h2];show decK (f + 1) (n / 10) (UInt8.ofNat (48 + n % 10) :: acc) = _;rw [ih (n / 10) _ (by rw [Nat.pow_succ] at h; omega), List.append_assoc]; rfl
noncomputable def itoaH (args : List Value) (h : zE) (n : Nat) : Option Rsl := match args with
  | [.int .i64 a] => withT h (Int.rec (motive := fun _ => Option Rsl) (fun m => cond (Nat.blt m 9223372036854775808) (forceL (decK 20 m []) fun t => some ⟨str t, h, n⟩) none)
      (fun m => cond (Nat.blt m 9223372036854775808) (forceL (decK 20 (Nat.succ m) []) fun t => some ⟨str (45 :: t), h, n⟩) none) a)
  | _ => none
theorem itoaH_ok (args : List Value) (h : zE) (n : Nat) : Fine 81 args h n (itoaH args h n) := by
  unfold itoaH;split
  · rename_i a;refine fine_withT fun hm => ?_
    cases a with
    | ofNat k =>
      refine Fine.cond fun hk => ?_;have hk := zX hk;have := Fine.pure (itoa_pure n hm (.ofNat k) (by show (-9223372036854775808 : Int) ≤ (k : Int); omega) (by show (k : Int) ≤ _; omega));have e : Lib.itoa (.ofNat k) = Lib.decDigits k := by unfold Lib.itoa; rw [if_neg (by show ¬ ((k : Int) < 0); omega)]; rfl
      rw [e] at this;rw [forceL_eq, decK_eq 19 k [] (by omega), List.append_nil];exact this
    | negSucc k =>
      refine Fine.cond fun hk => ?_;have hk := zX hk;have := Fine.pure (itoa_pure n hm (.negSucc k) (by omega) (by omega));have e : Lib.itoa (.negSucc k) = 45 :: Lib.decDigits (k + 1) := by unfold Lib.itoa; rw [if_pos (by omega)]; rfl
      rw [e] at this;rw [forceL_eq, decK_eq 19 (Nat.succ k) [] (by omega), List.append_nil];exact this
  · exact Fine.none
noncomputable def checkH (args : List Value) (h : zE) (n : Nat) : Option Rsl := match args with
  | [.pointer (some ⟨b, 0, none⟩)] => match zN h b with
    | .cells c 2 z 0 => cond (Nat.beq z (97 + 1)) (match Tr.get undef c 0 with
      | .pointer none => c.setK undef (.pointer (some ⟨b, 0, none⟩)) 0 fun c' => h.setK .dead (.cells c' 2 z 0) b fun h' => some ⟨.tuple #[], h', n⟩
      | .pointer (some ⟨b', 0, none⟩) => cond (Nat.beq b' b) (some ⟨.tuple #[], h, n⟩) none
      | _ => none) none
    | _ => none
  | _ => none
theorem bld_of {h : zE} {b z : Nat} {c : Tr Value} (ho : zN h b = .cells c 2 z 0) (hz : Nat.beq z (97 + 1) = true) : Bld 97 h b (Tr.get undef c 0) (Tr.get undef c 1) := by
  obtain rfl := zI hz;unfold Bld wD;rw [ho];exact ⟨rfl, rfl, rfl⟩
theorem checkH_ok (args : List Value) (h : zE) (n : Nat) : Fine 108 args h n (checkH args h n) := by
  unfold checkH;split
  · rename_i b;split
    · rename_i c z ho;refine Fine.cond fun hz => ?_;have hB := bld_of ho hz;split
      · rename_i hp;rw [hp] at hB;intro r e u;rw [Tr.setK_eq, Tr.setK_eq] at e;injection e with e
        subst e;obtain ⟨v, h', n', ⟨rfl, rfl, rfl⟩, hc⟩ := (check_fresh (n := n) hB).does u;rw [ho] at hc;exact hc
      · rename_i b' hp;refine Fine.cond fun hb => ?_;obtain rfl := zI hb;rw [hp] at hB;intro r e u;injection e with e
        subst e;obtain ⟨v, h', n', ⟨rfl, rfl, rfl⟩, hc⟩ := (check_used (n := n) hB).does u;exact hc
      · exact Fine.none
    · exact Fine.none
  · exact Fine.none
noncomputable def bytesK (l : List Value) (K : List UInt8 → Option Rsl) : Option Rsl :=
  List.rec (motive := fun _ => (List UInt8 → Option Rsl) → Option Rsl) (fun K => K [])
    (fun v _ ih K => onInt v (fun k a => Int.rec (motive := fun _ => Option Rsl) (fun m => Bool.rec none (ih fun r => K (UInt8.ofNat m :: r)) (yI k .u8 && Nat.blt m 256)) (fun _ => none) a) none) l K
theorem bytesK_of {l : List Value} {K : List UInt8 → Option Rsl} {r : Rsl} (e : bytesK l K = some r) : ∃ t, l = vF t ∧ K t = some r := by
  induction l generalizing K with
  | nil => exact ⟨[], rfl, e⟩
  | cons v l ih =>
    have e' : onInt v (fun k a => Int.rec (motive := fun _ => Option Rsl) (fun m => Bool.rec none (bytesK l fun r => K (UInt8.ofNat m :: r)) (yI k .u8 && Nat.blt m 256)) (fun _ => none) a) none = some r := e;rcases onInt_some e' with ⟨k, a, rfl, e2⟩ | e2
    · cases a with
      | negSucc m => cases e2
      | ofNat m =>
        have e3 : (Bool.rec none (bytesK l fun r => K (UInt8.ofNat m :: r)) (yI k .u8 && Nat.blt m 256) : Option Rsl) = some r := e2
        cases hb : (yI k .u8 && Nat.blt m 256) with
        | false => rw [hb] at e3; cases e3
        | true =>
          rw [hb] at e3;obtain ⟨b1, b2⟩ := Bool.and_eq_true_iff.1 hb;obtain rfl := xO b1;obtain ⟨t, rfl, e4⟩ := ih e3;refine ⟨UInt8.ofNat m :: t, ?_, e4⟩
          have : ((UInt8.ofNat m).toNat : Int) = Int.ofNat m := by
            rw [UInt8.toNat_ofNat', Nat.mod_eq_of_lt (zX b2)]; rfl
          simp only [List.map_cons, this]
    · cases e2
noncomputable def stringH (args : List Value) (h : zE) (n : Nat) : Option Rsl := match args with
  | [.pointer (some ⟨b, 0, none⟩)] => match zN h b with
    | .cells c 2 z 0 => cond (Nat.beq z (97 + 1)) (match Tr.get undef c 1 with
      | .slice none 0 0 => some ⟨str [], h, n⟩
      | .slice (some ⟨b2, 0, none⟩) len cap => match zN h b2 with
        | .cells c2 kn z2 1 => cond (Nat.beq cap inf && (Nat.beq kn len && (Nat.beq z2 (zc 5 1) && (!Nat.beq b2 b && (Nat.blt b2 n && (Nat.blt len 1000000 && Nat.blt 0 len))))))
          (bytesK (c2.toListFrom undef 0 kn) fun t => h.setK .dead .dead b2 fun h' => some ⟨str t, h', n⟩) none
        | _ => none
      | _ => none) none
    | _ => none
  | _ => none
theorem stringH_ok (args : List Value) (h : zE) (n : Nat) : Fine 57 args h n (stringH args h n) := by
  unfold stringH;split
  · rename_i b;split
    · rename_i c z ho;refine Fine.cond fun hz => ?_;have hB := bld_of ho hz;split
      · rename_i hp;rw [hp] at hB;intro r e u;injection e with e
        subst e;obtain ⟨v, h', n', ⟨rfl, rfl, hh⟩, hc⟩ := (string_rets (lo := 0) (n := n) (l := []) hB (.inl ⟨rfl, rfl, rfl⟩) (by intro e; cases e) (by decide)).does u;exact hc.sub (Sub.refl _) fun b' => .inr (hh b' (by intro e; cases e))
      · rename_i b2 len cap hp;split
        · rename_i c2 kn z2 ho2;refine Fine.cond fun hb => ?_;obtain ⟨b1, hb⟩ := Bool.and_eq_true_iff.1 hb;obtain ⟨b2', hb⟩ := Bool.and_eq_true_iff.1 hb;obtain ⟨b3, hb⟩ := Bool.and_eq_true_iff.1 hb;obtain ⟨b4, hb⟩ := Bool.and_eq_true_iff.1 hb;obtain ⟨b5, hb⟩ := Bool.and_eq_true_iff.1 hb;obtain ⟨b6, b7⟩ := Bool.and_eq_true_iff.1 hb;obtain rfl := zI b1;obtain rfl := zI b2';obtain rfl := zI b3;have hne : b2 ≠ b := fun e => by rw [e, Nat.beq_refl] at b4; cases b4
          intro r e u;obtain ⟨t, ht, e2⟩ := bytesK_of e;rw [Tr.setK_eq] at e2;injection e2 with e2
          subst e2
          have hl : t.length = kn := by
            have := congrArg List.length ht;rw [Tr.length_toListFrom, List.length_map] at this;exact this.symm
          subst hl;rw [hp] at hB
          have hOwn : Own 0 n h (.slice (some ⟨b2, 0, none⟩) t.length inf) 5 1 t.length (vF t) := by
            refine .inr ⟨b2, Nat.zero_le _, zX b5, rfl, by rw [ho2]; show some (t.length, _, 1) = some ((vF t).length, _, 1); rw [List.length_map], by rw [List.length_map, Nat.mul_one], zX b7, fun i => ?_⟩;unfold wD;rw [ho2, ← ht, Tr.getElem?_toListFrom, Nat.zero_add];rfl
          obtain ⟨v, h', n', ⟨rfl, rfl, hh⟩, hc⟩ := (string_rets hB hOwn (by intro e; injection e with e; exact hne e) (zX b6)).does u;refine hc.sub (Sub.refl _) fun b' => ?_;rw [zS];by_cases hbb : b2 = b'
          · rw [if_pos hbb]; exact .inl rfl
          · rw [if_neg hbb];exact .inr (hh b' (by intro e; injection e with e; exact hbb e))
        · exact Fine.none
      · exact Fine.none
    · exact Fine.none
  · exact Fine.none
noncomputable def check3H (args : List Value) (h : zE) (n : Nat) : Option Rsl := match args with
  | [.pointer (some ⟨b, 0, none⟩)] => match zN h b with
    | .cells c 3 z 0 => cond (Nat.beq z (136 + 1)) (match Tr.get undef c 0 with
      | .pointer none => c.setK undef (.pointer (some ⟨b, 0, none⟩)) 0 fun c' => h.setK .dead (.cells c' 3 z 0) b fun h' => some ⟨.tuple #[], h', n⟩
      | .pointer (some ⟨b', 0, none⟩) => cond (Nat.beq b' b) (some ⟨.tuple #[], h, n⟩) none
      | _ => none) none
    | _ => none
  | _ => none
theorem bld3_of {h : zE} {b z : Nat} {c : Tr Value} (ho : zN h b = .cells c 3 z 0) (hz : Nat.beq z (136 + 1) = true) : BldN 136 3 h b (Tr.get undef c 0) (Tr.get undef c 1) := by
  obtain rfl := zI hz;unfold BldN wD;rw [ho];exact ⟨rfl, rfl, rfl⟩
theorem check3H_ok (args : List Value) (h : zE) (n : Nat) : Fine 108 args h n (check3H args h n) := by
  unfold check3H;split
  · rename_i b;split
    · rename_i c z ho;refine Fine.cond fun hz => ?_;have hB := bld3_of ho hz;split
      · rename_i hp;rw [hp] at hB;intro r e u;rw [Tr.setK_eq, Tr.setK_eq] at e;injection e with e
        subst e;obtain ⟨v, h', n', ⟨rfl, rfl, rfl⟩, hc⟩ := (check3_fresh (n := n) hB).does u;rw [ho] at hc;exact hc
      · rename_i b' hp;refine Fine.cond fun hb => ?_;obtain rfl := zI hb;rw [hp] at hB;intro r e u;injection e with e
        subst e;obtain ⟨v, h', n', ⟨rfl, rfl, rfl⟩, hc⟩ := (check3_used (n := n) hB).does u;exact hc
      · exact Fine.none
    · exact Fine.none
  · exact Fine.none
noncomputable def string3H (args : List Value) (h : zE) (n : Nat) : Option Rsl := match args with
  | [.pointer (some ⟨b, 0, none⟩)] => match zN h b with
    | .cells c 3 z 0 => cond (Nat.beq z (136 + 1)) (match Tr.get undef c 1 with
      | .slice (some ⟨b2, 0, none⟩) len cap => match zN h b2 with
        | .cells c2 kn z2 1 => cond (Nat.beq cap inf && (Nat.beq kn len && (Nat.beq z2 (zc 5 1) && (!Nat.beq b2 b && (Nat.blt b2 n && (Nat.blt len 1000000 && Nat.blt 0 len))))))
          (bytesK (c2.toListFrom undef 0 kn) fun t => h.setK .dead .dead b2 fun h' => some ⟨str t, h', n⟩) none
        | _ => none
      | _ => none) none
    | _ => none
  | _ => none
theorem string3H_ok (args : List Value) (h : zE) (n : Nat) : Fine 57 args h n (string3H args h n) := by
  unfold string3H;split
  · rename_i b;split
    · rename_i c z ho;refine Fine.cond fun hz => ?_;have hB := bld3_of ho hz;split
      · rename_i b2 len cap hp;split
        · rename_i c2 kn z2 ho2;refine Fine.cond fun hb => ?_;obtain ⟨b1, hb⟩ := Bool.and_eq_true_iff.1 hb;obtain ⟨b2', hb⟩ := Bool.and_eq_true_iff.1 hb;obtain ⟨b3, hb⟩ := Bool.and_eq_true_iff.1 hb;obtain ⟨b4, hb⟩ := Bool.and_eq_true_iff.1 hb;obtain ⟨b5, hb⟩ := Bool.and_eq_true_iff.1 hb;obtain ⟨b6, b7⟩ := Bool.and_eq_true_iff.1 hb;obtain rfl := zI b1;obtain rfl := zI b2';obtain rfl := zI b3;have hne : b2 ≠ b := fun e => by rw [e, Nat.beq_refl] at b4; cases b4
          intro r e u;obtain ⟨t, ht, e2⟩ := bytesK_of e;rw [Tr.setK_eq] at e2;injection e2 with e2
          subst e2
          have hl : t.length = kn := by
            have := congrArg List.length ht;rw [Tr.length_toListFrom, List.length_map] at this;exact this.symm
          subst hl;rw [hp] at hB
          have hOwn : Own 0 n h (.slice (some ⟨b2, 0, none⟩) t.length inf) 5 1 t.length (vF t) := by
            refine .inr ⟨b2, Nat.zero_le _, zX b5, rfl, by rw [ho2]; show some (t.length, _, 1) = some ((vF t).length, _, 1); rw [List.length_map], by rw [List.length_map, Nat.mul_one], zX b7, fun i => ?_⟩;unfold wD;rw [ho2, ← ht, Tr.getElem?_toListFrom, Nat.zero_add];rfl
          obtain ⟨v, h', n', ⟨rfl, rfl, hh⟩, hc⟩ := (string3_rets hB hOwn (by intro e; injection e with e; exact hne e) (zX b6) (zX b7)).does u;refine hc.sub (Sub.refl _) fun b' => ?_;rw [zS];by_cases hbb : b2 = b'
          · rw [if_pos hbb]; exact .inl rfl
          · rw [if_neg hbb];exact .inr (hh b' (by intro e; injection e with e; exact hbb e))
        · exact Fine.none
      · exact Fine.none
    · exact Fine.none
  · exact Fine.none
noncomputable def orH (a b : Option Rsl) : Option Rsl := Option.rec b (fun r => some r) a
theorem Fine.or {f : FuncId} {args : List Value} {h : zE} {n : Nat} {a b : Option Rsl} (ha : Fine f args h n a) (hb : Fine f args h n b) : Fine f args h n (orH a b) := by
  cases a with
  | none => exact hb
  | some r => exact ha
noncomputable def hkLib : HookH := fun f args h n =>
  cond (Nat.beq f 108) (orH (checkH args h n) (check3H args h n)) <| cond (Nat.beq f 54) (joinH args h n) <| cond (Nat.beq f 81) (itoaH args h n) <| cond (Nat.beq f 57) (orH (stringH args h n) (string3H args h n)) none
theorem vG {b : Bool} {o o' : Option Rsl} {r : Rsl} (e : cond b o o' = some r) : (b = true ∧ o = some r) ∨ o' = some r := by
  cases b with
  | true => exact .inl ⟨rfl, e⟩
  | false => exact .inr e
theorem hkLib_ok : HookHOK P 8 hkLib := by
  intro f args h n r e u;unfold hkLib at e;rcases vG e with ⟨hf, e⟩ | e
  · obtain rfl := zI hf; exact (checkH_ok _ _ _).or (check3H_ok _ _ _) r e u
  rcases vG e with ⟨hf, e⟩ | e
  · obtain rfl := zI hf; exact joinH_ok _ _ _ r e u
  rcases vG e with ⟨hf, e⟩ | e
  · obtain rfl := zI hf; exact itoaH_ok _ _ _ r e u
  rcases vG e with ⟨hf, e⟩ | e
  · obtain rfl := zI hf; exact (stringH_ok _ _ _).or (string3H_ok _ _ _) r e u
  cases e
open Go.Ex
noncomputable abbrev fr10 (s0 s1 : Value) : Fr := (.nD (.nD .lF s1 .lF) s0 .lF)
noncomputable def hint10 : yR := fun kind _ i => match kind with
  | _ => []
noncomputable def F10 (L : Lo) (lp : LP) (df : Bool) (u : Option zF) (h : zE) (n : Nat) (k : KO) : Bool :=
 yC P 23 3 [(0, (.string (ByteArray.mk #[120, 56, 54]))), (1, (.string (ByteArray.mk #[97, 114, 109]))), (2, (.string (ByteArray.mk #[114, 105, 115, 99, 118])))] h n fun h1 n2 v3 =>
 zD P L 10 k .ret (fr10 v3 v3) (W.mk [] u h1 n2)
theorem F10_eq (L : Lo) (lp : LP) (df : Bool) (u : Option zF) (h : zE) (n : Nat) (k : KO) : zY P hint10 L lp 10 [] df u h n k = F10 L lp  df u h n k := by kernel_rfl
theorem l10 : zL P 10 = true := by kernel_rfl
noncomputable def eF10 : EntF P 8 := entF0 zG mixed 10 l10 F10 F10_eq
noncomputable abbrev fr36 (s0 s1 s2 s3 s4 s5 s6 s7 s8 s9 s10 s11 s12 s13 s14 s15 s16 s17 s18 s19 s20 s21 s22 s23 s24 s25 s26 s27 s28 : Value) : Fr := (.nD (.nD (.nD (.nD (.nD .lF s15 .lF) s7 (.nD .lF s23 .lF)) s3 (.nD (.nD .lF s19 .lF) s11 (.nD .lF s27 .lF))) s1 (.nD (.nD (.nD .lF s17 .lF) s9 (.nD .lF s25 .lF)) s5 (.nD (.nD .lF s21 .lF) s13 .lF))) s0 (.nD (.nD (.nD (.nD .lF s16 .lF) s8 (.nD .lF s24 .lF)) s4 (.nD (.nD .lF s20 .lF) s12 (.nD .lF s28 .lF))) s2 (.nD (.nD (.nD .lF s18 .lF) s10 (.nD .lF s26 .lF)) s6 (.nD (.nD .lF s22 .lF) s14 .lF))))
noncomputable def hint36 : yR := fun kind _ i => match kind with
  | 4 => bif Nat.beq i 0 then [.any, .any] else []
  | _ => []
noncomputable def F36 (L : Lo) (lp : LP) (p0 p1 : Value) (df : Bool) (u : Option zF) (h : zE) (n : Nat) (k : KO) : Bool :=
 yH L 41 [p0] h n (fun c4 h5 n6 =>
 zD P L 36 k (.panic c4) (fr36 p0 p1 undef undef (.bool false) undef p0 undef undef undef undef undef undef undef undef undef undef undef undef undef undef undef undef undef undef undef undef undef undef) (W.mk [] u h5 n6)) fun a1 h2 n3 =>
 eAlloc P 83 h2 n3 fun h7 n8 v9 =>
 xG P 83 v9 a1 h7 n8 fun h10 n11 v12 =>
 opt (wZ p0) fun v13 =>
 opt (zC P 68 2 v13) fun v14 =>
 opt (zP P 3 h10 v14) fun v15 =>
 rtI .i64 v15 fun a16 =>
 fb (yO a16 0) fun a17 =>
 grd a17 (fun k18 =>
 opt (zC P 83 0 v9) fun v22 =>
 k18 h10 n11 v22) (fun h19 n20 v21 =>
 grd a17 (fun k23 =>
 opt (zP P 3 h19 v21) fun v27 =>
 rtI .i64 v27 fun a28 =>
 k23 h19 n20 (.int .i64 a28)) (fun h24 n25 v26 =>
 grd a17 (fun k29 =>
 zK yO P .eql 3 true v26 (.int .i64 1) fun a33 =>
 k29 h24 n25 (.bool a33)) (fun h30 n31 v32 =>
 grd a17 (fun k34 =>
 k34 h30 n31 v32) (fun h35 n36 v37 =>
 grd (gnv v37) (fun k38 =>
 opt (zC P 83 0 v9) fun v42 =>
 k38 h35 n36 v42) (fun h39 n40 v41 =>
 grd (gnv v37) (fun k43 =>
 opt (zP P 3 h39 v41) fun v47 =>
 rtI .i64 v47 fun a48 =>
 k43 h39 n40 (.int .i64 a48)) (fun h44 n45 v46 =>
 grd (gnv v37) (fun k49 =>
 zK yO P .eql 3 true v46 (.int .i64 3) fun a53 =>
 k49 h44 n45 (.bool a53)) (fun h50 n51 v52 =>
 grd a17 (fun k54 =>
 zW v37 (fun b58 =>
 rtB (sel b58 (.bool true) v52) fun a59 =>
 k54 h50 n51 (.bool a59)) false) (fun h55 n56 v57 =>
 rtB (sel a17 v57 (.bool false)) fun a60 =>
 grd a60 (fun k61 =>
 opt (zC P 83 1 v9) fun v65 =>
 k61 h55 n56 v65) (fun h62 n63 v64 =>
 grd a60 (fun k66 =>
 opt (zP P 9 h62 v64) fun v70 =>
 k66 h62 n63 v70) (fun h67 n68 v69 =>
 grd a60 (fun k71 =>
 k71 h67 n68 p1) (fun h72 n73 v74 =>
 grd a60 (fun k75 =>
 zK yO P .eql 9 false v69 v74 fun a79 =>
 k75 h72 n73 (.bool a79)) (fun h76 n77 v78 =>
 rtB (sel a60 v78 (.bool false)) fun a80 =>
 zD P L 36 k .ret (fr36 p0 p1 undef undef (.bool a80) v9 p0 a1 p0 v13 v14 (.int .i64 a16) (.bool a17) (.bool a17) v21 v26 v32 v37 v41 v46 v52 v57 (.bool a60) (.bool a60) v64 v69 v74 v78 (.bool a80)) (W.mk [] u h76 n77)) h72 n73) h67 n68) h62 n63) h55 n56) h50 n51) h44 n45) h39 n40) h35 n36) h30 n31) h24 n25) h19 n20) h10 n11
theorem F36_eq (L : Lo) (lp : LP) (p0 p1 : Value) (df : Bool) (u : Option zF) (h : zE) (n : Nat) (k : KO) : zY P hint36 L lp 36 [p0, p1] df u h n k = F36 L lp p0 p1 df u h n k := by kernel_rfl
theorem l36 : zL P 36 = true := by kernel_rfl
noncomputable def eF36 : EntF P 8 := wL zG mixed 36 l36 F36 F36_eq
noncomputable abbrev fr41 (s0 s1 s2 s3 s4 s5 s6 s7 s8 s9 s10 s11 s12 : Value) : Fr := (.nD (.nD (.nD (.nD .lF s7 .lF) s3 (.nD .lF s11 .lF)) s1 (.nD (.nD .lF s9 .lF) s5 .lF)) s0 (.nD (.nD (.nD .lF s8 .lF) s4 (.nD .lF s12 .lF)) s2 (.nD (.nD .lF s10 .lF) s6 .lF)))
noncomputable def hint41 : yR := fun kind _ i => match kind with
  | 4 => bif Nat.beq i 0 then [.any] else []
  | _ => []
noncomputable def F41 (L : Lo) (lp : LP) (p0 : Value) (df : Bool) (u : Option zF) (h : zE) (n : Nat) (k : KO) : Bool :=
 eAlloc P 83 h n fun h1 n2 v3 =>
 opt (wZ p0) fun v4 =>
 opt (zC P 68 0 v4) fun v5 =>
 opt (zP P 63 h1 v5) fun v6 =>
 opt (wZ p0) fun v7 =>
 opt (zC P 68 1 v7) fun v8 =>
 opt (zP P 3 h1 v8) fun v9 =>
 rtI .i64 v9 fun a10 =>
 opt (zQ P 63 v6 (.int .i64 a10)) fun v11 =>
 opt (zP P 83 h1 v11) fun v12 =>
 xG P 83 v3 v12 h1 n2 fun h13 n14 v15 =>
 gt (Nat.ble n2 n14) (
 gt (lks [(W.mk [] u h13 n14), (W.mk [] u h1 n2)] []) (
 zD P L 41 k .ret (fr41 p0 undef v3 p0 v4 v5 v6 p0 v7 v8 (.int .i64 a10) v11 v12) (W.mk [] u h13 n14)))
theorem F41_eq (L : Lo) (lp : LP) (p0 : Value) (df : Bool) (u : Option zF) (h : zE) (n : Nat) (k : KO) : zY P hint41 L lp 41 [p0] df u h n k = F41 L lp p0 df u h n k := by kernel_rfl
theorem l41 : zL P 41 = true := by kernel_rfl
noncomputable def eF41 : EntF P 8 := xL zG mixed 41 l41 F41 F41_eq
noncomputable abbrev fr42 (s0 s1 s2 s3 s4 s5 s6 s7 s8 s9 s10 s11 s12 s13 s14 s15 s16 s17 s18 s19 s20 s21 s22 s23 s24 s25 s26 s27 s28 s29 s30 s31 s32 s33 s34 : Value) : Fr := (.nD (.nD (.nD (.nD (.nD (.nD .lF s31 .lF) s15 .lF) s7 (.nD .lF s23 .lF)) s3 (.nD (.nD .lF s19 .lF) s11 (.nD .lF s27 .lF))) s1 (.nD (.nD (.nD (.nD .lF s33 .lF) s17 .lF) s9 (.nD .lF s25 .lF)) s5 (.nD (.nD .lF s21 .lF) s13 (.nD .lF s29 .lF)))) s0 (.nD (.nD (.nD (.nD (.nD .lF s32 .lF) s16 .lF) s8 (.nD .lF s24 .lF)) s4 (.nD (.nD .lF s20 .lF) s12 (.nD .lF s28 .lF))) s2 (.nD (.nD (.nD (.nD .lF s34 .lF) s18 .lF) s10 (.nD .lF s26 .lF)) s6 (.nD (.nD .lF s22 .lF) s14 (.nD .lF s30 .lF)))))
noncomputable def hint42 : yR := fun kind _ i => match kind with
  | 2 => bif Nat.beq i 2 then [.val, .val, .val, .val, .val, .val, .val, .val, .val, .val, .val, .val, .val, .val, .val, .val, .val, .val, .val, .val, .val, .val, .val, .val, .val, .val, .val, .val, .val, .val, .val, .val, .val, .val, .val] else []
  | 4 => bif Nat.beq i 0 then [.any] else []
  | _ => []
noncomputable def F42 (L : Lo) (lp : LP) (p0 : Value) (df : Bool) (u : Option zF) (h : zE) (n : Nat) (k : KO) : Bool :=
 opt (wZ p0) fun v1 =>
 opt (zC P 68 2 v1) fun v2 =>
 opt (zP P 3 h v2) fun v3 =>
 rtI .i64 v3 fun a4 =>
 fb (ineB a4 0) fun a5 =>
 grd (nt a5) (fun k6 =>
 k6 h n p0) (fun h7 n8 v9 =>
 grd (nt a5) (fun k10 =>
 yH L 41 [v9] h7 n8 (fun c17 h18 n19 =>
 zD P L 42 k (.panic c17) (fr42 p0 undef (.int .i64 0) p0 v1 v2 (.int .i64 a4) (.bool a5) (.bool a5) v9 undef undef undef undef undef undef undef undef undef undef undef undef undef undef undef undef undef undef undef undef undef undef undef undef undef) (W.mk [] u h18 n19)) fun a14 h15 n16 =>
 k10 h15 n16 a14) (fun h11 n12 v13 =>
 grd (nt a5) (fun k20 =>
 opt (aField P 83 v13 0) fun v24 =>
 rtI .i64 v24 fun a25 =>
 k20 h11 n12 (.int .i64 a25)) (fun h21 n22 v23 =>
 grd (nt a5) (fun k26 =>
 zK ineB P .neq 3 true v23 (.int .i64 2) fun a30 =>
 k26 h21 n22 (.bool a30)) (fun h27 n28 v29 =>
 rtB (sel a5 (.bool true) v29) fun a31 =>
 br a31 (
 yH L 37 [p0, (.int .i64 3)] h27 n28 (fun c35 h36 n37 =>
 zD P L 42 k (.panic c35) (fr42 p0 undef (.int .i64 0) p0 v1 v2 (.int .i64 a4) (.bool a5) (.bool a5) v9 v13 v23 v29 (.bool a31) p0 undef undef undef undef undef undef undef undef undef undef undef undef undef undef undef undef undef undef undef undef) (W.mk [] u h36 n37)) fun a32 h33 n34 =>
 zD P L 42 k .ret (fr42 p0 undef (.int .i64 0) p0 v1 v2 (.int .i64 a4) (.bool a5) (.bool a5) v9 v13 v23 v29 (.bool a31) p0 a32 undef undef undef undef undef undef undef undef undef undef undef undef undef undef undef undef undef undef undef) (W.mk [] u h33 n34)) (
 opt (wZ p0) fun v38 =>
 opt (zC P 68 1 v38) fun v39 =>
 opt (zP P 3 h27 v39) fun v40 =>
 rtI .i64 v40 fun a41 =>
 fi (yK .i64 (wV a41 1)) fun a42 =>
 opt (wZ p0) fun v43 =>
 opt (zC P 68 1 v43) fun v44 =>
 xG P 3 v44 (.int .i64 a42) h27 n28 fun h45 n46 v47 =>
 opt (wZ p0) fun v48 =>
 opt (zC P 68 0 v48) fun v49 =>
 opt (zP P 63 h45 v49) fun v50 =>
 opt (wZ p0) fun v51 =>
 opt (zC P 68 1 v51) fun v52 =>
 opt (zP P 3 h45 v52) fun v53 =>
 rtI .i64 v53 fun a54 =>
 fi (yK .i64 (isub a54 1)) fun a55 =>
 opt (zQ P 63 v50 (.int .i64 a55)) fun v56 =>
 opt (zC P 83 2 v56) fun v57 =>
 opt (zP P 3 h45 v57) fun v58 =>
 rtI .i64 v58 fun a59 =>
 gt (lks [(W.mk [] u h45 n46)] []) (
 zD P L 42 k .ret (fr42 p0 undef (.int .i64 a59) p0 v1 v2 (.int .i64 a4) (.bool a5) (.bool a5) v9 v13 v23 v29 (.bool a31) undef undef p0 v38 v39 (.int .i64 a41) (.int .i64 a42) v43 v44 p0 v48 v49 v50 p0 v51 v52 (.int .i64 a54) (.int .i64 a55) v56 v57 (.int .i64 a59)) (W.mk [] u h45 n46)))) h21 n22) h11 n12) h7 n8) h n
theorem F42_eq (L : Lo) (lp : LP) (p0 : Value) (df : Bool) (u : Option zF) (h : zE) (n : Nat) (k : KO) : zY P hint42 L lp 42 [p0] df u h n k = F42 L lp p0 df u h n k := by kernel_rfl
theorem l42 : zL P 42 = true := by kernel_rfl
noncomputable def eF42 : EntF P 8 := xL zG mixed 42 l42 F42 F42_eq
noncomputable abbrev fr53 (s0 s1 s2 s3 s4 s5 s6 s7 s8 s9 s10 s11 s12 s13 s14 s15 s16 s17 s18 : Value) : Fr := (.nD (.nD (.nD (.nD (.nD .lF s15 .lF) s7 .lF) s3 (.nD .lF s11 .lF)) s1 (.nD (.nD (.nD .lF s17 .lF) s9 .lF) s5 (.nD .lF s13 .lF))) s0 (.nD (.nD (.nD (.nD .lF s16 .lF) s8 .lF) s4 (.nD .lF s12 .lF)) s2 (.nD (.nD (.nD .lF s18 .lF) s10 .lF) s6 (.nD .lF s14 .lF))))
noncomputable def hint53 : yR := fun kind _ i => match kind with
  | 4 => bif Nat.beq i 0 then [.any, .any] else []
  | _ => []
noncomputable def F53 (L : Lo) (lp : LP) (p0 p1 : Value) (df : Bool) (u : Option zF) (h : zE) (n : Nat) (k : KO) : Bool :=
 yH L 108 [p0] h n (fun c4 h5 n6 =>
 zD P L 53 k (.panic c4) (fr53 p0 p1 undef undef (.int .i64 0) .nilIface p0 undef undef undef undef undef undef undef undef undef undef undef undef) (W.mk [] u h5 n6)) fun a1 h2 n3 =>
 opt (wZ p0) fun v7 =>
 opt (zC P 97 1 v7) fun v8 =>
 opt (zP P 95 h2 v8) fun v9 =>
 eAppend P [95, 9] [v9, p1] h2 n3 fun h10 n11 v12 =>
 opt (wZ p0) fun v13 =>
 opt (zC P 97 1 v13) fun v14 =>
 xG P 95 v14 v12 h10 n11 fun h15 n16 v17 =>
 opt (zU P .len [9] [p1] h15) fun v18 =>
 rtI .i64 v18 fun a19 =>
 zD P L 53 k .ret (fr53 p0 p1 undef undef (.int .i64 a19) .nilIface p0 a1 p0 p0 v7 v8 v9 p1 v12 v13 v14 p1 (.int .i64 a19)) (W.mk [] u h15 n16)
theorem F53_eq (L : Lo) (lp : LP) (p0 p1 : Value) (df : Bool) (u : Option zF) (h : zE) (n : Nat) (k : KO) : zY P hint53 L lp 53 [p0, p1] df u h n k = F53 L lp p0 p1 df u h n k := by kernel_rfl
theorem l53 : zL P 53 = true := by kernel_rfl
noncomputable def eF53 : EntF P 8 := wL zG mixed 53 l53 F53 F53_eq
noncomputable abbrev fr75 (s0 s1 s2 s3 s4 s5 s6 s7 s8 s9 s10 s11 s12 s13 : Value) : Fr := (.nD (.nD (.nD (.nD .lF s7 .lF) s3 (.nD .lF s11 .lF)) s1 (.nD (.nD .lF s9 .lF) s5 (.nD .lF s13 .lF))) s0 (.nD (.nD (.nD .lF s8 .lF) s4 (.nD .lF s12 .lF)) s2 (.nD (.nD .lF s10 .lF) s6 .lF)))
noncomputable def hint75 : yR := fun kind _ i => match kind with
  | 4 => bif Nat.beq i 0 then [.any, (.int .i64), (.int .i64), .any] else []
  | _ => []
noncomputable def F75 (L : Lo) (lp : LP) (p0 p1 p2 p3 : Value) (df : Bool) (u : Option zF) (h : zE) (n : Nat) (k : KO) : Bool :=
 rtI .i64 p1 fun ap1 =>
 rtI .i64 p2 fun ap2 =>
 eAlloc P 127 h n fun h1 n2 v3 =>
 opt (aBuild P 127 [(0, p0), (1, (.int .i64 ap1)), (2, (.int .i64 ap2)), (3, p3)]) fun v4 =>
 xG P 127 v3 v4 h1 n2 fun h5 n6 v7 =>
 zD P L 75 k .ret (fr75 p0 (.int .i64 ap1) (.int .i64 ap2) p3 undef undef undef undef v3 p0 (.int .i64 ap1) (.int .i64 ap2) p3 v4) (W.mk [] u h5 n6)
theorem F75_eq (L : Lo) (lp : LP) (p0 p1 p2 p3 : Value) (df : Bool) (u : Option zF) (h : zE) (n : Nat) (k : KO) : zY P hint75 L lp 75 [p0, p1, p2, p3] df u h n k = F75 L lp p0 p1 p2 p3 df u h n k := by kernel_rfl
theorem l75 : zL P 75 = true := by kernel_rfl
noncomputable def eF75 : EntF P 8 := entF4 zG mixed 75 l75 F75 F75_eq
noncomputable abbrev fr77 (s0 s1 s2 s3 s4 : Value) : Fr := (.nD (.nD (.nD .lF s3 .lF) s1 .lF) s0 (.nD (.nD .lF s4 .lF) s2 .lF))
noncomputable def hint77 : yR := fun kind _ i => match kind with
  | 4 => bif Nat.beq i 0 then [.any] else []
  | _ => []
noncomputable def F77 (L : Lo) (lp : LP) (p0 : Value) (df : Bool) (u : Option zF) (h : zE) (n : Nat) (k : KO) : Bool :=
 eAlloc P 77 h n fun h1 n2 v3 =>
 opt (aBuild P 77 [(0, (.string (ByteArray.mk #[103]))), (1, p0)]) fun v4 =>
 xG P 77 v3 v4 h1 n2 fun h5 n6 v7 =>
 zD P L 77 k .ret (fr77 p0 undef v3 p0 v4) (W.mk [] u h5 n6)
theorem F77_eq (L : Lo) (lp : LP) (p0 : Value) (df : Bool) (u : Option zF) (h : zE) (n : Nat) (k : KO) : zY P hint77 L lp 77 [p0] df u h n k = F77 L lp p0 df u h n k := by kernel_rfl
theorem l77 : zL P 77 = true := by kernel_rfl
noncomputable def eF77 : EntF P 8 := xL zG mixed 77 l77 F77 F77_eq
noncomputable abbrev fr78 (s0 s1 s2 s3 s4 s5 s6 s7 s8 s9 s10 s11 s12 s13 s14 s15 s16 s17 s18 s19 s20 s21 s22 : Value) : Fr := (.nD (.nD (.nD (.nD (.nD .lF s15 .lF) s7 .lF) s3 (.nD (.nD .lF s19 .lF) s11 .lF)) s1 (.nD (.nD (.nD .lF s17 .lF) s9 .lF) s5 (.nD (.nD .lF s21 .lF) s13 .lF))) s0 (.nD (.nD (.nD (.nD .lF s16 .lF) s8 .lF) s4 (.nD (.nD .lF s20 .lF) s12 .lF)) s2 (.nD (.nD (.nD .lF s18 .lF) s10 .lF) s6 (.nD (.nD .lF s22 .lF) s14 .lF))))
noncomputable def hint78 : yR := fun kind _ i => match kind with
  | 0 => bif Nat.beq i 1000003 then [.val, .val, .val, .val, .val, .val, .val, (.int .i64), (.int .i64), .val, .val, .val, .val, .val, .val, .val, .val, .val, .val, .val, .val, .val, .val] else []
  | 1 => bif Nat.beq i 0 then [.val, .val, .val, .val, .val, .val, .val, .val, .val, .val, .val, .val, .val, .val, .val, .val, .val, .val, .val, .val, .val, .val, .val] else bif Nat.beq i 1 then [.val, .val, .val, .val, .val, .val, .val, (.int .i64), (.int .i64), .val, .val, .val, .val, .val, .val, .val, .val, .val, .val, .val, .val, .val, .val] else []
  | 2 => bif Nat.beq i 0 then [.val, .val, .val, .val, .val, .val, .val, (.int .i64), (.int .i64), .val, .val, .val, .val, .val, .val, .val, .val, .val, .val, .val, .val, .val, .val] else []
  | 4 => bif Nat.beq i 0 then [.any] else []
  | _ => []
noncomputable def F78 (L : Lo) (lp : LP) (p0 : Value) (df : Bool) (u : Option zF) (h : zE) (n : Nat) (k : KO) : Bool :=
 opt (zU P .len [23] [p0] h) fun v1 =>
 rtI .i64 v1 fun a2 =>
 lp 1000003 ⟨78, none, df⟩ (fr78 p0 undef (.slice none 0 0) (.slice none 0 0) undef undef p0 (.int .i64 a2) (.int .i64 0) undef undef undef undef undef undef undef undef undef undef undef undef undef undef) (W.mk [] u h n) (endA noK (blkA 0 (fun t3 w4 =>
 zA (zB t3 0) fun s5 =>
 zA (zB t3 1) fun s6 =>
 zA (zB t3 2) fun s7 =>
 zA (zB t3 3) fun s8 =>
 zA (zB t3 4) fun s9 =>
 zA (zB t3 5) fun s10 =>
 zA (zB t3 6) fun s11 =>
 zA (zB t3 7) fun s12 =>
 zA (zB t3 8) fun s13 =>
 zA (zB t3 9) fun s14 =>
 zA (zB t3 10) fun s15 =>
 zA (zB t3 11) fun s16 =>
 zA (zB t3 12) fun s17 =>
 zA (zB t3 13) fun s18 =>
 zA (zB t3 14) fun s19 =>
 zA (zB t3 15) fun s20 =>
 zA (zB t3 16) fun s21 =>
 zA (zB t3 17) fun s22 =>
 zA (zB t3 18) fun s23 =>
 zA (zB t3 19) fun s24 =>
 zA (zB t3 20) fun s25 =>
 zA (zB t3 21) fun s26 =>
 zA (zB t3 22) fun s27 =>
 onW w4 fun d28 u29 h30 n31 =>
 zD P L 78 k .ret (fr78 s5 s6 s8 s8 s9 s10 s11 s12 s13 s14 s15 s16 s17 s18 s19 s20 s21 s22 s23 s24 s25 s26 s8) (W.mk d28 u29 h30 n31)) (zD P L 78 k)))
theorem F78_eq (L : Lo) (lp : LP) (p0 : Value) (df : Bool) (u : Option zF) (h : zE) (n : Nat) (k : KO) : zY P hint78 L lp 78 [p0] df u h n k = F78 L lp p0 df u h n k := by kernel_rfl
noncomputable def B78_1000003 (L : Lo) (lp : LP) (rd : Option Nat) (df : Bool) (t : Fr) (w : W) (ka : KX) : Bool :=
 zA (zB t 0) fun s32 =>
 zA (zB t 1) fun s33 =>
 zA (zB t 2) fun s34 =>
 zA (zB t 3) fun s35 =>
 zA (zB t 4) fun s36 =>
 zA (zB t 5) fun s37 =>
 zA (zB t 6) fun s38 =>
 rtI .i64 (zB t 7) fun s39 =>
 rtI .i64 (zB t 8) fun s40 =>
 zA (zB t 9) fun s41 =>
 zA (zB t 10) fun s42 =>
 zA (zB t 11) fun s43 =>
 zA (zB t 12) fun s44 =>
 zA (zB t 13) fun s45 =>
 zA (zB t 14) fun s46 =>
 zA (zB t 15) fun s47 =>
 zA (zB t 16) fun s48 =>
 zA (zB t 17) fun s49 =>
 zA (zB t 18) fun s50 =>
 zA (zB t 19) fun s51 =>
 zA (zB t 20) fun s52 =>
 zA (zB t 21) fun s53 =>
 zA (zB t 22) fun s54 =>
 onW w fun d55 u56 h57 n58 =>
 fb (wE s40 s39) fun a59 =>
 br a59 (
 blkJ (fun k60 =>
 opt (zQ P 23 s38 (.int .i64 s40)) fun v61 =>
 opt (zP P 9 h57 v61) fun v62 =>
 yH L 77 [(.string (ByteArray.mk #[]))] h57 n58 (fun c66 h67 n68 =>
 ka (.panic c66) (fr78 s32 s33 s34 s35 s36 v62 s38 (.int .i64 s39) (.int .i64 s40) (.bool a59) v61 v62 s35 v62 s46 s47 s48 s49 s50 s51 s52 s53 s54) (W.mk d55 u56 h67 n68)) fun a63 h64 n65 =>
 yH L 77 [(.string (ByteArray.mk #[]))] h64 n65 (fun c72 h73 n74 =>
 ka (.panic c72) (fr78 s32 s33 s34 s35 s36 v62 s38 (.int .i64 s39) (.int .i64 s40) (.bool a59) v61 v62 s35 v62 a63 s47 s48 s49 s50 s51 s52 s53 s54) (W.mk d55 u56 h73 n74)) fun a69 h70 n71 =>
 yH L 77 [(.string (ByteArray.mk #[]))] h70 n71 (fun c78 h79 n80 =>
 ka (.panic c78) (fr78 s32 s33 s34 s35 s36 v62 s38 (.int .i64 s39) (.int .i64 s40) (.bool a59) v61 v62 s35 v62 a63 a69 s48 s49 s50 s51 s52 s53 s54) (W.mk d55 u56 h79 n80)) fun a75 h76 n77 =>
 yC P 78 2 [(0, a69), (1, a75)] h76 n77 fun h81 n82 v83 =>
 opt (aBuild P 80 [(0, v62), (1, a63), (2, v83), (3, (.int .i64 (-1)))]) fun v84 =>
 yC P 31 1 [(0, v84)] h81 n82 fun h85 n86 v87 =>
 eAppend P [31, 31] [s35, v87] h85 n86 fun h88 n89 v90 =>
 k60 (fr78 s32 s33 s34 v90 s36 v62 s38 (.int .i64 s39) (.int .i64 s40) (.bool a59) v61 v62 s35 v62 a63 a69 a75 v83 v84 v87 v90 s53 s54) (W.mk d55 u56 h88 n89)) (fun t91 w92 =>
 zA (zB t91 0) fun s93 =>
 zA (zB t91 1) fun s94 =>
 zA (zB t91 2) fun s95 =>
 zA (zB t91 3) fun s96 =>
 zA (zB t91 4) fun s97 =>
 zA (zB t91 5) fun s98 =>
 zA (zB t91 6) fun s99 =>
 rtI .i64 (zB t91 7) fun s100 =>
 rtI .i64 (zB t91 8) fun s101 =>
 zA (zB t91 9) fun s102 =>
 zA (zB t91 10) fun s103 =>
 zA (zB t91 11) fun s104 =>
 zA (zB t91 12) fun s105 =>
 zA (zB t91 13) fun s106 =>
 zA (zB t91 14) fun s107 =>
 zA (zB t91 15) fun s108 =>
 zA (zB t91 16) fun s109 =>
 zA (zB t91 17) fun s110 =>
 zA (zB t91 18) fun s111 =>
 zA (zB t91 19) fun s112 =>
 zA (zB t91 20) fun s113 =>
 zA (zB t91 21) fun s114 =>
 zA (zB t91 22) fun s115 =>
 onW w92 fun d116 u117 h118 n119 =>
 fi (yK .i64 (wV s101 1)) fun a120 =>
 lp 1000003 ⟨78, rd, df⟩ (fr78 s93 s94 s95 s96 s97 s98 s99 (.int .i64 s100) (.int .i64 a120) s102 s103 s104 s105 s106 s107 s108 s109 s110 s111 s112 s113 (.int .i64 a120) s115) (W.mk d116 u117 h118 n119) ka)) (
 ka (.exit 0) (fr78 s32 s33 s34 s35 s36 s37 s38 (.int .i64 s39) (.int .i64 s40) (.bool a59) s42 s43 s44 s45 s46 s47 s48 s49 s50 s51 s52 s53 s54) (W.mk d55 u56 h57 n58))
theorem B78_1000003_eq (L : Lo) (lp : LP) (rd : Option Nat) (df : Bool) (t : Fr) (w : W) (ka : KX) : wU P hint78 L lp (unL (zJ P 78 1000003)) ⟨78, rd, df⟩ t w ka = B78_1000003 L lp rd df t w ka := by kernel_rfl
theorem l78 : zL P 78 = true := by kernel_rfl
theorem lp78_1000003 : yW (zJ P 78 1000003) = true := by kernel_rfl
noncomputable def eF78 : EntF P 8 := xL zG mixed 78 l78 F78 F78_eq
noncomputable def eL78_1000003 : EntL P 8 := entL zG mixed 78 l78 1000003 lp78_1000003 B78_1000003 B78_1000003_eq
noncomputable abbrev fr86 (s0 s1 s2 s3 s4 s5 s6 s7 s8 s9 s10 s11 s12 s13 s14 : Value) : Fr := (.nD (.nD (.nD (.nD .lF s7 .lF) s3 (.nD .lF s11 .lF)) s1 (.nD (.nD .lF s9 .lF) s5 (.nD .lF s13 .lF))) s0 (.nD (.nD (.nD .lF s8 .lF) s4 (.nD .lF s12 .lF)) s2 (.nD (.nD .lF s10 .lF) s6 (.nD .lF s14 .lF))))
noncomputable def hint86 : yR := fun kind _ i => match kind with
  | 2 => bif Nat.beq i 1 then [.val, .val, .val, .val, .val, .val, .val, .val, .val, .val, .val, .val, .val, .val, .val] else []
  | 4 => bif Nat.beq i 0 then [.any, .any, .any] else []
  | _ => []
noncomputable def F86 (L : Lo) (lp : LP) (p0 p1 p2 : Value) (df : Bool) (u : Option zF) (h : zE) (n : Nat) (k : KO) : Bool :=
 opt (zU P .len [23] [p2] h) fun v1 =>
 rtI .i64 v1 fun a2 =>
 fb (wE 0 a2) fun a3 =>
 brJ a3 (fun k4 =>
 yC P 23 1 [(0, p1)] h n fun h6 n7 v8 =>
 eAppend P [23, 23] [v8, p2] h6 n7 fun h9 n10 v11 =>
 yH L 83 [p0, v11] h9 n10 (fun c15 h16 n17 =>
 zD P L 86 k (.panic c15) (fr86 p0 p1 p2 undef undef undef p2 (.int .i64 a2) (.bool a3) p0 p1 v8 p2 v11 undef) (W.mk [] u h16 n17)) fun a12 h13 n14 =>
 k4 (fr86 p0 p1 p2 undef undef undef p2 (.int .i64 a2) (.bool a3) p0 p1 v8 p2 v11 a12) (W.mk [] u h13 n14)) (fun k5 =>
 k5 (fr86 p0 p1 p2 undef undef undef p2 (.int .i64 a2) (.bool a3) undef undef undef undef undef undef) (W.mk [] u h n)) (fun t18 w19 =>
 zA (zB t18 0) fun s20 =>
 zA (zB t18 1) fun s21 =>
 zA (zB t18 2) fun s22 =>
 zA (zB t18 3) fun s23 =>
 zA (zB t18 4) fun s24 =>
 zA (zB t18 5) fun s25 =>
 zA (zB t18 6) fun s26 =>
 zA (zB t18 7) fun s27 =>
 zA (zB t18 8) fun s28 =>
 zA (zB t18 9) fun s29 =>
 zA (zB t18 10) fun s30 =>
 zA (zB t18 11) fun s31 =>
 zA (zB t18 12) fun s32 =>
 zA (zB t18 13) fun s33 =>
 zA (zB t18 14) fun s34 =>
 onW w19 fun d35 u36 h37 n38 =>
 zD P L 86 k .ret (fr86 s20 s21 s22 s23 s24 s25 s26 s27 s28 s29 s30 s31 s32 s33 s34) (W.mk d35 u36 h37 n38))
theorem F86_eq (L : Lo) (lp : LP) (p0 p1 p2 : Value) (df : Bool) (u : Option zF) (h : zE) (n : Nat) (k : KO) : zY P hint86 L lp 86 [p0, p1, p2] df u h n k = F86 L lp p0 p1 p2 df u h n k := by kernel_rfl
theorem l86 : zL P 86 = true := by kernel_rfl
noncomputable def eF86 : EntF P 8 := entF3 zG mixed 86 l86 F86 F86_eq
noncomputable abbrev fr91 (s0 s1 s2 s3 s4 s5 s6 s7 s8 s9 s10 s11 s12 s13 s14 s15 s16 s17 s18 s19 s20 s21 s22 s23 s24 s25 s26 s27 s28 s29 s30 s31 s32 s33 s34 s35 s36 s37 : Value) : Fr := (.nD (.nD (.nD (.nD (.nD (.nD .lF s31 .lF) s15 .lF) s7 (.nD .lF s23 .lF)) s3 (.nD (.nD (.nD .lF s35 .lF) s19 .lF) s11 (.nD .lF s27 .lF))) s1 (.nD (.nD (.nD (.nD .lF s33 .lF) s17 .lF) s9 (.nD .lF s25 .lF)) s5 (.nD (.nD (.nD .lF s37 .lF) s21 .lF) s13 (.nD .lF s29 .lF)))) s0 (.nD (.nD (.nD (.nD (.nD .lF s32 .lF) s16 .lF) s8 (.nD .lF s24 .lF)) s4 (.nD (.nD (.nD .lF s36 .lF) s20 .lF) s12 (.nD .lF s28 .lF))) s2 (.nD (.nD (.nD (.nD .lF s34 .lF) s18 .lF) s10 (.nD .lF s26 .lF)) s6 (.nD (.nD .lF s22 .lF) s14 (.nD .lF s30 .lF)))))
noncomputable def hint91 : yR := fun kind _ i => match kind with
  | 0 => bif Nat.beq i 1000002 then [.val, .val, .val, .val, .val, (.int .i64), .val, .val, .val, .val, .val, .val, .val, .val, .val, .val, .val, .val, .val, .val, .val, .val, .val, .val, .val, .val, .val, .val, .val, .val, .val, .val, .val, .val, .val, .val, .val, .val] else bif Nat.beq i 1000008 then [.val, .val, .val, .val, .val, (.int .i64), (.int .i64), (.int .i64), .val, .val, .val, .val, .val, .val, .val, .val, .val, .val, .val, .val, .val, .val, .val, .val, .val, .val, .val, .val, .val, .val, .val, .val, .val, .val, .val, .val, .val, .val] else []
  | 1 => bif Nat.beq i 0 then [.val, .val, .val, .val, .val, .val, .val, .val, .val, .val, .val, .val, .val, .val, .val, .val, .val, .val, .val, .val, .val, .val, .val, .val, .val, .val, .val, .val, .val, .val, .val, .val, .val, .val, .val, .val, .val, .val] else bif Nat.beq i 1 then [.val, .val, .val, .val, .val, (.int .i64), .val, .val, .val, .val, .val, .val, .val, .val, .val, .val, .val, .val, .val, .val, .val, .val, .val, .val, .val, .val, .val, .val, .val, .val, .val, .val, .val, .val, .val, .val, .val, .val] else bif Nat.beq i 2 then [.val, .val, .val, .val, .val, (.int .i64), .val, .val, .val, .val, .val, .val, .val, .val, .val, .val, .val, .val, .val, .val, .val, .val, .val, .val, .val, .val, .val, .val, .val, .val, .val, .val, .val, .val, .val, .val, .val, .val] else bif Nat.beq i 3 then [.val, .val, .val, .val, .val, (.int .i64), (.int .i64), (.int .i64), .val, .val, .val, .val, .val, .val, .val, .val, .val, .val, .val, .val, .val, .val, .val, .val, .val, .val, .val, .val, .val, .val, .val, .val, .val, .val, .val, .val, .val, .val] else []
  | 2 => bif Nat.beq i 0 then [.val, .val, .val, .val, .val, (.int .i64), .val, .val, .val, .val, .val, .val, .val, .val, .val, .val, .val, .val, .val, .val, .val, .val, .val, .val, .val, .val, .val, .val, .val, .val, .val, .val, .val, .val, .val, .val, .val, .val] else bif Nat.beq i 6 then [.val, .val, .val, .val, .val, (.int .i64), (.int .i64), .val, .val, .val, .val, .val, .val, .val, .val, .val, .val, .val, .val, .val, .val, .val, .val, .val, .val, .val, .val, .val, .val, .val, .val, .val, .val, .val, .val, .val, .val, .val] else bif Nat.beq i 12 then [.val, .val, .val, .val, .val, (.int .i64), (.int .i64), (.int .i64), .val, .val, .val, .val, .val, .val, .val, .val, .val, .val, .val, .val, .val, .val, .val, .val, .val, .val, .val, .val, .val, .val, .val, .val, .val, .val, .val, .val, .val, .val] else []
  | 4 => bif Nat.beq i 0 then [.any, .any] else []
  | _ => []
noncomputable def F91 (L : Lo) (lp : LP) (p0 p1 : Value) (df : Bool) (u : Option zF) (h : zE) (n : Nat) (k : KO) : Bool :=
 lp 1000002 ⟨91, none, df⟩ (fr91 p0 p1 undef undef (.bool false) (.int .i64 0) undef undef undef undef undef undef undef undef undef undef undef undef undef undef undef undef undef undef undef undef undef undef undef undef undef undef undef undef undef undef undef undef) (W.mk [] u h n) (endA noK (blkA 0 (fun t1 w2 =>
 zA (zB t1 0) fun s3 =>
 zA (zB t1 1) fun s4 =>
 zA (zB t1 2) fun s5 =>
 zA (zB t1 3) fun s6 =>
 zA (zB t1 4) fun s7 =>
 zA (zB t1 5) fun s8 =>
 zA (zB t1 6) fun s9 =>
 zA (zB t1 7) fun s10 =>
 zA (zB t1 8) fun s11 =>
 zA (zB t1 9) fun s12 =>
 zA (zB t1 10) fun s13 =>
 zA (zB t1 11) fun s14 =>
 zA (zB t1 12) fun s15 =>
 zA (zB t1 13) fun s16 =>
 zA (zB t1 14) fun s17 =>
 zA (zB t1 15) fun s18 =>
 zA (zB t1 16) fun s19 =>
 zA (zB t1 17) fun s20 =>
 zA (zB t1 18) fun s21 =>
 zA (zB t1 19) fun s22 =>
 zA (zB t1 20) fun s23 =>
 zA (zB t1 21) fun s24 =>
 zA (zB t1 22) fun s25 =>
 zA (zB t1 23) fun s26 =>
 zA (zB t1 24) fun s27 =>
 zA (zB t1 25) fun s28 =>
 zA (zB t1 26) fun s29 =>
 zA (zB t1 27) fun s30 =>
 zA (zB t1 28) fun s31 =>
 zA (zB t1 29) fun s32 =>
 zA (zB t1 30) fun s33 =>
 zA (zB t1 31) fun s34 =>
 zA (zB t1 32) fun s35 =>
 zA (zB t1 33) fun s36 =>
 zA (zB t1 34) fun s37 =>
 zA (zB t1 35) fun s38 =>
 zA (zB t1 36) fun s39 =>
 zA (zB t1 37) fun s40 =>
 onW w2 fun d41 u42 h43 n44 =>
 zD P L 91 k .ret (fr91 s3 s4 s5 s6 (.bool true) s8 s9 s10 s11 s12 s13 s14 s15 s16 s17 s18 s19 s20 s21 s22 s23 s24 s25 s26 s27 s28 s29 s30 s31 s32 s33 s34 s35 s36 s37 s38 s39 s40) (W.mk d41 u42 h43 n44)) (zD P L 91 k)))
theorem F91_eq (L : Lo) (lp : LP) (p0 p1 : Value) (df : Bool) (u : Option zF) (h : zE) (n : Nat) (k : KO) : zY P hint91 L lp 91 [p0, p1] df u h n k = F91 L lp p0 p1 df u h n k := by kernel_rfl
noncomputable def B91_1000002 (L : Lo) (lp : LP) (rd : Option Nat) (df : Bool) (t : Fr) (w : W) (ka : KX) : Bool :=
 zA (zB t 0) fun s45 =>
 zA (zB t 1) fun s46 =>
 zA (zB t 2) fun s47 =>
 zA (zB t 3) fun s48 =>
 zA (zB t 4) fun s49 =>
 rtI .i64 (zB t 5) fun s50 =>
 zA (zB t 6) fun s51 =>
 zA (zB t 7) fun s52 =>
 zA (zB t 8) fun s53 =>
 zA (zB t 9) fun s54 =>
 zA (zB t 10) fun s55 =>
 zA (zB t 11) fun s56 =>
 zA (zB t 12) fun s57 =>
 zA (zB t 13) fun s58 =>
 zA (zB t 14) fun s59 =>
 zA (zB t 15) fun s60 =>
 zA (zB t 16) fun s61 =>
 zA (zB t 17) fun s62 =>
 zA (zB t 18) fun s63 =>
 zA (zB t 19) fun s64 =>
 zA (zB t 20) fun s65 =>
 zA (zB t 21) fun s66 =>
 zA (zB t 22) fun s67 =>
 zA (zB t 23) fun s68 =>
 zA (zB t 24) fun s69 =>
 zA (zB t 25) fun s70 =>
 zA (zB t 26) fun s71 =>
 zA (zB t 27) fun s72 =>
 zA (zB t 28) fun s73 =>
 zA (zB t 29) fun s74 =>
 zA (zB t 30) fun s75 =>
 zA (zB t 31) fun s76 =>
 zA (zB t 32) fun s77 =>
 zA (zB t 33) fun s78 =>
 zA (zB t 34) fun s79 =>
 zA (zB t 35) fun s80 =>
 zA (zB t 36) fun s81 =>
 zA (zB t 37) fun s82 =>
 onW w fun d83 u84 h85 n86 =>
 opt (zU P .len [23] [s46] h85) fun v87 =>
 rtI .i64 v87 fun a88 =>
 fb (wE s50 a88) fun a89 =>
 br a89 (
 blkJ (fun k90 =>
 opt (zQ P 23 s46 (.int .i64 s50)) fun v91 =>
 opt (zP P 9 h85 v91) fun v92 =>
 callI L .i64 94 [s45, v92] h85 n86 (fun c96 h97 n98 =>
 ka (.panic c96) (fr91 s45 s46 s47 s48 s49 (.int .i64 s50) s51 s52 s53 (.int .i64 s50) s46 (.int .i64 a88) (.bool a89) s58 s59 s45 s46 (.int .i64 s50) v91 v92 s65 s66 s67 s68 s69 s70 s71 s72 s73 s74 s75 s76 s77 s78 s79 s80 s81 s82) (W.mk d83 u84 h97 n98)) fun a93 h94 n95 =>
 fb (wE a93 0) fun a99 =>
 br a99 (
 ka .ret (fr91 s45 s46 s47 s48 (.bool false) (.int .i64 s50) (.int .i64 a93) s52 s53 (.int .i64 s50) s46 (.int .i64 a88) (.bool a89) s58 s59 s45 s46 (.int .i64 s50) v91 v92 (.int .i64 a93) (.int .i64 a93) (.bool a99) s68 s69 s70 s71 s72 s73 s74 s75 s76 s77 s78 s79 s80 s81 s82) (W.mk d83 u84 h94 n95)) (
 lp 1000008 ⟨91, rd, df⟩ (fr91 s45 s46 s47 s48 s49 (.int .i64 s50) (.int .i64 a93) (.int .i64 0) s53 (.int .i64 s50) s46 (.int .i64 a88) (.bool a89) s58 s59 s45 s46 (.int .i64 s50) v91 v92 (.int .i64 a93) (.int .i64 a93) (.bool a99) s68 s69 s70 s71 s72 s73 s74 s75 s76 s77 s78 s79 s80 s81 s82) (W.mk d83 u84 h94 n95) (endA noK (blkA 2 (fun t100 w101 =>
 zA (zB t100 0) fun s102 =>
 zA (zB t100 1) fun s103 =>
 zA (zB t100 2) fun s104 =>
 zA (zB t100 3) fun s105 =>
 zA (zB t100 4) fun s106 =>
 rtI .i64 (zB t100 5) fun s107 =>
 zA (zB t100 6) fun s108 =>
 zA (zB t100 7) fun s109 =>
 zA (zB t100 8) fun s110 =>
 zA (zB t100 9) fun s111 =>
 zA (zB t100 10) fun s112 =>
 zA (zB t100 11) fun s113 =>
 zA (zB t100 12) fun s114 =>
 zA (zB t100 13) fun s115 =>
 zA (zB t100 14) fun s116 =>
 zA (zB t100 15) fun s117 =>
 zA (zB t100 16) fun s118 =>
 zA (zB t100 17) fun s119 =>
 zA (zB t100 18) fun s120 =>
 zA (zB t100 19) fun s121 =>
 zA (zB t100 20) fun s122 =>
 zA (zB t100 21) fun s123 =>
 zA (zB t100 22) fun s124 =>
 zA (zB t100 23) fun s125 =>
 zA (zB t100 24) fun s126 =>
 zA (zB t100 25) fun s127 =>
 zA (zB t100 26) fun s128 =>
 zA (zB t100 27) fun s129 =>
 zA (zB t100 28) fun s130 =>
 zA (zB t100 29) fun s131 =>
 zA (zB t100 30) fun s132 =>
 zA (zB t100 31) fun s133 =>
 zA (zB t100 32) fun s134 =>
 zA (zB t100 33) fun s135 =>
 zA (zB t100 34) fun s136 =>
 zA (zB t100 35) fun s137 =>
 zA (zB t100 36) fun s138 =>
 zA (zB t100 37) fun s139 =>
 onW w101 fun d140 u141 h142 n143 =>
 k90 (fr91 s102 s103 s104 s105 s106 (.int .i64 s107) s108 s109 s110 s111 s112 s113 s114 s115 s116 s117 s118 s119 s120 s121 s122 s123 s124 s125 s126 s127 s128 s129 s130 s131 s132 s133 s134 s135 s136 s137 s138 s139) (W.mk d140 u141 h142 n143)) (blkA 1 k90 ka))))) (fun t144 w145 =>
 zA (zB t144 0) fun s146 =>
 zA (zB t144 1) fun s147 =>
 zA (zB t144 2) fun s148 =>
 zA (zB t144 3) fun s149 =>
 zA (zB t144 4) fun s150 =>
 rtI .i64 (zB t144 5) fun s151 =>
 zA (zB t144 6) fun s152 =>
 zA (zB t144 7) fun s153 =>
 zA (zB t144 8) fun s154 =>
 zA (zB t144 9) fun s155 =>
 zA (zB t144 10) fun s156 =>
 zA (zB t144 11) fun s157 =>
 zA (zB t144 12) fun s158 =>
 zA (zB t144 13) fun s159 =>
 zA (zB t144 14) fun s160 =>
 zA (zB t144 15) fun s161 =>
 zA (zB t144 16) fun s162 =>
 zA (zB t144 17) fun s163 =>
 zA (zB t144 18) fun s164 =>
 zA (zB t144 19) fun s165 =>
 zA (zB t144 20) fun s166 =>
 zA (zB t144 21) fun s167 =>
 zA (zB t144 22) fun s168 =>
 zA (zB t144 23) fun s169 =>
 zA (zB t144 24) fun s170 =>
 zA (zB t144 25) fun s171 =>
 zA (zB t144 26) fun s172 =>
 zA (zB t144 27) fun s173 =>
 zA (zB t144 28) fun s174 =>
 zA (zB t144 29) fun s175 =>
 zA (zB t144 30) fun s176 =>
 zA (zB t144 31) fun s177 =>
 zA (zB t144 32) fun s178 =>
 zA (zB t144 33) fun s179 =>
 zA (zB t144 34) fun s180 =>
 zA (zB t144 35) fun s181 =>
 zA (zB t144 36) fun s182 =>
 zA (zB t144 37) fun s183 =>
 onW w145 fun d184 u185 h186 n187 =>
 fi (yK .i64 (wV s151 1)) fun a188 =>
 lp 1000002 ⟨91, rd, df⟩ (fr91 s146 s147 s148 s149 s150 (.int .i64 a188) s152 s153 s154 s155 s156 s157 s158 (.int .i64 s151) (.int .i64 a188) s161 s162 s163 s164 s165 s166 s167 s168 s169 s170 s171 s172 s173 s174 s175 s176 s177 s178 s179 s180 s181 s182 s183) (W.mk d184 u185 h186 n187) ka)) (
 ka (.exit 0) (fr91 s45 s46 s47 s48 s49 (.int .i64 s50) s51 s52 s53 (.int .i64 s50) s46 (.int .i64 a88) (.bool a89) s58 s59 s60 s61 s62 s63 s64 s65 s66 s67 s68 s69 s70 s71 s72 s73 s74 s75 s76 s77 s78 s79 s80 s81 s82) (W.mk d83 u84 h85 n86))
theorem B91_1000002_eq (L : Lo) (lp : LP) (rd : Option Nat) (df : Bool) (t : Fr) (w : W) (ka : KX) : wU P hint91 L lp (unL (zJ P 91 1000002)) ⟨91, rd, df⟩ t w ka = B91_1000002 L lp rd df t w ka := by kernel_rfl
noncomputable def B91_1000008 (L : Lo) (lp : LP) (rd : Option Nat) (df : Bool) (t : Fr) (w : W) (ka : KX) : Bool :=
 zA (zB t 0) fun s189 =>
 zA (zB t 1) fun s190 =>
 zA (zB t 2) fun s191 =>
 zA (zB t 3) fun s192 =>
 zA (zB t 4) fun s193 =>
 rtI .i64 (zB t 5) fun s194 =>
 rtI .i64 (zB t 6) fun s195 =>
 rtI .i64 (zB t 7) fun s196 =>
 zA (zB t 8) fun s197 =>
 zA (zB t 9) fun s198 =>
 zA (zB t 10) fun s199 =>
 zA (zB t 11) fun s200 =>
 zA (zB t 12) fun s201 =>
 zA (zB t 13) fun s202 =>
 zA (zB t 14) fun s203 =>
 zA (zB t 15) fun s204 =>
 zA (zB t 16) fun s205 =>
 zA (zB t 17) fun s206 =>
 zA (zB t 18) fun s207 =>
 zA (zB t 19) fun s208 =>
 zA (zB t 20) fun s209 =>
 zA (zB t 21) fun s210 =>
 zA (zB t 22) fun s211 =>
 zA (zB t 23) fun s212 =>
 zA (zB t 24) fun s213 =>
 zA (zB t 25) fun s214 =>
 zA (zB t 26) fun s215 =>
 zA (zB t 27) fun s216 =>
 zA (zB t 28) fun s217 =>
 zA (zB t 29) fun s218 =>
 zA (zB t 30) fun s219 =>
 zA (zB t 31) fun s220 =>
 zA (zB t 32) fun s221 =>
 zA (zB t 33) fun s222 =>
 zA (zB t 34) fun s223 =>
 zA (zB t 35) fun s224 =>
 zA (zB t 36) fun s225 =>
 zA (zB t 37) fun s226 =>
 onW w fun d227 u228 h229 n230 =>
 fb (wE s196 s194) fun a231 =>
 br a231 (
 blkJ (fun k232 =>
 opt (zQ P 23 s190 (.int .i64 s196)) fun v233 =>
 opt (zP P 9 h229 v233) fun v234 =>
 callI L .i64 94 [s189, v234] h229 n230 (fun c238 h239 n240 =>
 ka (.panic c238) (fr91 s189 s190 s191 s192 s193 (.int .i64 s194) (.int .i64 s195) (.int .i64 s196) s197 s198 s199 s200 s201 s202 s203 s204 s205 s206 s207 s208 s209 s210 s211 (.int .i64 s196) (.int .i64 s194) (.bool a231) s215 s216 s189 (.int .i64 s195) s189 s190 (.int .i64 s196) v233 v234 s224 s225 s226) (W.mk d227 u228 h239 n240)) fun a235 h236 n237 =>
 xR L 93 [s189, (.int .i64 s195), (.int .i64 a235)] h236 n237 (fun c244 h245 n246 =>
 ka (.panic c244) (fr91 s189 s190 s191 s192 s193 (.int .i64 s194) (.int .i64 s195) (.int .i64 s196) s197 s198 s199 s200 s201 s202 s203 s204 s205 s206 s207 s208 s209 s210 s211 (.int .i64 s196) (.int .i64 s194) (.bool a231) s215 s216 s189 (.int .i64 s195) s189 s190 (.int .i64 s196) v233 v234 (.int .i64 a235) s225 s226) (W.mk d227 u228 h245 n246)) fun a241 h242 n243 =>
 br a241 (
 ka .ret (fr91 s189 s190 s191 s192 (.bool false) (.int .i64 s194) (.int .i64 s195) (.int .i64 s196) (.bool a241) s198 s199 s200 s201 s202 s203 s204 s205 s206 s207 s208 s209 s210 s211 (.int .i64 s196) (.int .i64 s194) (.bool a231) s215 s216 s189 (.int .i64 s195) s189 s190 (.int .i64 s196) v233 v234 (.int .i64 a235) (.bool a241) (.bool a241)) (W.mk d227 u228 h242 n243)) (
 k232 (fr91 s189 s190 s191 s192 s193 (.int .i64 s194) (.int .i64 s195) (.int .i64 s196) (.bool a241) s198 s199 s200 s201 s202 s203 s204 s205 s206 s207 s208 s209 s210 s211 (.int .i64 s196) (.int .i64 s194) (.bool a231) s215 s216 s189 (.int .i64 s195) s189 s190 (.int .i64 s196) v233 v234 (.int .i64 a235) (.bool a241) (.bool a241)) (W.mk d227 u228 h242 n243))) (fun t247 w248 =>
 zA (zB t247 0) fun s249 =>
 zA (zB t247 1) fun s250 =>
 zA (zB t247 2) fun s251 =>
 zA (zB t247 3) fun s252 =>
 zA (zB t247 4) fun s253 =>
 rtI .i64 (zB t247 5) fun s254 =>
 rtI .i64 (zB t247 6) fun s255 =>
 rtI .i64 (zB t247 7) fun s256 =>
 zA (zB t247 8) fun s257 =>
 zA (zB t247 9) fun s258 =>
 zA (zB t247 10) fun s259 =>
 zA (zB t247 11) fun s260 =>
 zA (zB t247 12) fun s261 =>
 zA (zB t247 13) fun s262 =>
 zA (zB t247 14) fun s263 =>
 zA (zB t247 15) fun s264 =>
 zA (zB t247 16) fun s265 =>
 zA (zB t247 17) fun s266 =>
 zA (zB t247 18) fun s267 =>
 zA (zB t247 19) fun s268 =>
 zA (zB t247 20) fun s269 =>
 zA (zB t247 21) fun s270 =>
 zA (zB t247 22) fun s271 =>
 zA (zB t247 23) fun s272 =>
 zA (zB t247 24) fun s273 =>
 zA (zB t247 25) fun s274 =>
 zA (zB t247 26) fun s275 =>
 zA (zB t247 27) fun s276 =>
 zA (zB t247 28) fun s277 =>
 zA (zB t247 29) fun s278 =>
 zA (zB t247 30) fun s279 =>
 zA (zB t247 31) fun s280 =>
 zA (zB t247 32) fun s281 =>
 zA (zB t247 33) fun s282 =>
 zA (zB t247 34) fun s283 =>
 zA (zB t247 35) fun s284 =>
 zA (zB t247 36) fun s285 =>
 zA (zB t247 37) fun s286 =>
 onW w248 fun d287 u288 h289 n290 =>
 fi (yK .i64 (wV s256 1)) fun a291 =>
 lp 1000008 ⟨91, rd, df⟩ (fr91 s249 s250 s251 s252 s253 (.int .i64 s254) (.int .i64 s255) (.int .i64 a291) s257 s258 s259 s260 s261 s262 s263 s264 s265 s266 s267 s268 s269 s270 s271 s272 s273 s274 (.int .i64 s256) (.int .i64 a291) s277 s278 s279 s280 s281 s282 s283 s284 s285 s286) (W.mk d287 u288 h289 n290) ka)) (
 ka (.exit 2) (fr91 s189 s190 s191 s192 s193 (.int .i64 s194) (.int .i64 s195) (.int .i64 s196) s197 s198 s199 s200 s201 s202 s203 s204 s205 s206 s207 s208 s209 s210 s211 (.int .i64 s196) (.int .i64 s194) (.bool a231) s215 s216 s217 s218 s219 s220 s221 s222 s223 s224 s225 s226) (W.mk d227 u228 h229 n230))
theorem B91_1000008_eq (L : Lo) (lp : LP) (rd : Option Nat) (df : Bool) (t : Fr) (w : W) (ka : KX) : wU P hint91 L lp (unL (zJ P 91 1000008)) ⟨91, rd, df⟩ t w ka = B91_1000008 L lp rd df t w ka := by kernel_rfl
theorem l91 : zL P 91 = true := by kernel_rfl
theorem lp91_1000002 : yW (zJ P 91 1000002) = true := by kernel_rfl
theorem lp91_1000008 : yW (zJ P 91 1000008) = true := by kernel_rfl
noncomputable def eF91 : EntF P 8 := wL zG mixed 91 l91 F91 F91_eq
noncomputable def eL91_1000002 : EntL P 8 := entL zG mixed 91 l91 1000002 lp91_1000002 B91_1000002 B91_1000002_eq
noncomputable def eL91_1000008 : EntL P 8 := entL zG mixed 91 l91 1000008 lp91_1000008 B91_1000008 B91_1000008_eq
noncomputable abbrev fr140 (s0 s1 s2 s3 s4 s5 s6 s7 s8 s9 s10 s11 s12 s13 s14 s15 s16 s17 s18 s19 s20 s21 s22 s23 s24 s25 s26 s27 : Value) : Fr := (.nD (.nD (.nD (.nD (.nD .lF s15 .lF) s7 (.nD .lF s23 .lF)) s3 (.nD (.nD .lF s19 .lF) s11 (.nD .lF s27 .lF))) s1 (.nD (.nD (.nD .lF s17 .lF) s9 (.nD .lF s25 .lF)) s5 (.nD (.nD .lF s21 .lF) s13 .lF))) s0 (.nD (.nD (.nD (.nD .lF s16 .lF) s8 (.nD .lF s24 .lF)) s4 (.nD (.nD .lF s20 .lF) s12 .lF)) s2 (.nD (.nD (.nD .lF s18 .lF) s10 (.nD .lF s26 .lF)) s6 (.nD (.nD .lF s22 .lF) s14 .lF))))
noncomputable def hint140 : yR := fun kind _ i => match kind with
  | 2 => bif Nat.beq i 4 then [.val, .val, .val, .val, .val, .val, .val, .val, .val, .val, .val, .val, .val, .val, .val, .val, .val, .val, .val, .val, .val, .val, .val, .val, .val, .val, .val, .val] else []
  | 4 => bif Nat.beq i 0 then [.any] else []
  | _ => []
noncomputable def F140 (L : Lo) (lp : LP) (p0 : Value) (df : Bool) (u : Option zF) (h : zE) (n : Nat) (k : KO) : Bool :=
 opt (aBuild P 210 []) fun v1 =>
 eBox 210 v1 h n fun h2 n3 v4 =>
 yH L 169 [v4, p0, (.int .i64 1), (.int .i64 0), (.int .i64 0), (.int .i64 0)] h2 n3 (fun c8 h9 n10 =>
 zD P L 140 k (.panic c8) (fr140 p0 undef (.slice none 0 0) (.slice none 0 0) (.int .i64 0) v4 v1 v4 v4 p0 undef undef undef undef undef undef undef undef undef undef undef undef undef undef undef undef undef undef) (W.mk [] u h9 n10)) fun a5 h6 n7 =>
 opt (wZ v4) fun v11 =>
 opt (zC P 210 2 v11) fun v12 =>
 opt (zP P 3 h6 v12) fun v13 =>
 rtI .i64 v13 fun a14 =>
 fb (ineB a14 0) fun a15 =>
 br a15 (
 opt (wZ v4) fun v16 =>
 opt (zC P 210 2 v16) fun v17 =>
 opt (zP P 3 h6 v17) fun v18 =>
 rtI .i64 v18 fun a19 =>
 gt (lks [(W.mk [] u h6 n7)] []) (
 zD P L 140 k .ret (fr140 p0 undef (.slice none 0 0) (.slice none 0 0) (.int .i64 a19) v4 v1 v4 v4 p0 a5 v4 v11 v12 (.int .i64 a14) (.bool a15) v4 v16 v17 (.int .i64 a19) undef undef undef undef undef undef undef undef) (W.mk [] u h6 n7))) (
 opt (wZ v4) fun v20 =>
 opt (zC P 210 0 v20) fun v21 =>
 opt (zP P 23 h6 v21) fun v22 =>
 opt (wZ v4) fun v23 =>
 opt (zC P 210 1 v23) fun v24 =>
 opt (zP P 146 h6 v24) fun v25 =>
 gt (lks [(W.mk [] u h6 n7)] []) (
 zD P L 140 k .ret (fr140 p0 undef v22 v25 (.int .i64 0) v4 v1 v4 v4 p0 a5 v4 v11 v12 (.int .i64 a14) (.bool a15) undef undef undef undef v4 v20 v21 v22 v4 v23 v24 v25) (W.mk [] u h6 n7)))
theorem F140_eq (L : Lo) (lp : LP) (p0 : Value) (df : Bool) (u : Option zF) (h : zE) (n : Nat) (k : KO) : zY P hint140 L lp 140 [p0] df u h n k = F140 L lp p0 df u h n k := by kernel_rfl
theorem l140 : zL P 140 = true := by kernel_rfl
noncomputable def eF140 : EntF P 8 := xL zG mixed 140 l140 F140 F140_eq
noncomputable abbrev fr144 (s0 s1 s2 s3 s4 s5 s6 s7 s8 s9 s10 s11 s12 s13 s14 s15 s16 s17 s18 : Value) : Fr := (.nD (.nD (.nD (.nD (.nD .lF s15 .lF) s7 .lF) s3 (.nD .lF s11 .lF)) s1 (.nD (.nD (.nD .lF s17 .lF) s9 .lF) s5 (.nD .lF s13 .lF))) s0 (.nD (.nD (.nD (.nD .lF s16 .lF) s8 .lF) s4 (.nD .lF s12 .lF)) s2 (.nD (.nD (.nD .lF s18 .lF) s10 .lF) s6 (.nD .lF s14 .lF))))
noncomputable def hint144 : yR := fun kind _ i => match kind with
  | 0 => bif Nat.beq i 1000002 then [.val, .val, .val, .val, .val, (.int .i64), .val, .val, .val, .val, .val, .val, .val, .val, .val, .val, .val, .val, .val] else []
  | 1 => bif Nat.beq i 0 then [.val, .val, .val, .val, .val, .val, .val, .val, .val, .val, .val, .val, .val, .val, .val, .val, .val, .val, .val] else bif Nat.beq i 1 then [.val, .val, .val, .val, .val, (.int .i64), .val, .val, .val, .val, .val, .val, .val, .val, .val, .val, .val, .val, .val] else []
  | 2 => bif Nat.beq i 0 then [.val, .val, .val, .val, .val, (.int .i64), .val, .val, .val, .val, .val, .val, .val, .val, .val, .val, .val, .val, .val] else bif Nat.beq i 5 then [.val, .val, .val, .val, .val, (.int .i64), .val, .val, .val, .val, .val, .val, .val, .val, .val, .val, .val, .val, .val] else []
  | 4 => bif Nat.beq i 0 then [.any, .any] else []
  | _ => []
noncomputable def F144 (L : Lo) (lp : LP) (p0 p1 : Value) (df : Bool) (u : Option zF) (h : zE) (n : Nat) (k : KO) : Bool :=
 lp 1000002 ⟨144, none, df⟩ (fr144 p0 p1 undef undef (.int .i64 0) (.int .i64 0) undef undef undef undef undef undef undef undef undef undef undef undef undef) (W.mk [] u h n) (endA noK (blkA 0 (fun t1 w2 =>
 zA (zB t1 0) fun s3 =>
 zA (zB t1 1) fun s4 =>
 zA (zB t1 2) fun s5 =>
 zA (zB t1 3) fun s6 =>
 zA (zB t1 4) fun s7 =>
 zA (zB t1 5) fun s8 =>
 zA (zB t1 6) fun s9 =>
 zA (zB t1 7) fun s10 =>
 zA (zB t1 8) fun s11 =>
 zA (zB t1 9) fun s12 =>
 zA (zB t1 10) fun s13 =>
 zA (zB t1 11) fun s14 =>
 zA (zB t1 12) fun s15 =>
 zA (zB t1 13) fun s16 =>
 zA (zB t1 14) fun s17 =>
 zA (zB t1 15) fun s18 =>
 zA (zB t1 16) fun s19 =>
 zA (zB t1 17) fun s20 =>
 zA (zB t1 18) fun s21 =>
 onW w2 fun d22 u23 h24 n25 =>
 zD P L 144 k .ret (fr144 s3 s4 s5 s6 (.int .i64 (-1)) s8 s9 s10 s11 s12 s13 s14 s15 s16 s17 s18 s19 s20 s21) (W.mk d22 u23 h24 n25)) (zD P L 144 k)))
theorem F144_eq (L : Lo) (lp : LP) (p0 p1 : Value) (df : Bool) (u : Option zF) (h : zE) (n : Nat) (k : KO) : zY P hint144 L lp 144 [p0, p1] df u h n k = F144 L lp p0 p1 df u h n k := by kernel_rfl
noncomputable def B144_1000002 (L : Lo) (lp : LP) (rd : Option Nat) (df : Bool) (t : Fr) (w : W) (ka : KX) : Bool :=
 zA (zB t 0) fun s26 =>
 zA (zB t 1) fun s27 =>
 zA (zB t 2) fun s28 =>
 zA (zB t 3) fun s29 =>
 zA (zB t 4) fun s30 =>
 rtI .i64 (zB t 5) fun s31 =>
 zA (zB t 6) fun s32 =>
 zA (zB t 7) fun s33 =>
 zA (zB t 8) fun s34 =>
 zA (zB t 9) fun s35 =>
 zA (zB t 10) fun s36 =>
 zA (zB t 11) fun s37 =>
 zA (zB t 12) fun s38 =>
 zA (zB t 13) fun s39 =>
 zA (zB t 14) fun s40 =>
 zA (zB t 15) fun s41 =>
 zA (zB t 16) fun s42 =>
 zA (zB t 17) fun s43 =>
 zA (zB t 18) fun s44 =>
 onW w fun d45 u46 h47 n48 =>
 opt (zU P .len [23] [s26] h47) fun v49 =>
 rtI .i64 v49 fun a50 =>
 fb (wE s31 a50) fun a51 =>
 br a51 (
 blkJ (fun k52 =>
 opt (zQ P 23 s26 (.int .i64 s31)) fun v53 =>
 opt (zP P 9 h47 v53) fun v54 =>
 zK yO P .eql 9 false v54 s27 fun a55 =>
 br a55 (
 ka .ret (fr144 s26 s27 s28 s29 (.int .i64 s31) (.int .i64 s31) (.int .i64 s31) s26 (.int .i64 a50) (.bool a51) s36 s37 s26 (.int .i64 s31) v53 v54 s27 (.bool a55) (.int .i64 s31)) (W.mk d45 u46 h47 n48)) (
 k52 (fr144 s26 s27 s28 s29 s30 (.int .i64 s31) (.int .i64 s31) s26 (.int .i64 a50) (.bool a51) s36 s37 s26 (.int .i64 s31) v53 v54 s27 (.bool a55) s44) (W.mk d45 u46 h47 n48))) (fun t56 w57 =>
 zA (zB t56 0) fun s58 =>
 zA (zB t56 1) fun s59 =>
 zA (zB t56 2) fun s60 =>
 zA (zB t56 3) fun s61 =>
 zA (zB t56 4) fun s62 =>
 rtI .i64 (zB t56 5) fun s63 =>
 zA (zB t56 6) fun s64 =>
 zA (zB t56 7) fun s65 =>
 zA (zB t56 8) fun s66 =>
 zA (zB t56 9) fun s67 =>
 zA (zB t56 10) fun s68 =>
 zA (zB t56 11) fun s69 =>
 zA (zB t56 12) fun s70 =>
 zA (zB t56 13) fun s71 =>
 zA (zB t56 14) fun s72 =>
 zA (zB t56 15) fun s73 =>
 zA (zB t56 16) fun s74 =>
 zA (zB t56 17) fun s75 =>
 zA (zB t56 18) fun s76 =>
 onW w57 fun d77 u78 h79 n80 =>
 fi (yK .i64 (wV s63 1)) fun a81 =>
 lp 1000002 ⟨144, rd, df⟩ (fr144 s58 s59 s60 s61 s62 (.int .i64 a81) s64 s65 s66 s67 (.int .i64 s63) (.int .i64 a81) s70 s71 s72 s73 s74 s75 s76) (W.mk d77 u78 h79 n80) ka)) (
 ka (.exit 0) (fr144 s26 s27 s28 s29 s30 (.int .i64 s31) (.int .i64 s31) s26 (.int .i64 a50) (.bool a51) s36 s37 s38 s39 s40 s41 s42 s43 s44) (W.mk d45 u46 h47 n48))
theorem B144_1000002_eq (L : Lo) (lp : LP) (rd : Option Nat) (df : Bool) (t : Fr) (w : W) (ka : KX) : wU P hint144 L lp (unL (zJ P 144 1000002)) ⟨144, rd, df⟩ t w ka = B144_1000002 L lp rd df t w ka := by kernel_rfl
theorem l144 : zL P 144 = true := by kernel_rfl
theorem lp144_1000002 : yW (zJ P 144 1000002) = true := by kernel_rfl
noncomputable def eF144 : EntF P 8 := wL zG mixed 144 l144 F144 F144_eq
noncomputable def eL144_1000002 : EntL P 8 := entL zG mixed 144 l144 1000002 lp144_1000002 B144_1000002 B144_1000002_eq
noncomputable abbrev fr149 (s0 s1 s2 s3 s4 s5 s6 s7 s8 s9 s10 s11 s12 s13 s14 s15 s16 s17 s18 s19 s20 s21 s22 s23 s24 s25 s26 : Value) : Fr := (.nD (.nD (.nD (.nD (.nD .lF s15 .lF) s7 (.nD .lF s23 .lF)) s3 (.nD (.nD .lF s19 .lF) s11 .lF)) s1 (.nD (.nD (.nD .lF s17 .lF) s9 (.nD .lF s25 .lF)) s5 (.nD (.nD .lF s21 .lF) s13 .lF))) s0 (.nD (.nD (.nD (.nD .lF s16 .lF) s8 (.nD .lF s24 .lF)) s4 (.nD (.nD .lF s20 .lF) s12 .lF)) s2 (.nD (.nD (.nD .lF s18 .lF) s10 (.nD .lF s26 .lF)) s6 (.nD (.nD .lF s22 .lF) s14 .lF))))
noncomputable def hint149 : yR := fun kind _ i => match kind with
  | 0 => bif Nat.beq i 1000003 then [.val, .val, (.int .i64), .val, .val, .val, .val, .val, (.int .i64), .val, .val, .val, .val, .val, .val, .val, .val, .val, .val, .val, .val, .val, .val, .val, .val, .val, .val] else []
  | 1 => bif Nat.beq i 0 then [.val, .val, .val, .val, .val, .val, .val, .val, .val, .val, .val, .val, .val, .val, .val, .val, .val, .val, .val, .val, .val, .val, .val, .val, .val, .val, .val] else bif Nat.beq i 1 then [.val, .val, (.int .i64), .val, .val, .val, .val, .val, (.int .i64), .val, .val, .val, .val, .val, .val, .val, .val, .val, .val, .val, .val, .val, .val, .val, .val, .val, .val] else []
  | 2 => bif Nat.beq i 0 then [.val, .val, (.int .i64), .val, .val, .val, .val, .val, (.int .i64), .val, .val, .val, .val, .val, .val, .val, .val, .val, .val, .val, .val, .val, .val, .val, .val, .val, .val] else bif Nat.beq i 7 then [.val, .val, (.int .i64), .val, .val, .val, .val, .val, (.int .i64), .val, .val, .val, .val, .val, .val, .val, .val, .val, .val, .val, .val, .val, .val, .val, .val, .val, .val] else []
  | 4 => bif Nat.beq i 0 then [.any, (.int .i64), (.int .i64)] else []
  | _ => []
noncomputable def F149 (L : Lo) (lp : LP) (p0 p1 p2 : Value) (df : Bool) (u : Option zF) (h : zE) (n : Nat) (k : KO) : Bool :=
 rtI .i64 p1 fun ap1 =>
 rtI .i64 p2 fun ap2 =>
 yH L 176 [p0, (.int .i64 ap1)] h n (fun c4 h5 n6 =>
 zD P L 149 k (.panic c4) (fr149 p0 (.int .i64 ap1) (.int .i64 ap2) undef undef undef (.bool false) undef undef undef p0 (.int .i64 ap1) undef undef undef undef undef undef undef undef undef undef undef undef undef undef undef) (W.mk [] u h5 n6)) fun a1 h2 n3 =>
 lp 1000003 ⟨149, none, df⟩ (fr149 p0 (.int .i64 ap1) (.int .i64 ap2) undef undef undef (.bool false) a1 (.int .i64 0) undef p0 (.int .i64 ap1) a1 undef undef undef undef undef undef undef undef undef undef undef undef undef undef) (W.mk [] u h2 n3) (endA noK (blkA 0 (fun t7 w8 =>
 zA (zB t7 0) fun s9 =>
 zA (zB t7 1) fun s10 =>
 zA (zB t7 2) fun s11 =>
 zA (zB t7 3) fun s12 =>
 zA (zB t7 4) fun s13 =>
 zA (zB t7 5) fun s14 =>
 zA (zB t7 6) fun s15 =>
 zA (zB t7 7) fun s16 =>
 zA (zB t7 8) fun s17 =>
 zA (zB t7 9) fun s18 =>
 zA (zB t7 10) fun s19 =>
 zA (zB t7 11) fun s20 =>
 zA (zB t7 12) fun s21 =>
 zA (zB t7 13) fun s22 =>
 zA (zB t7 14) fun s23 =>
 zA (zB t7 15) fun s24 =>
 zA (zB t7 16) fun s25 =>
 zA (zB t7 17) fun s26 =>
 zA (zB t7 18) fun s27 =>
 zA (zB t7 19) fun s28 =>
 zA (zB t7 20) fun s29 =>
 zA (zB t7 21) fun s30 =>
 zA (zB t7 22) fun s31 =>
 zA (zB t7 23) fun s32 =>
 zA (zB t7 24) fun s33 =>
 zA (zB t7 25) fun s34 =>
 zA (zB t7 26) fun s35 =>
 onW w8 fun d36 u37 h38 n39 =>
 zD P L 149 k .ret (fr149 s9 s10 s11 s12 s13 s14 (.bool true) s16 s17 s18 s19 s20 s21 s22 s23 s24 s25 s26 s27 s28 s29 s30 s31 s32 s33 s34 s35) (W.mk d36 u37 h38 n39)) (zD P L 149 k)))
theorem F149_eq (L : Lo) (lp : LP) (p0 p1 p2 : Value) (df : Bool) (u : Option zF) (h : zE) (n : Nat) (k : KO) : zY P hint149 L lp 149 [p0, p1, p2] df u h n k = F149 L lp p0 p1 p2 df u h n k := by kernel_rfl
noncomputable def B149_1000003 (L : Lo) (lp : LP) (rd : Option Nat) (df : Bool) (t : Fr) (w : W) (ka : KX) : Bool :=
 zA (zB t 0) fun s40 =>
 zA (zB t 1) fun s41 =>
 rtI .i64 (zB t 2) fun s42 =>
 zA (zB t 3) fun s43 =>
 zA (zB t 4) fun s44 =>
 zA (zB t 5) fun s45 =>
 zA (zB t 6) fun s46 =>
 zA (zB t 7) fun s47 =>
 rtI .i64 (zB t 8) fun s48 =>
 zA (zB t 9) fun s49 =>
 zA (zB t 10) fun s50 =>
 zA (zB t 11) fun s51 =>
 zA (zB t 12) fun s52 =>
 zA (zB t 13) fun s53 =>
 zA (zB t 14) fun s54 =>
 zA (zB t 15) fun s55 =>
 zA (zB t 16) fun s56 =>
 zA (zB t 17) fun s57 =>
 zA (zB t 18) fun s58 =>
 zA (zB t 19) fun s59 =>
 zA (zB t 20) fun s60 =>
 zA (zB t 21) fun s61 =>
 zA (zB t 22) fun s62 =>
 zA (zB t 23) fun s63 =>
 zA (zB t 24) fun s64 =>
 zA (zB t 25) fun s65 =>
 zA (zB t 26) fun s66 =>
 onW w fun d67 u68 h69 n70 =>
 opt (zU P .len [40] [s47] h69) fun v71 =>
 rtI .i64 v71 fun a72 =>
 fb (wE s48 a72) fun a73 =>
 br a73 (
 blkJ (fun k74 =>
 opt (zQ P 40 s47 (.int .i64 s48)) fun v75 =>
 opt (zP P 3 h69 v75) fun v76 =>
 rtI .i64 v76 fun a77 =>
 xR L 93 [s40, (.int .i64 a77), (.int .i64 s42)] h69 n70 (fun c81 h82 n83 =>
 ka (.panic c81) (fr149 s40 s41 (.int .i64 s42) s43 s44 s45 s46 s47 (.int .i64 s48) s49 s50 s51 s52 (.int .i64 s48) s47 (.int .i64 a72) (.bool a73) s57 s58 s40 s47 (.int .i64 s48) v75 (.int .i64 a77) (.int .i64 s42) s65 s66) (W.mk d67 u68 h82 n83)) fun a78 h79 n80 =>
 br a78 (
 ka .ret (fr149 s40 s41 (.int .i64 s42) s43 s44 s45 (.bool false) s47 (.int .i64 s48) (.bool a78) s50 s51 s52 (.int .i64 s48) s47 (.int .i64 a72) (.bool a73) s57 s58 s40 s47 (.int .i64 s48) v75 (.int .i64 a77) (.int .i64 s42) (.bool a78) (.bool a78)) (W.mk d67 u68 h79 n80)) (
 k74 (fr149 s40 s41 (.int .i64 s42) s43 s44 s45 s46 s47 (.int .i64 s48) (.bool a78) s50 s51 s52 (.int .i64 s48) s47 (.int .i64 a72) (.bool a73) s57 s58 s40 s47 (.int .i64 s48) v75 (.int .i64 a77) (.int .i64 s42) (.bool a78) (.bool a78)) (W.mk d67 u68 h79 n80))) (fun t84 w85 =>
 zA (zB t84 0) fun s86 =>
 zA (zB t84 1) fun s87 =>
 rtI .i64 (zB t84 2) fun s88 =>
 zA (zB t84 3) fun s89 =>
 zA (zB t84 4) fun s90 =>
 zA (zB t84 5) fun s91 =>
 zA (zB t84 6) fun s92 =>
 zA (zB t84 7) fun s93 =>
 rtI .i64 (zB t84 8) fun s94 =>
 zA (zB t84 9) fun s95 =>
 zA (zB t84 10) fun s96 =>
 zA (zB t84 11) fun s97 =>
 zA (zB t84 12) fun s98 =>
 zA (zB t84 13) fun s99 =>
 zA (zB t84 14) fun s100 =>
 zA (zB t84 15) fun s101 =>
 zA (zB t84 16) fun s102 =>
 zA (zB t84 17) fun s103 =>
 zA (zB t84 18) fun s104 =>
 zA (zB t84 19) fun s105 =>
 zA (zB t84 20) fun s106 =>
 zA (zB t84 21) fun s107 =>
 zA (zB t84 22) fun s108 =>
 zA (zB t84 23) fun s109 =>
 zA (zB t84 24) fun s110 =>
 zA (zB t84 25) fun s111 =>
 zA (zB t84 26) fun s112 =>
 onW w85 fun d113 u114 h115 n116 =>
 fi (yK .i64 (wV s94 1)) fun a117 =>
 lp 1000003 ⟨149, rd, df⟩ (fr149 s86 s87 (.int .i64 s88) s89 s90 s91 s92 s93 (.int .i64 a117) s95 s96 s97 s98 s99 s100 s101 s102 (.int .i64 s94) (.int .i64 a117) s105 s106 s107 s108 s109 s110 s111 s112) (W.mk d113 u114 h115 n116) ka)) (
 ka (.exit 0) (fr149 s40 s41 (.int .i64 s42) s43 s44 s45 s46 s47 (.int .i64 s48) s49 s50 s51 s52 (.int .i64 s48) s47 (.int .i64 a72) (.bool a73) s57 s58 s59 s60 s61 s62 s63 s64 s65 s66) (W.mk d67 u68 h69 n70))
theorem B149_1000003_eq (L : Lo) (lp : LP) (rd : Option Nat) (df : Bool) (t : Fr) (w : W) (ka : KX) : wU P hint149 L lp (unL (zJ P 149 1000003)) ⟨149, rd, df⟩ t w ka = B149_1000003 L lp rd df t w ka := by kernel_rfl
theorem l149 : zL P 149 = true := by kernel_rfl
theorem lp149_1000003 : yW (zJ P 149 1000003) = true := by kernel_rfl
noncomputable def eF149 : EntF P 8 := entF3 zG mixed 149 l149 F149 F149_eq
noncomputable def eL149_1000003 : EntL P 8 := entL zG mixed 149 l149 1000003 lp149_1000003 B149_1000003 B149_1000003_eq
noncomputable abbrev fr173 (s0 s1 s2 s3 s4 s5 s6 s7 s8 s9 s10 s11 s12 s13 s14 s15 s16 s17 s18 s19 s20 s21 s22 s23 : Value) : Fr := (.nD (.nD (.nD (.nD (.nD .lF s15 .lF) s7 (.nD .lF s23 .lF)) s3 (.nD (.nD .lF s19 .lF) s11 .lF)) s1 (.nD (.nD (.nD .lF s17 .lF) s9 .lF) s5 (.nD (.nD .lF s21 .lF) s13 .lF))) s0 (.nD (.nD (.nD (.nD .lF s16 .lF) s8 .lF) s4 (.nD (.nD .lF s20 .lF) s12 .lF)) s2 (.nD (.nD (.nD .lF s18 .lF) s10 .lF) s6 (.nD (.nD .lF s22 .lF) s14 .lF))))
noncomputable def hint173 : yR := fun kind _ i => match kind with
  | 2 => bif Nat.beq i 3 then [.val, .val, .val, .val, .val, (.int .i64), .val, .val, .val, .val, .val, .val, .val, .val, .val, .val, .val, .val, .val, .val, .val, .val, .val, .val] else []
  | 4 => bif Nat.beq i 0 then [.any, .any] else []
  | _ => []
noncomputable def F173 (L : Lo) (lp : LP) (p0 p1 : Value) (df : Bool) (u : Option zF) (h : zE) (n : Nat) (k : KO) : Bool :=
 eBox 77 p1 h n fun h1 n2 v3 =>
 opt (zC P 77 0 v3) fun v4 =>
 opt (zP P 9 h1 v4) fun v5 =>
 callI L .i64 170 [p0, v5] h1 n2 (fun c9 h10 n11 =>
 zD P L 173 k (.panic c9) (fr173 p0 p1 undef v3 (.bool false) undef p0 v4 v5 undef undef undef undef undef undef undef undef undef undef undef undef undef undef undef) (W.mk [] u h10 n11)) fun a6 h7 n8 =>
 fb (wE a6 0) fun a12 =>
 br a12 (
 zD P L 173 k .ret (fr173 p0 p1 undef v3 (.bool false) (.int .i64 a6) p0 v4 v5 (.int .i64 a6) (.int .i64 a6) (.bool a12) undef undef undef undef undef undef undef undef undef undef undef undef) (W.mk [] u h7 n8)) (
 opt (zC P 77 1 v3) fun v13 =>
 opt (zP P 9 h7 v13) fun v14 =>
 zK yO P .eql 9 true v14 (.string (ByteArray.mk #[])) fun a15 =>
 grd (nt a15) (fun k16 =>
 k16 h7 n8 p0) (fun h17 n18 v19 =>
 grd (nt a15) (fun k20 =>
 k20 h17 n18 (.int .i64 a6)) (fun h21 n22 v23 =>
 grd (nt a15) (fun k24 =>
 k24 h21 n22 p0) (fun h25 n26 v27 =>
 grd (nt a15) (fun k28 =>
 opt (zC P 77 1 v3) fun v32 =>
 k28 h25 n26 v32) (fun h29 n30 v31 =>
 grd (nt a15) (fun k33 =>
 opt (zP P 9 h29 v31) fun v37 =>
 k33 h29 n30 v37) (fun h34 n35 v36 =>
 grd (nt a15) (fun k38 =>
 callI L .i64 94 [v27, v36] h34 n35 (fun c45 h46 n47 =>
 zD P L 173 k (.panic c45) (fr173 p0 p1 undef v3 (.bool false) (.int .i64 a6) p0 v4 v5 (.int .i64 a6) (.int .i64 a6) (.bool a12) v13 v14 (.bool a15) (.bool a15) v19 v23 v27 v31 v36 undef undef undef) (W.mk [] u h46 n47)) fun a42 h43 n44 =>
 k38 h43 n44 (.int .i64 a42)) (fun h39 n40 v41 =>
 grd (nt a15) (fun k48 =>
 xR L 96 [v19, v23, v41] h39 n40 (fun c55 h56 n57 =>
 zD P L 173 k (.panic c55) (fr173 p0 p1 undef v3 (.bool false) (.int .i64 a6) p0 v4 v5 (.int .i64 a6) (.int .i64 a6) (.bool a12) v13 v14 (.bool a15) (.bool a15) v19 v23 v27 v31 v36 v41 undef undef) (W.mk [] u h56 n57)) fun a52 h53 n54 =>
 k48 h53 n54 (.bool a52)) (fun h49 n50 v51 =>
 rtB (sel a15 (.bool true) v51) fun a58 =>
 zD P L 173 k .ret (fr173 p0 p1 undef v3 (.bool a58) (.int .i64 a6) p0 v4 v5 (.int .i64 a6) (.int .i64 a6) (.bool a12) v13 v14 (.bool a15) (.bool a15) v19 v23 v27 v31 v36 v41 v51 (.bool a58)) (W.mk [] u h49 n50)) h39 n40) h34 n35) h29 n30) h25 n26) h21 n22) h17 n18) h7 n8)
theorem F173_eq (L : Lo) (lp : LP) (p0 p1 : Value) (df : Bool) (u : Option zF) (h : zE) (n : Nat) (k : KO) : zY P hint173 L lp 173 [p0, p1] df u h n k = F173 L lp p0 p1 df u h n k := by kernel_rfl
theorem l173 : zL P 173 = true := by kernel_rfl
noncomputable def eF173 : EntF P 8 := wL zG mixed 173 l173 F173 F173_eq
noncomputable abbrev fr175 (s0 s1 s2 s3 s4 s5 s6 s7 s8 s9 s10 s11 s12 s13 s14 s15 s16 s17 s18 s19 s20 s21 s22 s23 s24 s25 s26 s27 s28 s29 s30 s31 : Value) : Fr := (.nD (.nD (.nD (.nD (.nD (.nD .lF s31 .lF) s15 .lF) s7 (.nD .lF s23 .lF)) s3 (.nD (.nD .lF s19 .lF) s11 (.nD .lF s27 .lF))) s1 (.nD (.nD (.nD .lF s17 .lF) s9 (.nD .lF s25 .lF)) s5 (.nD (.nD .lF s21 .lF) s13 (.nD .lF s29 .lF)))) s0 (.nD (.nD (.nD (.nD .lF s16 .lF) s8 (.nD .lF s24 .lF)) s4 (.nD (.nD .lF s20 .lF) s12 (.nD .lF s28 .lF))) s2 (.nD (.nD (.nD .lF s18 .lF) s10 (.nD .lF s26 .lF)) s6 (.nD (.nD .lF s22 .lF) s14 (.nD .lF s30 .lF)))))
noncomputable def hint175 : yR := fun kind _ i => match kind with
  | 0 => bif Nat.beq i 1000004 then [.val, .val, .val, .val, .val, (.int .i64), .val, .val, .val, .val, .val, .val, .val, .val, .val, .val, .val, .val, .val, .val, .val, .val, .val, .val, .val, .val, .val, .val, .val, .val, .val, .val] else []
  | 1 => bif Nat.beq i 0 then [.val, .val, .val, .val, .val, .val, .val, .val, .val, .val, .val, .val, .val, .val, .val, .val, .val, .val, .val, .val, .val, .val, .val, .val, .val, .val, .val, .val, .val, .val, .val, .val] else bif Nat.beq i 1 then [.val, .val, .val, .val, .val, (.int .i64), .val, .val, .val, .val, .val, .val, .val, .val, .val, .val, .val, .val, .val, .val, .val, .val, .val, .val, .val, .val, .val, .val, .val, .val, .val, .val] else []
  | 2 => bif Nat.beq i 0 then [.val, .val, .val, .val, .val, (.int .i64), .val, .val, .val, .val, .val, .val, .val, .val, .val, .val, .val, .val, .val, .val, .val, .val, .val, .val, .val, .val, .val, .val, .val, .val, .val, .val] else bif Nat.beq i 2 then [.val, .val, .val, .val, .val, .val, .val, .val, .val, .val, .val, .val, .val, .val, .val, .val, .val, .val, .val, .val, .val, .val, .val, .val, .val, .val, .val, .val, .val, .val, .val, .val] else bif Nat.beq i 7 then [.val, .val, .val, .val, .val, (.int .i64), .val, .val, .val, .val, .val, .val, .val, .val, .val, .val, .val, .val, .val, .val, .val, .val, .val, .val, .val, .val, .val, .val, .val, .val, .val, .val] else []
  | 4 => bif Nat.beq i 0 then [.any, .any] else []
  | _ => []
noncomputable def F175 (L : Lo) (lp : LP) (p0 p1 : Value) (df : Bool) (u : Option zF) (h : zE) (n : Nat) (k : KO) : Bool :=
 opt (zU P .len [23] [p1] h) fun v1 =>
 rtI .i64 v1 fun a2 =>
 fb (wE 64 a2) fun a3 =>
 br a3 (
 zD P L 175 k .ret (fr175 p0 p1 undef undef (.bool false) undef p1 (.int .i64 a2) (.bool a3) undef undef undef undef undef undef undef undef undef undef undef undef undef undef undef undef undef undef undef undef undef undef undef) (W.mk [] u h n)) (
 lp 1000004 ⟨175, none, df⟩ (fr175 p0 p1 undef undef (.bool false) (.int .i64 0) p1 (.int .i64 a2) (.bool a3) undef undef undef undef undef undef undef undef undef undef undef undef undef undef undef undef undef undef undef undef undef undef undef) (W.mk [] u h n) (endA noK (blkA 0 (fun t4 w5 =>
 zA (zB t4 0) fun s6 =>
 zA (zB t4 1) fun s7 =>
 zA (zB t4 2) fun s8 =>
 zA (zB t4 3) fun s9 =>
 zA (zB t4 4) fun s10 =>
 zA (zB t4 5) fun s11 =>
 zA (zB t4 6) fun s12 =>
 zA (zB t4 7) fun s13 =>
 zA (zB t4 8) fun s14 =>
 zA (zB t4 9) fun s15 =>
 zA (zB t4 10) fun s16 =>
 zA (zB t4 11) fun s17 =>
 zA (zB t4 12) fun s18 =>
 zA (zB t4 13) fun s19 =>
 zA (zB t4 14) fun s20 =>
 zA (zB t4 15) fun s21 =>
 zA (zB t4 16) fun s22 =>
 zA (zB t4 17) fun s23 =>
 zA (zB t4 18) fun s24 =>
 zA (zB t4 19) fun s25 =>
 zA (zB t4 20) fun s26 =>
 zA (zB t4 21) fun s27 =>
 zA (zB t4 22) fun s28 =>
 zA (zB t4 23) fun s29 =>
 zA (zB t4 24) fun s30 =>
 zA (zB t4 25) fun s31 =>
 zA (zB t4 26) fun s32 =>
 zA (zB t4 27) fun s33 =>
 zA (zB t4 28) fun s34 =>
 zA (zB t4 29) fun s35 =>
 zA (zB t4 30) fun s36 =>
 zA (zB t4 31) fun s37 =>
 onW w5 fun d38 u39 h40 n41 =>
 zD P L 175 k .ret (fr175 s6 s7 s8 s9 (.bool true) s11 s12 s13 s14 s15 s16 s17 s18 s19 s20 s21 s22 s23 s24 s25 s26 s27 s28 s29 s30 s31 s32 s33 s34 s35 s36 s37) (W.mk d38 u39 h40 n41)) (zD P L 175 k))))
theorem F175_eq (L : Lo) (lp : LP) (p0 p1 : Value) (df : Bool) (u : Option zF) (h : zE) (n : Nat) (k : KO) : zY P hint175 L lp 175 [p0, p1] df u h n k = F175 L lp p0 p1 df u h n k := by kernel_rfl
noncomputable def B175_1000004 (L : Lo) (lp : LP) (rd : Option Nat) (df : Bool) (t : Fr) (w : W) (ka : KX) : Bool :=
 zA (zB t 0) fun s42 =>
 zA (zB t 1) fun s43 =>
 zA (zB t 2) fun s44 =>
 zA (zB t 3) fun s45 =>
 zA (zB t 4) fun s46 =>
 rtI .i64 (zB t 5) fun s47 =>
 zA (zB t 6) fun s48 =>
 zA (zB t 7) fun s49 =>
 zA (zB t 8) fun s50 =>
 zA (zB t 9) fun s51 =>
 zA (zB t 10) fun s52 =>
 zA (zB t 11) fun s53 =>
 zA (zB t 12) fun s54 =>
 zA (zB t 13) fun s55 =>
 zA (zB t 14) fun s56 =>
 zA (zB t 15) fun s57 =>
 zA (zB t 16) fun s58 =>
 zA (zB t 17) fun s59 =>
 zA (zB t 18) fun s60 =>
 zA (zB t 19) fun s61 =>
 zA (zB t 20) fun s62 =>
 zA (zB t 21) fun s63 =>
 zA (zB t 22) fun s64 =>
 zA (zB t 23) fun s65 =>
 zA (zB t 24) fun s66 =>
 zA (zB t 25) fun s67 =>
 zA (zB t 26) fun s68 =>
 zA (zB t 27) fun s69 =>
 zA (zB t 28) fun s70 =>
 zA (zB t 29) fun s71 =>
 zA (zB t 30) fun s72 =>
 zA (zB t 31) fun s73 =>
 onW w fun d74 u75 h76 n77 =>
 opt (zU P .len [23] [s43] h76) fun v78 =>
 rtI .i64 v78 fun a79 =>
 fb (wE s47 a79) fun a80 =>
 br a80 (
 blkJ (fun k81 =>
 opt (zQ P 23 s43 (.int .i64 s47)) fun v82 =>
 opt (zP P 9 h76 v82) fun v83 =>
 callI L .i64 94 [s42, v83] h76 n77 (fun c87 h88 n89 =>
 ka (.panic c87) (fr175 s42 s43 s44 s45 s46 (.int .i64 s47) s48 s49 s50 (.int .i64 s47) s43 (.int .i64 a79) (.bool a80) s55 s56 s42 s43 (.int .i64 s47) v82 v83 s62 s63 s64 s65 s66 s67 s68 s69 s70 s71 s72 s73) (W.mk d74 u75 h88 n89)) fun a84 h85 n86 =>
 fb (wE a84 0) fun a90 =>
 grd (nt a90) (fun k91 =>
 k91 h85 n86 s43) (fun h92 n93 v94 =>
 grd (nt a90) (fun k95 =>
 k95 h92 n93 s43) (fun h96 n97 v98 =>
 grd (nt a90) (fun k99 =>
 k99 h96 n97 (.int .i64 s47)) (fun h100 n101 v102 =>
 grd (nt a90) (fun k103 =>
 opt (zQ P 23 v98 v102) fun v107 =>
 k103 h100 n101 v107) (fun h104 n105 v106 =>
 grd (nt a90) (fun k108 =>
 opt (zP P 9 h104 v106) fun v112 =>
 k108 h104 n105 v112) (fun h109 n110 v111 =>
 grd (nt a90) (fun k113 =>
 callI L .i64 144 [v94, v111] h109 n110 (fun c120 h121 n122 =>
 ka (.panic c120) (fr175 s42 s43 s44 s45 s46 (.int .i64 s47) s48 s49 s50 (.int .i64 s47) s43 (.int .i64 a79) (.bool a80) s55 s56 s42 s43 (.int .i64 s47) v82 v83 (.int .i64 a84) (.bool a90) (.bool a90) v94 v98 v102 v106 v111 s70 s71 s72 s73) (W.mk d74 u75 h121 n122)) fun a117 h118 n119 =>
 k113 h118 n119 (.int .i64 a117)) (fun h114 n115 v116 =>
 grd (nt a90) (fun k123 =>
 k123 h114 n115 (.int .i64 s47)) (fun h124 n125 v126 =>
 grd (nt a90) (fun k127 =>
 zK wE P .lss 3 false v116 v126 fun a131 =>
 k127 h124 n125 (.bool a131)) (fun h128 n129 v130 =>
 rtB (sel a90 (.bool true) v130) fun a132 =>
 br a132 (
 ka .ret (fr175 s42 s43 s44 s45 (.bool false) (.int .i64 s47) s48 s49 s50 (.int .i64 s47) s43 (.int .i64 a79) (.bool a80) s55 s56 s42 s43 (.int .i64 s47) v82 v83 (.int .i64 a84) (.bool a90) (.bool a90) v94 v98 v102 v106 v111 v116 v126 v130 (.bool a132)) (W.mk d74 u75 h128 n129)) (
 k81 (fr175 s42 s43 s44 s45 s46 (.int .i64 s47) s48 s49 s50 (.int .i64 s47) s43 (.int .i64 a79) (.bool a80) s55 s56 s42 s43 (.int .i64 s47) v82 v83 (.int .i64 a84) (.bool a90) (.bool a90) v94 v98 v102 v106 v111 v116 v126 v130 (.bool a132)) (W.mk d74 u75 h128 n129))) h124 n125) h114 n115) h109 n110) h104 n105) h100 n101) h96 n97) h92 n93) h85 n86) (fun t133 w134 =>
 zA (zB t133 0) fun s135 =>
 zA (zB t133 1) fun s136 =>
 zA (zB t133 2) fun s137 =>
 zA (zB t133 3) fun s138 =>
 zA (zB t133 4) fun s139 =>
 rtI .i64 (zB t133 5) fun s140 =>
 zA (zB t133 6) fun s141 =>
 zA (zB t133 7) fun s142 =>
 zA (zB t133 8) fun s143 =>
 zA (zB t133 9) fun s144 =>
 zA (zB t133 10) fun s145 =>
 zA (zB t133 11) fun s146 =>
 zA (zB t133 12) fun s147 =>
 zA (zB t133 13) fun s148 =>
 zA (zB t133 14) fun s149 =>
 zA (zB t133 15) fun s150 =>
 zA (zB t133 16) fun s151 =>
 zA (zB t133 17) fun s152 =>
 zA (zB t133 18) fun s153 =>
 zA (zB t133 19) fun s154 =>
 zA (zB t133 20) fun s155 =>
 zA (zB t133 21) fun s156 =>
 zA (zB t133 22) fun s157 =>
 zA (zB t133 23) fun s158 =>
 zA (zB t133 24) fun s159 =>
 zA (zB t133 25) fun s160 =>
 zA (zB t133 26) fun s161 =>
 zA (zB t133 27) fun s162 =>
 zA (zB t133 28) fun s163 =>
 zA (zB t133 29) fun s164 =>
 zA (zB t133 30) fun s165 =>
 zA (zB t133 31) fun s166 =>
 onW w134 fun d167 u168 h169 n170 =>
 fi (yK .i64 (wV s140 1)) fun a171 =>
 lp 1000004 ⟨175, rd, df⟩ (fr175 s135 s136 s137 s138 s139 (.int .i64 a171) s141 s142 s143 s144 s145 s146 s147 (.int .i64 s140) (.int .i64 a171) s150 s151 s152 s153 s154 s155 s156 s157 s158 s159 s160 s161 s162 s163 s164 s165 s166) (W.mk d167 u168 h169 n170) ka)) (
 ka (.exit 0) (fr175 s42 s43 s44 s45 s46 (.int .i64 s47) s48 s49 s50 (.int .i64 s47) s43 (.int .i64 a79) (.bool a80) s55 s56 s57 s58 s59 s60 s61 s62 s63 s64 s65 s66 s67 s68 s69 s70 s71 s72 s73) (W.mk d74 u75 h76 n77))
theorem B175_1000004_eq (L : Lo) (lp : LP) (rd : Option Nat) (df : Bool) (t : Fr) (w : W) (ka : KX) : wU P hint175 L lp (unL (zJ P 175 1000004)) ⟨175, rd, df⟩ t w ka = B175_1000004 L lp rd df t w ka := by kernel_rfl
theorem l175 : zL P 175 = true := by kernel_rfl
theorem lp175_1000004 : yW (zJ P 175 1000004) = true := by kernel_rfl
noncomputable def eF175 : EntF P 8 := wL zG mixed 175 l175 F175 F175_eq
noncomputable def eL175_1000004 : EntL P 8 := entL zG mixed 175 l175 1000004 lp175_1000004 B175_1000004 B175_1000004_eq
end Go.Proofs.YtapnnpoljobanaaGreatDoor
