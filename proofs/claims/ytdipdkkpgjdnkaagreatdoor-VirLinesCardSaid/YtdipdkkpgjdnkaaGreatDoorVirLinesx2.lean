/- What the law leans on: an executor of the model that is sound, deduction over it, and the walks through the code (part 2 of 24). Conditions: those that each theorem states. -/
import Derived.Test.YtdipdkkpgjdnkaaGreatDoorVirLinesx1
import Derived.AtR
import Derived.Below

set_option linter.unusedVariables false
set_option linter.unusedSimpArgs false
namespace Go.Ex
abbrev KV:=W→Value→Bool
abbrev KP:=zJ→W→Bool
abbrev KX:=AX→Fr→W→Bool
abbrev KO:=Out→Option zJ→zB→Nat→Bool
structure Lo where
 code:Code→Cx→Fr→W→KX→Bool
 call:FuncId→List Value→Bool→Option zJ→zB→Nat→KO→Bool
 round:Nat→List Value→zB→Nat→(Out→zB→Nat→Bool)→Bool
 leave:Func→Option zJ→Fr→W→KO→Bool
def Lo.bot:Lo:=⟨fun _ _ _ _ _=>false,fun _ _ _ _ _ _ _=>false,fun _ _ _ _ _=>false,fun _ _ _ _ _=>false⟩
noncomputable def wG(c:Tr Value)(i:Nat)(l:List Value)(k:Tr Value→Bool):Bool:=
 List.rec (motive:=fun _=>Tr Value→Nat→(Tr Value→Bool)→Bool) (fun c _ k=>k c)
  (fun v _ ih c i k=>forceOne v fun v=>c.setK undef v i fun c'=>ih c' (Nat.succ i) k) l c i k
noncomputable def storeAt(h:zB)(b off:Nat)(vs:List Value)(k:zB→Bool):Bool:=
 onCells (zF h b) (fun c n z kd=>Bool.rec (Bool.rec false (wG c off vs fun c'=>h.setK .dead (.cells c' n z kd) b k) (Nat.ble (Nat.add off vs.length) n)) false (Nat.beq kd 2)) false
noncomputable def rowOf(h:zB)(size n:Nat):Value→Option (List Value)
 | .slice none _ _=>cond (Nat.beq n 0) (some []) none
 | .slice (some ⟨b,off,none⟩) len _=>match zF h b with
  | .cells c kn _ _=>cond (Nat.ble n len && Nat.ble (Nat.add off (Nat.mul n size)) kn) (some (c.toListFrom undef off (Nat.mul n size))) none
  | .rows c kn=>cond (Nat.ble n len && Nat.ble (Nat.add off (Nat.mul n size)) kn) (knownL (c.toListFrom undef off (Nat.mul n size))) none
  | _=>none
 | .string s=>some ((s.data.toList.take n).map fun b=>.int .u8 (.ofNat b.toNat))
 | _=>none
def lenV:Value→Option Nat
 | .slice _ n _=>some n
 | .string s=>some s.data.toList.length
 | _=>none
def strFits(size:Nat):Value→Bool
 | .string _=>Nat.beq size 1
 | _=>true
noncomputable def zV(h:zB)(n:Nat)(o:AObj)(k:zB→Nat→Bool):Bool:=h.setK .dead o n fun h'=>k h' (Nat.succ n)
noncomputable def xR(P:Program)(h:zB)(e:TypeId)(size:Nat)(xd:TypeDesc)(x:Value):Option (Nat×List Value):=
 match xd with
 | .int _=>match natOf x,yT P e with
  | some m,some z=>cond (Nat.blt m 100000 && Nat.beq (cellsOf z).length size) (some (m,rep (cellsOf z) m)) none
  | _,_=>none
 | _ => match lenV x with
  | some m=>cond (strFits size x) (match rowOf h size m x with
   | some l=>some (m,l)
   | none=>none) none
  | none=>none
noncomputable def growOpen(h:zB)(n b sLen m size zz:Nat)(new:List Value)(k:Value→zB→Nat→Bool):Bool:=
 match zF h b with
 | .cells c kn z 1 => cond (Nat.beq z zz)
  (cond (Nat.ble (Nat.mul (Nat.add sLen m) size) kn)
   (storeAt h b (Nat.mul sLen size) new fun h'=>k (.slice (some ⟨b,0,none⟩) (Nat.add sLen m) inf) h' n)
   (cond (Nat.ble (Nat.mul sLen size) kn)
    (wG c (Nat.mul sLen size) new fun c'=>h.setK .dead .dead b fun h1=>
     zV h1 n (.cells c' (Nat.mul (Nat.add sLen m) size) z 1) fun h' n'=>k (.slice (some ⟨n,0,none⟩) (Nat.add sLen m) inf) h' n')
    false)) false
 | _=>false
noncomputable def growEx(h:zB)(n:Nat)(base:Option Addr)(sLen cap m size zz:Nat)(new:List Value)(k:Value→zB→Nat→Bool):Bool:=
 cond (Nat.ble (Nat.add sLen m) cap)
  (match base with
   | some ⟨b,off,none⟩=>storeAt h b (Nat.add off (Nat.mul sLen size)) new fun h'=>k (.slice base (Nat.add sLen m) cap) h' n
   | none=>cond (Nat.beq m 0) (k (.slice base sLen cap) h n) false
   | _=>false)
  (match rowOf h size sLen (.slice base sLen cap) with
   | some old=>wG .lF 0 (old++new) fun c=>zV h n (.cells c (Nat.mul (Nat.add sLen m) size) zz 1) fun h' n'=>k (.slice (some ⟨n,0,none⟩) (Nat.add sLen m) inf) h' n'
   | none=>false)
noncomputable def xappend(P:Program)(tys:List TypeId)(args:List Value)(h:zB)(n:Nat)(k:Value→zB→Nat→Bool):Bool:=
 match tys,args with
 | sT :: xT :: _, .slice base sLen cap :: x :: _ =>
  match und P sT,und P xT with
  | some (.slice e), some xd => match inf? P e, yT P e with
   | some ei, some z => match xR P h e ei.size xd x with
    | none=>false
    | some (m, new) => cond (Nat.beq ei.size 0 || !Nat.beq (cellsOf z).length ei.size || !Nat.blt (Nat.add sLen m) 1000000 || !Nat.blt ei.bytes 100000) false <|
     cond (Nat.beq m 0 && !Nat.beq cap 0 && (Nat.beq cap inf || Nat.ble sLen cap)) (k (.slice base sLen cap) h n) <| cond (Nat.beq cap inf)
     (match base with
      | some ⟨b,0,none⟩=>growOpen h n b sLen m ei.size (zc e ei.size) new k
      | _=>false)
     (growEx h n base sLen cap m ei.size (zc e ei.size) new k)
   | _,_=>false
  | _,_=>false
 | _,_=>false
noncomputable def xclear(P:Program)(tys:List TypeId)(args:List Value)(h:zB)(k:zB→Bool):Bool:=
 match tys,args with
 | t :: _, x :: _ => match und P t, x with
  | some (.slice _),.slice none _ _=>k h
  | some (.slice e),.slice (some ⟨b,off,none⟩) n _=>match yT P e with
   | some z=>cond (Nat.beq n 0) (k h) (storeAt h b off (rep (cellsOf z) n) k)
   | none=>false
  | _,_=>false
 | _,_=>false
def putE(k v:Value):Nat→List MapEntry→List MapEntry
 | _,[]=>[]
 | 0,e::es=>{ e with key:=k,val:=v }::es
 | i+1,e::es=>e::putE k v i es
def dropE:Nat→List MapEntry→List MapEntry
 | _,[]=>[]
 | 0,_::es=>es
 | i+1,e::es=>e::dropE i es
noncomputable def wU(P:Program)(t:TypeId)(x key v:Value)(h:zB)(k:zB→Bool):Bool:=
 match und P t,x with
 | some (.map kt _), .map (some r) => match und P kt, zF h r with
  | some kd, .map es clock => cond (keyT P kd key)
   (match findE key es 0 with
    | some (some (i,_))=>h.setK .dead (.map (putE key v i es) clock) r k
    | some none=>h.setK .dead (.map (es++[{ key,val:=v,born:=clock }]) (Nat.succ clock)) r k
    | none=>false) false
  | _,_=>false
 | _,_=>false
noncomputable def xdelete(P:Program)(tys:List TypeId)(args:List Value)(h:zB)(k:zB→Bool):Bool:=
 match tys,args with
 | t :: _, x :: key :: _ => match und P t, x with
  | some (.map kt _),.map none=>match und P kt with
   | some kd=>cond (keyT P kd key) (k h) false
   | none=>false
  | some (.map kt _), .map (some r) => match und P kt, zF h r with
   | some kd, .map es clock => cond (keyT P kd key)
    (match findE key es 0 with
     | some (some (i,_))=>h.setK .dead (.map (dropE i es) clock) r k
     | some none=>h.setK .dead (.map es clock) r k
     | none=>false) false
   | _,_=>false
  | _,_=>false
 | _,_=>false
noncomputable def xinvoke(lo:Lo)(f:Value)(args:List Value)(h:zB)(n:Nat)(k:Value→zB→Nat→Bool)(kp:zJ→zB→Nat→Bool):Bool:=
 match f with
 | .func (.func g) first cap=>lo.call g (first.toList++(args++cap.toList)) false none h n fun o _ h n=>Out.rec (fun v=>k v h n) (fun c=>kp c h n) o
 | .func (.yield l) first _=>lo.round l (first.toList++args) h n fun o h n=>Out.rec (fun v=>k v h n) (fun c=>kp c h n) o
 | _=>false
noncomputable def intOp(op:BinOp)(kd:IntKind)(a b:Int)(slow:Option Value):Option Value:=
 BinOp.rec (motive:=fun _=>IntKind→Int→Int→Option Value→Option Value)
  (fun kd a b _=>Int.rec (fun m=>some (.int kd (.ofNat m))) (fun m=>some (.int kd (.negSucc m))) (wL kd (iadd a b)))
  (fun kd a b _=>Int.rec (fun m=>some (.int kd (.ofNat m))) (fun m=>some (.int kd (.negSucc m))) (wL kd (isub a b)))
  (fun _ _ _ s=>s) (fun _ _ _ s=>s) (fun _ _ _ s=>s) (fun _ _ _ s=>s) (fun _ _ _ s=>s) (fun _ _ _ s=>s) (fun _ _ _ s=>s) (fun _ _ _ s=>s) (fun _ _ _ s=>s)
  (fun _ a b _=>some (.bool (ieqB a b)))
  (fun _ a b _=>some (.bool (Bool.rec true false (ieqB a b))))
  (fun _ a b _=>some (.bool (iltB a b)))
  (fun _ a b _=>some (.bool (ileB a b)))
  (fun _ a b _=>some (.bool (iltB b a)))
  (fun _ a b _=>some (.bool (ileB b a))) op kd a b slow
noncomputable def binV(P:Program)(op:BinOp)(ty:TypeId)(ox oy:Operand)(x y:Value):Option Value:=
 onInt x (fun k1 a=>onInt y (fun k2 b=>Bool.rec (aBin P op ty ox oy x y) (intOp op k1 a b (aBin P op ty ox oy x y)) (xH k1 k2))
  (aBin P op ty ox oy x y)) (aBin P op ty ox oy x y)
noncomputable def quietB(P:Program)(b:Builtin)(tys:List TypeId)(args:List Value)(h:zB):Option Value:=
 match b with
 | .len=>match args,tys with
  | x::_,ty::_=>aLen P h ty x
  | _,_=>none
 | .cap=>match args,tys with
  | x::_,ty::_=>aCap P ty x
  | _,_=>none
 | .max=>match args with
  | x::r=>aMax true x r
  | _=>none
 | .min=>match args with
  | x::r=>aMax false x r
  | _=>none
 | _=>none
noncomputable def builtinK(P:Program)(cx:Cx)(b:Builtin)(tys:List TypeId)(args:List Value)(w:W)(k:KV):Bool:=
 match w with
 | ⟨d, u, h, n⟩ => match b with
  | .append=>xappend P tys args h n fun v h n=>k ⟨d,u,h,n⟩ v
  | .clear=>xclear P tys args h fun h=>k ⟨d,u,h,n⟩ (.tuple #[])
  | .delete=>xdelete P tys args h fun h=>k ⟨d,u,h,n⟩ (.tuple #[])
  | .recover => match cx.round with
   | some _=>false
   | none => cond cx.df
    (match u with
     | some (⟨v,false,false⟩::older)=>k ⟨d,some (⟨v,true,false⟩::older),h,n⟩ v
     | none=>k ⟨d,u,h,n⟩ .nilIface
     | _=>false)
    (k ⟨d,u,h,n⟩ .nilIface)
  | _=>false
noncomputable def xB(o:Op)(P:Program)(t:Fr)(h:zB):Option Value:=
 Op.rec (motive:=fun _=>Program→Fr→zB→Option Value)
  (fun x _ t _=>xA (ev t x) some)
  (fun x _ t _=>xA (ev t x) some)
  (fun c x y _ t _=>onBool (ev t c) (fun b=>xA (Bool.rec (ev t y) (ev t x) b) some) none)
  (fun _ _ _ _=>none) (fun _ _ _ _ _=>none)
  (fun ty parts P t _=>aBuild P ty (parts.toList.map fun p=>(p.1,ev t p.2)))
  (fun _ _ _ _ _ _=>none) (fun _ _ _ _ _ _ _=>none)
  (fun ty x P t h=>onPtr (ev t x) (fun b off=>onRows (zF h b) (fun c kn=>
   Sh.rec none (Bool.rec none (xA (Tr.get undef c off) some) (Nat.blt off kn))
    (fun sz=>Bool.rec none (some (.agg ⟨c.toListFrom undef off sz⟩)) (Nat.ble (Nat.add off sz) kn)) (yM P ty)) (fun c kn=>
   Sh.rec none (Bool.rec none (uJ (Tr.get undef c off)) (Nat.blt off kn))
    (fun sz=>Bool.rec none (uK (c.toListFrom undef off sz)) (Nat.ble (Nat.add off sz) kn)) (yM P ty)) none) none)
  (fun _ _ _ _ _ _=>none) (fun _ _ _ _=>none) (fun _ _ _ _=>none)
  (fun x _ t _=>match ev t x with
   | .pointer (some p)=>some (.pointer (some p))
   | .func (.func f) fs cs=>some (.func (.func f) fs cs)
   | .func (.yield f) fs cs=>some (.func (.yield f) fs cs)
   | .map r=>some (.map r)
   | .slice p i c=>some (.slice p i c)
   | _=>none)
  (fun op ty x y _ P t _=>binV P op ty x y (ev t x) (ev t y))
  (fun op _ x _ t _=>aUn op (ev t x))
  (fun src dst x P t _=>match und P src with
   | some _=>vY P dst (ev t x)
   | none=>none)
  (fun _ _ _ _ _=>none)
  (fun ty x P t _=>match und P ty with
   | some (.interface _)=>none
   | some _=>xA (ev t x) fun v=>some (.iface ty v)
   | none=>none)
  (fun fn first cap _ t _=>match fn with
   | .func f=>some (.func (.func f) ⟨first.toList.map (ev t)⟩ ⟨cap.toList.map (ev t)⟩)
   | _=>none)
  (fun _ _ _ _ _=>none) (fun _ _ _ _ _=>none) (fun _ _ _ _ _ _=>none)
  (fun ty x lo hi mx P t h=>yZ P h ty (ev t x) (lo.map (ev t)) (hi.map (ev t)) (mx.map (ev t)))
  (fun ty x f P t _=>onPtr (ev t x) (fun b off=>Option.rec none (fun o=>some (.pointer (some ⟨b,Nat.add off o,none⟩))) (offOf P ty f)) none)
  (fun ty x f P t _=>aField P ty (ev t x) f)
  (fun ty x ix P t _=>onInt (ev t ix) (fun _ i=>Int.rec (fun i=>Ix.rec none
   (fun sz=>onSlice (ev t x) (fun b off len _=>Bool.rec none (some (.pointer (some ⟨b,Nat.add off (Nat.mul i sz),none⟩))) (Nat.blt i len)) none)
   (fun len sz=>onPtr (ev t x) (fun b off=>Bool.rec none (some (.pointer (some ⟨b,Nat.add off (Nat.mul i sz),none⟩))) (Nat.blt i len)) none) (ixOf P ty)) (fun _=>none) i) none)
  (fun ty x ix P t _=>aIndex P ty (ev t x) (ev t ix))
  (fun ty x key ok P t h=>aLookup P h ty (ev t x) (ev t key) ok)
  (fun _ _ _ _ _ _ _=>none) (fun _ _ _ _ _ _=>none) (fun _ _ _ _ _ _ _=>none) (fun _ _ _ _ _=>none) (fun _ _ _ _ _=>none) (fun _ _ _ _=>none)
  (fun x _ asserted ok P t _=>xV P (ev t x) asserted ok)
  (fun x i _ t _=>match ev t x with
   | .tuple vs=>Option.rec none (fun v=>xA v some) (vs.toList[i]?)
   | _=>none)
  (fun c P t h=>Call.rec (fun callee args tys=>Callee.rec (fun _=>none) (fun _ _=>none) (fun b=>quietB P b tys.toList (args.toList.map (ev t)) h) callee) c)
  (fun _ _ _ _=>none) (fun _ _ _ _=>none) (fun _ _ _ _=>none) (fun _ _ _ _ _=>none) (fun _ _ _ _ _ _=>none) (fun _ _ _ _ _=>none) o P t h
noncomputable def nextE(es:List MapEntry)(seen:List Nat)(since:Nat):Option (Option MapEntry):=
 match es.filter fun e=> !(seen.any fun b=>Nat.beq b e.born) with
 | []=>some none
 | [e]=>cond (Nat.blt e.born since) (some (some e)) none
 | _=>none
noncomputable def keyPlain:Value→Bool
 | .agg cs=>cs.toList.all fun v=>match v with
  | .bool _ | .int _ _ | .string _=>true
  | _=>false
 | .bool _ | .int _ _ | .string _=>true
 | _=>false
noncomputable def xrangeM(P:Program)(ty:TypeId)(x:Value)(h:zB)(n:Nat)(k:Value→zB→Nat→Bool):Bool:=
 match und P ty,x with
 | some (.map _ _),.map none=>zV h n (.siter none 0 [] 0) fun h' n'=>k (.pointer (some ⟨n,0,none⟩)) h' n'
 | some (.map _ _),.map (some r)=>match zF h r with
  | .map _ clock=>zV h n (.siter (some r) clock [] clock) fun h' n'=>k (.pointer (some ⟨n,0,none⟩)) h' n'
  | _=>false
 | _,_=>false
noncomputable def xnextM(x:Value)(h:zB)(k:Value→zB→Bool):Bool:=
 match x with
 | .pointer (some ⟨b, 0, none⟩) => match zF h b with
  | .siter none _ _ _=>k (.tuple ⟨[.bool false]⟩) h
  | .siter (some m) since seen last => match zF h m with
   | .map es clock => cond ((!seen.isEmpty && !es.isEmpty) && es.all fun e => Nat.ble last e.born) false
    (match nextE es seen since with
     | some none=>k (.tuple ⟨[.bool false]⟩) h
     | some (some e)=>cond (keyPlain e.key) (h.setK .dead (.siter (some m) since (seen++[e.born]) clock) b fun h'=>k (.tuple ⟨[.bool true,e.key,e.val]⟩) h') false
     | none=>false)
   | _=>false
  | _=>false
 | _=>false
noncomputable def xentryM(x:Value)(h:zB)(k:Value→Bool):Bool:=
 match x with
 | .pointer (some ⟨b, 0, none⟩) => match zF h b with
  | .siter (some m) _ seen last => match zF h m, seen.getLast? with
   | .map es clock,some st=>cond (Nat.beq clock last) (match es.find? fun e=>Nat.beq e.born st with
    | some e=>cond (keyPlain e.key) (k (.tuple ⟨[e.key,e.val]⟩)) false
    | none=>false) false
   | _,_=>false
  | _=>false
 | _=>false
abbrev HV:=Program→Lo→Cx→Fr→W→KV→KP→Bool
noncomputable def xK(w:W)(f:zB→Nat→(zB→Nat→W)→Bool):Bool:=W.rec (fun d u h n=>f h n (W.mk d u)) w
noncomputable def eff(o:Op):HV:=
 match o with
 | .alloc el=>fun P _ _ _ w k _=>xK w fun h n mk=>Option.rec false (fun z=>zV h n (mkCellsT (cellsOf z) el) fun h' n'=>k (mk h' n') (.pointer (some ⟨n,0,none⟩))) (yT P el)
 | .box el x=>fun _ _ _ t w k _=>xK w fun h n mk=>wG .lF 0 (cellsOf (ev t x)) fun c=>
  zV h n (.cells c (cellsOf (ev t x)).length (Nat.succ el) 0) fun h' n'=>k (mk h' n') (.pointer (some ⟨n,0,none⟩))
 | .buildSlice ty len parts=>fun P _ _ t w k _=>xK w fun h n mk=>Option.rec false (fun ob=>zV h n ob fun h' n'=>k (mk h' n') (.slice (some ⟨n,0,none⟩) len len))
  (xW P ty len (parts.toList.map fun p=>(p.1,ev t p.2)))
 | .insert ty m key v=>fun P _ _ t w k _=>xK w fun h n mk=>wU P ty (ev t m) (ev t key) (ev t v) h fun h=>k (mk h n) undef
 | .store ty x v=>fun P _ _ t w k _=>xK w fun h n mk=>onPtr (ev t x) (fun b off=>Sh.rec false
  (Bool.rec false (storeAt h b off (cellsOf (ev t v)) fun h'=>k (mk h' n) undef) (Nat.beq (cellsOf (ev t v)).length 1))
  (fun sz=>Bool.rec false (storeAt h b off (cellsOf (ev t v)) fun h'=>k (mk h' n) undef) (Nat.beq (cellsOf (ev t v)).length sz)) (yM P ty)) false
 | .makeMap _ r=>fun _ _ _ _ w k _=>xK w fun h n mk=>match r with
  | none=>zV h n (.map [] 0) fun h' n'=>k (mk h' n') (.map (some n))
  | some _=>false
 | .makeSlice ty l c=>fun P _ _ t w k _=>xK w fun h n mk=>match wT P ty (ev t l) (ev t c) with
  | some (ob,i,m)=>zV h n ob fun h' n'=>k (mk h' n') (.slice (some ⟨n,0,none⟩) i m)
  | none=>false
 | .mapUpdate ty m key v=>fun P _ _ t w k _=>xK w fun h n mk=>wU P ty (ev t m) (ev t key) (ev t v) h fun h=>k (mk h n) undef
 | .range ty x=>fun P _ _ t w k _=>xK w fun h n mk=>xrangeM P ty (ev t x) h n fun v h n=>k (mk h n) v
 | .next x s=>fun _ _ _ t w k _=>xK w fun h n mk=>cond s false (xnextM (ev t x) h fun v h=>k (mk h n) v)
 | .entry x=>fun _ _ _ t w k _=>xK w fun h n mk=>xentryM (ev t x) h fun v=>k (mk h n) v
 | .call c=>fun P lo cx t w k kp=>Call.rec (fun callee args tys=>Callee.rec
  (fun f=>xK w fun h n mk=>xinvoke lo (ev t f) (args.toList.map (ev t)) h n (fun v h n=>k (mk h n) v) (fun c h n=>kp c (mk h n)))
  (fun _ _=>false)
  (fun b=>builtinK P cx b tys.toList (args.toList.map (ev t)) w k) callee) c
 | .defer c => fun _ _ cx t w k _ => match c, cx.round, w with
  | ⟨.value f,args,_⟩,none,⟨d,u,h,n⟩=>match ev t f with
   | .func (.func g) first cap=>k ⟨{ target:=.fn (.func g) cap,args:=⟨first.toList++args.toList.map (ev t)⟩ }::d,u,h,n⟩ undef
   | _=>false
  | _,_,_=>false
 | .panic x=>fun _ _ _ t w _ kp=>match ev t x with
  | .iface ty v=>kp [⟨.iface ty v,false,false⟩] w
  | _=>false
 | _=>fun _ _ _ _ _ _ _=>false
noncomputable def putT(t:Fr)(dst:Option Tmp)(v:Value)(k:Fr→Bool):Bool:=
 Option.rec (k t) (fun i=>fsetK t i v k) dst
def dstOf(ops:Array Oper)(g:Nat):Option Tmp:=
 match ops[g]? with
 | some o=>o.dst
 | none=>none
noncomputable def wants(ops:Array Oper)(t:Fr)(g:Nat)(b:Bool):Bool:=
 Option.rec false (fun d=>onBool (fget t d) (fun z=>Bool.rec (Bool.rec true false b) b z) false) (dstOf ops g)
noncomputable def wanted(ops:Array Oper)(t:Fr)(g:Option (Nat×Bool)):Bool:=
 Option.rec true (fun g=>wants ops t g.1 g.2) g
noncomputable def xops(P:Program)(lo:Lo)(cx:Cx)(all:Array Oper)(l:List Oper)(t:Fr)(w:W)(k:KX):Bool:=
 List.rec (motive:=fun _=>Program→Lo→Cx→Array Oper→Fr→W→KX→Bool)
  (fun _ _ _ _ t w k=>k .normal t w)
  (fun o _ ih P lo cx all t w k=>
   (fun kv:KV=>Bool.rec (kv w undef) (Option.rec (eff o.op P lo cx t w kv fun c w=>k (.panic c) t w) (kv w) (xB o.op P t w.h)) (wanted all t o.guard))
    (fun w v=>putT t o.dst v fun t=>ih P lo cx all t w k)) l P lo cx all t w k
def zU:Op→Nat
 | .move _ | .assign _ | .pick .. | .build .. | .nilCheck _ | .binOp .. | .unOp .. | .convert .. | .makeInterface .. | .makeFunc ..
 | .fieldAddr .. | .field .. | .indexAddr .. | .index .. | .typeAssert .. | .extract .. =>0
 | .load .. | .lookup .. | .slice .. =>1
 | .call ⟨.builtin b,_,_⟩=>match b with
  | .len | .cap | .max | .min=>1
  | _=>3
 | .alloc _ | .box .. | .buildSlice .. | .makeSlice .. =>2
 | .makeMap _ none=>2
 | _=>3
noncomputable def zW(m i:Nat):Bool:=Nat.beq (Nat.land (Nat.shiftRight m i) 1) 1
noncomputable def wN(acc:Tr Nat)(j:Nat):List Edge→Nat→Option Nat
 | [],m=>some m
 | e::es,m=>match e.ground with
  | .textOnly _ | .gcOnly _=>wN acc j es m
  | _=>Bool.rec none (wN acc j es (Nat.lor m (Nat.lor (Nat.shiftLeft 1 e.on) (Tr.get 0 acc e.on)))) (Nat.blt e.on j)
noncomputable def tmpMask:List Operand→Nat→Nat
 | [],m=>m
 | x::xs,m=>tmpMask xs (Operand.rec (motive:=fun _=>Nat→Nat) (fun t r=>Nat.lor r (Nat.shiftLeft 1 t)) (fun _ r=>r) (fun _ r=>r) (fun _ r=>r) x m)
structure XOp where
 o:Oper
 i:Nat
 kd:Nat
 m:Nat
 lk:Nat
 ds:Nat
noncomputable def dstMask(d:Option Tmp):Nat:=Option.rec 0 (fun t=>Nat.shiftLeft 1 t) d
noncomputable def xlist(all:Array Oper):List Oper→Nat→Tr Nat→Option (List XOp)
 | [],_,_=>some []
 | o :: r, j, acc => match wN acc j o.after.toList 0 with
  | none=>none
  | some m => match (match o.guard with
   | none=>some 0
   | some (g,_)=>Bool.rec none (some (dstMask (dstOf all g))) (zW m g):Option Nat) with
   | none=>none
   | some gm=>match xlist all r (Nat.succ j) (Tr.set 0 m acc j) with
    | none=>none
    | some l=>some (⟨o,j,zU o.op,m,tmpMask o.op.operands.toList gm,dstMask o.dst⟩::l)
noncomputable def pairOK(x y:XOp):Bool:=
 Bool.rec (Nat.beq x.i y.i || (Nat.beq (Nat.land x.ds y.ds) 0 && (zW y.m x.i || zW x.m y.i))) true (Nat.beq (Nat.land x.ds (Nat.lor y.lk y.ds)) 0)
noncomputable def allB{α : Type}(f: α→Bool)(l:List α):Bool:=
 List.rec (motive:=fun _=>(α→Bool)→Bool) (fun _=>true) (fun x _ ih f=>Bool.rec false (ih f) (f x)) l f
noncomputable def pairsOK(l:List XOp):Bool:=allB (fun x=>allB (fun y=>pairOK x y) l) (l.filter fun x=> !Nat.beq x.ds 0)
noncomputable def actsOK(l:List XOp):Bool:=allB (fun x=>allB (fun y=>Nat.beq x.i y.i || zW y.m x.i || zW x.m y.i) l) l
structure DOp where
 o:Oper
 i:Nat
 kd:Nat
 low:Nat
 high:Nat
 solo:Bool
 un:List Nat
noncomputable def dopOf(l acts:List XOp)(x:XOp):DOp:=
 ⟨x.o,x.i,x.kd,(acts.filter fun c=>zW x.m c.i).length,(acts.filter fun c=> !zW c.m x.i && !Nat.beq c.i x.i).length,
  l.all fun y=>Nat.beq x.i y.i || zW x.m y.i || zW y.m x.i,
  cond (Nat.beq x.kd 3) ((l.filter fun y=> !(Nat.beq x.i y.i || zW x.m y.i || zW y.m x.i)).map fun y=>y.i) []⟩
noncomputable def vB:List XOp→List XOp→List XOp
 | rest,[]=>rest
 | rest,c::cs=>(rest.filter fun x=>zW c.m x.i)++c::vB (rest.filter fun x=> !zW c.m x.i && !Nat.beq x.i c.i) cs
noncomputable def sigB:List XOp→Nat→Nat→Bool
 | [],_,_=>true
 | x::r,sm,pm=>Bool.rec false (Bool.rec (Bool.rec
  (sigB r (Nat.lor sm (Nat.shiftLeft 1 x.i)) (Nat.lor pm (Nat.shiftLeft 1 x.i)))
  (Bool.rec false (sigB r (Nat.lor sm (Nat.shiftLeft 1 x.i)) 0) (Nat.beq (Nat.land x.m pm) pm)) (Nat.beq x.kd 3)) false (zW sm x.i)) (Nat.beq (Nat.land x.m sm) x.m)
noncomputable def transOK(l:List XOp):Bool:=allB (fun x=>allB (fun y=>Bool.rec true (Nat.beq (Nat.land y.m x.m) y.m) (zW x.m y.i)) l) l
def dryOf(un:List Nat)(r:List DOp):List DOp:=r.filter fun y=>un.any fun i=>Nat.beq i y.i
noncomputable def planOf(n:Nat)(l acts s:List XOp):Option (List DOp):=
 cond (pairsOK l && actsOK acts && Nat.beq s.length n && sigB s 0 0 && transOK l) (some (s.map (dopOf l (s.filter fun x=>Nat.beq x.kd 3)))) none
noncomputable def plan(ops:Array Oper):Option (List DOp):=
 match xlist ops ops.toList 0 .lF with
 | none=>none
 | some l=>planOf ops.toList.length l (l.filter fun x=>Nat.beq x.kd 3) (vB l (l.filter fun x=>Nat.beq x.kd 3))
structure Look where
 o:Op
 t:Fr
 v:Value
 low:Nat
 high:Nat
noncomputable def scalB(v v':Value):Bool:=
 match v,v' with
 | .bool a,.bool b=>cond a b (!b)
 | .int k a,.int k' b=>xH k k' && ieqB a b
 | .string a,.string b=>vG a.data.toList b.data.toList
 | .pointer none,.pointer none=>true
 | .pointer (some ⟨b,o,none⟩),.pointer (some ⟨b',o',none⟩)=>Nat.beq b b' && Nat.beq o o'
 | .slice none l c,.slice none l' c'=>Nat.beq l l' && Nat.beq c c'
 | .slice (some ⟨b,o,none⟩) l c,.slice (some ⟨b',o',none⟩) l' c'=>Nat.beq b b' && Nat.beq o o' && Nat.beq l l' && Nat.beq c c'
 | .map none,.map none=>true
 | .map (some a),.map (some b)=>Nat.beq a b
 | .nilFunc,.nilFunc=>true
 | .nilIface,.nilIface=>true
 | _,_=>false
noncomputable def vZ:List Value→List Value→Bool
 | [],[]=>true
 | a::l,b::l'=>scalB a b && vZ l l'
 | _,_=>false
noncomputable def sameB(v v':Value):Bool:=
 match v,v' with
 | .agg a,.agg b=>vZ a.toList b.toList
 | .tuple a,.tuple b=>vZ a.toList b.toList
 | .func (.func f) a b,.func (.func g) c d=>Nat.beq f g && (vZ a.toList c.toList && vZ b.toList d.toList)
 | a,b=>scalB a b
noncomputable def blkLt(n:Nat)(v:Value):Bool:=
 match v with
 | .pointer (some a)=>Nat.blt a.block n
 | .slice (some a) _ _=>Nat.blt a.block n
 | .map (some r)=>Nat.blt r n
 | _=>true
noncomputable def lookLt(n:Nat)(o:Op)(t:Fr):Bool:=
 match o with
 | .load _ x=>blkLt n (ev t x)
 | .lookup _ x _ _=>blkLt n (ev t x)
 | .slice _ x _ _ _=>blkLt n (ev t x)
 | .call ⟨_,args,_⟩=>match args.toList with
  | x::_=>blkLt n (ev t x)
  | []=>true
 | _=>false
noncomputable def uA(P:Program)(l:Look):Nat→List W→Bool
 | _,[]=>true
 | k,w::hs=>(cond (Nat.ble l.low (Nat.pred k) && Nat.ble (Nat.pred k) l.high) (lookLt w.n l.o l.t && (match xB l.o P l.t w.h with
  | some v=>sameB v l.v
  | none=>false)) true) && uA P l (Nat.pred k) hs
noncomputable def xC(P:Program)(k:Nat)(hs:List W):List Look→Bool
 | []=>true
 | l::ls=>uA P l k hs && xC P k hs ls
noncomputable def wF(P:Program)(lo:Lo)(cx:Cx)(all:Array Oper)(pan:DOp→List DOp→Fr→W→List W→List Look→zJ→W→Bool):List DOp→Fr→W→List W→List Look→KX→Bool
 | [],t,w,hs,ls,k=>k .normal t w && xC P hs.length hs ls
 | x :: r, t, w, hs, ls, k => match wanted all t x.o.guard with
  | false=>putT t x.o.dst undef fun t'=>wF P lo cx all pan r t' w (cond (Nat.beq x.kd 3) (w::hs) hs) ls k
  | true => match x.kd with
   | 0=>match xB x.o.op P t w.h with
    | some v=>putT t x.o.dst v fun t'=>wF P lo cx all pan r t' w hs ls k
    | none=>false
   | 1=>match xB x.o.op P t w.h with
    | some v=>putT t x.o.dst v fun t'=>wF P lo cx all pan r t' w hs (cond (Nat.beq x.low x.high) ls (⟨x.o.op,t,v,x.low,x.high⟩::ls)) k
    | none=>false
   | 2=>eff x.o.op P lo cx t w (fun w' v=>putT t x.o.dst v fun t'=>wF P lo cx all pan r t' w' hs ls k) fun _ _=>false
   | _=>eff x.o.op P lo cx t w (fun w' v=>cond (Nat.ble w.n w'.n) (putT t x.o.dst v fun t'=>wF P lo cx all pan r t' w' (w'::hs) ls k) false)
    fun c w'=>pan x r t w hs ls c w'
noncomputable def panD(P:Program)(lo:Lo)(cx:Cx)(all:Array Oper)(k:KX)(x:DOp)(r:List DOp)(t:Fr)(w:W)(hs:List W)(ls:List Look)(c:zJ)(w':W):Bool:=
 cond x.solo (cond (xC P hs.length hs ls) (k (.panic c) t w') false) (match w'.d with
  | []=>wF P lo cx all (fun _ _ _ _ _ _ _ _=>false) (dryOf x.un r) t w hs ls fun e _ _=>match e with
   | .normal=>k (.panic c) t w'
   | _=>false
  | _=>false)
noncomputable def xdraw(P:Program)(lo:Lo)(cx:Cx)(all:Array Oper)(l:List DOp)(t:Fr)(w:W)(hs:List W)(ls:List Look)(k:KX):Bool:=wF P lo cx all (panD P lo cx all k) l t w hs ls k
noncomputable def xdrawn(P:Program)(lo:Lo)(cx:Cx)(ops:Array Oper)(t:Fr)(w:W)(k:KX):Bool:=
 match plan ops with
 | some l=>xdraw P lo cx ops l t w [w] [] k
 | none=>false
noncomputable def xrange(lo:Lo)(f:Operand)(params:Array Tmp)(assign body:Code)(cx:Cx)(t:Fr)(d:List Deferred)(u:Option zJ)(h:zB)(n:Nat)(blk:Nat)(k:KX):Bool:=
 zV h n (.loop { state:=.ready,pending:=none,fn:=cx.fn,tmps:= #[],params,assign,body,defers:=blk } t) fun h' n'=>
  xinvoke lo (ev t f) [.func (.yield n) #[] #[]] h' n'
   (fun _ h2 n2=>match zF h2 n with
    | .loop l t0 => match l.state with
     | .busy=>false
     | _=>h2.setK .dead (.loop { l with state:=.exhausted } t0) n fun h3=>match l.pending with
      | none=>k .normal t ⟨d,u,h3,n2⟩
      | some j=>lo.code j cx t ⟨d,u,h3,n2⟩ k
    | _=>false)
   (fun c h2 n2=>k (.panic c) t ⟨d,u,h2,n2⟩)
noncomputable def xcode(P:Program)(lo:Lo)(c:Code):Cx→Fr→W→KX→Bool:=
 Code.rec (motive:=fun _=>Program→Lo→Cx→Fr→W→KX→Bool)
  (fun _ _ _ t w k=>k .normal t w)
  (fun _ ops draw P lo cx t w k=>Bool.rec (xops P lo cx ops ops.toList t w k) (xdrawn P lo cx ops t w k) draw)
  (fun _ _ iha ihb P lo cx t w k=>iha P lo cx t w fun x t w=>AX.rec (ihb P lo cx t w k) (fun i=>k (.exit i) t w) (fun i=>k (.goto i) t w) (k .ret t w) (fun c=>k (.panic c) t w) x)
  (fun c _ _ ih1 ih2 P lo cx t w k=>onBool (ev t c) (fun b=>Bool.rec (ih2 P lo cx t w k) (ih1 P lo cx t w k) b) false)
  (fun id _ ih P lo cx t w k=>ih P lo cx t w fun x t w=>AX.rec (k .normal t w) (fun i=>Bool.rec (k (.exit i) t w) (k .normal t w) (Nat.beq i id)) (fun i=>k (.goto i) t w) (k .ret t w) (fun c=>k (.panic c) t w) x)
  (fun b ih P lo cx t w k=>ih P lo cx t w fun x t w=>AX.rec (lo.code (.loop b) cx t w k) (fun i=>k (.exit i) t w) (fun i=>k (.goto i) t w) (k .ret t w) (fun c=>k (.panic c) t w) x)
  (fun f params assign body _ _ _ lo cx t w k=>match cx.round,w with
   | none,⟨d,u,h,n⟩=>zV h n (.deferred true) fun h' n'=>xrange lo f params assign body cx t ({ target:=.collected n,args:= #[] }::d) u h' n' n k
   | some l,⟨d,u,h,n⟩=>match zF h l with
    | .loop ll _=>xrange lo f params assign body cx t d u h n ll.defers k
    | _=>false)
  (fun id _ _ _ t w k=>k (.exit id) t w)
  (fun _ ih P lo cx t w k=>ih P lo cx t w fun x t w=>AX.rec (k .normal t w) (fun i=>k (.exit i) t w) (fun _=>false) (k .ret t w) (fun c=>k (.panic c) t w) x)
  (fun _ _ _ _ t w k=>k .normal t w)
  (fun l _ _ _ t w k=>k (.goto l) t w)
  (fun _ _ _ t w k=>k .ret t w)
  (fun _ _ _ _ _ _ _=>false)
  c P lo
noncomputable def ldV(P:Program)(h:zB)(ty:TypeId)(x:Value):Option Value:=
 onPtr x (fun b off=>onRows (zF h b) (fun c kn=>
  Sh.rec none (Bool.rec none (xA (Tr.get undef c off) some) (Nat.blt off kn))
   (fun sz=>Bool.rec none (some (.agg ⟨c.toListFrom undef off sz⟩)) (Nat.ble (Nat.add off sz) kn)) (yM P ty)) (fun c kn=>
  Sh.rec none (Bool.rec none (uJ (Tr.get undef c off)) (Nat.blt off kn))
   (fun sz=>Bool.rec none (uK (c.toListFrom undef off sz)) (Nat.ble (Nat.add off sz) kn)) (yM P ty)) none) none
noncomputable def yP(P:Program)(t:Fr)(h:zB):List ResultVar→Option (List Value)
 | []=>some []
 | .tmp i::r=>match yP P t h r with
  | some l=>some (fget t i::l)
  | none=>none
 | .cell x ty::r=>match ldV P h ty (fget t x),yP P t h r with
  | some v,some l=>some (v::l)
  | _,_=>none
def vQ:List Value→Value
 | [v]=>v
 | l=>.tuple ⟨l⟩
noncomputable def xleave(P:Program)(lo:Lo)(fn:Func)(mode:Option zJ)(t:Fr)(w:W)(k:KO):Bool:=
 match w with
 | ⟨d, u0, h, n⟩ => match d with
  | [] => match mode with
   | none=>match yP P t h fn.results.toList with
    | some l=>xA (vQ l) fun v=>k (.ret v) u0 h n
    | none=>false
   | some c=>k (.panic c) u0 h n
  | ⟨.collected r,_⟩::ds=>match zF h r with
   | .deferred true=>h.setK .dead (.deferred false) r fun h=>lo.leave fn mode t ⟨ds,u0,h,n⟩ k
   | _=>false
  | ⟨.fn (.func g) cap, args⟩ :: ds => lo.call g (args.toList ++ cap.toList) true mode h n fun o u h n => match o with
   | .panic _=>false
   | .ret _=>match u with
    | some (⟨_,true,_⟩::older)=>cond (older.all fun e=> !e.goexit) (lo.leave fn none t ⟨ds,u0,h,n⟩ k) false
    | u=>lo.leave fn u t ⟨ds,u0,h,n⟩ k
  | _=>false
noncomputable def bodyOf(P:Program)(f:FuncId):Option (Func×Code):=
 match Tr.get none (fnT P) f with
 | some fn=>match fn.body with
  | some body=>some (fn,body)
  | none=>none
 | none=>none
noncomputable def args0(t:Fr)(i:Nat)(l:List Value)(k:Fr→Bool):Bool:=
 List.rec (motive:=fun _=>Fr→Nat→(Fr→Bool)→Bool) (fun t _ k=>k t)
  (fun v _ ih t i k=>xA v fun v=>fsetK t i v fun t=>ih t (Nat.succ i) k) l t i k
noncomputable def xcall(P:Program)(lo:Lo)(f:FuncId)(args:List Value)(df:Bool)(u:Option zJ)(h:zB)(n:Nat)(k:KO):Bool:=
 Option.rec false (fun fb=>Prod.rec (fun fn body=>Bool.rec false (args0 fr0 0 args fun t=>
  lo.code body ⟨f,none,df⟩ t ⟨[],u,h,n⟩ fun x t w=>AX.rec (lo.leave fn none t w k) (fun _=>false) (fun _=>false) (lo.leave fn none t w k) (fun c=>lo.leave fn (some c) t w k) x) (Nat.ble args.length fn.ntmps)) fb) (bodyOf P f)
noncomputable def vR(t:Fr):List Tmp→List Value→(Fr→Bool)→Bool
 | i::is,v::vs,k=>xA v fun v=>fsetK t i v fun t'=>vR t' is vs k
 | [],[],k=>k t
 | _,_,_=>false
noncomputable def endRound(l:Nat)(j:Option Code)(h:zB)(n:Nat)(k:Out→zB→Nat→Bool):Bool:=
 match zF h l with
 | .loop l2 t2=>h.setK .dead (.loop { l2 with state:=(match j with|none=>.ready|some _=>.done),pending:=j } t2) l fun h2=>
  k (.ret (.bool (match j with|none=>true|some _=>false))) h2 n
 | _=>false
noncomputable def xround(lo:Lo)(l:Nat)(args:List Value)(h:zB)(n:Nat)(k:Out→zB→Nat→Bool):Bool:=
 match zF h l with
 | .loop ll t => vR t ll.params.toList args fun t' =>
  lo.code ll.assign ⟨ll.fn,some l,false⟩ t' ⟨[],none,h,n⟩ fun x t w=>match x,w with
   | .normal, ⟨d, u, h, n⟩ => match zF h l with
    | .loop l1 t1 => match l1.state with
     | .ready => h.setK .dead (.loop { l1 with state := .busy } t1) l fun h1 =>
      lo.code ll.body ⟨ll.fn,some l,false⟩ t ⟨d,u,h1,n⟩ fun x _ w=>match w with
       | ⟨[],_,h,n⟩=>match x with
        | .normal=>endRound l none h n k
        | .ret=>endRound l (some .ret) h n k
        | .exit id=>endRound l (some (.exit id)) h n k
        | .goto id=>endRound l (some (.goto id)) h n k
        | .panic c=>k (.panic c) h n
       | _=>false
     | _=>false
    | _=>false
   | _,_=>false
 | _=>false
noncomputable def Lo.next(P:Program)(lo:Lo):Lo:=⟨xcode P lo,xcall P lo,xround lo,xleave P lo⟩
noncomputable def run(P:Program)(fuel:Nat):Lo:=Nat.rec Lo.bot (fun _ lo=>Lo.next P lo) fuel
end Go.Ex
namespace Go.Ex
open Go.RowKit (Below)
structure Bl where
 b:Nat
 n:Nat
 z:Nat
abbrev Inj:=Nat→Option Bl
inductive RV (ρ : Inj):Value→Value→Prop
 | bool (b:Bool):RV ρ (.bool b) (.bool b)
 | int (k:IntKind) (n:Int):RV ρ (.int k n) (.int k n)
 | float (k:FloatKind) (n:Nat):RV ρ (.float k n) (.float k n)
 | complex (k:FloatKind) (n m:Nat):RV ρ (.complex k n m) (.complex k n m)
 | string (s:ByteArray):RV ρ (.string s) (.string s)
 | nilPtr:RV ρ (.pointer none) (.pointer none)
 | ptr {b o:Nat} {B:Bl} (h: ρ b=some B):RV ρ (.pointer (some ⟨b,o,none⟩)) (.pointer (some ⟨B.b,o,none⟩))
 | nilSlice (l c:Nat) (h:c≠inf):RV ρ (.slice none l c) (.slice none l c)
 | slice {b o l c:Nat} {B:Bl} {o':Nat} (h: ρ b=some B) (hc:c≠inf) (hl:l≤c) (ho:o'=o∨c=0) :
  RV ρ (.slice (some ⟨b,o,none⟩) l c) (.slice (some ⟨B.b,o',none⟩) l c)
 | slice0 {b o:Nat} {B:Bl} (h: ρ b=some B) (a:Addr):RV ρ (.slice (some ⟨b,o,none⟩) 0 0) (.slice (some a) 0 0)
 | opened {b o l:Nat} {B:Bl} {o' c':Nat} (h: ρ b=some B) (hl:l≤c') (ho:(o'=o∧o+c'*B.z=B.n)∨(c'=0∧0<o)) :
  RV ρ (.slice (some ⟨b,o,none⟩) l inf) (.slice (some ⟨B.b,o',none⟩) l c')
 | nilMap:RV ρ (.map none) (.map none)
 | map {r:Nat} {B:Bl} (h: ρ r=some B):RV ρ (.map (some r)) (.map (some B.b))
 | func {fn:Fn} {f f' c c':Array Value} (hy:∀l,fn≠.yield l) (hf:f.toList.length=f'.toList.length) (hc:c.toList.length=c'.toList.length)
  (f1:∀(i:Nat) (v v':Value),f.toList[i]? = some v→f'.toList[i]? = some v'→RV ρ v v')
  (c1:∀(i:Nat) (v v':Value),c.toList[i]? = some v→c'.toList[i]? = some v'→RV ρ v v'):RV ρ (.func fn f c) (.func fn f' c')
 | yield {l:Nat} {B:Bl} (h: ρ l=some B):RV ρ (.func (.yield l) #[] #[]) (.func (.yield B.b) #[] #[])
 | nilFunc:RV ρ .nilFunc .nilFunc
 | iface {t:TypeId} {v v':Value} (h:RV ρ v v'):RV ρ (.iface t v) (.iface t v')
 | nilIface:RV ρ .nilIface .nilIface
 | agg {c c':Array Value} (hc:c.toList.length=c'.toList.length)
  (c1:∀(i:Nat) (v v':Value),c.toList[i]? = some v→c'.toList[i]? = some v'→RV ρ v v'):RV ρ (.agg c) (.agg c')
 | tuple {c c':Array Value} (hc:c.toList.length=c'.toList.length)
  (c1:∀(i:Nat) (v v':Value),c.toList[i]? = some v→c'.toList[i]? = some v'→RV ρ v v'):RV ρ (.tuple c) (.tuple c')
def RVs(ρ : Inj)(l l':List Value):Prop:=l.length=l'.length∧∀(i:Nat) (v v':Value),l[i]? = some v→l'[i]? = some v'→RV ρ v v'
def Inj.le(ρ ρ':Inj):Prop:=∀b B,ρ b=some B→ρ' b=some B
theorem Inj.le.refl(ρ : Inj): ρ.le ρ :=fun _ _ h=>h
theorem Inj.le.trans{a b c:Inj}(h:a.le b)(k:b.le c):a.le c:=fun _ _ e=>k _ _ (h _ _ e)
theorem RV.mono{ρ ρ':Inj}(h: ρ.le ρ'){v v':Value}(r:RV ρ v v'):RV ρ' v v':=by
 induction r with
 | bool b=>exact .bool b
 | int k n=>exact .int k n
 | float k n=>exact .float k n
 | complex k n m=>exact .complex k n m
 | string s=>exact .string s
 | nilPtr=>exact .nilPtr
 | ptr e=>exact .ptr (h _ _ e)
 | nilSlice l c e=>exact .nilSlice l c e
 | slice e hc hl ho=>exact .slice (h _ _ e) hc hl ho
 | opened e hl ho=>exact .opened (h _ _ e) hl ho
 | slice0 e a=>exact .slice0 (h _ _ e) a
 | nilMap=>exact .nilMap
 | map e=>exact .map (h _ _ e)
 | func hy hf hc _ _ f2 c2=>exact .func hy hf hc f2 c2
 | yield e=>exact .yield (h _ _ e)
 | nilFunc=>exact .nilFunc
 | iface _ ih=>exact .iface ih
 | nilIface=>exact .nilIface
 | agg hc _ ih=>exact .agg hc ih
 | tuple hc _ ih=>exact .tuple hc ih
theorem RVs.mono{ρ ρ':Inj}(h: ρ.le ρ'){l l':List Value}(r:RVs ρ l l'):RVs ρ' l l':=⟨r.1,fun i v v' a b=>(r.2 i v v' a b).mono h⟩
theorem RVs.nil(ρ : Inj):RVs ρ [] []:=⟨rfl,fun _ _ _ h=>by simp at h⟩
theorem RVs.cons{ρ : Inj}{v v':Value}{l l':List Value}(h:RV ρ v v')(r:RVs ρ l l'):RVs ρ (v::l) (v'::l'):=
 ⟨by simp[r.1],fun i w w' a b=>by
  cases i with
  | zero=>simp at a b;subst a b;exact h
  | succ i=>simp at a b;exact r.2 i w w' a b⟩
theorem RVs.of_cons{ρ : Inj}{v:Value}{l l2:List Value}(r:RVs ρ (v::l) l2):∃v' l',l2=v'::l'∧RV ρ v v'∧RVs ρ l l':=by
 obtain⟨hl,h⟩:=r
 cases l2 with
 | nil=>simp at hl
 | cons v' l'=>exact⟨v',l',rfl,h 0 v v' rfl rfl,by simpa using hl,fun i w w' a b=>h (i+1) w w' (by simpa using a) (by simpa using b)⟩
theorem RVs.of_nil{ρ : Inj}{l2:List Value}(r:RVs ρ [] l2):l2=[]:=by
 have:=r.1;cases l2 <;> simp_all
theorem RVs.append{ρ : Inj}{a a' b b':List Value}(h:RVs ρ a a')(k:RVs ρ b b'):RVs ρ (a++b) (a'++b'):=by
 induction a generalizing a' with
 | nil=>obtain rfl:=h.of_nil;exact k
 | cons v l ih=>obtain⟨v',l',rfl,hv,hl⟩:=h.of_cons;exact RVs.cons hv (ih hl)
theorem RVs.map{ρ : Inj}{α : Type}(f g: α→Value):∀(l:List α),(∀x∈l,RV ρ (f x) (g x))→RVs ρ (l.map f) (l.map g)
 | [],_=>RVs.nil ρ
 | x::l,h=>RVs.cons (h x (by simp)) (RVs.map f g l fun y hy=>h y (by simp[hy]))
theorem RVs.at{ρ : Inj}{l l':List Value}(r:RVs ρ l l'){i:Nat}{v:Value}(h:l[i]? = some v):∃v',l'[i]? = some v'∧RV ρ v v':=by
 have hi:i<l.length:=by
  rcases Nat.lt_or_ge i l.length with h1|h1
  · exact h1
  · simp[List.getElem?_eq_none h1]at h
 have hi':i<l'.length:=r.1 ▸ hi;exact⟨l'[i],List.getElem?_eq_getElem hi',r.2 i v _ h (List.getElem?_eq_getElem hi')⟩
theorem RVs.take{ρ : Inj}{l l':List Value}(r:RVs ρ l l')(n:Nat):RVs ρ (l.take n) (l'.take n):=
 ⟨by simp[r.1],fun i v v' a b=>by
  rw[List.getElem?_take]at a b;split at a
  · rename_i h;rw [if_pos h]at b;exact r.2 i v v' a b
  · cases a⟩
theorem RVs.drop{ρ : Inj}{l l':List Value}(r:RVs ρ l l')(n:Nat):RVs ρ (l.drop n) (l'.drop n):=
 ⟨by simp[r.1],fun i v v' a b=>by
  rw[List.getElem?_drop]at a b;exact r.2 _ v v' a b⟩
theorem RVs.set{ρ : Inj}{l l':List Value}(r:RVs ρ l l')(i:Nat){v v':Value}(h:RV ρ v v'):RVs ρ (l.set i v) (l'.set i v'):=
 ⟨by simp[r.1],fun j w w' a b=>by
  rw[List.getElem?_set]at a b;by_cases e:i=j
  · subst e;simp only[if_true]at a b;split at a
    · rename_i h1;rw [if_pos (r.1 ▸ h1)]at b;cases a;cases b;exact h
    · cases a
  · simp only[e,if_false]at a b;exact r.2 j w w' a b⟩
noncomputable def vC(v:Value):Bool:=
 Value.rec (motive_1:=fun _=>Bool) (motive_2:=fun _=>Bool) (motive_3:=fun _=>Bool)
  (fun _=>true) (fun _ _=>true) (fun _ _=>true) (fun _ _ _=>true) (fun _=>true) (fun a=>Option.rec true (fun _=>false) a)
  (fun a _ c=>Option.rec (Bool.rec true false (Nat.beq c inf)) (fun _=>false) a) (fun r=>Option.rec true (fun _=>false) r) (fun _=>false)
  (fun _ _ _ _ _=>false) true (fun _ _ b=>b) true (fun _ b=>b) (fun _ b=>b)
  (fun _ b=>b) true (fun _ _ a b=>Bool.rec false b a) v
noncomputable def plainA(v:Array Value):Bool:=
 Value.rec_1 (motive_1:=fun _=>Bool) (motive_2:=fun _=>Bool) (motive_3:=fun _=>Bool)
  (fun _=>true) (fun _ _=>true) (fun _ _=>true) (fun _ _ _=>true) (fun _=>true) (fun a=>Option.rec true (fun _=>false) a)
  (fun a _ c=>Option.rec (Bool.rec true false (Nat.beq c inf)) (fun _=>false) a) (fun r=>Option.rec true (fun _=>false) r) (fun _=>false)
  (fun _ _ _ _ _=>false) true (fun _ _ b=>b) true (fun _ b=>b) (fun _ b=>b)
  (fun _ b=>b) true (fun _ _ a b=>Bool.rec false b a) v
noncomputable def plainL(v:List Value):Bool:=
 Value.rec_2 (motive_1:=fun _=>Bool) (motive_2:=fun _=>Bool) (motive_3:=fun _=>Bool)
  (fun _=>true) (fun _ _=>true) (fun _ _=>true) (fun _ _ _=>true) (fun _=>true) (fun a=>Option.rec true (fun _=>false) a)
  (fun a _ c=>Option.rec (Bool.rec true false (Nat.beq c inf)) (fun _=>false) a) (fun r=>Option.rec true (fun _=>false) r) (fun _=>false)
  (fun _ _ _ _ _=>false) true (fun _ _ b=>b) true (fun _ b=>b) (fun _ b=>b)
  (fun _ b=>b) true (fun _ _ a b=>Bool.rec false b a) v
theorem plain_all:∀v:Value,vC v=true→∀ρ,RV ρ v v:=by
 intro v
 refine Value.rec (motive_1:=fun v=>vC v=true→∀ρ,RV ρ v v)
  (motive_2:=fun a=>plainA a=true→∀ρ (i:Nat) (v:Value),a.toList[i]? = some v→RV ρ v v)
  (motive_3:=fun l=>plainL l=true→∀ρ (i:Nat) (v:Value),l[i]? = some v→RV ρ v v)
  ?_ ?_ ?_ ?_ ?_ ?_ ?_ ?_ ?_ ?_ ?_ ?_ ?_ ?_ ?_ ?_ ?_ ?_ v
 · intro b _ ρ;exact .bool b
 · intro k n _ ρ;exact .int k n
 · intro k n _ ρ;exact .float k n
 · intro k n m _ ρ;exact .complex k n m
 · intro s _ ρ;exact .string s
 · intro a h ρ;cases a with
   | none=>exact .nilPtr
   | some a=>cases h
 · intro a l c h ρ;cases a with
   | none=>
    refine .nilSlice l c fun e=>?_;subst e;have:(Bool.rec true false (Nat.beq inf inf):Bool)=true:=h;rw [show Nat.beq inf inf=true from Nat.beq_refl inf]at this;cases this
   | some a=>cases h
 · intro r h ρ;cases r with
   | none=>exact .nilMap
   | some a=>cases h
 · intro r h;cases h
 · intro fn f c _ _ h;cases h
 · intro _ ρ;exact .nilFunc
 · intro t v ih h ρ;exact .iface (ih h ρ)
 · intro _ ρ;exact .nilIface
 · intro c ih h ρ;exact .agg rfl fun i v v' a b=>by rw[a]at b;cases b;exact ih h ρ i v a
 · intro c ih h ρ;exact .tuple rfl fun i v v' a b=>by rw[a]at b;cases b;exact ih h ρ i v a
 · intro l ih h ρ i v e;exact ih h ρ i v e
 · intro _ ρ i v e;simp at e
 · intro x l ihx ihl h ρ i v e;have h':(Bool.rec false (plainL l) (vC x):Bool)=true:=h
   cases hx:vC x with
   | false=>rw [hx]at h';cases h'
   | true=>
    rw[hx]at h'
    cases i with
    | zero=>simp at e;subst e;exact ihx hx ρ
    | succ i=>exact ihl h' ρ i v (by simpa using e)
theorem RV.plain{v:Value}(h:vC v=true)(ρ : Inj):RV ρ v v:=plain_all v h ρ
theorem RV.undef(ρ : Inj):RV ρ undef undef:=RV.plain rfl ρ
theorem RV.of_bool{ρ : Inj}{b:Bool}{v:Value}(h:RV ρ (.bool b) v):v = .bool b:=by cases h;rfl
theorem RV.of_int{ρ : Inj}{k:IntKind}{n:Int}{v:Value}(h:RV ρ (.int k n) v):v = .int k n:=by cases h;rfl
theorem RV.of_string{ρ : Inj}{s:ByteArray}{v:Value}(h:RV ρ (.string s) v):v = .string s:=by cases h;rfl
theorem RV.of_ptr{ρ : Inj}{a:Addr}{v:Value}(h:RV ρ (.pointer (some a)) v):∃B,ρ a.block=some B∧a.spot=none∧v = .pointer (some ⟨B.b,a.off,none⟩):=by
 cases h with
 | ptr h=>exact⟨_,h,rfl,rfl⟩
theorem RV.of_map{ρ : Inj}{r:Nat}{v:Value}(h:RV ρ (.map (some r)) v):∃B,ρ r=some B∧v = .map (some B.b):=by
 cases h with
 | map h=>exact⟨_,h,rfl⟩
theorem RV.of_agg{ρ : Inj}{c:Array Value}{v:Value}(h:RV ρ (.agg c) v):∃c',v = .agg c'∧RVs ρ c.toList c'.toList:=by
 cases h with
 | agg h k=>exact⟨_,rfl,h,k⟩
theorem RV.of_tuple{ρ : Inj}{c:Array Value}{v:Value}(h:RV ρ (.tuple c) v):∃c',v = .tuple c'∧RVs ρ c.toList c'.toList:=by
 cases h with
 | tuple h k=>exact⟨_,rfl,h,k⟩
theorem RV.mk_agg{ρ : Inj}{c c':List Value}(h:RVs ρ c c'):RV ρ (.agg ⟨c⟩) (.agg ⟨c'⟩):=.agg h.1 h.2
theorem RV.mk_tuple{ρ : Inj}{c c':List Value}(h:RVs ρ c c'):RV ρ (.tuple ⟨c⟩) (.tuple ⟨c'⟩):=.tuple h.1 h.2
theorem RV.cells{ρ : Inj}{v v':Value}(h:RV ρ v v'):RVs ρ (cellsOf v) v'.cells.toList:=by
 cases h with
 | agg h k=>exact⟨h,k⟩
 | _=>exact RVs.cons (by first|assumption|constructor <;> assumption) (RVs.nil ρ)
noncomputable def opnOK(ng N:Nat)(x:Operand):Bool:=
 match x with
 | .tmp t=>Nat.blt t N
 | .const v=>vC v
 | .global g=>Nat.blt g ng
 | .func _=>true
noncomputable def vD(ng N:Nat)(o:Oper):Bool:=
 (o.op.operands.toList.all fun x=>opnOK ng N x) && (match o.dst with
  | some d=>Nat.blt d N
  | none=>true)
noncomputable def yO(ng N:Nat):Code→Bool
 | .region _ ops _=>ops.toList.all fun o=>vD ng N o
 | .seq a b=>yO ng N a && yO ng N b
 | .cond c a b=>opnOK ng N c && (yO ng N a && yO ng N b)
 | .block _ b=>yO ng N b
 | .loop b=>yO ng N b
 | .scope b=>yO ng N b
 | .rangeFunc f _ a b=>opnOK ng N f && (yO ng N a && yO ng N b)
 | _=>true
noncomputable def fnOK(ng:Nat)(fn:Func):Bool:=
 (match fn.body with
  | some b=>yO ng fn.ntmps b && fn.name != "runtime.NumGoroutine"
  | none=>true) &&
 (fn.results.toList.all fun
  | .tmp i=>Nat.blt i fn.ntmps
  | .cell i _=>Nat.blt i fn.ntmps)
noncomputable def yH(ng:Nat)(P:Program):Bool:=
 (P.funcs.toList.all fun fn=>fnOK ng fn) && (P.types.toList.all fun i=>match i.zero with
  | some z=>vC z
  | none=>true)
def ntm(P:Program)(f:FuncId):Nat:=((P.funcs[f]?).map (·.ntmps)).getD 0
section
variable (P:Program) (ng:Nat)
def EsR(ρ : Inj)(es es':List MapEntry):Prop:=
 es.length=es'.length∧∀(i:Nat) (e e':MapEntry),es[i]? = some e→es'[i]? = some e'→e'.key=e.key∧RV ρ e.val e'.val∧e'.born=e.born
structure TmR (ρ : Inj) (N:Nat) (t:Fr) (ts:Array Value):Prop where
 sz:ts.size=N
 tm:∀(i:Nat) (v:Value),ts[i]? = some v→RV ρ (fget t i) v
inductive ObjR (ρ : Inj) (base:Nat) (B:Bl):AObj→Obj→Prop
 | cells {c:Tr Value} {n z kd:Nat} {c':Array Value} {el:TypeId} {lo hi:Nat} (hn:n≤B.n) (hs:c'.size=B.n) (hk:kd≠1→n=B.n) (hz:(kd=1→z=zc el B.z)∧(kd=0→z≠0→z=el+1))
  (hv:∀(i:Nat) (v':Value),i<n→c'[i]? = some v'→RV ρ (Tr.get undef c i) v') (hb:kd≠2→base≤B.b)
  (hf:kd≠2→lo=0∧hi=0):ObjR ρ base B (.cells c n z kd) (.cells c' el (lo,hi))
 | map {es es':List MapEntry} {clock:Nat} (he:EsR ρ es es') (hb:base≤B.b):ObjR ρ base B (.map es clock) (.map ⟨es'⟩ clock)
 | siter0 {since last:Nat} {seen:List Nat} {s2 l2:Nat} {sn2:Array Nat} (hb:base≤B.b):ObjR ρ base B (.siter none since seen last) (.mapIter none s2 sn2 l2)
 | siter {m:Nat} {M:Bl} {since last:Nat} {seen:List Nat} (hm: ρ m=some M) (hb:base≤B.b):ObjR ρ base B (.siter (some m) since seen last) (.mapIter (some M.b) since ⟨seen⟩ last)
 | loop {l l':Loop} {t:Fr} (h1:l'.state=l.state) (h2:l'.pending=l.pending) (h3:l'.fn=l.fn) (h4:l'.params=l.params) (h5:l'.assign=l.assign) (h6:l'.body=l.body)
  (h7:∃D,ρ l.defers=some D∧l'.defers=D.b) (h8:TmR ρ (ntm P l.fn) t l'.tmps) (h9:yO ng (ntm P l.fn) l.assign=true) (h10:yO ng (ntm P l.fn) l.body=true)
  (h11:∀j,l.pending=some j→∀N,yO ng N j=true) (h12:∃fn,P.funcs[l.fn]? = some fn) (hb:base≤B.b):ObjR ρ base B (.loop l t) (.loop l')
 | ready (hb:base≤B.b):ObjR ρ base B (.deferred true) (.deferred (some []))
 | taken (hb:base≤B.b):ObjR ρ base B (.deferred false) (.deferred none)
 | rows {c:Tr Value} {n:Nat} {c':Array Value} {el:TypeId} {fr:Nat×Nat} (hn:n=c'.size) (hv:∀(i:Nat) (v':Value),c'[i]? = some v'→isU (Tr.get undef c i)=false→RV ρ (Tr.get undef c i) v') :
  ObjR ρ base B (.rows c n) (.cells c' el fr)
theorem EsR.mono{ρ ρ':Inj}(h: ρ.le ρ'){es es':List MapEntry}(r:EsR ρ es es'):EsR ρ' es es':=
 ⟨r.1,fun i e e' a b=>let ⟨h1,h2,h3⟩:=r.2 i e e' a b;⟨h1,h2.mono h,h3⟩⟩
theorem TmR.le{ρ : Inj}{N:Nat}{t:Fr}{ts:Array Value}(r:TmR ρ N t ts):N≤ts.size:=Nat.le_of_eq r.sz.symm
theorem TmR.mono{ρ ρ':Inj}(h: ρ.le ρ'){N:Nat}{t:Fr}{ts:Array Value}(r:TmR ρ N t ts):TmR ρ' N t ts:=⟨r.sz,fun i v e=>(r.tm i v e).mono h⟩
variable {P ng}
theorem ObjR.mono{ρ ρ':Inj}(h: ρ.le ρ'){base:Nat}{B:Bl}{o:AObj}{o':Obj}(r:ObjR P ng ρ base B o o'):ObjR P ng ρ' base B o o':=by
 cases r with
 | cells hn hs hk hz hv hb hf=>exact .cells hn hs hk hz (fun i v' a b=>(hv i v' a b).mono h) hb hf
 | map he hb=>exact .map (he.mono h) hb
 | siter0 hb=>exact .siter0 hb
 | siter hm hb=>exact .siter (h _ _ hm) hb
 | loop h1 h2 h3 h4 h5 h6 h7 h8 h9 h10 h11 h12 hb=>
  obtain⟨D,e1,e2⟩:=h7;exact .loop h1 h2 h3 h4 h5 h6 ⟨D,h _ _ e1,e2⟩ (h8.mono h) h9 h10 h11 h12 hb
 | ready hb=>exact .ready hb
 | taken hb=>exact .taken hb
 | rows hn hv=>exact .rows hn fun i v' a b=>(hv i v' a b).mono h
variable (P ng)
structure HeapR (ρ : Inj) (base:Nat) (w0:World) (h:zB) (n:Nat) (wd:World):Prop where
 dom:∀b,n≤b→ρ b=none
 obj:∀b B,ρ b=some B→zF h b≠.dead→∃o,wd.heap[B.b]? = some o∧ObjR P ng ρ base B (zF h b) o
 inj:∀a b A B,ρ a=some A→ρ b=some B→zF h a≠.dead→zF h b≠.dead→A.b=B.b→a=b
 below:Below base w0 wd
 size:base≤wd.heap.size
 glob:∀g,g<ng→∃B,ρ g=some B∧B.b=g
 ngn:ng≤n
structure Grow (ρ : Inj) (h:zB) (n:Nat) (wd:World) (ρ':Inj) (h':zB) (n':Nat) (wd':World):Prop where
 nn:n≤n'
 old:∀b,b<n→ρ' b = ρ b
 new:∀b B,n≤b→ρ' b=some B→wd.heap.size≤B.b∨∃a A,a<n∧ρ a=some A∧A.b=B.b∧zF h a≠.dead
 keep:∀c,c<wd.heap.size→(∀b B,ρ b=some B→zF h b≠.dead→B.b≠c)→wd'.heap[c]? = wd.heap[c]?
 size:wd.heap.size≤wd'.heap.size
 dead:∀b,b<n→zF h b = .dead→zF h' b = .dead
 tape:wd'.tape=wd.tape
theorem Grow.refl(ρ : Inj)(h:zB)(n:Nat)(wd:World)(hd:∀b,n≤b→ρ b=none):Grow ρ h n wd ρ h n wd:=
 ⟨Nat.le_refl _,fun _ _=>rfl,fun b B hb e=>(by rw[hd b hb]at e;cases e),fun _ _ _=>rfl,Nat.le_refl _,fun _ _ e=>e,rfl⟩
theorem Grow.trans{ρ ρ1 ρ2:Inj}{h h1 h2:zB}{n n1 n2:Nat}{w w1 w2:World}(a:Grow ρ h n w ρ1 h1 n1 w1)(b:Grow ρ1 h1 n1 w1 ρ2 h2 n2 w2) :
 Grow ρ h n w ρ2 h2 n2 w2 where
 nn:=Nat.le_trans a.nn b.nn
 old x hx:=(b.old x (Nat.lt_of_lt_of_le hx a.nn)).trans (a.old x hx)
 new x X hx e:=by
  rcases Nat.lt_or_ge x n1 with h1'|h1'
  · rw[b.old x h1']at e;exact a.new x X hx e
  · rcases b.new x X h1' e with h2'|⟨y,Y,hy,ey,eb,hl⟩
    · exact .inl (Nat.le_trans a.size h2')
    · rcases Nat.lt_or_ge y n with h3|h3
      · refine .inr ⟨y,Y,h3,by rw[← a.old y h3];exact ey,eb,fun hd=>hl (a.dead y h3 hd)⟩
      · rcases a.new y Y h3 ey with h4|⟨z,Z,hz,ez,ezb,hlz⟩
        · exact .inl (eb ▸ h4)
        · exact .inr ⟨z,Z,hz,ez,ezb.trans eb,hlz⟩
 keep c hc hn:=by
  rw[b.keep c (Nat.lt_of_lt_of_le hc a.size) ?_,a.keep c hc hn];intro y Y ey hl eb;rcases Nat.lt_or_ge y n with h3|h3
  · exact hn y Y (by rw[← a.old y h3];exact ey) (fun hd=>hl (a.dead y h3 hd)) eb
  · rcases a.new y Y h3 ey with h4|⟨z,Z,hz,ez,ezb,hlz⟩
    · omega
    · exact hn z Z ez hlz (ezb.trans eb)
 size:=Nat.le_trans a.size b.size
 dead x hx e:=b.dead x (Nat.lt_of_lt_of_le hx a.nn) (a.dead x hx e)
 tape:=b.tape.trans a.tape
theorem Grow.le{ρ ρ':Inj}{h h':zB}{n n':Nat}{w w':World}(g:Grow ρ h n w ρ' h' n' w')(hd:∀b,n≤b→ρ b=none): ρ.le ρ':=by
 intro b B e;rcases Nat.lt_or_ge b n with h1|h1
 · rw[g.old b h1];exact e
 · rw[hd b h1]at e;cases e
def Inj.put(ρ : Inj)(n:Nat)(B:Bl):Inj:=fun b=>if b=n then some B else ρ b
theorem Inj.le_put{ρ : Inj}{n:Nat}(B:Bl)(h: ρ n=none): ρ.le (ρ.put n B):=by
 intro b C e;by_cases hb:b=n
 · subst hb;rw [h]at e;cases e
 · simp[Inj.put,hb,e]
theorem zK(h:zB)(o:AObj)(i j:Nat):zF (h.set .dead o i) j=if i=j then o else zF h j:=Tr.get_set_if _ _ _ _ _
variable {P ng}
theorem HeapR.alloc{ρ : Inj}{base:Nat}{w0:World}{h:zB}{n:Nat}{wd:World}(r:HeapR P ng ρ base w0 h n wd)(o:AObj)(o':Obj)(B:Bl)(hB:B.b=wd.heap.size)
(hr:ObjR P ng (ρ.put n B) base B o o') :
 HeapR P ng (ρ.put n B) base w0 (h.set .dead o n) (n+1) { wd with heap:=wd.heap.push o' }∧
  Grow ρ h n wd (ρ.put n B) (h.set .dead o n) (n+1) { wd with heap:=wd.heap.push o' }:=by
 have hn: ρ n=none:=r.dom n (Nat.le_refl _);have hle:=Inj.le_put B hn;refine⟨⟨?_,?_,?_,?_,?_,?_,?_⟩,⟨by omega,?_,?_,?_,?_,?_,rfl⟩⟩
 · intro b hb;have:b≠n:=by omega
   simp[Inj.put,this];exact r.dom b (by omega)
 · intro b C e hl;by_cases hb:b=n
   · subst hb;simp [Inj.put]at e;subst e;refine⟨o',by simp[hB],?_⟩;rw [zK];simpa using hr
   · have e': ρ b=some C:=by simpa [Inj.put,hb] using e
     rw[zK,if_neg (fun x=>hb x.symm)]at hl ⊢;obtain⟨ob,h1,h2⟩:=r.obj b C e' hl;refine⟨ob,?_,h2.mono hle⟩
     have hlt:C.b<wd.heap.size:=by
      rcases Nat.lt_or_ge C.b wd.heap.size with h3|h3
      · exact h3
      · rw[Array.getElem?_eq_none h3]at h1;cases h1
     show(wd.heap.push o')[C.b]? = _;rw [Array.getElem?_push,if_neg (by omega)];exact h1
 · intro a b A C ea eb ha hb hab
   have lt:∀x X,x≠n→(ρ.put n B) x=some X→zF (h.set .dead o n) x≠.dead→X.b<wd.heap.size:=by
    intro x X hx ex hlx;have ex': ρ x=some X:=by simpa [Inj.put,hx] using ex
    rw[zK,if_neg (fun y=>hx y.symm)]at hlx;obtain⟨ob,h1,_⟩:=r.obj x X ex' hlx;rcases Nat.lt_or_ge X.b wd.heap.size with h3|h3
    · exact h3
    · rw[Array.getElem?_eq_none h3]at h1;cases h1
   by_cases h1:a=n
   · by_cases h2:b=n
     · rw[h1,h2]
     · have:=lt b C h2 eb hb;subst h1;simp [Inj.put]at ea;subst ea;omega
   · by_cases h2:b=n
     · have:=lt a A h1 ea ha;subst h2;simp [Inj.put]at eb;subst eb;omega
     · rw[zK,if_neg (fun y=>h1 y.symm)]at ha;rw [zK,if_neg (fun y=>h2 y.symm)]at hb;exact r.inj a b A C (by simpa [Inj.put,h1] using ea) (by simpa [Inj.put,h2] using eb) ha hb hab
 · exact r.below.trans ⟨rfl,rfl,rfl,by simp,fun k hk=>by
    have:=r.size;show(wd.heap.push o')[k]? = _;rw [Array.getElem?_push,if_neg (by omega)]⟩
 · have:=r.size;simp;omega
 · intro g hg;obtain⟨G,e1,e2⟩:=r.glob g hg;exact⟨G,hle _ _ e1,e2⟩
 · have:=r.ngn;omega
 · intro b hb;have:b≠n:=by omega
   simp[Inj.put,this]
 · intro b C hb e;by_cases h1:b=n
   · subst h1;simp [Inj.put]at e;subst e;exact .inl (by omega)
   · have e': ρ b=some C:=by simpa [Inj.put,h1] using e
     rw[r.dom b (by omega)]at e';cases e'
 · intro c hc _;show(wd.heap.push o')[c]? = _;rw [Array.getElem?_push,if_neg (by omega)]
 · simp
 · intro b hb e;rw [zK,if_neg (by omega)];exact e
theorem HeapR.turn{ρ : Inj}{base:Nat}{w0:World}{h:zB}{n:Nat}{wd:World}(r:HeapR P ng ρ base w0 h n wd){b:Nat}{B:Bl}(hb: ρ b=some B)(hl:zF h b≠.dead)
(o:AObj)(o':Obj)(wd':World)(hbase:base≤B.b)(hr:ObjR P ng ρ base B o o')(hw:wd'.heap[B.b]? = some o')(hsz:wd'.heap.size=wd.heap.size)
(hk:∀c,c≠B.b→wd'.heap[c]? = wd.heap[c]?)(h1:wd'.os=wd.os)(h2:wd'.tape=wd.tape)(h3:wd'.output=wd.output) :
 HeapR P ng ρ base w0 (h.set .dead o b) n wd'∧Grow ρ h n wd ρ (h.set .dead o b) n wd':=by
 refine⟨⟨r.dom,?_,?_,?_,by rw[hsz];exact r.size,r.glob,r.ngn⟩,⟨Nat.le_refl _,fun _ _=>rfl,?_,?_,by omega,?_,h2⟩⟩
 · intro x X e hlx;rw [zK]at hlx ⊢;by_cases hx:b=x
   · subst hx;rw [hb]at e;cases e;simp only[if_true];exact⟨o',hw,hr⟩
   · rw[if_neg hx]at hlx ⊢;obtain⟨ob,e1,e2⟩:=r.obj x X e hlx;refine⟨ob,?_,e2⟩;rw [hk _ (fun e3=>hx (r.inj b x B X hb e hl hlx e3.symm)),e1]
 · intro x y X Y ex ey hx hy hxy;rw [zK]at hx hy;have lx:zF h x≠.dead:=by by_cases e:b=x;(· subst e;exact hl);(· rwa [if_neg e]at hx)
   have ly:zF h y≠.dead:=by by_cases e:b=y;(· subst e;exact hl);(· rwa [if_neg e]at hy)
   exact r.inj x y X Y ex ey lx ly hxy
 · exact r.below.trans ⟨h1,h2,h3,by omega,fun k hk'=>hk k (by omega)⟩
 · intro x X hx e;rw [r.dom x hx]at e;cases e
 · intro c _ hn;exact hk c fun e=>hn b B hb hl e.symm
 · intro x hx e;rw [zK];by_cases h4:b=x
   · subst h4;exact absurd e hl
   · rw[if_neg h4];exact e
theorem HeapR.lt{ρ : Inj}{base:Nat}{w0:World}{h:zB}{n:Nat}{wd:World}(r:HeapR P ng ρ base w0 h n wd){b:Nat}{B:Bl}(hb: ρ b=some B)(hl:zF h b≠.dead):B.b<wd.heap.size:=by
 obtain⟨o,e,_⟩:=r.obj b B hb hl;rcases Nat.lt_or_ge B.b wd.heap.size with h3|h3
 · exact h3
 · rw[Array.getElem?_eq_none h3]at e;cases e
end
end Go.Ex
