/- What the law leans on: an executor of the model that is sound, deduction over it, and the walks through the code (part 13 of 24). Conditions: those that each theorem states. -/
import Derived.Test.YtdipdkkpgjdnkaaGreatDoorVirLinesx12
import Derived.Test.YtdipdkkpgjdnkaaGreatDoorVirLinesx11
import Derived.KernelRfl

set_option linter.unusedVariables false
set_option linter.unusedSimpArgs false
namespace Go.Ex
section
variable {P:Program} {ng:Nat}
def lvQ(P:Program)(ng:Nat)(mode:Option zJ)(fn:Func)(u:Option zJ)(Q:Out→zB→Nat→Prop)(t:Fr)(w:W):Prop:=(loS P ng).leave fn mode t w (fun o u' h' n'=>xE (u'=u∧Q o h' n'))=true
def Def(P:Program)(ng:Nat)(g:FuncId)(args:List Value)(u0:Option zJ)(h:zB)(n:Nat)(Q:Option zJ→zB→Nat→Prop):Prop:=∃v u' h' n',Q u' h' n'∧CallTo P ng g args true u0 h n (.ret v) u' h' n'
section
variable {fn:Func} {u:Option zJ} {Q:Out→zB→Nat→Prop} {l:List (Nat×Value)} {t:Fr} {h:zB} {n:Nat} {ds:List Deferred}
instance {D:Deferred}:Stp (retQ P ng fn u Q .ret t ⟨D::ds,u,h,n⟩) (lvQ P ng none fn u Q t ⟨D::ds,u,h,n⟩):=⟨id⟩
instance {D:Deferred}:Stp (retQ P ng fn u Q .normal t ⟨D::ds,u,h,n⟩) (lvQ P ng none fn u Q t ⟨D::ds,u,h,n⟩):=⟨id⟩
instance {D:Deferred} {c:zJ}:Stp (retQ P ng fn u Q (.panic c) t ⟨D::ds,u,h,n⟩) (lvQ P ng (some c) fn u Q t ⟨D::ds,u,h,n⟩):=⟨id⟩
instance [Fit P ng]:Stp (lvQ P ng none fn u Q (FA l t) ⟨[],u,h,n⟩) (Ob (Wh fn.results.toList) fun rs=>Ob (Rs P l t h rs) fun vs=>Ob (Wh (vQ vs)) fun v=>Q (.ret v) h n):=⟨ret_of⟩
instance [Fit P ng] {c:zJ}:Stp (lvQ P ng (some c) fn u Q t ⟨[],u,h,n⟩) (Q (.panic c) h n):=⟨fun q=>leave_of (isSo_iff.2 ⟨rfl,q⟩)⟩
def Clt(h:zB)(r:Nat):Prop:=zF h r = .deferred true
instance [Fit P ng] {mode:Option zJ} {r:Nat} {asz:Array Value}:Stp (lvQ P ng mode fn u Q t ⟨⟨.collected r,asz⟩::ds,u,h,n⟩) (Ob1 (Clt h r) <| lvQ P ng mode fn u Q t ⟨ds,u,hal h r (.deferred false),n⟩):=⟨fun⟨h1,h2⟩=>leave_of (by
 show(match zF h r with
  | .deferred true=>h.setK .dead (.deferred false) r fun h=>(loS P ng).leave fn mode t ⟨ds,u,h,n⟩ _
  | _=>false)=true
 rw[show zF h r = .deferred true from h1];dsimp only;rw [Tr.setK_eq];exact h2)⟩
theorem lv_none[Fit P ng]{g:FuncId}{cap args:List Value}{R:zB→Nat→Prop}(c:Def P ng g (args++cap) none h n fun u' h' n'=>u'=none∧R h' n')(k:∀h' n',R h' n'→lvQ P ng none fn u Q t ⟨ds,u,h',n'⟩):lvQ P ng none fn u Q t ⟨⟨.fn (.func g) ⟨cap⟩,⟨args⟩⟩::ds,u,h,n⟩:=leave_of (by
 obtain⟨v,u',h',n',⟨rfl,r⟩,hc⟩:=c;exact loS_call.2 ⟨.ret v,none,h',n',(by exact k h' n' r),hc⟩)
theorem lv_some[Fit P ng]{g:FuncId}{cap args:List Value}{ch:zJ}{x:Value}{R:zB→Nat→Prop}(c:Def P ng g (args++cap) (some ch) h n fun u' h' n'=>u'=some [⟨x,true,false⟩]∧R h' n')(k:∀h' n',R h' n'→lvQ P ng none fn u Q t ⟨ds,u,h',n'⟩):lvQ P ng (some ch) fn u Q t ⟨⟨.fn (.func g) ⟨cap⟩,⟨args⟩⟩::ds,u,h,n⟩:=leave_of (by
 obtain⟨v,u',h',n',⟨rfl,r⟩,hc⟩:=c;exact loS_call.2 ⟨.ret v,_,h',n',(by exact k h' n' r),hc⟩)
end
def dfQ(P:Program)(ng:Nat)(fn:Func)(Q:Out→Option zJ→zB→Nat→Prop):QX:=fun x t w=>match x with
 | .normal=>(loS P ng).leave fn none t w (fun o u' h' n'=>xE (Q o u' h' n'))=true
 | .ret=>(loS P ng).leave fn none t w (fun o u' h' n'=>xE (Q o u' h' n'))=true
 | .panic c=>(loS P ng).leave fn (some c) t w (fun o u' h' n'=>xE (Q o u' h' n'))=true
 | _=>False
theorem entD[Fit P ng]{f:FuncId}{fn:Func}[b:BoC P f fn]{c:Code}{args:List Value}{u:Option zJ}{h:zB}{n:Nat}{Q:Option zJ→zB→Nat→Prop}
(k:WC P ng c ⟨f,none,true⟩ (FA (arl 0 args []) .lF) ⟨[],u,h,n⟩ (dfQ P ng fn fun o u' h' n'=>∃v,o = .ret v∧Q u' h' n'))(hc:fn.body=some c:=by exact rfl)(hl:Nat.ble args.length fn.ntmps=true:=by exact rfl):Def P ng f args u h n Q:=by
 have hx:xcall P (loS P ng) f args true u h n (fun o u' h' n'=>xE (∃v,o = .ret v∧Q u' h' n'))=true:=by
  unfold xcall;rw [b.ok c hc]
  show(Bool.rec false (args0 fr0 0 args fun t=>
   (loS P ng).code c ⟨f,none,true⟩ t ⟨[],u,h,n⟩ fun x t w=>AX.rec ((loS P ng).leave fn none t w (fun o u' h' n'=>xE (∃v,o = .ret v∧Q u' h' n'))) (fun _=>false) (fun _=>false) ((loS P ng).leave fn none t w (fun o u' h' n'=>xE (∃v,o = .ret v∧Q u' h' n'))) (fun c=>(loS P ng).leave fn (some c) t w (fun o u' h' n'=>xE (∃v,o = .ret v∧Q u' h' n'))) x) (Nat.ble args.length fn.ntmps):Bool)=true
  rw[hl,args0_eq,show fr0=FA [] .lF from rfl,arl_FA];obtain⟨x,t',w',q,r⟩:=k;refine loS_code.2 ⟨x,t',w',?_,r⟩
  cases x with
  | normal=>exact q
  | exit i=>exact q.elim
  | goto i=>exact q.elim
  | ret=>exact q
  | panic c=>exact q
 obtain⟨o,u',h',n',q,r⟩:=xcall_ok (Fit.ok) uS hx;obtain⟨v,e,q2⟩:=isSo_iff.1 q;subst e;exact⟨v,u',h',n',q2,r⟩
theorem df_ret[Fit P ng]{fn:Func}{u:Option zJ}{Q:Out→Option zJ→zB→Nat→Prop}{l:List (Nat×Value)}{t:Fr}{h:zB}{n:Nat}(k:Ob (Wh fn.results.toList) fun rs=>Ob (Rs P l t h rs) fun vs=>Ob (Wh (vQ vs)) fun v=>Q (.ret v) u h n) :
 (loS P ng).leave fn none (FA l t) ⟨[],u,h,n⟩ (fun o u' h' n'=>xE (Q o u' h' n'))=true:=by
 obtain⟨rs,e1,vs,e2,v,e3,q⟩:=k;refine leave_of ?_
 show(match yP P (FA l t) h fn.results.toList with
  | some l=>xA (vQ l) fun v=>xE (Q (.ret v) u h n)
  | none=>false)=true
 rw[show fn.results.toList=rs from e1,e2.eq];show xA (vQ vs) _=true;rw [yI,show vQ vs=v from e3];exact isSo_iff.2 q
instance [Fit P ng] {fn:Func} {u:Option zJ} {Q:Out→Option zJ→zB→Nat→Prop} {l:List (Nat×Value)} {t:Fr} {h:zB} {n:Nat}:Stp (dfQ P ng fn Q .ret (FA l t) ⟨[],u,h,n⟩) (Ob (Wh fn.results.toList) fun rs=>Ob (Rs P l t h rs) fun vs=>Ob (Wh (vQ vs)) fun v=>Q (.ret v) u h n):=⟨df_ret⟩
instance [Fit P ng] {fn:Func} {u:Option zJ} {Q:Out→Option zJ→zB→Nat→Prop} {l:List (Nat×Value)} {t:Fr} {h:zB} {n:Nat}:Stp (dfQ P ng fn Q .normal (FA l t) ⟨[],u,h,n⟩) (Ob (Wh fn.results.toList) fun rs=>Ob (Rs P l t h rs) fun vs=>Ob (Wh (vQ vs)) fun v=>Q (.ret v) u h n):=⟨df_ret⟩
section
variable {f:FuncId} {tys:List Nat} {asz:List Value} {d:List Deferred} {u:Option zJ} {h:zB} {n:Nat} {K:W→Value→Prop}
instance {v:Value} {older:zJ}:Stp (BuB P ⟨f,none,true⟩ .recover tys asz d (some (⟨v,false,false⟩::older)) h n K) (K ⟨d,some (⟨v,true,false⟩::older),h,n⟩ v):=⟨fun q=>isSo_iff.2 q⟩
instance:Stp (BuB P ⟨f,none,true⟩ .recover tys asz d none h n K) (K ⟨d,none,h,n⟩ .nilIface):=⟨fun q=>isSo_iff.2 q⟩
end
noncomputable def ifB(P:Program)(ty:Nat):Bool:=match und P ty with
  | some (.interface _)=>true
  | _=>false
 class IfC (P:Program) (ty:Nat):Prop where ok:ifB P ty=true
theorem IfC.get{ty:Nat}(s:IfC P ty):∃m,und P ty=some (.interface m):=by
 have h:=s.ok;unfold ifB at h;split at h
 · rename_i m e;exact⟨m,e⟩
 · cases h
theorem bn_if1{ty t0:Nat}[s:IfC P ty]{ox oy:Operand}{v:Value}:Bn P .neq ty ox oy (.iface t0 v) .nilIface (.bool true):=by
 obtain⟨m,e⟩:=s.get
 show(match BinOp.neq,und P ty with
  | .eql,some d=>cond (zS ox oy (.iface t0 v) .nilIface) ((wH d (.iface t0 v) .nilIface).map Value.bool) none
  | .neq,some d=>cond (zS ox oy (.iface t0 v) .nilIface) ((wH d (.iface t0 v) .nilIface).map fun b=>Value.bool (!b)) none
  | _,_=>none:Option Value)=_
 rw[e];rfl
theorem bn_if0{ty:Nat}[s:IfC P ty]{ox:Operand}{v:Value}:Bn P .neq ty ox (.const v) .nilIface .nilIface (.bool false):=by
 obtain⟨m,e⟩:=s.get
 show(match BinOp.neq,und P ty with
  | .eql,some d=>cond (zS ox (.const v) .nilIface .nilIface) ((wH d .nilIface .nilIface).map Value.bool) none
  | .neq,some d=>cond (zS ox (.const v) .nilIface .nilIface) ((wH d .nilIface .nilIface).map fun b=>Value.bool (!b)) none
  | _,_=>none:Option Value)=_
 rw[e];show cond (isConst ox || isConst (.const v)) _ none=_;cases isConst ox <;> rfl
theorem tya_hit{t0:Nat}[s:PlC P t0]{v:Value}:xV P (.iface t0 v) t0 true=some (.tuple ⟨[v,.bool true]⟩):=by
 obtain⟨d,e,hp⟩:=s.get;unfold xV;rw [e];cases d <;> first|(cases hp;done)|(dsimp only;rw [Nat.beq_refl];rfl)
noncomputable def LoO(st:LoopState)(pend:Option Code)(fn:FuncId)(params:Array Tmp)(assign body:Code)(D:Nat)(t:Fr):AObj:=.loop { state:=st,pending:=pend,fn,tmps:= #[],params,assign,body,defers:=D } t
def rgQ(P:Program)(ng:Nat)(L:Nat)(fn:FuncId)(params:Array Tmp)(assign body:Code)(D:Nat)(cx:Cx)(t:Fr)(d:List Deferred)(u:Option zJ)(Q:QX):Out→zB→Nat→Prop:=fun o h n=>match o with
 | .ret _=>(zF h L=LoO .ready none fn params assign body D t∧Q .normal t ⟨d,u,hal h L (LoO .exhausted none fn params assign body D t),n⟩)∨(∃j,zF h L=LoO .done (some j) fn params assign body D t∧WC P ng j cx t ⟨d,u,hal h L (LoO .exhausted (some j) fn params assign body D t),n⟩ Q)
 | .panic c=>Q (.panic c) t ⟨d,u,h,n⟩
theorem rg_inv{L:Nat}{fn:FuncId}{params:Array Tmp}{assign body:Code}{D:Nat}{cx:Cx}{t:Fr}{d:List Deferred}{u:Option zJ}{Q:QX}{fv:Value}{g:FuncId}{fs cs:List Value}{h:zB}{n:Nat}(hf:fv = .func (.func g) ⟨fs⟩ ⟨cs⟩)
(k:CallB P ng g (fs++(.func (.yield L) #[] #[]::cs)) h n (rgQ P ng L fn params assign body D cx t d u Q)) :
 xinvoke (loS P ng) fv [.func (.yield L) #[] #[]] h n
  (fun _ h2 n2=>match zF h2 L with
   | .loop l t0 => match l.state with
    | .busy=>false
    | _=>h2.setK .dead (.loop { l with state:=.exhausted } t0) L fun h3=>match l.pending with
     | none=>soK Q .normal t ⟨d,u,h3,n2⟩
     | some j=>(loS P ng).code j cx t ⟨d,u,h3,n2⟩ (soK Q)
   | _=>false)
  (fun c h2 n2=>soK Q (.panic c) t ⟨d,u,h2,n2⟩)=true:=by
 subst hf;obtain⟨o,u',h',n',q,r⟩:=loS_call.1 k;refine loS_call.2 ⟨o,u',h',n',?_,r⟩;have q:=isSo_iff.1 q
 cases o with
 | panic c=>exact isSo_iff.2 q
 | ret v=>
  rcases q with⟨e,q⟩|⟨j,e,q⟩
  · show(match zF h' L with
     | .loop l t0 => match l.state with
      | .busy=>false
      | _=>h'.setK .dead (.loop { l with state:=.exhausted } t0) L fun h3=>match l.pending with
       | none=>soK Q .normal t ⟨d,u,h3,n'⟩
       | some j=>(loS P ng).code j cx t ⟨d,u,h3,n'⟩ (soK Q)
     | _=>false)=true
    rw[e];show h'.setK .dead _ L _=true;rw [Tr.setK_eq];exact isSo_iff.2 q
  · show(match zF h' L with
     | .loop l t0 => match l.state with
      | .busy=>false
      | _=>h'.setK .dead (.loop { l with state:=.exhausted } t0) L fun h3=>match l.pending with
       | none=>soK Q .normal t ⟨d,u,h3,n'⟩
       | some j=>(loS P ng).code j cx t ⟨d,u,h3,n'⟩ (soK Q)
     | _=>false)=true
    rw[e];show h'.setK .dead _ L _=true;rw [Tr.setK_eq];exact WC.lo.2 q
theorem wc_rg0[Fit P ng]{f:Operand}{params:Array Tmp}{assign body:Code}{fn:FuncId}{df:Bool}{l:List (Nat×Value)}{t:Fr}{d:List Deferred}{u:Option zJ}{h:zB}{n:Nat}{Q:QX}{g:FuncId}{fs cs:List Value}(hf:evb l t f = .func (.func g) ⟨fs⟩ ⟨cs⟩)
(k:CallB P ng g (fs++(.func (.yield (n+1)) #[] #[]::cs)) (hal (hal h n (.deferred true)) (n+1) (LoO .ready none fn params assign body n (FA l t))) (n+2) (rgQ P ng (n+1) fn params assign body n ⟨fn,none,df⟩ (FA l t) ({ target:=.collected n,args:= #[] }::d) u Q)) :
 WC P ng (.rangeFunc f params assign body) ⟨fn,none,df⟩ (FA l t) ⟨d,u,h,n⟩ Q:=by
 refine wc_of ?_;show zV h n (.deferred true) (fun h' n'=>xrange (loS P ng) f params assign body ⟨fn,none,df⟩ (FA l t) ({ target:=.collected n,args:= #[] }::d) u h' n' n (soK Q))=true;rw [xJ];unfold xrange;rw [xJ,yK];exact rg_inv hf k
def Rou(P:Program)(ng:Nat)(L:Nat)(args:List Value)(h:zB)(n:Nat)(Q:Out→zB→Nat→Prop):Prop:=∃o h' n',Q o h' n'∧RoundTo P ng L args h n o h' n'
theorem Rou.mono{L:Nat}{args:List Value}{h:zB}{n:Nat}{Q Q':Out→zB→Nat→Prop}(r:Rou P ng L args h n Q)(hq:∀o h' n',Q o h' n'→Q' o h' n'):Rou P ng L args h n Q':=by
 obtain⟨o,h',n',q,r⟩:=r;exact⟨o,h',n',hq _ _ _ q,r⟩
theorem inv_yield{L:Nat}{fs cs asz:List Value}{h:zB}{n:Nat}{d:List Deferred}{u:Option zJ}{K:W→Value→Prop}{Kp:zJ→W→Prop}(r:Rou P ng L (fs++asz) h n (calQ d u K Kp)):InvB P ng (.func (.yield L) ⟨fs⟩ ⟨cs⟩) asz h n d u K Kp:=by
 obtain⟨o,h',n',q,r⟩:=r;refine loS_round.2 ⟨o,h',n',?_,r⟩
 cases o with
 | ret v=>exact isSo_iff.2 q
 | panic c=>exact isSo_iff.2 q
def parl:List Tmp→List Value→List (Nat×Value)→List (Nat×Value)
 | i::is,v::vs,acc=>parl is vs ((i,v)::acc)
 | _,_,acc=>acc
def bdQ(L:Nat)(fn:FuncId)(params:Array Tmp)(assign body:Code)(D:Nat)(t:Fr)(Q:Out→zB→Nat→Prop):QX:=fun x _ w=>w.d=[]∧match x with
 | .normal=>zF w.h L=LoO .busy none fn params assign body D t∧Q (.ret (.bool true)) (hal w.h L (LoO .ready none fn params assign body D t)) w.n
 | .ret=>zF w.h L=LoO .busy none fn params assign body D t∧Q (.ret (.bool false)) (hal w.h L (LoO .done (some .ret) fn params assign body D t)) w.n
 | .exit i=>zF w.h L=LoO .busy none fn params assign body D t∧Q (.ret (.bool false)) (hal w.h L (LoO .done (some (.exit i)) fn params assign body D t)) w.n
 | .goto _=>False
 | .panic c=>Q (.panic c) w.h w.n
def asQ(P:Program)(ng:Nat)(L:Nat)(fn:FuncId)(params:Array Tmp)(assign body:Code)(D:Nat)(t:Fr)(Q:Out→zB→Nat→Prop):QX:=fun x t' w=>match x with
 | .normal=>zF w.h L=LoO .ready none fn params assign body D t∧WC P ng body ⟨fn,some L,false⟩ t' ⟨w.d,w.u,hal w.h L (LoO .busy none fn params assign body D t),w.n⟩ (bdQ L fn params assign body D t Q)
 | _=>False
theorem setP_par:∀{is:List Tmp} {vs:List Value} {acc:List (Nat×Value)} {t:Fr} {k:Fr→Bool},is.length=vs.length→vR (FA acc t) is vs k=k (FA (parl is vs acc) t):=by
 intro is
 induction is with
 | nil=>intro vs acc t k hl;cases vs with
  | nil=>rfl
  | cons v vs=>cases hl
 | cons i is ih => intro vs acc t k hl; cases vs with
  | nil=>cases hl
  | cons v vs=>
   show xA v (fun v=>fsetK (FA acc t) i v fun t'=>vR t' is vs k)=_;rw [yI,fset_FA,ih (by simpa using hl)];rfl
theorem rou[Fit P ng]{L:Nat}{fn:FuncId}{ps:List Tmp}{assign body:Code}{D:Nat}{l:List (Nat×Value)}{t:Fr}{args:List Value}{h:zB}{n:Nat}{Q:Out→zB→Nat→Prop}(hL:zF h L=LoO .ready none fn ps.toArray assign body D (FA l t))(hl:ps.length=args.length)
(k:WC P ng assign ⟨fn,some L,false⟩ (FA (parl ps args l) t) ⟨[],none,h,n⟩ (asQ P ng L fn ps.toArray assign body D (FA l t) Q)):Rou P ng L args h n Q:=by
 have hx:xround (loS P ng) L args h n (fun o h' n'=>xE (Q o h' n'))=true:=by
  unfold xround;rw [hL];show vR (FA l t) ps.toArray.toList args _=true;rw [show ps.toArray.toList=ps from rfl,setP_par hl];obtain⟨x,t',w',q,r⟩:=k;refine loS_code.2 ⟨x,t',w',?_,r⟩
  cases x with
  | normal =>
   obtain⟨e,x2,t2,w2,q2,r2⟩:=q;obtain⟨d',u',h',n'⟩:=w';dsimp only at e q2 r2 ⊢;rw [e];show h'.setK .dead _ L _=true;rw [Tr.setK_eq];refine loS_code.2 ⟨x2,t2,w2,?_,r2⟩;obtain⟨d2,u2,h2,n2⟩:=w2;obtain⟨hd,q2⟩:=q2;dsimp only at hd;subst hd
   have fin:∀(j:Option Code) (st:LoopState) (b:Bool),(st=match j with|none=>.ready|some _=>.done)→(b=match j with|none=>true|some _=>false)→zF h2 L=LoO .busy none fn ps.toArray assign body D (FA l t)→
    Q (.ret (.bool b)) (hal h2 L (LoO st j fn ps.toArray assign body D (FA l t))) n2→endRound L j h2 n2 (fun o h' n'=>xE (Q o h' n'))=true:=fun j st b e1 e2 e3 e4=>by
    unfold endRound;rw [e3];show h2.setK .dead _ L _=true;rw [Tr.setK_eq];subst e1 e2;exact isSo_iff.2 e4
   cases x2 with
   | normal=>exact fin none .ready true rfl rfl q2.1 q2.2
   | exit i=>exact fin (some (.exit i)) .done false rfl rfl q2.1 q2.2
   | goto i=>exact q2.elim
   | ret=>exact fin (some .ret) .done false rfl rfl q2.1 q2.2
   | panic c=>exact isSo_iff.2 q2
  | exit i=>exact q.elim
  | goto i=>exact q.elim
  | ret=>exact q.elim
  | panic c=>exact q.elim
 obtain⟨o,h',n',q,r⟩:=xround_ok (Fit.ok) uS hx;exact⟨o,h',n',isSo_iff.1 q,r⟩
section
variable {L:Nat} {fn:FuncId} {ps:Array Tmp} {assign body:Code} {D:Nat} {t t':Fr} {Q:Out→zB→Nat→Prop} {u:Option zJ} {h:zB} {n:Nat} {d:List Deferred}
def ObE(h:zB)(L:Nat)(o:AObj):Prop:=zF h L=o
instance:Stp (asQ P ng L fn ps assign body D t Q .normal t' ⟨d,u,h,n⟩) (Ob1 (ObE h L (LoO .ready none fn ps assign body D t)) <| WC P ng body ⟨fn,some L,false⟩ t' ⟨d,u,hal h L (LoO .busy none fn ps assign body D t),n⟩ (bdQ L fn ps assign body D t Q)):=⟨fun⟨h1,h2⟩=>⟨h1,h2⟩⟩
instance:Stp (bdQ L fn ps assign body D t Q .normal t' ⟨[],u,h,n⟩) (Ob1 (ObE h L (LoO .busy none fn ps assign body D t)) <| Q (.ret (.bool true)) (hal h L (LoO .ready none fn ps assign body D t)) n):=⟨fun⟨h1,h2⟩=>⟨rfl,h1,h2⟩⟩
instance:Stp (bdQ L fn ps assign body D t Q .ret t' ⟨[],u,h,n⟩) (Ob1 (ObE h L (LoO .busy none fn ps assign body D t)) <| Q (.ret (.bool false)) (hal h L (LoO .done (some .ret) fn ps assign body D t)) n):=⟨fun⟨h1,h2⟩=>⟨rfl,h1,h2⟩⟩
instance {i:Nat}:Stp (bdQ L fn ps assign body D t Q (.exit i) t' ⟨[],u,h,n⟩) (Ob1 (ObE h L (LoO .busy none fn ps assign body D t)) <| Q (.ret (.bool false)) (hal h L (LoO .done (some (.exit i)) fn ps assign body D t)) n):=⟨fun⟨h1,h2⟩=>⟨rfl,h1,h2⟩⟩
instance {c:zJ}:Stp (bdQ L fn ps assign body D t Q (.panic c) t' ⟨[],u,h,n⟩) (Q (.panic c) h n):=⟨fun h2=>⟨rfl,h2⟩⟩
end
end
theorem obe_hit{h:zB}{L:Nat}{o:AObj}:zF (hal h L o) L=o:=by rw[yY,if_pos rfl]
theorem obe_hal{h:zB}{L n:Nat}{o o':AObj}(hn:L≠n)(e:zF h L=o):zF (hal h n o') L=o:=by rw[yY,if_neg fun e=>hn e.symm];exact e
theorem obe_hst{h:zB}{L a off:Nat}{ws:List Value}{o:AObj}(hn:L≠a)(e:zF h L=o):zF (hst h a off ws) L=o:=by rw[yL,if_neg fun e=>hn e.symm];exact e
theorem obe_tch{S:List Nat}{h h':zB}{n n' L:Nat}{o:AObj}(t:Tch S h n h' n')(hb:L<n)(hS:L∉S)(e:zF h L=o):zF h' L=o:=by rw[t.2 L hb hS];exact e
end Go.Ex
namespace Go.Ex
 class BdC (P:Program) (ty:Nat) (ps:List (Nat×Value)) (cs:outParam (List Value)):Prop where ok:aBuild P ty ps=some (.agg ⟨cs⟩)
 class BsC (P:Program) (ty len:Nat) (ps:List (Nat×Value)) (cs:outParam (List Value)):Prop where ok:xW P ty len ps=some (mkC cs 0 0)
theorem bd_c{P:Program}{ty:Nat}{ps:List (Nat×Value)}{cs:List Value}[s:BdC P ty ps cs]:aBuild P ty ps=some (.agg ⟨cs⟩):=s.ok
theorem bs_c{P:Program}{ty len:Nat}{ps:List (Nat×Value)}{cs:List Value}[s:BsC P ty len ps cs]:xW P ty len ps=some (mkC cs 0 0):=s.ok
 class BnC (P:Program) (op:BinOp) (ty:Nat) (x y:Value) (z:outParam Value):Prop where ok:∀ox oy,Bn P op ty ox oy x y z
theorem bn_c{P:Program}{op:BinOp}{ty:Nat}{x y z:Value}{ox oy:Operand}[s:BnC P op ty x y z]:Bn P op ty ox oy x y z:=s.ok ox oy
end Go.Ex
namespace Go.Ex
theorem bn_s0{P:Program}{ty el:Nat}[s:UnC P ty (.slice el)]{ox oy:Operand}{a b c d:Nat}:Bn P .eql ty ox oy (.slice none a b) (.slice none c d) (.bool true):=by
 show(match BinOp.eql,und P ty with
  | .eql,some dd=>cond (zS ox oy (.slice none a b) (.slice none c d)) ((wH dd (.slice none a b) (.slice none c d)).map Value.bool) none
  | .neq,some dd=>cond (zS ox oy (.slice none a b) (.slice none c d)) ((wH dd (.slice none a b) (.slice none c d)).map fun b=>Value.bool (!b)) none
  | _,_=>none:Option Value)=_
 rw[s.ok];rfl
theorem bn_s1{P:Program}{ty el:Nat}[s:UnC P ty (.slice el)]{ox oy:Operand}{p:Addr}{a b c d:Nat}:Bn P .eql ty ox oy (.slice (some p) a b) (.slice none c d) (.bool false):=by
 show(match BinOp.eql,und P ty with
  | .eql,some dd=>cond (zS ox oy (.slice (some p) a b) (.slice none c d)) ((wH dd (.slice (some p) a b) (.slice none c d)).map Value.bool) none
  | .neq,some dd=>cond (zS ox oy (.slice (some p) a b) (.slice none c d)) ((wH dd (.slice (some p) a b) (.slice none c d)).map fun b=>Value.bool (!b)) none
  | _,_=>none:Option Value)=_
 rw[s.ok];rfl
section
variable {P:Program} {ng:Nat}
end
end Go.Ex
namespace Go.Ex
section
variable {P:Program} {ty:Nat} {z:Value} {h:zB} {b:Nat} {l:List (List UInt8×Value)} {x:List UInt8}
end
end Go.Ex
namespace Go.Ex
noncomputable def slB(P:Program)(ty e sz:Nat):Bool:=match und P ty with
  | some (.slice e') => match inf? P e' with
    | some ei=>Nat.beq e' e && Nat.beq ei.size sz
    | none=>false
  | _=>false
 class SlC (P:Program) (ty:Nat) (e sz:outParam Nat):Prop where ok:slB P ty e sz=true
theorem SlC.get{P:Program}{ty e sz:Nat}(s:SlC P ty e sz):und P ty=some (.slice e)∧∃ei,inf? P e=some ei∧ei.size=sz:=by
 have h:=s.ok;unfold slB at h;split at h
 · rename_i e' h1;split at h
   · rename_i ei h2;obtain⟨a,b⟩:=Bool.and_eq_true_iff.1 h;have a:=zG a;have b:=zG b;subst a;exact⟨h1,ei,h2,b⟩
   · cases h
 · cases h
section
variable {P:Program} {ty e sz lo n len k:Nat} {h:zB} {v:Value} {vs:List Value}
theorem ofListFrom_append:∀(l:List Value) (c:Tr Value) (i:Nat) (l':List Value),Tr.ofListFrom undef (Tr.ofListFrom undef c i l) (i+l.length) l'=Tr.ofListFrom undef c i (l++l'):=by
 intro l
 induction l with
 | nil=>intro c i l';rfl
 | cons a l ih=>
  intro c i l';rw [List.cons_append,List.length_cons,show i+(l.length+1)=(i+1)+l.length by omega];exact ih _ (i+1) l'
def WayR(lo n:Nat)(h:zB)(v:Value)(e sz len:Nat)(vs:List Value):Prop:=∃b m z kd cap,lo≤b∧b<n∧v = .slice (some ⟨b,0,none⟩) len cap∧yF (zF h b)=some (m,z,kd)∧vs.length=len*sz∧vs.length≤m∧(∀i,i<vs.length→zD h b i=vs[i]?)∧
 ((kd=0∧z=0∧cap<inf∧len≤cap∧cap*sz≤m)∨(kd=1∧cap=inf∧z=zc e sz))
theorem WayR.row(r:WayR lo n h v e sz len vs)(hs:1≤sz):Row n h v e sz len vs:=by
 obtain⟨b,m,z,kd,cap,h1,h2,rfl,h3,h4,h5,h6,h7⟩:=r;refine .inr ⟨b,0,cap,m,z,kd,h2,rfl,h4,h3,by omega,fun j x hj=>?_,?_⟩
 · rw[Nat.zero_add,h6 j (List.getElem?_eq_some_iff.1 hj).1];exact hj
 · rcases h7 with⟨rfl,_,g1,g2,g3⟩|⟨rfl,rfl,rfl⟩
   · exact .inl ⟨g1,g2⟩
   · exact .inr ⟨rfl,rfl,rfl,hs⟩
theorem WayR.blk(r:WayR lo n h v e sz len vs){b:Nat}(hb:yE v=some b):lo≤b∧b<n:=by
 obtain⟨b',m,z,kd,cap,h1,h2,rfl,_⟩:=r;injection hb with hb;subst hb;exact⟨h1,h2⟩
theorem WayR.keep(r:WayR lo n h v e sz len vs){h':zB}{n':Nat}(hn:n≤n')(ek:∀b,yE v=some b→zF h' b=zF h b):WayR lo n' h' v e sz len vs:=by
 obtain⟨b,m,z,kd,cap,h1,h2,rfl,h3,h4,h5,h6,h7⟩:=r;have he:=ek b rfl;exact⟨b,m,z,kd,cap,h1,Nat.lt_of_lt_of_le h2 hn,rfl,by rw[he];exact h3,h4,h5,fun i hi=>by unfold zD;rw [he];exact h6 i hi,h7⟩
theorem WayR.tch{S:List Nat}{h':zB}{n':Nat}(r:WayR lo n h v e sz len vs)(t:Tch S h n h' n')(hS:∀b,yE v=some b→b∉S):WayR lo n' h' v e sz len vs:=
 r.keep t.1 fun b hb=>t.2 b (r.blk hb).2 (hS b hb)
theorem way_new{cs:List Value}(hlo:lo≤n)(hl:cs.length=len*sz)(hlt:len<inf):WayR lo (n+1) (hal h n (mkC cs 0 0)) (.slice (some ⟨n,0,none⟩) len len) e sz len cs:=by
 refine⟨n,cs.length,0,0,len,hlo,Nat.lt_succ_self n,rfl,?_,hl,Nat.le_refl _,fun i _=>?_,.inl ⟨rfl,rfl,hlt,Nat.le_refl _,by omega⟩⟩
 · rw[yY,if_pos rfl];exact wZ _ _ _
 · unfold zD;rw [yY,if_pos rfl];exact wK _ _ _ _
theorem way_app{sT xT m:Nat}{x:Value}{new:List Value}[A:ApC P sT xT e sz]{cx:Cx}{d:List Deferred}{u:Option zJ}{K:W→Value→Prop}(r:WayR lo n h v e sz len vs)(hvs:∀y∈vs,y.oneCell'=true)(hlo:lo≤n)(hr:Row n h x e sz m new)(hm:0<m)(h1:∀y∈new,y.oneCell'=true)(hlim:len+m<1000000)
(k:∀v' h' n',WayR lo n' h' v' e sz (len+m) (vs++new)→(∀b,yE v'=some b→yE v=some b∨n≤b)→Tch (yE v).toList h n h' n'→K ⟨d,u,h',n'⟩ v'):BuB P cx .append [sT,xT] [v,x] d u h n K:=by
 obtain⟨xd,ei,z0,t1,t2,t3,t4,t5,t6,t7,t8,t9⟩:=apTB_of A.ok;have hnew:new.length=m*sz:=hr.lens;have hap:xR P h e ei.size xd x=some (m,new):=by rw[t6];exact appended_of t3 hr
 have hrow:=(row_of (r.row (by omega))).1;obtain⟨b,bm,z,kd,cap,g1,g2,rfl,g3,g4,g5,g6,g7⟩:=r;show eAppend P [sT,xT] [.slice (some ⟨b,0,none⟩) len cap,x] h n (fun h' n' v'=>xE (K ⟨d,u,h',n'⟩ v'))=true;unfold eAppend xappend;dsimp only;rw [t1,t2];dsimp only;rw [t4,t5];dsimp only;rw [hap];dsimp only
 have c1:(Nat.beq ei.size 0 || !Nat.beq (cellsOf z0).length ei.size || !Nat.blt (Nat.add len m) 1000000 || !Nat.blt ei.bytes 100000)=false:=by
  have a1:Nat.beq ei.size 0=false:=by
   cases e9:Nat.beq ei.size 0 with
   | false=>rfl
   | true=>have:=zG e9;omega
  have a2:Nat.beq (cellsOf z0).length ei.size=true:=by rw[t7,t6];exact Nat.beq_refl _
  rw[a1,a2,xO (show Nat.add len m<1000000 from hlim),xO t9];rfl
 rw[c1]
 have hm0:Nat.beq m 0=false:=by
  cases e9:Nat.beq m 0 with
  | false=>rfl
  | true=>have:=zG e9;omega
 rw[hm0];show cond (Nat.beq cap inf) _ _=true;have hlen:(vs++new).length=(len+m)*sz:=by rw[List.length_append,g4,hnew,Nat.add_mul]
 have inplace:(len+m)*sz≤bm→∀cap',((kd=0∧z=0∧cap'<inf∧len+m≤cap'∧cap'*sz≤bm)∨(kd=1∧cap'=inf∧z=zc e sz))→K ⟨d,u,hst h b (len*sz) new,n⟩ (.slice (some ⟨b,0,none⟩) (len+m) cap'):=fun hle cap' hc=>by
  have hk3:kd≠3:=by rcases hc with⟨rfl,_⟩|⟨rfl,_⟩ <;> decide
  have hfit:len*sz+new.length≤bm:=by rw[hnew,← Nat.add_mul];exact hle
  refine k _ _ _ ⟨b,bm,z,kd,cap',g1,g2,rfl,?_,hlen,by omega,fun i hi=>?_,hc⟩ (fun b' hb'=>.inl hb') ⟨Nat.le_refl _,fun b' hb' hS=>?_⟩
  · rw[yL,if_pos rfl,infoOf_stC];exact g3
  · unfold zD;rw [yL,if_pos rfl,cellOf_stC _ _ _ g3 hfit hk3];by_cases hi2:len*sz≤i
    · rw[if_pos (by rw[List.length_append]at hi;omega),List.getElem?_append_right (by omega),g4]
    · rw[if_neg (by omega),List.getElem?_append_left (by omega)];exact g6 i (by omega)
  · rw[yL,if_neg (by
     rintro rfl
     exact hS (by simp[yE]))]
 have fresh:∀(c:Tr Value) (h1':zB),(∀i,i<vs.length→Tr.get undef c i=(vs[i]?).getD undef)→(∀b',b'≠b→zF h1' b'=zF h b')→K ⟨d,u,hal h1' n (.cells (Tr.ofListFrom undef c vs.length new) ((len+m)*sz) (zc e sz) 1),n+1⟩ (.slice (some ⟨n,0,none⟩) (len+m) inf):=fun c h1' hc hh=>by
  refine k _ _ _ ⟨n,(len+m)*sz,zc e sz,1,inf,hlo,Nat.lt_succ_self n,rfl,?_,hlen,by omega,fun i hi=>?_,.inr ⟨rfl,rfl,rfl⟩⟩ (fun b' hb'=>.inr (by
   injection hb' with hb';have hb':n=b':=hb';omega)) ⟨Nat.le_succ n,fun b' hb' hS=>?_⟩
  · rw[yY,if_pos rfl];rfl
  · unfold zD;rw [yY,if_pos rfl];unfold xN;dsimp only;rw [if_pos (by omega),Tr.get_ofListFrom];rw [List.length_append]at hi;by_cases hi2:vs.length≤i
    · rw[if_pos (by omega),List.getElem?_append_right hi2];simp [List.getElem?_eq_getElem (show i - vs.length<new.length by omega),List.getD_eq_getElem?_getD]
    · rw[if_neg (by omega),hc i (by omega),List.getElem?_append_left (by omega),List.getElem?_eq_getElem (by omega)];rfl
  · rw[yY,if_neg (by omega)]
    exact hh b' (by
     rintro rfl
     exact hS (by simp[yE]))
 rcases g7 with⟨rfl,rfl,p1,p2,p3⟩|⟨rfl,rfl,rfl⟩
 · have hci:Nat.beq cap inf=false:=by
    cases e9:Nat.beq cap inf with
    | false=>rfl
    | true=>have:=zG e9;omega
   rw[hci];show growEx h n (some ⟨b,0,none⟩) len cap m ei.size (zc e ei.size) new (fun v h n=>xE (K ⟨d,u,h,n⟩ v))=true;unfold growEx;by_cases hc:len+m≤cap
   · rw[wQ (show Nat.add len m≤cap from hc)];show storeAt h b (Nat.add 0 (Nat.mul len ei.size)) new (fun h'=>xE (K ⟨d,u,h',n⟩ (.slice (some ⟨b,0,none⟩) (Nat.add len m) cap)))=true;have e0:Nat.add 0 (Nat.mul len ei.size)=len*sz:=by rw[t6];exact Nat.zero_add _
     rw[e0];have hcm:(len+m)*sz≤bm:=Nat.le_trans (Nat.mul_le_mul_right _ hc) p3;refine storeAt_tt g3 ⟨by decide,by decide⟩ (by rw[hnew,← Nat.add_mul];exact hcm) h1 ?_;exact isSo_iff.2 (inplace hcm cap (.inl ⟨rfl,rfl,p1,hc,p3⟩))
   · have e1:Nat.ble (Nat.add len m) cap=false:=by
      cases e9:Nat.ble (Nat.add len m) cap with
      | false=>rfl
      | true=>exact absurd (yQ e9) hc
     rw[e1]
     show(match rowOf h ei.size len (.slice (some ⟨b,0,none⟩) len cap) with
      | some old=>wG .lF 0 (old++new) fun c=>zV h n (.cells c (Nat.mul (Nat.add len m) ei.size) (zc e ei.size) 1) fun h' n'=>xE (K ⟨d,u,h',n'⟩ (.slice (some ⟨n,0,none⟩) (Nat.add len m) inf))
      | none=>false)=true
     rw[t6,hrow];dsimp only;refine vN (fun y hy=>(List.mem_append.1 hy).elim (hvs y) (h1 y)) ?_;rw [xJ];have:=fresh (Tr.ofListFrom undef .lF 0 vs) h (fun i hi=>by rw[Tr.get_ofListFrom,if_pos (by omega)];simp [List.getD_eq_getElem?_getD]) (fun _ _=>rfl)
     have e3:Tr.ofListFrom undef (Tr.ofListFrom undef .lF 0 vs) vs.length new=Tr.ofListFrom undef .lF 0 (vs++new):=by
      have:=ofListFrom_append vs .lF 0 new
      rwa [Nat.zero_add]at this
     rw[e3]at this;exact isSo_iff.2 this
 · have hci:Nat.beq inf inf=true:=Nat.beq_refl _;rw [hci];show growOpen h n b len m ei.size (zc e ei.size) new (fun v h n=>xE (K ⟨d,u,h,n⟩ v))=true;unfold growOpen;have g3':=g3;cases hg:zF h b <;> rw[hg]at g3 <;> first|(cases g3;done)|(exact absurd (kd_of g3) (by decide))|skip
   rename_i c kn z' kd';have q3':some (kn,z',kd')=some (bm,zc e sz,1):=g3;simp only[Option.some.injEq,Prod.mk.injEq]at q3';obtain⟨rfl,rfl,rfl⟩:=q3';show cond (Nat.beq (zc e sz) (zc e ei.size)) _ _=true;have e5:Nat.beq (zc e sz) (zc e ei.size)=true:=by rw[t6];exact Nat.beq_refl _
   rw[e5];by_cases hc:(len+m)*sz≤kn
   · rw[wQ (show Nat.mul (Nat.add len m) ei.size≤kn by rw[t6];exact hc)];show storeAt h b (Nat.mul len ei.size) new (fun h'=>xE (K ⟨d,u,h',n⟩ (.slice (some ⟨b,0,none⟩) (Nat.add len m) inf)))=true;have e0:Nat.mul len ei.size=len*sz:=by rw[t6];rfl
     rw[e0];refine storeAt_tt g3' ⟨by decide,by decide⟩ (by rw[hnew,← Nat.add_mul];exact hc) h1 ?_;exact isSo_iff.2 (inplace hc inf (.inr ⟨rfl,rfl,rfl⟩))
   · have e6:Nat.ble (Nat.mul (Nat.add len m) ei.size) kn=false:=by
      cases e9:Nat.ble (Nat.mul (Nat.add len m) ei.size) kn with
      | false=>rfl
      | true=>have:=yQ e9;rw [t6]at this;exact absurd this hc
     rw[e6];have e7:Nat.mul len ei.size=vs.length:=by rw[t6];exact g4.symm
     rw[e7,wQ g5];show wG c vs.length new _=true;refine vN h1 ?_;rw [Tr.setK_eq,xJ];have hmm:Nat.mul (Nat.add len m) ei.size=(len+m)*sz:=by rw[t6];rfl
     rw[hmm];refine isSo_iff.2 (fresh c _ (fun i hi=>?_) fun b' hb'=>?_)
     · have:=g6 i hi;unfold zD at this;rw [hg]at this;unfold xN at this;dsimp only at this;rw [if_pos (by omega)]at this;rw [← this];rfl
     · rw[zK,if_neg fun e=>hb' e.symm]
end
end Go.Ex
namespace Go.Ex
section
variable {P:Program} {ng:Nat}
end
end Go.Ex
namespace Go.Ex
open Go.RowKit Classical
section
variable {P:Program} {ng:Nat}
def szB(w:World)(b:Nat):Nat:=match w.heap[b]? with|some (.cells cs _ _)=>cs.size|_=>0
def idI(w:World):Inj:=fun b=>if b<w.heap.size then some ⟨b,szB w b,0⟩ else none
theorem idI_lt{w:World}{b:Nat}{B:Bl}(h:idI w b=some B):b<w.heap.size∧B=⟨b,szB w b,0⟩:=by
 unfold idI at h;split at h
 · rename_i hb;injection h with h;exact⟨hb,h.symm⟩
 · cases h
theorem idI_of{w:World}{b:Nat}(h:b<w.heap.size):idI w b=some ⟨b,szB w b,0⟩:=if_pos h
def absV(b0:Nat):Value→Value
 | .slice (some _) 0 0=>.slice (some ⟨b0,0,none⟩) 0 0
 | v=>v
noncomputable def tellV(b0:Nat)(w:World)(v:Value):Value:=if RV (idI w) (absV b0 v) v then absV b0 v else undef
noncomputable def tellO(b0:Nat)(w:World)(o:Option Obj):AObj:=match o with
 | some (.cells cs _ _)=>.rows (Tr.ofListFrom undef .lF 0 (cs.toList.map (tellV b0 w))) cs.size
 | _=>.dead
noncomputable def tellH(b0:Nat)(w:World):Nat→zB
 | 0=>.lF
 | k+1=>(tellH b0 w k).set .dead (tellO b0 w w.heap[k]?) k
theorem tellH_get(b0:Nat)(w:World)(k b:Nat):zF (tellH b0 w k) b=if b<k then tellO b0 w w.heap[b]? else .dead:=by
 induction k with
 | zero=>rw [if_neg (by omega)];exact Tr.get_leaf _ _
 | succ k ih=>
  show zF ((tellH b0 w k).set .dead (tellO b0 w w.heap[k]?) k) b=_;rw [zK,ih];by_cases h:k=b
  · subst h;rw [if_pos rfl,if_pos (by omega)]
  · rw[if_neg h];by_cases h2:b<k
    · rw[if_pos h2,if_pos (by omega)]
    · rw[if_neg h2,if_neg (by omega)]
noncomputable def mirH(b0:Nat)(w:World):List (Nat×List Value)→zB
 | []=>tellH b0 w w.heap.size
 | p::r=>(mirH b0 w r).set .dead (mkC p.2 0 2) p.1
theorem mirH_get(b0:Nat)(w:World)(tabs:List (Nat×List Value))(b:Nat):(∃p∈tabs,p.1=b∧zF (mirH b0 w tabs) b=mkC p.2 0 2)∨zF (mirH b0 w tabs) b=if b<w.heap.size then tellO b0 w w.heap[b]? else .dead:=by
 induction tabs with
 | nil=>exact .inr (tellH_get b0 w _ b)
 | cons p r ih=>
  have e:zF (mirH b0 w (p::r)) b=if p.1=b then mkC p.2 0 2 else zF (mirH b0 w r) b:=zK _ _ _ _
  by_cases h:p.1=b
  · exact .inl ⟨p,List.mem_cons_self ..,h,by rw[e,if_pos h]⟩
  · rw[e,if_neg h];rcases ih with⟨q,h1,h2,h3⟩|h1
    · exact .inl ⟨q,List.mem_cons_of_mem _ h1,h2,h3⟩
    · exact .inr h1
theorem mir_heapR{b0:Nat}{w:World}{tabs:List (Nat×List Value)}(hng:ng≤w.heap.size)(hw:TabsIn w tabs)(hgood:∀p∈tabs,∀v∈p.2,RV (idI w) v v) :
 HeapR P ng (idI w) w.heap.size w (mirH b0 w tabs) w.heap.size w:=by
 refine⟨fun b hb=>if_neg (by omega),fun b B e hl=>?_,fun a b A B ea eb _ _ hab=>?_,Below.refl _ _,Nat.le_refl _,fun g hg=>⟨_,idI_of (by omega),rfl⟩,hng⟩
 · obtain⟨hb,rfl⟩:=idI_lt e;rcases mirH_get b0 w tabs b with⟨p,h1,rfl,h3⟩|h1
   · obtain⟨el,⟨lo,hi⟩,h4⟩:=hw p h1;refine⟨_,h4,?_⟩;have hs:szB w p.1=p.2.length:=by unfold szB;rw [h4];rfl
     rw[h3];refine .cells (by rw[hs];exact Nat.le_refl _) (by rw[hs];rfl) (fun _=>hs.symm) ⟨fun h=>by omega,fun h=>by omega⟩ (fun i v' hi2 e=>?_) (fun h=>absurd rfl h) (fun h=>absurd rfl h);rw [Tr.get_ofListFrom,if_pos (by omega)];have e1:p.2[i]? = some (p.2.getD (i - 0) undef):=by simp[List.getElem?_eq_getElem hi2]
     have e2:p.2[i]? = some v':=by simpa using e
     rw[e1]at e2;injection e2 with e2;subst e2
     exact hgood p h1 _ (List.mem_iff_getElem?.2 ⟨i,e1⟩)
   · rw[if_pos hb]at h1;rw [h1]at hl ⊢
     cases ho:w.heap[b]? with
     | none=>rw [ho]at hl;exact absurd rfl hl
     | some o =>
      rw[ho]at hl;refine⟨o,rfl,?_⟩;cases o <;> first|exact absurd rfl hl|skip
      rename_i cs el fr;refine .rows rfl (fun i v' e hu=>?_);have hi:i<cs.size:=(Array.getElem?_eq_some_iff.1 e).1;have e1:(cs.toList.map (tellV b0 w))[i]? = some (tellV b0 w v'):=by rw[List.getElem?_map,Array.getElem?_toList,e];rfl
      have e2:Tr.get undef (Tr.ofListFrom undef .lF 0 (cs.toList.map (tellV b0 w))) i=tellV b0 w v':=by
       rw[Tr.get_ofListFrom,if_pos (by simp;exact hi)];simp only[List.getD_eq_getElem?_getD,Nat.sub_zero,e1,Option.getD_some]
      rw[e2]at hu ⊢;unfold tellV at hu ⊢;by_cases hr:RV (idI w) (absV b0 v') v'
      · rw[if_pos hr];exact hr
      · rw[if_neg hr]at hu;cases hu
 · obtain⟨_,rfl⟩:=idI_lt ea;obtain⟨_,rfl⟩:=idI_lt eb;exact hab
theorem mir_tab{b0:Nat}{w:World}{tabs:List (Nat×List Value)}(hd:∀p∈tabs,∀q∈tabs,p.1=q.1→p=q){p:Nat×List Value}(hp:p∈tabs):zF (mirH b0 w tabs) p.1=mkC p.2 0 2:=by
 induction tabs with
 | nil=>cases hp
 | cons q r ih=>
  have e:zF (mirH b0 w (q::r)) p.1=if q.1=p.1 then mkC q.2 0 2 else zF (mirH b0 w r) p.1:=zK _ _ _ _
  rw[e];by_cases h:q.1=p.1
  · rw[if_pos h,hd q (List.mem_cons_self ..) p hp h]
  · rw[if_neg h];rcases List.mem_cons.1 hp with rfl|hp
    · exact absurd rfl h
    · exact ih (fun a ha b hb=>hd a (List.mem_cons_of_mem _ ha) b (List.mem_cons_of_mem _ hb)) hp
theorem mir_cell{b0:Nat}{w:World}{tabs:List (Nat×List Value)}(hw:TabsIn w tabs)(hab:∀p∈tabs,∀v∈p.2,absV b0 v=v){b i:Nat}{v:Value}(hc:w.cell? ⟨b,i,none⟩=some v)(hr:RV (idI w) (absV b0 v) v)(hu:isU (absV b0 v)=false) :
 zD (mirH b0 w tabs) b i=some (absV b0 v)∧b<w.heap.size∧∃m kd,yF (zF (mirH b0 w tabs) b)=some (m,0,kd)∧m=szB w b∧i<m∧kd≠0:=by
 unfold World.cell? at hc;dsimp only at hc;split at hc
 · rename_i cs el fr ho;have hc:cs[i]? = some v:=by simpa using hc
   have hb:b<w.heap.size:=by
    rcases Nat.lt_or_ge b w.heap.size with h1|h1
    · exact h1
    · rw[Array.getElem?_eq_none h1]at ho;cases ho
   have hi:i<cs.size:=(Array.getElem?_eq_some_iff.1 hc).1;have hs:szB w b=cs.size:=by unfold szB;rw [ho]
   refine⟨?_,hb,?_⟩
   · unfold zD;rcases mirH_get b0 w tabs b with⟨p,h1,rfl,h3⟩|h1
     · obtain⟨el',fr',h4⟩:=hw p h1;rw [ho]at h4;injection h4 with h4;injection h4 with h4 _ _;subst h4
       rw[h3,wK];have hc:p.2[i]? = some v:=by simpa using hc
       rw[hab p h1 v (List.mem_iff_getElem?.2 ⟨i,hc⟩)];exact hc
     · rw[h1,if_pos hb,ho];have e1:(cs.toList.map (tellV b0 w))[i]? = some (absV b0 v):=by rw[List.getElem?_map,Array.getElem?_toList,hc];exact congrArg some (if_pos hr)
       have e2:Tr.get undef (Tr.ofListFrom undef .lF 0 (cs.toList.map (tellV b0 w))) i=absV b0 v:=by
        rw[Tr.get_ofListFrom,if_pos (by simp;exact hi)];simp only[List.getD_eq_getElem?_getD,Nat.sub_zero,e1,Option.getD_some]
       show(if i<cs.size∧isU (Tr.get undef (Tr.ofListFrom undef .lF 0 (cs.toList.map (tellV b0 w))) i)=false then some (Tr.get undef (Tr.ofListFrom undef .lF 0 (cs.toList.map (tellV b0 w))) i) else none)=some (absV b0 v);rw [e2,if_pos ⟨hi,hu⟩]
   · rcases mirH_get b0 w tabs b with⟨p,h1,rfl,h3⟩|h1
     · obtain⟨el',fr',h4⟩:=hw p h1;rw [ho]at h4;injection h4 with h4;injection h4 with h4 _ _;subst h4
       exact⟨_,2,by rw[h3];rfl,hs.symm,hi,by decide⟩
     · exact⟨_,3,by rw[h1,if_pos hb,ho];rfl,hs.symm,hi,by decide⟩
 · cases hc
theorem law_com{f:FuncId}{args args':List Value}{h:zB}{n:Nat}(r:Com P ng f args h n fun o _ _=>o = .ret (.bool true))(w:World){ρ : Inj}(hH:HeapR P ng ρ w.heap.size w h n w)(hra:RVs ρ args args') :
 Calls P f ⟨args'⟩ w fun e w'=>e = .returned (.bool true)∧Go.RowKit.Below w.heap.size w w':=by
 obtain⟨o,h',n',rfl,hc⟩:=r none;have hx:(loS P ng).call f args false none h n (finV (.bool true))=true:=loS_call.2 ⟨.ret (.bool true),none,h',n',rfl,hc⟩;obtain⟨o,u',h',n',hk,hc⟩:=calls_of uS hx;obtain rfl:=finV_ret hk;refine(hc ρ w.heap.size w w args' hH hra).mono fun e w' ⟨ρ',h1,h2,h3⟩=>?_
 cases e with
 | returned v'=>
  have h3:RV ρ' (.bool true) v':=h3;rw [h3.of_bool];exact⟨rfl,h1.below⟩
 | _=>cases h3
end
end Go.Ex
namespace Go.Ex
section
variable {P:Program} {ty:Nat} {ox oy:Operand} {a:Nat}
theorem bn_quo64(h:(a:Int)<9223372036854775808):Bn P .quo ty ox oy (I64 (a:Nat)) (I64 64) (I64 ((a / 64:Nat):Int)):=by
 unfold Bn;rw [binI];show cond (ieqB 64 0) none (some (Value.int .i64 (wL .i64 (Int.tdiv (a:Nat) 64))))=_;rw [xI];show some (Value.int .i64 (wL .i64 (Int.tdiv (a:Nat) 64)))=_
 have e:Int.tdiv ((a:Nat):Int) 64=((a / 64:Nat):Int):=by
  rw[show(64:Int)=((64:Nat):Int) from rfl,Int.ofNat_tdiv]
 rw[e,wrap_in ⟨by omega,by omega⟩]
theorem bn_rem64:Bn P .rem ty ox oy (I64 (a:Nat)) (I64 64) (I64 ((a % 64:Nat):Int)):=by
 unfold Bn;rw [binI];show cond (ieqB 64 0) none (some (Value.int .i64 (Int.tmod (a:Nat) 64)))=_;rw [xI];show some (Value.int .i64 (Int.tmod (a:Nat) 64))=_
 have e:Int.tmod ((a:Nat):Int) 64=((a % 64:Nat):Int):=by
  rw[show(64:Int)=((64:Nat):Int) from rfl,Int.ofNat_tmod]
 rw[e]
abbrev U64(x:Nat):Value:=.int .u64 ((x:Nat):Int)
theorem wrap_u{x:Nat}(h:x<18446744073709551616):wL .u64 ((x:Nat):Int)=(x:Nat):=by
 rw[wB];show((x:Nat):Int) % 18446744073709551616=_;omega
theorem bn_shl{x m:Nat}(hm:m<64)(h:x*2 ^ m<18446744073709551616):Bn P .shl ty ox oy (U64 x) (I64 (m:Nat)) (U64 (x*2 ^ m)):=by
 show(cond (Nat.blt m 64) (some (Value.int .u64 (wL .u64 (Int.mul (x:Nat) (.ofNat (Nat.pow 2 m)))))) none:Option Value)=_;rw [xO hm];have e:Int.mul ((x:Nat):Int) (.ofNat (Nat.pow 2 m))=((x*2 ^ m:Nat):Int):=rfl;rw [e,wrap_u h];rfl
theorem bn_shl1{m:Nat}(hm:m<64):Bn P .shl ty ox oy (.int .u64 1) (I64 (m:Nat)) (U64 (2 ^ m)):=by
 have h:2 ^ m<18446744073709551616:=Nat.pow_lt_pow_right (by decide) hm;have:=bn_shl (P:=P) (ty:=ty) (ox:=ox) (oy:=oy) (x:=1) hm (by omega);rw [Nat.one_mul]at this;exact this
theorem bn_shr{x m:Nat}(hm:m<64):Bn P .shr ty ox oy (U64 x) (I64 (m:Nat)) (U64 (x >>> m)):=by
 show(cond (Nat.blt m 64) (some (Value.int .u64 (.ofNat (Nat.shiftRight x m)))) none:Option Value)=_;rw [xO hm];rfl
theorem bits_of{op:BinOp}{x y r:Nat}(hx:x<18446744073709551616)(hy:y<18446744073709551616)(he:bitNat op x y=some r):aBits op .u64 ((x:Nat):Int) ((y:Nat):Int)=some (U64 r):=by
 show cond (Nat.blt x 18446744073709551616 && Nat.blt y 18446744073709551616) ((bitNat op x y).map fun r=>Value.int .u64 (.ofNat r)) none=_;rw [xO hx,xO hy,he];rfl
theorem bn_and{x y:Nat}(hx:x<18446744073709551616)(hy:y<18446744073709551616):Bn P .and ty ox oy (U64 x) (U64 y) (U64 (x &&& y)):=by
 unfold Bn;rw [binI];exact bits_of hx hy rfl
theorem bn_and1{x:Nat}(hx:x<18446744073709551616):Bn P .and ty ox oy (U64 x) (.int .u64 1) (U64 (x &&& 1)):=bn_and hx (by decide)
theorem bn_or{x y:Nat}(hx:x<18446744073709551616)(hy:y<18446744073709551616):Bn P .or ty ox oy (U64 x) (U64 y) (U64 (x ||| y)):=by
 unfold Bn;rw [binI];exact bits_of hx hy rfl
theorem bn_andnot{x y:Nat}(hx:x<18446744073709551616)(hy:y<18446744073709551616):Bn P .andNot ty ox oy (U64 x) (U64 y) (U64 (x ^^^ (x &&& y))):=by
 unfold Bn;rw [binI];exact bits_of hx hy rfl
end
end Go.Ex
namespace Go.Ex
section
variable {P:Program} {ty el:Nat} {ox oy:Operand} {p:Addr} {a b:Bool}
theorem bn_p1[s:UnC P ty (.pointer el)]:Bn P .eql ty ox oy (.pointer (some p)) (.pointer none) (.bool false):=by
 show(match BinOp.eql,und P ty with
  | .eql,some d=>cond (zS ox oy (.pointer (some p)) (.pointer none)) ((wH d (.pointer (some p)) (.pointer none)).map Value.bool) none
  | .neq,some d=>cond (zS ox oy (.pointer (some p)) (.pointer none)) ((wH d (.pointer (some p)) (.pointer none)).map fun b=>Value.bool (!b)) none
  | _,_=>none:Option Value)=_
 rw[s.ok];rfl
theorem bn_p0[s:UnC P ty (.pointer el)]:Bn P .eql ty ox oy (.pointer none) (.pointer none) (.bool true):=by
 show(match BinOp.eql,und P ty with
  | .eql,some d=>cond (zS ox oy (.pointer none) (.pointer none)) ((wH d (.pointer none) (.pointer none)).map Value.bool) none
  | .neq,some d=>cond (zS ox oy (.pointer none) (.pointer none)) ((wH d (.pointer none) (.pointer none)).map fun b=>Value.bool (!b)) none
  | _,_=>none:Option Value)=_
 rw[s.ok];rfl
theorem bn_q1[s:UnC P ty (.pointer el)]:Bn P .neq ty ox oy (.pointer (some p)) (.pointer none) (.bool true):=by
 show(match BinOp.neq,und P ty with
  | .eql,some d=>cond (zS ox oy (.pointer (some p)) (.pointer none)) ((wH d (.pointer (some p)) (.pointer none)).map Value.bool) none
  | .neq,some d=>cond (zS ox oy (.pointer (some p)) (.pointer none)) ((wH d (.pointer (some p)) (.pointer none)).map fun b=>Value.bool (!b)) none
  | _,_=>none:Option Value)=_
 rw[s.ok];rfl
theorem bn_q0[s:UnC P ty (.pointer el)]:Bn P .neq ty ox oy (.pointer none) (.pointer none) (.bool false):=by
 show(match BinOp.neq,und P ty with
  | .eql,some d=>cond (zS ox oy (.pointer none) (.pointer none)) ((wH d (.pointer none) (.pointer none)).map Value.bool) none
  | .neq,some d=>cond (zS ox oy (.pointer none) (.pointer none)) ((wH d (.pointer none) (.pointer none)).map fun b=>Value.bool (!b)) none
  | _,_=>none:Option Value)=_
 rw[s.ok];rfl
theorem bn_be[s:UnC P ty .bool]:Bn P .eql ty ox oy (.bool a) (.bool b) (.bool (a == b)):=by
 show(match BinOp.eql,und P ty with
  | .eql,some d=>cond (zS ox oy (.bool a) (.bool b)) ((wH d (.bool a) (.bool b)).map Value.bool) none
  | .neq,some d=>cond (zS ox oy (.bool a) (.bool b)) ((wH d (.bool a) (.bool b)).map fun b=>Value.bool (!b)) none
  | _,_=>none:Option Value)=_
 rw[s.ok];cases a <;> cases b <;> rfl
theorem bn_bn[s:UnC P ty .bool]:Bn P .neq ty ox oy (.bool a) (.bool b) (.bool (a != b)):=by
 show(match BinOp.neq,und P ty with
  | .eql,some d=>cond (zS ox oy (.bool a) (.bool b)) ((wH d (.bool a) (.bool b)).map Value.bool) none
  | .neq,some d=>cond (zS ox oy (.bool a) (.bool b)) ((wH d (.bool a) (.bool b)).map fun b=>Value.bool (!b)) none
  | _,_=>none:Option Value)=_
 rw[s.ok];cases a <;> cases b <;> rfl
end
section
variable {P:Program} {ty:Nat} {ox oy:Operand} {a:Nat}
theorem bn_quo8(h:(a:Int)<9223372036854775808):Bn P .quo ty ox oy (I64 (a:Nat)) (I64 8) (I64 ((a / 8:Nat):Int)):=by
 unfold Bn;rw [binI];show cond (ieqB 8 0) none (some (Value.int .i64 (wL .i64 (Int.tdiv (a:Nat) 8))))=_;rw [xI];show some (Value.int .i64 (wL .i64 (Int.tdiv (a:Nat) 8)))=_
 have e:Int.tdiv ((a:Nat):Int) 8=((a / 8:Nat):Int):=by
  rw[show(8:Int)=((8:Nat):Int) from rfl,Int.ofNat_tdiv]
 rw[e,wrap_in ⟨by omega,by omega⟩]
end
theorem lka_lent{P:Program}{l:List (Nat×Value)}{t:Fr}{lo hi:Nat}{hs:List W}{ty:Nat}{x:Operand}{a:List UInt8}{k n:Nat}{h:zB}{dd:List Deferred}{u:Option zJ}[s:UnC P ty .string](e:evb l t x=str a)(r:LkA P ⟨.call ⟨.builtin .len,[x].toArray,[ty].toArray⟩,FA l t,I64 (a.length:Nat),lo,hi⟩ (Nat.pred k) hs) :
 LkA P ⟨.call ⟨.builtin .len,[x].toArray,[ty].toArray⟩,FA l t,I64 (a.length:Nat),lo,hi⟩ k (⟨dd,u,h,n⟩::hs):=by
 refine lka_on ?_ ?_ sm_int r
 · show blkLt n (ev (FA l t) x)=true;rw [yK,e];rfl
 · show quietB P .len [ty] [ev (FA l t) x] h=_;rw [yK,e];exact len_txt
end Go.Ex
namespace Go.Ex
theorem Cel.cell{h:zB}{b z kd i:Nat}{vs:List Value}{v:Value}(c:Cel h b z kd vs)(e:vs[i]? = some v):zD h b i=some v:=(c.2 i).trans e
theorem iad_sl{sz b off len cap j:Nat}{k:IntKind}(h:j<len):Iad sz (.slice (some ⟨b,off,none⟩) len cap) (.int k (j:Nat)) (.pointer (some ⟨b,off+j*sz,none⟩)):=⟨b,off,len,cap,k,j,rfl,rfl,h,rfl⟩
theorem ixv_0{P:Program}{ty:Nat}[UnC P ty .string]{a:List UInt8}{k:IntKind}{b:UInt8}(hb:a[0]? = some b):Ixv P ty (str a) (.int k 0) (.int .u8 (b.toNat:Nat)):=ixv_str (i:=0) hb
theorem iad_0{lo:Nat}{h:zB}{v:Value}{e sz len:Nat}{vs:List Value}{k:IntKind}(r:Row lo h v e sz len vs)(hi:0<len):Iad sz v (.int k 0) (.pointer (some ⟨sbk v,sof v+0*sz,none⟩)):=iad_rw (i:=0) r hi
theorem iad_1{lo:Nat}{h:zB}{v:Value}{e sz len:Nat}{vs:List Value}{k:IntKind}(r:Row lo h v e sz len vs)(hi:1<len):Iad sz v (.int k 1) (.pointer (some ⟨sbk v,sof v+1*sz,none⟩)):=iad_rw (i:=1) r hi
theorem nT{z:Bool}(h:z=false):(!z)=true:=by rw[h];rfl
theorem nF{z:Bool}(h:z=true):(!z)=false:=by rw[h];rfl
structure VBox where
 v:Value
noncomputable def lkB(l:List (Nat×Value))(t:Fr)(i:Nat):VBox:=match l with
 | []=>⟨fget t i⟩
 | (j,v)::r=>bif Nat.beq j i then⟨v⟩ else lkB r t i
theorem lkB_eq(l:List (Nat×Value))(t:Fr)(i:Nat):lkB l t i=⟨lk l t i⟩:=by
 induction l with
 | nil=>rfl
 | cons p r ih=>
  show(bif Nat.beq p.1 i then(⟨p.2⟩:VBox) else lkB r t i)=⟨bif Nat.beq p.1 i then p.2 else lk r t i⟩;rw [ih];cases Nat.beq p.1 i <;> rfl
noncomputable def evbB(l:List (Nat×Value))(t:Fr)(x:Operand):VBox:=match x with
 | .tmp i=>lkB l t i
 | .const v=>⟨v⟩
 | .global g=>⟨.pointer (some ⟨g,0,none⟩)⟩
 | .func f=>⟨.func (.func f) #[] #[]⟩
theorem zE{l:List (Nat×Value)}{t:Fr}{i:Nat}{v:Value}(h:lkB l t i=⟨v⟩):lk l t i=v:=by rw[lkB_eq]at h;injection h
theorem ev_box{l:List (Nat×Value)}{t:Fr}{x:Operand}{v:Value}(h:evbB l t x=⟨v⟩):evb l t x=v:=by
 cases x with
 | tmp i=>exact zE h
 | const w=>injection h
 | global g=>injection h
 | func g=>injection h
theorem bx_one{v:Value}(e:v.oneCell'=true):Bx v [v]:=⟨by cases v <;> first|rfl|(cases e;done),e,trivial⟩
theorem bx_row{lo:Nat}{h:zB}{v:Value}{e sz len:Nat}{vs:List Value}(r:Row lo h v e sz len vs):Bx v [v]:=bx_one r.one
theorem zC{h:zB}{b z kd:Nat}{vs:List Value}(c:Cel h b z kd vs:=by
 repeat' first
  | with_reducible assumption
  | with_reducible exact cel_hal _ _ _ _ _
  | with_reducible apply Cel.put
  | with_reducible apply Cel.hal
  | with_reducible apply Cel.hst
  | ((with_reducible apply Cel.tcm);(focus (with_reducible assumption)))
  | decide
  | omega
  | (simp;done)
  | (simp;omega)):Cel h b z kd vs:=c
theorem Cel.as{h:zB}{b z kd:Nat}{vs vs':List Value}(c:Cel h b z kd vs')(e:vs'=vs):Cel h b z kd vs:=e ▸ c
theorem zH{h:zB}{b z kd:Nat}{vs:List Value}(c:Cel h b z kd vs:=by(apply Cel.as;(focus exact zC);exact rfl)):Cel h b z kd vs:=c
theorem cat_ask{h:zB}{b i:Nat}{v:Value}(c:zD h b i=some v:=by
 repeat' first
  | with_reducible assumption
  | with_reducible apply cat_hal
  | with_reducible apply cat_hst
  | ((with_reducible apply cat_tch);(focus (with_reducible assumption)))
  | omega
  | (simp;done)
  | (simp;omega)):zD h b i=some v:=c
theorem obe_ask{h:zB}{L:Nat}{o:AObj}(c:zF h L=o:=by
 repeat' first
  | with_reducible assumption
  | with_reducible exact obe_hit
  | with_reducible apply obe_hal
  | with_reducible apply obe_hst
  | ((with_reducible apply obe_tch);(focus (with_reducible assumption)))
  | omega
  | (simp;done)
  | (simp;omega)):zF h L=o:=c
theorem cat_any{h:zB}{b i:Nat}{v:Value}(c:zD h b i=some v:=by first|(with_reducible assumption)|(apply Cel.cell;(focus exact zC);exact rfl)|exact cat_ask):zD h b i=some v:=c
theorem ld1_of{h:zB}{b o:Nat}{v:Value}(e:zD h b o=some v):Ld1 h (.pointer (some ⟨b,o,none⟩)) v:=⟨b,o,rfl,e⟩
theorem ldN_of{h:zB}{b o k:Nat}{vs:List Value}(h0:0<k)(e:Rd h b o k vs):LdN h (.pointer (some ⟨b,o,none⟩)) k vs:=⟨b,o,rfl,h0,e⟩
theorem zT{h:zB}{b o:Nat}:Rd h b o 0 []:=rfl
theorem zN{h:zB}{b o k:Nat}{v:Value}{r:List Value}(e:zD h b o=some v)(f:Rd h b (o+1) k r):Rd h b o (k+1) (v::r):=⟨v,r,rfl,e,f⟩
theorem fad_of{o b off:Nat}:Fad o (.pointer (some ⟨b,off,none⟩)) (.pointer (some ⟨b,off+o,none⟩)):=⟨b,off,rfl,rfl⟩
theorem gv_of{all:Array Oper}{l:List (Nat×Value)}{t:Fr}{g i:Nat}{b z:Bool}(h:dstOf all g=some i)(e:lk l t i = .bool z):Gv all l t g b z:=⟨i,h,.inl e⟩
theorem gv_uT{all:Array Oper}{l:List (Nat×Value)}{t:Fr}{g i:Nat}(h:dstOf all g=some i)(e:lk l t i=undef):Gv all l t g true false:=⟨i,h,.inr ⟨e,rfl⟩⟩
theorem gv_uF{all:Array Oper}{l:List (Nat×Value)}{t:Fr}{g i:Nat}(h:dstOf all g=some i)(e:lk l t i=undef):Gv all l t g false true:=⟨i,h,.inr ⟨e,rfl⟩⟩
theorem evs_nil{l:List (Nat×Value)}{t:Fr}:Evs l t [] []:=rfl
theorem evs_cons{l:List (Nat×Value)}{t:Fr}{x:Operand}{v:Value}{xs:List Operand}{vs:List Value}(e:evb l t x=v)(f:Evs l t xs vs):Evs l t (x::xs) (v::vs):=⟨v,vs,rfl,e,f⟩
theorem evp_nil{l:List (Nat×Value)}{t:Fr}:Evp l t [] []:=rfl
theorem evp_cons{l:List (Nat×Value)}{t:Fr}{i:Nat}{x:Operand}{v:Value}{xs:List (Nat×Operand)}{vs:List (Nat×Value)}(e:evb l t x=v)(f:Evp l t xs vs):Evp l t ((i,x)::xs) ((i,v)::vs):=⟨v,vs,rfl,e,f⟩
theorem evo_none{l:List (Nat×Value)}{t:Fr}:Evo l t none none:=rfl
theorem evo_some{l:List (Nat×Value)}{t:Fr}{x:Operand}{v:Value}(e:evb l t x=v):Evo l t (some x) (some v):=⟨v,rfl,e⟩
theorem stN_of{h:zB}{b o z kd k:Nat}{vs ws:List Value}(c:Cel h b z kd vs)(hk:kd≠2∧kd≠3)(ho:o+ws.length≤vs.length)(h1:One ws)(hl:ws.length=k):StP' h (.pointer (some ⟨b,o,none⟩)) ws k (hst h b o ws):=⟨StP.of c hk ho h1,hl⟩
theorem bx_of{v:Value}{cs:List Value}(e:cellsOf v=cs)(f:One cs):Bx v cs:=⟨e,f⟩
theorem one_nil:One []:=trivial
theorem one_cons{x:Value}{r:List Value}(e:x.oneCell'=true)(f:One r):One (x::r):=⟨e,f⟩
theorem ex1_of{i:Nat}{vs:List Value}{v:Value}(e:vs[i]? = some v):Ext1 i (.tuple ⟨vs⟩) v:=⟨vs,rfl,e⟩
theorem yB{P:Program}{l:List (Nat×Value)}{t:Fr}{h:zB}:Rs P l t h [] []:=rfl
theorem yC{P:Program}{l:List (Nat×Value)}{t:Fr}{h:zB}{i:Nat}{r:List ResultVar}{v:Value}{vs:List Value}(e:lk l t i=v)(f:Rs P l t h r vs):Rs P l t h (.tmp i::r) (v::vs):=⟨v,vs,rfl,e,f⟩
theorem rs_cell{P:Program}{l:List (Nat×Value)}{t:Fr}{h:zB}{i ty:Nat}[s:ShC P ty .scal]{r:List ResultVar}{p v:Value}{vs:List Value}(e:lk l t i=p)(g:Ld1 h p v)(f:Rs P l t h r vs):Rs P l t h (.cell i ty::r) (v::vs):=by
 obtain⟨b,o,rfl,g⟩:=g;exact⟨v,vs,rfl,by rw[e];exact load_scal s.ok g,f⟩
theorem rd_any{h:zB}{b o k:Nat}{vs:List Value}(c:Rd h b o k vs:=by repeat' first|(with_reducible assumption)|exact zT|(apply zN;(focus exact cat_any))):Rd h b o k vs:=c
 class IsOb (G:Prop) {α : outParam Type} (A K:outParam (α→Prop)):Prop where ok:Ob A K→G
instance {α : Type} {A K: α→Prop}:IsOb (Ob A K) A K:=⟨id⟩
 class IsCh (G:Prop) (z:outParam Bool) (A B:outParam Prop):Prop where ok:Ch z A B→G
instance {z:Bool} {A B:Prop}:IsCh (Ch z A B) z A B:=⟨id⟩
theorem ob{G:Prop}{α : Type}{A K: α→Prop}[s:IsOb G A K]{a: α}(k:K a)(h:A a:=by first
 | ((with_reducible show Ev _ _ _ _) <;> (show evb _ _ _=_) <;> (apply ev_box) <;> ((conv=>lhs;whnf) <;> exact rfl))
 | ((with_reducible apply ld1_of);focus first|(with_reducible assumption)|(apply Cel.cell;(focus exact zC);exact rfl)|exact cat_ask)
 | with_reducible exact fad_of
 | (with_reducible show Bn _ _ _ _ _ _ _ _) <;> with_reducible first|exact bn_eq|exact bn_ne|exact bn_lt|exact bn_le|exact bn_gt|exact bn_ge|exact bs_eq|exact bs_ne|(apply bn_add;omega)|(apply bn_sub;omega)|exact bn_subu|(apply bn_quo64;omega)|exact bn_rem64|(apply bn_shl1;omega)|(apply bn_shr;omega)|(apply bn_and1;assumption)|(apply bn_and <;> assumption)|exact bn_p1|exact bn_q1|exact bn_p0|exact bn_q0|exact bn_be|exact bn_bn|(apply bn_quo8;omega)|(apply bn_or <;> assumption)|(apply bn_andnot <;> assumption)|exact bn_if1|exact bn_if0|exact bn_c|exact bn_s0|exact bn_s1|assumption
 | ((with_reducible apply gv_of);(focus exact rfl);focus ((conv=>lhs;whnf) <;> exact rfl))
 | ((with_reducible apply gv_uT);(focus exact rfl);focus ((conv=>lhs;whnf) <;> exact rfl))
 | ((with_reducible apply gv_uF);(focus exact rfl);focus ((conv=>lhs;whnf) <;> exact rfl))
 | ((with_reducible show Evs _ _ _ _) <;> repeat' first|exact evs_nil|apply evs_cons|(apply ev_box;((conv=>lhs;whnf) <;> exact rfl)))
 | ((with_reducible apply bx_one);(with_reducible assumption))
 | ((with_reducible apply bx_row);(with_reducible assumption))
 | ((with_reducible apply bx_of) <;> repeat' first|exact one_nil|(apply one_cons;(focus first|exact rfl|(with_reducible assumption)))|((conv=>lhs;whnf) <;> exact rfl))
 | ((with_reducible apply StP.of);(focus exact zC);(focus exact⟨by decide,by decide⟩);(focus first|decide|(simp;done)|(simp;omega));focus repeat' first|exact one_nil|(apply one_cons;(focus first|exact rfl|(with_reducible assumption))))
 | ((with_reducible apply iad_sl);omega)
 | ((with_reducible apply iad_rw);(focus (with_reducible assumption));omega)
 | ((with_reducible apply iad_0);(focus (with_reducible assumption));omega)
 | ((with_reducible apply iad_1);(focus (with_reducible assumption));omega)
 | ((with_reducible apply iad_rwI);(focus (with_reducible assumption));(focus omega);omega)
 | ((with_reducible apply len_rw);(with_reducible assumption))
 | ((with_reducible apply ldN_of);(focus decide);(focus (with_reducible assumption)))
 | ((with_reducible apply ldN_of) <;> repeat' first|decide|exact zT|(apply zN;focus first|(with_reducible assumption)|(apply Cel.cell;(focus exact zC);exact rfl)|exact cat_ask))
 | ((with_reducible apply ex1_of);exact rfl)
 | ((with_reducible show Rs _ _ _ _ _ _) <;> repeat' first|exact yB|(apply yC;(focus (apply zE;((conv=>lhs;whnf) <;> exact rfl))))|(apply rs_cell;(focus (apply zE;((conv=>lhs;whnf) <;> exact rfl)));focus ((with_reducible apply ld1_of);focus first|(with_reducible assumption)|(apply Cel.cell;(focus exact zC);exact rfl)|exact cat_ask)))
 | with_reducible exact cv_int
 | with_reducible exact bd_c
 | with_reducible exact bs_c
 | ((with_reducible apply ixv_str);(with_reducible assumption))
 | ((with_reducible apply ixv_0);(with_reducible assumption))
 | with_reducible exact len_slc
 | with_reducible exact len_txt
 | with_reducible exact bi_app
 | with_reducible exact bi_rec
 | ((with_reducible show Evp _ _ _ _) <;> repeat' first|exact evp_nil|apply evp_cons|(apply ev_box;((conv=>lhs;whnf) <;> exact rfl)))
 | with_reducible exact evo_none
 | with_reducible exact fnv_of
 | with_reducible exact ifv_of
 | with_reducible exact tya_hit
 | ((with_reducible apply evo_some);focus (apply ev_box;((conv=>lhs;whnf) <;> exact rfl)))
 | (with_reducible assumption)
 | ((with_reducible apply stN_of);(focus exact zC);(focus exact⟨by decide,by decide⟩);(focus first|decide|(simp;done)|(simp;omega));(focus repeat' first|exact one_nil|(apply one_cons;(focus first|exact rfl|(with_reducible assumption))));exact rfl)
 | ((with_reducible show Wh (_++(_++_)) _) <;> (show _=_) <;> ((conv=>lhs;simp only[List.nil_append,List.cons_append,List.append_nil]) <;> exact rfl))
 | ((with_reducible show Wh _ _) <;> (show _=_) <;> ((conv=>lhs;whnf) <;> exact rfl))):G:=s.ok ⟨a,h,k⟩
theorem nTF:(!false)=true:=rfl
theorem nFT:(!true)=false:=rfl
theorem dT{p:Prop}{i:Decidable p}(h:p):@decide p i=true:=decide_eq_true h
theorem dG{p:Prop}{i:Decidable p}(h:p→False):@decide p i=false:=decide_eq_false h
theorem dF{p:Prop}{i:Decidable p}(h:¬p):@decide p i=false:=decide_eq_false h
 class IsOb1 (G:Prop) (A K:outParam Prop):Prop where ok:Ob1 A K→G
instance {A K:Prop}:IsOb1 (Ob1 A K) A K:=⟨id⟩
theorem ob1{G A K:Prop}[s:IsOb1 G A K](k:K)(h:A:=by first
 | ((with_reducible show RgE _ _ _ _) <;> (show regOf _ _ _=_) <;> kernel_rfl)
 | ((with_reducible show NLe _ _) <;> (show _≤_) <;> first|omega|exact Nat.le_refl _|exact Tch.le (by with_reducible assumption))
 | with_reducible exact lks_nil
 | ((with_reducible show LksOK _ _ _) <;> repeat' first|with_reducible exact lks_nil|with_reducible apply lks_cons|with_reducible exact lka_nil|((with_reducible apply lka_off);(focus exact rfl))|((with_reducible apply lka_ldN);(focus ((conv=>lhs;whnf) <;> exact rfl));(focus omega);(focus decide);(focus exact rd_any);(focus repeat' first|exact sml_nil|apply sml_int|apply sml_str|(apply sml_row;(focus (with_reducible assumption)))))|((with_reducible apply lka_lent);(focus (apply ev_box;((conv=>lhs;whnf) <;> exact rfl))))|((with_reducible apply lka_len);(focus (apply ev_box;((conv=>lhs;whnf) <;> exact rfl)));(focus (with_reducible assumption));(focus omega))|((with_reducible apply lka_ld1);(focus ((conv=>lhs;whnf) <;> exact rfl));(focus omega);(focus first|(with_reducible assumption)|(apply Cel.cell;(focus exact zC);exact rfl)|exact cat_ask);(focus first|exact sm_int|exact sm_str|exact sm_bool|exact sm_ptr|exact sm_map|(apply Row.sm;with_reducible assumption)|(apply Own.sm;with_reducible assumption)|(with_reducible assumption))))
 | ((with_reducible show ObE _ _ _) <;> (show zF _ _=_) <;> exact obe_ask)
 | ((with_reducible show Clt _ _) <;> (show zF _ _=_) <;> exact obe_ask)
 | with_reducible exact rfl
 | assumption):G:=s.ok ⟨h,k⟩
instance {A B:Prop}:Stp (Ch true A B) A:=⟨fun h=>⟨fun _=>h,fun e=>Bool.noConfusion e⟩⟩
instance {A B:Prop}:Stp (Ch false A B) B:=⟨fun h=>⟨fun e=>Bool.noConfusion e,fun _=>h⟩⟩
theorem cT{G:Prop}{z:Bool}{A B:Prop}[s:IsCh G z A B](k:A)(h:z=true:=by with_reducible first
 | assumption
 | exact nTF
 | (apply dT;first|assumption|omega|exact rfl)
 | (apply nT;first|assumption|(apply dF;first|assumption|omega))):G:=s.ok ⟨fun _=>k,fun e=>Bool.noConfusion (h.symm.trans e)⟩
theorem cF{G:Prop}{z:Bool}{A B:Prop}[s:IsCh G z A B](k:B)(h:z=false:=by with_reducible first
  | assumption
  | exact nFT
  | (apply dF;first|assumption|omega)
  | (apply dG;intro hh;cases hh;done)
  | (apply nF;first|assumption|(apply dT;first|assumption|omega))):G:=s.ok ⟨fun e=>Bool.noConfusion (h.symm.trans e),fun _=>k⟩
 class Pr2 (z:Bool) (p q:outParam Prop):Prop where ok:(z=true→p)∧(z=false→q)
instance (priority:=low) {z:Bool}:Pr2 z (z=true) (z=false):=⟨⟨id,id⟩⟩
instance {z:Bool}:Pr2 (!z) (z=false) (z=true):=⟨by cases z <;> simp⟩
instance {p:Prop} {_i:Decidable p}:Pr2 (decide p) p (¬p):=⟨⟨of_decide_eq_true,of_decide_eq_false⟩⟩
instance {p:Prop} {_i:Decidable p}:Pr2 (!decide p) (¬p) p:=⟨by by_cases h:p <;> simp[h]⟩
theorem cX{z:Bool}{A B p q:Prop}[s:Pr2 z p q](k:p→A)(j:q→B):Ch z A B:=⟨fun e=>k (s.ok.1 e),fun e=>j (s.ok.2 e)⟩
theorem wk{G C:Prop}(k:C)(h:C→G:=by first|exact fun k=>st k|exact fun k=>ob k|exact fun k=>ob1 k|exact fun k=>cT k|exact fun k=>cF k|exact fun k=>calC k|fail):G:=h k
end Go.Ex
