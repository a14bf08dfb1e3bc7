/- What the law leans on, part 9 of 22. Conditions: those that each theorem states. -/
import Derived.Test.YtmccnilgnlaffaaGreatDoorMachChecksx8

set_option linter.unusedVariables false
set_option linter.unusedSimpArgs false
namespace Go.Ex
section
noncomputable def regIn(id:Nat):Code→List (Array Oper):=Code.rec (motive:=λ_=>List (Array Oper)) [] (λi ops dr=>Bool.rec [] (Bool.rec [] [ops] (Nat.beq i id)) dr) (λ_ _ a b=>a++b) (λ_ _ _ a b=>a++b) (λ_ _ a=>a) (λ_ a=>a)
 (λ_ _ _ _ a b=>a++b) (λ_=>[]) (λ_ a=>a) (λ_=>[]) (λ_=>[]) [] (λ_=>[])
noncomputable def regOf(P:Program)(f id:Nat):Array Oper:=Option.rec #[] (λfb=>List.rec #[] (λa _ _=>a) (regIn id fb.2)) (bodyOf P f)
noncomputable def dl(ops:Array Oper):List (Nat×Nat×Nat×Bool×List Nat)→List DOp
  | []=>[]
  | x :: r => match ops.toList[x.1]? with
    | some o=>⟨o,x.1,zQ o.op,x.2.1,x.2.2.1,x.2.2.2.1,x.2.2.2.2⟩::dl ops r
    | none=>[]
 class DrC (P:Program) (f id:Nat) (tbl:outParam (List (Nat×Nat×Nat×Bool×List Nat))):Prop where ok:plan (regOf P f id)=some (dl (regOf P f id) tbl)
def RgE(P:Program)(f id:Nat)(ops:Array Oper):Prop:=regOf P f id=ops
def NLe(a b:Nat):Prop:=a≤b
def LksOK(P:Program)(hs:List W)(ls:List Look):Prop:=xO P hs.length hs ls=true
theorem quiet_e{op:Op}{P:Program}{t:Fr}{h:zB}(hk:2≤zQ op):xN op P t h=none:=by
 cases op <;> first|rfl|(exfalso;have h0:2≤0:=hk;omega)|(exfalso;have h0:2≤1:=hk;omega)|skip
 case call c=>
  obtain⟨callee,args,tys⟩:=c
  cases callee with
  | value f=>rfl
  | invoke a b=>rfl
  | builtin b=>cases b <;> first|rfl|(exfalso;have h0:2≤1:=hk;omega)
theorem eff_q{op:Op}{P:Program}{lo:Lo}{cx:Cx}{t:Fr}{w:W}{k:KV}{kp:KP}(hk:zQ op≤1):eff op P lo cx t w k kp=false:=by
 cases op <;> first|rfl|(exfalso;have h0:2≤1:=hk;omega)|(exfalso;have h0:3≤1:=hk;omega)|skip
 case makeMap a b=>cases b <;> first|(exfalso;have h0:2≤1:=hk;omega)|(exfalso;have h0:3≤1:=hk;omega)
 case call c=>
  obtain⟨callee,args,tys⟩:=c
  cases callee with
  | value f=>exfalso;have h0:3≤1:=hk;omega
  | invoke a b=>exfalso;have h0:3≤1:=hk;omega
  | builtin b=>cases b <;> first|rfl|(exfalso;have h0:3≤1:=hk;omega)
section
variable {P:Program} {ng:Nat}
noncomputable def panM(P:Program)(ng:Nat)(cx:Cx)(all:Array Oper)(Q:QX)(m:Bool):DOp→List DOp→Fr→W→List W→List Look→zI→W→Bool:=match m with
 | true=>panD P (loS P ng) cx all (soK Q)
 | false=>λ_ _ _ _ _ _ _ _=>false
def WD(P:Program)(ng:Nat)(m:Bool)(all:Array Oper)(l:List DOp)(cx:Cx)(t:Fr)(w:W)(hs:List W)(ls:List Look)(Q:QX):Prop:=wX P (loS P ng) cx all (panM P ng cx all Q m) l t w hs ls (soK Q)=true
theorem wc_drawn[Fit P ng]{f id:Nat}{rd:Option Nat}{df:Bool}{ops:Array Oper}{tbl:List (Nat×Nat×Nat×Bool×List Nat)}[D:DrC P f id tbl]{t:Fr}{w:W}{Q:QX}(he:RgE P f id ops)(h:WD P ng true ops (dl ops tbl) ⟨f,rd,df⟩ t w [w] [] Q):WC P ng (.region id ops true) ⟨f,rd,df⟩ t w Q:=by
 refine wc_of ?_
 show(match plan ops with
 | some l=>xdraw P (loS P ng) ⟨f,rd,df⟩ ops l t w [w] [] (soK Q)
 | none=>false)=true
 have hp:=D.ok;rw [show regOf P f id=ops from he]at hp;rw [hp];exact h
instance [Fit P ng] {f id:Nat} {rd:Option Nat} {df:Bool} {ops:Array Oper} {tbl:List (Nat×Nat×Nat×Bool×List Nat)} [DrC P f id tbl] {t:Fr} {w:W} {Q:QX} :
 Stp (WC P ng (.region id ops true) ⟨f,rd,df⟩ t w Q) (Ob1 (RgE P f id ops) <| WD P ng true ops (dl ops tbl) ⟨f,rd,df⟩ t w [w] [] Q):=⟨λ⟨h1,h2⟩=>wc_drawn h1 h2⟩
section
variable {all ops:Array Oper} {cx:Cx} {l:List (Nat×Value)} {t:Fr} {w:W} {hs:List W} {ls:List Look} {Q:QX} {r:List DOp} {op:Op} {d:Option Nat} {ty:TypeId} {pos:String} {af:Array Edge} {i lo hi:Nat} {so m:Bool} {un:List Nat} {g:Option (Nat×Bool)}
instance:Stp (WD P ng m all (dl ops []) cx t w hs ls Q) (Ob1 (LksOK P hs ls) <| Q .normal t w):=⟨λ⟨h1,h2⟩=>by
 show(soK Q .normal t w && xO P hs.length hs ls)=true;rw [show xO P hs.length hs ls=true from h1,show soK Q .normal t w=true from isSo_iff.2 h2];rfl⟩
instance {x:Nat×Nat×Nat×Bool×List Nat} {tb:List (Nat×Nat×Nat×Bool×List Nat)}:Stp (WD P ng m all (dl ops (x::tb)) cx t w hs ls Q)
 (Ob (λo=>Wh (ops.toList[x.1]?) (some o)) λo=>WD P ng m all (⟨o,x.1,zQ o.op,x.2.1,x.2.2.1,x.2.2.2.1,x.2.2.2.2⟩::dl ops tb) cx t w hs ls Q):=⟨λ⟨o,h1,h2⟩=>by
 have:dl ops (x::tb)=⟨o,x.1,zQ o.op,x.2.1,x.2.2.1,x.2.2.2.1,x.2.2.2.2⟩::dl ops tb:=by
  show(match ops.toList[x.1]? with
  | some o=>(⟨o,x.1,zQ o.op,x.2.1,x.2.2.1,x.2.2.2.1,x.2.2.2.2⟩:DOp)::dl ops tb
  | none=>[])=_
  rw[show ops.toList[x.1]? = some o from h1]
 rw[this];exact h2⟩
def drQ(P:Program)(ng:Nat)(m:Bool)(all:Array Oper)(d:Option Nat)(r:List DOp)(cx:Cx)(l:List (Nat×Value))(t:Fr)(hs:List W)(ls:List Look)(Q:QX)(w:W)(v:Value):Prop:=match d with
 | some i=>WD P ng m all r cx (FA ((i,v)::l) t) w hs ls Q
 | none=>WD P ng m all r cx (FA l t) w hs ls Q
instance {v:Value} {j:Nat}:Stp (drQ P ng m all (some j) r cx l t hs ls Q w v) (WD P ng m all r cx (FA ((j,v)::l) t) w hs ls Q):=⟨id⟩
instance {v:Value}:Stp (drQ P ng m all none r cx l t hs ls Q w v) (WD P ng m all r cx (FA l t) w hs ls Q):=⟨id⟩
theorem drQ_so:(λ(w:W) v=>xJ (drQ P ng m all d r cx l t hs ls Q w v))=λw v=>putT (FA l t) d v λt=>wX P (loS P ng) cx all (panM P ng cx all Q m) r t w hs ls (soK Q):=by
 funext w v
 cases d with
 | none=>exact isSo_bool _
 | some i=>rw [putT_some,fset_FA];exact isSo_bool _
def lkK(P:Program)(ng:Nat)(m:Bool)(all:Array Oper)(op:Op)(d:Option Nat)(lo hi:Nat)(r:List DOp)(cx:Cx)(l:List (Nat×Value))(t:Fr)(hs:List W)(ls:List Look)(Q:QX)(w:W)(v:Value):Prop:=
 drQ P ng m all d r cx l t hs (cond (Nat.beq lo hi) ls (⟨op,FA l t,v,lo,hi⟩::ls)) Q w v
instance {v:Value}:Stp (lkK P ng m all op d lo hi r cx l t hs ls Q w v) (Ob (Wh (Nat.beq lo hi)) λz=>Ch z (drQ P ng m all d r cx l t hs ls Q w v) (drQ P ng m all d r cx l t hs (⟨op,FA l t,v,lo,hi⟩::ls) Q w v)):=⟨λ⟨z,h1,h2,h3⟩=>by
 unfold lkK;rw [show Nat.beq lo hi=z from h1]
 cases z with
 | true=>exact h2 rfl
 | false=>exact h3 rfl⟩
def drC(P:Program)(ng:Nat)(m:Bool)(all:Array Oper)(d:Option Nat)(r:List DOp)(cx:Cx)(l:List (Nat×Value))(t:Fr)(n:Nat)(hs:List W)(ls:List Look)(Q:QX)(w:W)(v:Value):Prop:=n≤w.n∧drQ P ng m all d r cx l t (w::hs) ls Q w v
instance {v:Value} {n n2:Nat} {dd:List Deferred} {u:Option zI} {h:zB}:Stp (drC P ng m all d r cx l t n hs ls Q ⟨dd,u,h,n2⟩ v) (Ob1 (NLe n n2) <| drQ P ng m all d r cx l t (⟨dd,u,h,n2⟩::hs) ls Q ⟨dd,u,h,n2⟩ v):=⟨λ⟨h1,h2⟩=>⟨h1,h2⟩⟩
def drP(P:Program)(ng:Nat)(m:Bool)(all:Array Oper)(x:DOp)(r:List DOp)(cx:Cx)(l:List (Nat×Value))(t:Fr)(w:W)(hs:List W)(ls:List Look)(Q:QX)(c:zI)(w':W):Prop:=panM P ng cx all Q m x r (FA l t) w hs ls c w'=true
def dryQ(Q:QX)(c:zI)(t:Fr)(w:W):QX:=λe _ _=>match e with
 | .normal=>Q (.panic c) t w
 | _=>False
instance {c:zI} {t2:Fr} {w2:W}:Stp (dryQ Q c t w .normal t2 w2) (Q (.panic c) t w):=⟨id⟩
theorem soK_dry{c:zI}{w':W}:(soK (dryQ Q c t w'))=λe _ _=>match e with | .normal=>soK Q (.panic c) t w'|_=>false:=by
 funext e t2 w2
 cases e with
 | normal=>rfl
 | exit i=>exact cW.2 λh=>(isSo_iff.1 h).elim
 | goto i=>exact cW.2 λh=>(isSo_iff.1 h).elim
 | ret=>exact cW.2 λh=>(isSo_iff.1 h).elim
 | panic c=>exact cW.2 λh=>(isSo_iff.1 h).elim
instance {o:Oper} {k:Nat} {c:zI} {dd:List Deferred} {u:Option zI} {h:zB} {n:Nat}:Stp (drP P ng true all ⟨o,i,k,lo,hi,so,un⟩ r cx l t w hs ls Q c ⟨dd,u,h,n⟩)
 (Ob (Wh so) λz=>Ch z (Ob1 (LksOK P hs ls) <| Q (.panic c) (FA l t) ⟨dd,u,h,n⟩) (Ob1 (dd=[]) <| WD P ng false all (dryOf un r) cx (FA l t) w hs ls (dryQ Q c (FA l t) ⟨dd,u,h,n⟩))):=⟨λ⟨z,h1,h2,h3⟩=>by
 show panD P (loS P ng) cx all (soK Q) ⟨o,i,k,lo,hi,so,un⟩ r (FA l t) w hs ls c ⟨dd,u,h,n⟩=true;unfold panD;dsimp only;rw [show so=z from h1]
 cases z with
 | true=>
  obtain⟨h4,h5⟩:=h2 rfl;show cond (xO P hs.length hs ls) (soK Q (.panic c) (FA l t) ⟨dd,u,h,n⟩) false=true;rw [show xO P hs.length hs ls=true from h4];exact isSo_iff.2 h5
 | false=>
  obtain⟨h4,h5⟩:=h3 rfl;subst h4;unfold WD at h5;rw [soK_dry]at h5;exact h5⟩
instance {un:List Nat}:Stp (WD P ng m all (dryOf un (dl ops [])) cx t w hs ls Q) (WD P ng m all (dl ops []) cx t w hs ls Q):=⟨id⟩
instance {un:List Nat} {x:Nat×Nat×Nat×Bool×List Nat} {tb:List (Nat×Nat×Nat×Bool×List Nat)}:Stp (WD P ng m all (dryOf un (dl ops (x::tb))) cx t w hs ls Q)
 (Ob (λo=>Wh (ops.toList[x.1]?) (some o)) λo=>Ob (Wh (un.any λi=>Nat.beq i x.1)) λz=>Ch z (WD P ng m all (⟨o,x.1,zQ o.op,x.2.1,x.2.2.1,x.2.2.2.1,x.2.2.2.2⟩::dryOf un (dl ops tb)) cx t w hs ls Q) (WD P ng m all (dryOf un (dl ops tb)) cx t w hs ls Q)):=⟨λ⟨o,h1,z,h2,h3,h4⟩=>by
 have e:dl ops (x::tb)=⟨o,x.1,zQ o.op,x.2.1,x.2.2.1,x.2.2.2.1,x.2.2.2.2⟩::dl ops tb:=by
  show(match ops.toList[x.1]? with
  | some o=>(⟨o,x.1,zQ o.op,x.2.1,x.2.2.1,x.2.2.2.1,x.2.2.2.2⟩:DOp)::dl ops tb
  | none=>[])=_
  rw[show ops.toList[x.1]? = some o from h1]
 rw[e];unfold dryOf;rw [db];dsimp only;rw [show(un.any λi=>Nat.beq i x.1)=z from h2]
 cases z with
 | true=>exact h3 rfl
 | false=>exact h4 rfl⟩
def WK(P:Program)(ng:Nat)(m:Bool)(all:Array Oper)(op:Op)(d:Option Nat)(ty:TypeId)(pos:String)(af:Array Edge)(g:Option (Nat×Bool))(i lo hi:Nat)(so:Bool)(un:List Nat)(r:List DOp)(cx:Cx)(l:List (Nat×Value))(t:Fr)(w:W)(hs:List W)(ls:List Look)(Q:QX):Nat→Prop
 | 0=>OpB P ng op cx (FA l t) w (drQ P ng m all d r cx l t hs ls Q) λ_ _=>False
 | 1=>OpB P ng op cx (FA l t) w (lkK P ng m all op d lo hi r cx l t hs ls Q) λ_ _=>False
 | 2=>OpB P ng op cx (FA l t) w (drQ P ng m all d r cx l t hs ls Q) λ_ _=>False
 | _=>OpB P ng op cx (FA l t) w (drC P ng m all d r cx l t w.n hs ls Q) (drP P ng m all ⟨⟨d,op,ty,pos,af,g⟩,i,zQ op,lo,hi,so,un⟩ r cx l t w hs ls Q)
instance:Stp (WK P ng m all op d ty pos af g i lo hi so un r cx l t w hs ls Q 0) (OpB P ng op cx (FA l t) w (drQ P ng m all d r cx l t hs ls Q) λ_ _=>False):=⟨id⟩
instance:Stp (WK P ng m all op d ty pos af g i lo hi so un r cx l t w hs ls Q 1) (OpB P ng op cx (FA l t) w (lkK P ng m all op d lo hi r cx l t hs ls Q) λ_ _=>False):=⟨id⟩
instance:Stp (WK P ng m all op d ty pos af g i lo hi so un r cx l t w hs ls Q 2) (OpB P ng op cx (FA l t) w (drQ P ng m all d r cx l t hs ls Q) λ_ _=>False):=⟨id⟩
instance {dd:List Deferred} {u:Option zI} {h:zB} {n:Nat}:Stp (WK P ng m all op d ty pos af g i lo hi so un r cx l t ⟨dd,u,h,n⟩ hs ls Q 3) (OpB P ng op cx (FA l t) ⟨dd,u,h,n⟩ (drC P ng m all d r cx l t n hs ls Q) (drP P ng m all ⟨⟨d,op,ty,pos,af,g⟩,i,zQ op,lo,hi,so,un⟩ r cx l t ⟨dd,u,h,n⟩ hs ls Q)):=⟨id⟩
theorem kind_le(op:Op):zQ op≤3:=by
 have h0:(0:Nat)≤3:=by decide
 have h1:(1:Nat)≤3:=by decide
 have h2:(2:Nat)≤3:=by decide
 have h3:(3:Nat)≤3:=by decide
 cases op <;> first|exact h0|exact h1|exact h2|exact h3|skip
 case makeMap a b=>cases b <;> first|exact h2|exact h3
 case call c=>
  obtain⟨callee,args,tys⟩:=c
  cases callee with
  | value f=>exact h3
  | invoke a b=>exact h3
  | builtin b=>cases b <;> first|exact h1|exact h3
theorem wd_do{g:Option (Nat×Bool)}(hg:wanted all (FA l t) g=true)(h:WK P ng m all op d ty pos af g i lo hi so un r cx l t w hs ls Q (zQ op)):WD P ng m all (⟨⟨d,op,ty,pos,af,g⟩,i,zQ op,lo,hi,so,un⟩::r) cx (FA l t) w hs ls Q:=by
 show(match wanted all (FA l t) g with
  | false=>putT (FA l t) d undef λt'=>wX P (loS P ng) cx all (panM P ng cx all Q m) r t' w (cond (Nat.beq (zQ op) 3) (w::hs) hs) ls (soK Q)
  | true => match zQ op with
   | 0=>match xN op P (FA l t) w.h with
    | some v=>putT (FA l t) d v λt'=>wX P (loS P ng) cx all (panM P ng cx all Q m) r t' w hs ls (soK Q)
    | none=>false
   | 1=>match xN op P (FA l t) w.h with
    | some v=>putT (FA l t) d v λt'=>wX P (loS P ng) cx all (panM P ng cx all Q m) r t' w hs (cond (Nat.beq lo hi) ls (⟨op,FA l t,v,lo,hi⟩::ls)) (soK Q)
    | none=>false
   | 2=>eff op P (loS P ng) cx (FA l t) w (λw' v=>putT (FA l t) d v λt'=>wX P (loS P ng) cx all (panM P ng cx all Q m) r t' w' hs ls (soK Q)) λ_ _=>false
   | _=>eff op P (loS P ng) cx (FA l t) w (λw' v=>cond (Nat.ble w.n w'.n) (putT (FA l t) d v λt'=>wX P (loS P ng) cx all (panM P ng cx all Q m) r t' w' (w'::hs) ls (soK Q)) false)
    λc w'=>panM P ng cx all Q m ⟨⟨d,op,ty,pos,af,g⟩,i,zQ op,lo,hi,so,un⟩ r (FA l t) w hs ls c w')=true
 rw[hg];dsimp only;have hle:=kind_le op
 have q01:zQ op≤1→∀{K:W→Value→Prop} {Kp:zI→W→Prop},OpB P ng op cx (FA l t) w K Kp→∃v,xN op P (FA l t) w.h=some v∧K w v:=λhk K Kp ho=>by
  replace ho:=ho.1;unfold OpB0 at ho
  cases hq:xN op P (FA l t) w.h with
  | some v=>rw [hq]at ho;exact⟨v,rfl,ho⟩
  | none=>rw [hq]at ho;dsimp only at ho;rw [eff_q hk]at ho;cases ho
 have e23:2≤zQ op→∀{K:W→Value→Prop} {Kp:zI→W→Prop},OpB P ng op cx (FA l t) w K Kp→eff op P (loS P ng) cx (FA l t) w (λw v=>xJ (K w v)) (λc w=>xJ (Kp c w))=true:=λhk K Kp ho=>by
  replace ho:=ho.1;unfold OpB0 at ho;rw [quiet_e hk]at ho;exact ho
 have put:∀(w':W) (v:Value) (hs:List W) (ls:List Look),drQ P ng m all d r cx l t hs ls Q w' v→(putT (FA l t) d v λt'=>wX P (loS P ng) cx all (panM P ng cx all Q m) r t' w' hs ls (soK Q))=true:=λw' v hs ls hq=>by
  rw[← congrFun (congrFun drQ_so w') v];exact isSo_iff.2 hq
 rcases(show zQ op=0∨zQ op=1∨zQ op=2∨zQ op=3 by omega) with e|e|e|e
 · rw[e]at h ⊢;obtain⟨v,h1,h2⟩:=q01 (by omega) h;rw [h1];exact put _ _ _ _ h2
 · rw[e]at h ⊢;obtain⟨v,h1,h2⟩:=q01 (by omega) h;rw [h1];exact put _ _ _ _ h2
 · rw[e]at h ⊢;have:=e23 (by omega) h;rw [drQ_so]at this
   have e9:(λ(_:zI) (_:W)=>xJ False)=λ_ _=>false:=by
    funext _ _
    cases hh:xJ False with
    | false=>rfl
    | true=>exact(isSo_iff.1 hh).elim
   rw[e9]at this;exact this
 · rw[e]at h ⊢;have:=e23 (by omega) h
   have e8:(λ(w':W) v=>xJ (drC P ng m all d r cx l t w.n hs ls Q w' v))=λw' v=>cond (Nat.ble w.n w'.n) (putT (FA l t) d v λt'=>wX P (loS P ng) cx all (panM P ng cx all Q m) r t' w' (w'::hs) ls (soK Q)) false:=by
    funext w' v
    rw[← congrFun (congrFun (drQ_so (hs:=w'::hs)) w') v]
    cases hh:Nat.ble w.n w'.n with
    | true=>
     show xJ _=xJ _;congr 1
     exact propext ⟨λh=>h.2,λh=>⟨bZ hh,h⟩⟩
    | false=>
     show xJ _=false
     cases h7:xJ (drC P ng m all d r cx l t w.n hs ls Q w' v) with
     | false=>rfl
     | true=>rw [uF (isSo_iff.1 h7).1]at hh;cases hh
   have e7:(λ(c:zI) (w':W)=>xJ (drP P ng m all ⟨⟨d,op,ty,pos,af,g⟩,i,3,lo,hi,so,un⟩ r cx l t w hs ls Q c w'))=λc w'=>panM P ng cx all Q m ⟨⟨d,op,ty,pos,af,g⟩,i,3,lo,hi,so,un⟩ r (FA l t) w hs ls c w':=by
    funext c w'
    exact isSo_bool _
   have h:OpB P ng op cx (FA l t) w (drC P ng m all d r cx l t w.n hs ls Q) (drP P ng m all ⟨⟨d,op,ty,pos,af,g⟩,i,zQ op,lo,hi,so,un⟩ r cx l t w hs ls Q):=h;rw [e]at h;have:=e23 (by omega) h;rw [e8,e7]at this;exact this
theorem wd_skip{g:Option (Nat×Bool)}(hg:wanted all (FA l t) g=false)(h:drQ P ng m all d r cx l t (cond (Nat.beq (zQ op) 3) (w::hs) hs) ls Q w undef):WD P ng m all (⟨⟨d,op,ty,pos,af,g⟩,i,zQ op,lo,hi,so,un⟩::r) cx (FA l t) w hs ls Q:=by
 have h2:(putT (FA l t) d undef λt'=>wX P (loS P ng) cx all (panM P ng cx all Q m) r t' w (cond (Nat.beq (zQ op) 3) (w::hs) hs) ls (soK Q))=true:=by
  rw[← congrFun (congrFun drQ_so w) undef];exact isSo_iff.2 h
 unfold WD wX;dsimp only;rw [hg];exact h2
instance:Stp (WD P ng m all (⟨⟨d,op,ty,pos,af,none⟩,i,zQ (⟨d,op,ty,pos,af,none⟩:Oper).op,lo,hi,so,un⟩::r) cx (FA l t) w hs ls Q) (Ob (Wh (zQ op)) (WK P ng m all op d ty pos af none i lo hi so un r cx l t w hs ls Q)):=⟨λ⟨k,h1,h2⟩=>wd_do (g:=none) rfl (by rw[show zQ op=k from h1];exact h2)⟩
def drS(P:Program)(ng:Nat)(m:Bool)(all:Array Oper)(op:Op)(d:Option Nat)(r:List DOp)(cx:Cx)(l:List (Nat×Value))(t:Fr)(w:W)(hs:List W)(ls:List Look)(Q:QX):Prop:=drQ P ng m all d r cx l t (cond (Nat.beq (zQ op) 3) (w::hs) hs) ls Q w undef
instance:Stp (drS P ng m all op d r cx l t w hs ls Q) (Ob (Wh (Nat.beq (zQ op) 3)) λz=>Ch z (drQ P ng m all d r cx l t (w::hs) ls Q w undef) (drQ P ng m all d r cx l t hs ls Q w undef)):=⟨λ⟨z,h1,h2,h3⟩=>by
 unfold drS;rw [show Nat.beq (zQ op) 3=z from h1]
 cases z with
 | true=>exact h2 rfl
 | false=>exact h3 rfl⟩
instance {g:Nat}:Stp (WD P ng m all (⟨⟨d,op,ty,pos,af,some (g,true)⟩,i,zQ (⟨d,op,ty,pos,af,some (g,true)⟩:Oper).op,lo,hi,so,un⟩::r) cx (FA l t) w hs ls Q)
 (Ob (λz=>Gv all l t g true z) λz=>Ch z (Ob (Wh (zQ op)) (WK P ng m all op d ty pos af (some (g,true)) i lo hi so un r cx l t w hs ls Q)) (drS P ng m all op d r cx l t w hs ls Q)):=⟨λ⟨z,h1,h2,h3⟩=>by
 cases z with
 | true=>
  obtain⟨k,h4,h5⟩:=h2 rfl;exact wd_do h1.wants (by rw[show zQ op=k from h4];exact h5)
 | false=>exact wd_skip h1.wants (h3 rfl)⟩
instance {g:Nat}:Stp (WD P ng m all (⟨⟨d,op,ty,pos,af,some (g,false)⟩,i,zQ (⟨d,op,ty,pos,af,some (g,false)⟩:Oper).op,lo,hi,so,un⟩::r) cx (FA l t) w hs ls Q)
 (Ob (λz=>Gv all l t g false z) λz=>Ch z (drS P ng m all op d r cx l t w hs ls Q) (Ob (Wh (zQ op)) (WK P ng m all op d ty pos af (some (g,false)) i lo hi so un r cx l t w hs ls Q))):=⟨λ⟨z,h1,h2,h3⟩=>by
 cases z with
 | false=>
  obtain⟨k,h4,h5⟩:=h3 rfl;exact wd_do h1.wants (by rw[show zQ op=k from h4];exact h5)
 | true=>exact wd_skip h1.wants (h2 rfl)⟩
theorem lks_nil:LksOK P hs []:=rfl
def Sm(v:Value):Prop:=sameB v v=true
theorem sm_int{k:IntKind}{a:Int}:Sm (.int k a):=by
 show(xZ k k && ieqB a a)=true;rw [wO,decide_eq_true rfl];cases k <;> rfl
theorem sm_str{a:List UInt8}:Sm (str a):=by show vF a a=true;rw [wP,decide_eq_true rfl]
theorem sm_bool{b:Bool}:Sm (.bool b):=by cases b <;> rfl
theorem sm_ptr{b o:Nat}:Sm (ptr b o):=by show(Nat.beq b b && Nat.beq o o)=true;rw [aB,aB];rfl
theorem sm_map{b:Nat}:Sm (.map (some b)):=by show Nat.beq b b=true;exact aB _
theorem Row.sm{lo:Nat}{h:zB}{v:Value}{e sz len:Nat}{vs:List Value}(r:Row lo h v e sz len vs):Sm v:=by
 rcases r with⟨rfl,_⟩|⟨b,off,cap,m,z,kd,_,rfl,_⟩
 · rfl
 · show(Nat.beq b b && Nat.beq off off && Nat.beq len len && Nat.beq cap cap)=true;rw [aB,aB,aB,aB];rfl
theorem Own.sm{lo n:Nat}{h:zB}{v:Value}{e sz len:Nat}{vs:List Value}(r:Own lo n h v e sz len vs):Sm v:=by
 rcases r with⟨rfl,_⟩|⟨b,_,_,rfl,_⟩
 · rfl
 · show(Nat.beq b b && Nat.beq 0 0 && Nat.beq len len && Nat.beq inf inf)=true;rw [aB,aB,aB,aB];rfl
def LkA(P:Program)(l:Look)(k:Nat)(hs:List W):Prop:=sV P l k hs=true
theorem lks_cons{lk:Look}(h:LkA P lk hs.length hs)(r:LksOK P hs ls):LksOK P hs (lk::ls):=by
 show(sV P lk hs.length hs && xO P hs.length hs ls)=true;rw [show sV P lk hs.length hs=true from h,show xO P hs.length hs ls=true from r];rfl
theorem lka_nil{lk:Look}{k:Nat}:LkA P lk k []:=rfl
theorem lka_off{o:Op}{tt:Fr}{v:Value}{k:Nat}(hr:(Nat.ble lo (Nat.pred k) && Nat.ble (Nat.pred k) hi)=false)(r:LkA P ⟨o,tt,v,lo,hi⟩ (Nat.pred k) hs):LkA P ⟨o,tt,v,lo,hi⟩ k (w::hs):=by
 show(cond (Nat.ble lo (Nat.pred k) && Nat.ble (Nat.pred k) hi) _ true && sV P ⟨o,tt,v,lo,hi⟩ (Nat.pred k) hs)=true;rw [hr,show sV P ⟨o,tt,v,lo,hi⟩ (Nat.pred k) hs=true from r];rfl
theorem lka_on{o:Op}{tt:Fr}{v:Value}{k:Nat}(h1:lookLt w.n o tt=true)(h2:xN o P tt w.h=some v)(h3:Sm v)(r:LkA P ⟨o,tt,v,lo,hi⟩ (Nat.pred k) hs):LkA P ⟨o,tt,v,lo,hi⟩ k (w::hs):=by
 show(cond (Nat.ble lo (Nat.pred k) && Nat.ble (Nat.pred k) hi) (lookLt w.n o tt && (match xN o P tt w.h with
  | some v'=>sameB v' v
  | none=>false)) true && sV P ⟨o,tt,v,lo,hi⟩ (Nat.pred k) hs)=true
 rw[h1,h2,show sV P ⟨o,tt,v,lo,hi⟩ (Nat.pred k) hs=true from r];dsimp only;rw [show sameB v v=true from h3];cases (Nat.ble lo (Nat.pred k) && Nat.ble (Nat.pred k) hi) <;> rfl
theorem lka_ld1{x:Operand}{v:Value}{k b o n:Nat}{h:zB}{dd:List Deferred}{u:Option zI}[s:ShC P ty .scal](e:evb l t x = .pointer (some ⟨b,o,none⟩))(hb:b<n)(c:zC h b o=some v)(h3:Sm v)(r:LkA P ⟨.load ty x,FA l t,v,lo,hi⟩ (Nat.pred k) hs) :
 LkA P ⟨.load ty x,FA l t,v,lo,hi⟩ k (⟨dd,u,h,n⟩::hs):=by
 refine lka_on ?_ ?_ h3 r
 · show blkLt n (ev (FA l t) x)=true;rw [yM,e];exact xE hb
 · show qLoad P ty h (ev (FA l t) x)=_;rw [yM,e];exact load_scal s.ok c
def Sms(vs:List Value):Prop:=sU vs vs=true
theorem sml_nil:Sms []:=rfl
theorem sml_int{k:IntKind}{a:Int}{r:List Value}(h:Sms r):Sms (.int k a::r):=by
 show(scalB (.int k a) (.int k a) && sU r r)=true;rw [show scalB (.int k a) (.int k a)=true from sm_int,show sU r r=true from h];rfl
theorem sml_str{a:List UInt8}{r:List Value}(h:Sms r):Sms (str a::r):=by
 show(scalB (str a) (str a) && sU r r)=true;rw [show scalB (str a) (str a)=true from sm_str,show sU r r=true from h];rfl
theorem sml_row{lo:Nat}{h:zB}{v:Value}{e sz len:Nat}{vs r:List Value}(q:Row lo h v e sz len vs)(h:Sms r):Sms (v::r):=by
 show(scalB v v && sU r r)=true
 have:scalB v v=true:=by
  have:=q.sm;rcases q with⟨rfl,_⟩|⟨b,off,cap,m,z,kd,_,rfl,_⟩ <;> exact this
 rw[this,show sU r r=true from h];rfl
theorem lka_ldN{x:Operand}{vs:List Value}{k b o n sz:Nat}{h:zB}{dd:List Deferred}{u:Option zI}[s:ShC P ty (.agg sz)](e:evb l t x = .pointer (some ⟨b,o,none⟩))(hb:b<n)(h0:0<sz)(c:Rd h b o sz vs)(h3:Sms vs)(r:LkA P ⟨.load ty x,FA l t,.agg ⟨vs⟩,lo,hi⟩ (Nat.pred k) hs) :
 LkA P ⟨.load ty x,FA l t,.agg ⟨vs⟩,lo,hi⟩ k (⟨dd,u,h,n⟩::hs):=by
 refine lka_on ?_ ?_ h3 r
 · show blkLt n (ev (FA l t) x)=true;rw [yM,e];exact xE hb
 · show qLoad P ty h (ev (FA l t) x)=_;rw [yM,e];obtain⟨h1,h2⟩:=c.row;exact load_agg s.ok h1 h0 h2
theorem Row.blk{lo0:Nat}{h:zB}{v:Value}{e sz len:Nat}{vs:List Value}{n:Nat}(r:Row lo0 h v e sz len vs)(hl:lo0≤n):blkLt n v=true:=by
 rcases r with⟨rfl,_⟩|⟨b,off,cap,m,z,kd,h1,rfl,_⟩
 · rfl
 · exact xE (show b<n by omega)
theorem lka_len{x:Operand}{v:Value}{k lo0 n el ee sz len:Nat}{h h0:zB}{vs:List Value}{dd:List Deferred}{u:Option zI}[s:UnC P ty (.slice el)](e:evb l t x=v)(hr:Row lo0 h0 v ee sz len vs)(dX:lo0≤n)(r:LkA P ⟨.call ⟨.builtin .len,[x].toArray,[ty].toArray⟩,FA l t,I64 (len:Nat),lo,hi⟩ (Nat.pred k) hs) :
 LkA P ⟨.call ⟨.builtin .len,[x].toArray,[ty].toArray⟩,FA l t,I64 (len:Nat),lo,hi⟩ k (⟨dd,u,h,n⟩::hs):=by
 refine lka_on ?_ ?_ sm_int r
 · show blkLt n (ev (FA l t) x)=true;rw [yM,e];exact hr.blk dX
 · show quietB P .len [ty] [ev (FA l t) x] h=_;rw [yM,e];exact len_rw hr
end
end
end
section
section
variable {P:Program} {ng:Nat}
def lvQ(P:Program)(ng:Nat)(mode:Option zI)(fn:Func)(u:Option zI)(Q:Out→zB→Nat→Prop)(t:Fr)(w:W):Prop:=(loS P ng).leave fn mode t w (λo u' h' n'=>xJ (u'=u∧Q o h' n'))=true
def Def(P:Program)(ng:Nat)(g:FuncId)(args:List Value)(u0:Option zI)(h:zB)(n:Nat)(Q:Option zI→zB→Nat→Prop):Prop:=∃v u' h' n',Q u' h' n'∧CallTo P ng g args true u0 h n (.ret v) u' h' n'
section
variable {fn:Func} {u:Option zI} {Q:Out→zB→Nat→Prop} {l:List (Nat×Value)} {t:Fr} {h:zB} {n:Nat} {ds:List Deferred}
instance {D:Deferred}:Stp (retQ P ng fn u Q .ret t ⟨D::ds,u,h,n⟩) (lvQ P ng none fn u Q t ⟨D::ds,u,h,n⟩):=⟨id⟩
instance {D:Deferred}:Stp (retQ P ng fn u Q .normal t ⟨D::ds,u,h,n⟩) (lvQ P ng none fn u Q t ⟨D::ds,u,h,n⟩):=⟨id⟩
instance {D:Deferred} {c:zI}:Stp (retQ P ng fn u Q (.panic c) t ⟨D::ds,u,h,n⟩) (lvQ P ng (some c) fn u Q t ⟨D::ds,u,h,n⟩):=⟨id⟩
instance [Fit P ng]:Stp (lvQ P ng none fn u Q (FA l t) ⟨[],u,h,n⟩) (Ob (Wh fn.results.toList) λrs=>Ob (Rs P l t h rs) λvs=>Ob (Wh (sD vs)) λv=>Q (.ret v) h n):=⟨ret_of⟩
instance [Fit P ng] {c:zI}:Stp (lvQ P ng (some c) fn u Q t ⟨[],u,h,n⟩) (Q (.panic c) h n):=⟨λq=>leave_of (isSo_iff.2 ⟨rfl,q⟩)⟩
def Clt(h:zB)(r:Nat):Prop:=zF h r = .deferred true
instance [Fit P ng] {mode:Option zI} {r:Nat} {asz:Array Value}:Stp (lvQ P ng mode fn u Q t ⟨⟨.collected r,asz⟩::ds,u,h,n⟩) (Ob1 (Clt h r) <| lvQ P ng mode fn u Q t ⟨ds,u,hal h r (.deferred false),n⟩):=⟨λ⟨h1,h2⟩=>leave_of (by
 show(match zF h r with
  | .deferred true=>h.setK .dead (.deferred false) r λh=>(loS P ng).leave fn mode t ⟨ds,u,h,n⟩ _
  | _=>false)=true
 rw[show zF h r = .deferred true from h1];dsimp only;rw [Tr.setK_eq];exact h2)⟩
theorem lv_none[Fit P ng]{g:FuncId}{cap args:List Value}{R:zB→Nat→Prop}(c:Def P ng g (args++cap) none h n λu' h' n'=>u'=none∧R h' n')(k:∀h' n',R h' n'→lvQ P ng none fn u Q t ⟨ds,u,h',n'⟩):lvQ P ng none fn u Q t ⟨⟨.fn (.func g) ⟨cap⟩,⟨args⟩⟩::ds,u,h,n⟩:=leave_of (by
 obtain⟨v,u',h',n',⟨rfl,r⟩,hc⟩:=c;exact loS_call.2 ⟨.ret v,none,h',n',(by exact k h' n' r),hc⟩)
theorem rF[Fit P ng]{g:FuncId}{cap args:List Value}{ch:zI}{x:Value}{R:zB→Nat→Prop}(c:Def P ng g (args++cap) (some ch) h n λu' h' n'=>u'=some [⟨x,true,false⟩]∧R h' n')(k:∀h' n',R h' n'→lvQ P ng none fn u Q t ⟨ds,u,h',n'⟩):lvQ P ng (some ch) fn u Q t ⟨⟨.fn (.func g) ⟨cap⟩,⟨args⟩⟩::ds,u,h,n⟩:=leave_of (by
 obtain⟨v,u',h',n',⟨rfl,r⟩,hc⟩:=c;exact loS_call.2 ⟨.ret v,_,h',n',(by exact k h' n' r),hc⟩)
end
def dfQ(P:Program)(ng:Nat)(fn:Func)(Q:Out→Option zI→zB→Nat→Prop):QX:=λx t w=>match x with
 | .normal=>(loS P ng).leave fn none t w (λo u' h' n'=>xJ (Q o u' h' n'))=true
 | .ret=>(loS P ng).leave fn none t w (λo u' h' n'=>xJ (Q o u' h' n'))=true
 | .panic c=>(loS P ng).leave fn (some c) t w (λo u' h' n'=>xJ (Q o u' h' n'))=true
 | _=>False
theorem entD[Fit P ng]{f:FuncId}{fn:Func}[b:BoC P f fn]{c:Code}{args:List Value}{u:Option zI}{h:zB}{n:Nat}{Q:Option zI→zB→Nat→Prop}
(k:WC P ng c ⟨f,none,true⟩ (FA (arl 0 args []) .lF) ⟨[],u,h,n⟩ (dfQ P ng fn λo u' h' n'=>∃v,o = .ret v∧Q u' h' n'))(hc:fn.body=some c:=by exact rfl)(hl:Nat.ble args.length fn.ntmps=true:=by exact rfl):Def P ng f args u h n Q:=by
 have hx:xcall P (loS P ng) f args true u h n (λo u' h' n'=>xJ (∃v,o = .ret v∧Q u' h' n'))=true:=by
  unfold xcall;rw [b.ok c hc]
  show(Bool.rec false (args0 fr0 0 args λt=>
   (loS P ng).code c ⟨f,none,true⟩ t ⟨[],u,h,n⟩ λx t w=>AX.rec ((loS P ng).leave fn none t w (λo u' h' n'=>xJ (∃v,o = .ret v∧Q u' h' n'))) (λ_=>false) (λ_=>false) ((loS P ng).leave fn none t w (λo u' h' n'=>xJ (∃v,o = .ret v∧Q u' h' n'))) (λc=>(loS P ng).leave fn (some c) t w (λo u' h' n'=>xJ (∃v,o = .ret v∧Q u' h' n'))) x) (Nat.ble args.length fn.ntmps):Bool)=true
  rw[hl,args0_eq,show fr0=FA [] .lF from rfl,arl_FA];obtain⟨x,t',w',q,r⟩:=k;refine loS_code.2 ⟨x,t',w',?_,r⟩
  cases x with
  | normal=>exact q
  | exit i=>exact q.elim
  | goto i=>exact q.elim
  | ret=>exact q
  | panic c=>exact q
 obtain⟨o,u',h',n',q,r⟩:=xcall_ok (Fit.ok) rU hx;obtain⟨v,e,q2⟩:=isSo_iff.1 q;subst e;exact⟨v,u',h',n',q2,r⟩
theorem df_ret[Fit P ng]{fn:Func}{u:Option zI}{Q:Out→Option zI→zB→Nat→Prop}{l:List (Nat×Value)}{t:Fr}{h:zB}{n:Nat}(k:Ob (Wh fn.results.toList) λrs=>Ob (Rs P l t h rs) λvs=>Ob (Wh (sD vs)) λv=>Q (.ret v) u h n) :
 (loS P ng).leave fn none (FA l t) ⟨[],u,h,n⟩ (λo u' h' n'=>xJ (Q o u' h' n'))=true:=by
 obtain⟨rs,e1,vs,e2,v,e3,q⟩:=k;refine leave_of ?_
 show(match yY P (FA l t) h fn.results.toList with
  | some l=>xM (sD l) λv=>xJ (Q (.ret v) u h n)
  | none=>false)=true
 rw[show fn.results.toList=rs from e1,e2.eq];show xM (sD vs) _=true;rw [yH,show sD vs=v from e3];exact isSo_iff.2 q
instance [Fit P ng] {fn:Func} {u:Option zI} {Q:Out→Option zI→zB→Nat→Prop} {l:List (Nat×Value)} {t:Fr} {h:zB} {n:Nat}:Stp (dfQ P ng fn Q .ret (FA l t) ⟨[],u,h,n⟩) (Ob (Wh fn.results.toList) λrs=>Ob (Rs P l t h rs) λvs=>Ob (Wh (sD vs)) λv=>Q (.ret v) u h n):=⟨df_ret⟩
instance [Fit P ng] {fn:Func} {u:Option zI} {Q:Out→Option zI→zB→Nat→Prop} {l:List (Nat×Value)} {t:Fr} {h:zB} {n:Nat}:Stp (dfQ P ng fn Q .normal (FA l t) ⟨[],u,h,n⟩) (Ob (Wh fn.results.toList) λrs=>Ob (Rs P l t h rs) λvs=>Ob (Wh (sD vs)) λv=>Q (.ret v) u h n):=⟨df_ret⟩
section
variable {f:FuncId} {tys:List Nat} {asz:List Value} {d:List Deferred} {u:Option zI} {h:zB} {n:Nat} {K:W→Value→Prop}
instance {v:Value} {older:zI}:Stp (BuB P ⟨f,none,true⟩ .recover tys asz d (some (⟨v,false,false⟩::older)) h n K) (K ⟨d,some (⟨v,true,false⟩::older),h,n⟩ v):=⟨λq=>isSo_iff.2 q⟩
instance:Stp (BuB P ⟨f,none,true⟩ .recover tys asz d none h n K) (K ⟨d,none,h,n⟩ .nilIface):=⟨λq=>isSo_iff.2 q⟩
end
noncomputable def ifB(P:Program)(ty:Nat):Bool:=match und P ty with
  | some (.interface _)=>true
  | _=>false
 class IfC (P:Program) (ty:Nat):Prop where ok:ifB P ty=true
theorem IfC.get{ty:Nat}(s:IfC P ty):∃m,und P ty=some (.interface m):=by
 have h:=s.ok;unfold ifB at h;split at h
 · rename_i m e;exact⟨m,e⟩
 · cases h
theorem bn_if1{ty t0:Nat}[s:IfC P ty]{ox oy:Operand}{v:Value}:Bn P .neq ty ox oy (.iface t0 v) .nilIface (.bool true):=by
 obtain⟨m,e⟩:=s.get
 show(match BinOp.neq,und P ty with
  | .eql,some d=>cond (zT ox oy (.iface t0 v) .nilIface) ((uD d (.iface t0 v) .nilIface).map Value.bool) none
  | .neq,some d=>cond (zT ox oy (.iface t0 v) .nilIface) ((uD d (.iface t0 v) .nilIface).map λb=>Value.bool (!b)) none
  | _,_=>none:Option Value)=_
 rw[e];rfl
theorem bn_if0{ty:Nat}[s:IfC P ty]{ox:Operand}{v:Value}:Bn P .neq ty ox (.const v) .nilIface .nilIface (.bool false):=by
 obtain⟨m,e⟩:=s.get
 show(match BinOp.neq,und P ty with
  | .eql,some d=>cond (zT ox (.const v) .nilIface .nilIface) ((uD d .nilIface .nilIface).map Value.bool) none
  | .neq,some d=>cond (zT ox (.const v) .nilIface .nilIface) ((uD d .nilIface .nilIface).map λb=>Value.bool (!b)) none
  | _,_=>none:Option Value)=_
 rw[e];show cond (isConst ox || isConst (.const v)) _ none=_;cases isConst ox <;> rfl
theorem tya_hit{t0:Nat}[s:PlC P t0]{v:Value}:wL P (.iface t0 v) t0 true=some (.tuple ⟨[v,.bool true]⟩):=by
 obtain⟨d,e,hp⟩:=s.get;unfold wL;rw [e];cases d <;> first|(cases hp;done)|(dsimp only;rw [aB];rfl)
noncomputable def LoO(st:LoopState)(pend:Option Code)(fn:FuncId)(params:Array Tmp)(assign body:Code)(D:Nat)(t:Fr):AObj:=.loop { state:=st,pending:=pend,fn,tmps:= #[],params,assign,body,defers:=D } t
def rgQ(P:Program)(ng:Nat)(L:Nat)(fn:FuncId)(params:Array Tmp)(assign body:Code)(D:Nat)(cx:Cx)(t:Fr)(d:List Deferred)(u:Option zI)(Q:QX):Out→zB→Nat→Prop:=λo h n=>match o with
 | .ret _=>(zF h L=LoO .ready none fn params assign body D t∧Q .normal t ⟨d,u,hal h L (LoO .exhausted none fn params assign body D t),n⟩)∨(∃j,zF h L=LoO .done (some j) fn params assign body D t∧WC P ng j cx t ⟨d,u,hal h L (LoO .exhausted (some j) fn params assign body D t),n⟩ Q)
 | .panic c=>Q (.panic c) t ⟨d,u,h,n⟩
theorem rg_inv{L:Nat}{fn:FuncId}{params:Array Tmp}{assign body:Code}{D:Nat}{cx:Cx}{t:Fr}{d:List Deferred}{u:Option zI}{Q:QX}{fv:Value}{g:FuncId}{fs cs:List Value}{h:zB}{n:Nat}(hf:fv = .func (.func g) ⟨fs⟩ ⟨cs⟩)
(k:CallB P ng g (fs++(.func (.yield L) #[] #[]::cs)) h n (rgQ P ng L fn params assign body D cx t d u Q)) :
 xinvoke (loS P ng) fv [.func (.yield L) #[] #[]] h n
  (λ_ h2 n2=>match zF h2 L with
   | .loop l t0 => match l.state with
    | .busy=>false
    | _=>h2.setK .dead (.loop { l with state:=.exhausted } t0) L λh3=>match l.pending with
     | none=>soK Q .normal t ⟨d,u,h3,n2⟩
     | some j=>(loS P ng).code j cx t ⟨d,u,h3,n2⟩ (soK Q)
   | _=>false)
  (λc h2 n2=>soK Q (.panic c) t ⟨d,u,h2,n2⟩)=true:=by
 subst hf;obtain⟨o,u',h',n',q,r⟩:=loS_call.1 k;refine loS_call.2 ⟨o,u',h',n',?_,r⟩;have q:=isSo_iff.1 q
 cases o with
 | panic c=>exact isSo_iff.2 q
 | ret v=>
  rcases q with⟨e,q⟩|⟨j,e,q⟩
  · show(match zF h' L with
     | .loop l t0 => match l.state with
      | .busy=>false
      | _=>h'.setK .dead (.loop { l with state:=.exhausted } t0) L λh3=>match l.pending with
       | none=>soK Q .normal t ⟨d,u,h3,n'⟩
       | some j=>(loS P ng).code j cx t ⟨d,u,h3,n'⟩ (soK Q)
     | _=>false)=true
    rw[e];show h'.setK .dead _ L _=true;rw [Tr.setK_eq];exact isSo_iff.2 q
  · show(match zF h' L with
     | .loop l t0 => match l.state with
      | .busy=>false
      | _=>h'.setK .dead (.loop { l with state:=.exhausted } t0) L λh3=>match l.pending with
       | none=>soK Q .normal t ⟨d,u,h3,n'⟩
       | some j=>(loS P ng).code j cx t ⟨d,u,h3,n'⟩ (soK Q)
     | _=>false)=true
    rw[e];show h'.setK .dead _ L _=true;rw [Tr.setK_eq];exact WC.lo.2 q
theorem wc_rg0[Fit P ng]{f:Operand}{params:Array Tmp}{assign body:Code}{fn:FuncId}{df:Bool}{l:List (Nat×Value)}{t:Fr}{d:List Deferred}{u:Option zI}{h:zB}{n:Nat}{Q:QX}{g:FuncId}{fs cs:List Value}(hf:evb l t f = .func (.func g) ⟨fs⟩ ⟨cs⟩)
(k:CallB P ng g (fs++(.func (.yield (n+1)) #[] #[]::cs)) (hal (hal h n (.deferred true)) (n+1) (LoO .ready none fn params assign body n (FA l t))) (n+2) (rgQ P ng (n+1) fn params assign body n ⟨fn,none,df⟩ (FA l t) ({ target:=.collected n,args:= #[] }::d) u Q)) :
 WC P ng (.rangeFunc f params assign body) ⟨fn,none,df⟩ (FA l t) ⟨d,u,h,n⟩ Q:=by
 refine wc_of ?_;show zR h n (.deferred true) (λh' n'=>xrange (loS P ng) f params assign body ⟨fn,none,df⟩ (FA l t) ({ target:=.collected n,args:= #[] }::d) u h' n' n (soK Q))=true;rw [xW];unfold xrange;rw [xW,yM];exact rg_inv hf k
theorem wc_rg1[Fit P ng]{f:Operand}{params:Array Tmp}{assign body:Code}{fn:FuncId}{df:Bool}{l:List (Nat×Value)}{t t0:Fr}{d:List Deferred}{u:Option zI}{h:zB}{n L0 D:Nat}{Q:QX}{g:FuncId}{fs cs:List Value}{st:LoopState}{pe:Option Code}{fn0:FuncId}{pa:Array Tmp}{asz bo:Code}(hL:zF h L0=LoO st pe fn0 pa asz bo D t0)(hf:evb l t f = .func (.func g) ⟨fs⟩ ⟨cs⟩)
(k:CallB P ng g (fs++(.func (.yield n) #[] #[]::cs)) (hal h n (LoO .ready none fn params assign body D (FA l t))) (n+1) (rgQ P ng n fn params assign body D ⟨fn,some L0,df⟩ (FA l t) d u Q)) :
 WC P ng (.rangeFunc f params assign body) ⟨fn,some L0,df⟩ (FA l t) ⟨d,u,h,n⟩ Q:=by
 refine wc_of ?_
 show(match zF h L0 with
  | .loop ll _=>xrange (loS P ng) f params assign body ⟨fn,some L0,df⟩ (FA l t) d u h n ll.defers (soK Q)
  | _=>false)=true
 rw[hL];show xrange (loS P ng) f params assign body ⟨fn,some L0,df⟩ (FA l t) d u h n D (soK Q)=true;unfold xrange;rw [xW,yM];exact rg_inv hf k
def Rou(P:Program)(ng:Nat)(L:Nat)(args:List Value)(h:zB)(n:Nat)(Q:Out→zB→Nat→Prop):Prop:=∃o h' n',Q o h' n'∧RoundTo P ng L args h n o h' n'
theorem Rou.mono{L:Nat}{args:List Value}{h:zB}{n:Nat}{Q Q':Out→zB→Nat→Prop}(r:Rou P ng L args h n Q)(hq:∀o h' n',Q o h' n'→Q' o h' n'):Rou P ng L args h n Q':=by
 obtain⟨o,h',n',q,r⟩:=r;exact⟨o,h',n',hq _ _ _ q,r⟩
theorem inv_yield{L:Nat}{fs cs asz:List Value}{h:zB}{n:Nat}{d:List Deferred}{u:Option zI}{K:W→Value→Prop}{Kp:zI→W→Prop}(r:Rou P ng L (fs++asz) h n (calQ d u K Kp)):InvB P ng (.func (.yield L) ⟨fs⟩ ⟨cs⟩) asz h n d u K Kp:=by
 obtain⟨o,h',n',q,r⟩:=r;refine loS_round.2 ⟨o,h',n',?_,r⟩
 cases o with
 | ret v=>exact isSo_iff.2 q
 | panic c=>exact isSo_iff.2 q
def parl:List Tmp→List Value→List (Nat×Value)→List (Nat×Value)
 | i::is,v::vs,acc=>parl is vs ((i,v)::acc)
 | _,_,acc=>acc
def bdQ(L:Nat)(fn:FuncId)(params:Array Tmp)(assign body:Code)(D:Nat)(t:Fr)(Q:Out→zB→Nat→Prop):QX:=λx _ w=>w.d=[]∧match x with
 | .normal=>zF w.h L=LoO .busy none fn params assign body D t∧Q (.ret (.bool true)) (hal w.h L (LoO .ready none fn params assign body D t)) w.n
 | .ret=>zF w.h L=LoO .busy none fn params assign body D t∧Q (.ret (.bool false)) (hal w.h L (LoO .done (some .ret) fn params assign body D t)) w.n
 | .exit i=>zF w.h L=LoO .busy none fn params assign body D t∧Q (.ret (.bool false)) (hal w.h L (LoO .done (some (.exit i)) fn params assign body D t)) w.n
 | .goto _=>False
 | .panic c=>Q (.panic c) w.h w.n
def asQ(P:Program)(ng:Nat)(L:Nat)(fn:FuncId)(params:Array Tmp)(assign body:Code)(D:Nat)(t:Fr)(Q:Out→zB→Nat→Prop):QX:=λx t' w=>match x with
 | .normal=>zF w.h L=LoO .ready none fn params assign body D t∧WC P ng body ⟨fn,some L,false⟩ t' ⟨w.d,w.u,hal w.h L (LoO .busy none fn params assign body D t),w.n⟩ (bdQ L fn params assign body D t Q)
 | _=>False
theorem setP_par:∀{is:List Tmp} {vs:List Value} {acc:List (Nat×Value)} {t:Fr} {k:Fr→Bool},is.length=vs.length→sE (FA acc t) is vs k=k (FA (parl is vs acc) t):=by
 intro is
 induction is with
 | nil=>intro vs acc t k hl;cases vs with
  | nil=>rfl
  | cons v vs=>cases hl
 | cons i is ih => intro vs acc t k hl; cases vs with
  | nil=>cases hl
  | cons v vs=>
   show xM v (λv=>fsetK (FA acc t) i v λt'=>sE t' is vs k)=_;rw [yH,fset_FA,ih (by simpa using hl)];rfl
theorem rou[Fit P ng]{L:Nat}{fn:FuncId}{ps:List Tmp}{assign body:Code}{D:Nat}{l:List (Nat×Value)}{t:Fr}{args:List Value}{h:zB}{n:Nat}{Q:Out→zB→Nat→Prop}(hL:zF h L=LoO .ready none fn ps.toArray assign body D (FA l t))(hl:ps.length=args.length)
(k:WC P ng assign ⟨fn,some L,false⟩ (FA (parl ps args l) t) ⟨[],none,h,n⟩ (asQ P ng L fn ps.toArray assign body D (FA l t) Q)):Rou P ng L args h n Q:=by
 have hx:xround (loS P ng) L args h n (λo h' n'=>xJ (Q o h' n'))=true:=by
  unfold xround;rw [hL];show sE (FA l t) ps.toArray.toList args _=true;rw [show ps.toArray.toList=ps from rfl,setP_par hl];obtain⟨x,t',w',q,r⟩:=k;refine loS_code.2 ⟨x,t',w',?_,r⟩
  cases x with
  | normal =>
   obtain⟨e,x2,t2,w2,q2,r2⟩:=q;obtain⟨d',u',h',n'⟩:=w';dsimp only at e q2 r2 ⊢;rw [e];show h'.setK .dead _ L _=true;rw [Tr.setK_eq];refine loS_code.2 ⟨x2,t2,w2,?_,r2⟩;obtain⟨d2,u2,h2,n2⟩:=w2;obtain⟨hd,q2⟩:=q2;dsimp only at hd;subst hd
   have fin:∀(j:Option Code) (st:LoopState) (b:Bool),(st=match j with|none=>.ready|some _=>.done)→(b=match j with|none=>true|some _=>false)→zF h2 L=LoO .busy none fn ps.toArray assign body D (FA l t)→
    Q (.ret (.bool b)) (hal h2 L (LoO st j fn ps.toArray assign body D (FA l t))) n2→endRound L j h2 n2 (λo h' n'=>xJ (Q o h' n'))=true:=λj st b e1 e2 e3 e4=>by
    unfold endRound;rw [e3];show h2.setK .dead _ L _=true;rw [Tr.setK_eq];subst e1 e2;exact isSo_iff.2 e4
   cases x2 with
   | normal=>exact fin none .ready true rfl rfl q2.1 q2.2
   | exit i=>exact fin (some (.exit i)) .done false rfl rfl q2.1 q2.2
   | goto i=>exact q2.elim
   | ret=>exact fin (some .ret) .done false rfl rfl q2.1 q2.2
   | panic c=>exact isSo_iff.2 q2
  | exit i=>exact q.elim
  | goto i=>exact q.elim
  | ret=>exact q.elim
  | panic c=>exact q.elim
 obtain⟨o,h',n',q,r⟩:=xround_ok (Fit.ok) rU hx;exact⟨o,h',n',isSo_iff.1 q,r⟩
section
variable {L:Nat} {fn:FuncId} {ps:Array Tmp} {assign body:Code} {D:Nat} {t t':Fr} {Q:Out→zB→Nat→Prop} {u:Option zI} {h:zB} {n:Nat} {d:List Deferred}
def ObE(h:zB)(L:Nat)(o:AObj):Prop:=zF h L=o
instance:Stp (asQ P ng L fn ps assign body D t Q .normal t' ⟨d,u,h,n⟩) (Ob1 (ObE h L (LoO .ready none fn ps assign body D t)) <| WC P ng body ⟨fn,some L,false⟩ t' ⟨d,u,hal h L (LoO .busy none fn ps assign body D t),n⟩ (bdQ L fn ps assign body D t Q)):=⟨λ⟨h1,h2⟩=>⟨h1,h2⟩⟩
instance:Stp (bdQ L fn ps assign body D t Q .normal t' ⟨[],u,h,n⟩) (Ob1 (ObE h L (LoO .busy none fn ps assign body D t)) <| Q (.ret (.bool true)) (hal h L (LoO .ready none fn ps assign body D t)) n):=⟨λ⟨h1,h2⟩=>⟨rfl,h1,h2⟩⟩
instance:Stp (bdQ L fn ps assign body D t Q .ret t' ⟨[],u,h,n⟩) (Ob1 (ObE h L (LoO .busy none fn ps assign body D t)) <| Q (.ret (.bool false)) (hal h L (LoO .done (some .ret) fn ps assign body D t)) n):=⟨λ⟨h1,h2⟩=>⟨rfl,h1,h2⟩⟩
instance {i:Nat}:Stp (bdQ L fn ps assign body D t Q (.exit i) t' ⟨[],u,h,n⟩) (Ob1 (ObE h L (LoO .busy none fn ps assign body D t)) <| Q (.ret (.bool false)) (hal h L (LoO .done (some (.exit i)) fn ps assign body D t)) n):=⟨λ⟨h1,h2⟩=>⟨rfl,h1,h2⟩⟩
instance {c:zI}:Stp (bdQ L fn ps assign body D t Q (.panic c) t' ⟨[],u,h,n⟩) (Q (.panic c) h n):=⟨λh2=>⟨rfl,h2⟩⟩
end
end
theorem xX{h:zB}{L:Nat}{o:AObj}:zF (hal h L o) L=o:=by rw[zO,if_pos rfl]
theorem obe_hal{h:zB}{L n:Nat}{o o':AObj}(hn:L≠n)(e:zF h L=o):zF (hal h n o') L=o:=by rw[zO,if_neg λe=>hn e.symm];exact e
theorem obe_hst{h:zB}{L a off:Nat}{ws:List Value}{o:AObj}(hn:L≠a)(e:zF h L=o):zF (hst h a off ws) L=o:=by rw[xL,if_neg λe=>hn e.symm];exact e
theorem obe_tch{S:List Nat}{h h':zB}{n n' L:Nat}{o:AObj}(t:Tch S h n h' n')(hb:L<n)(hS:L∉S)(e:zF h L=o):zF h' L=o:=by rw[t.2 L hb hS];exact e
end
section
 class BdC (P:Program) (ty:Nat) (ps:List (Nat×Value)) (cs:outParam (List Value)):Prop where ok:aBuild P ty ps=some (.agg ⟨cs⟩)
 class BsC (P:Program) (ty len:Nat) (ps:List (Nat×Value)) (cs:outParam (List Value)):Prop where ok:wM P ty len ps=some (mkC cs 0 0)
theorem bd_c{P:Program}{ty:Nat}{ps:List (Nat×Value)}{cs:List Value}[s:BdC P ty ps cs]:aBuild P ty ps=some (.agg ⟨cs⟩):=s.ok
theorem bs_c{P:Program}{ty len:Nat}{ps:List (Nat×Value)}{cs:List Value}[s:BsC P ty len ps cs]:wM P ty len ps=some (mkC cs 0 0):=s.ok
 class BnC (P:Program) (op:BinOp) (ty:Nat) (x y:Value) (z:outParam Value):Prop where ok:∀ox oy,Bn P op ty ox oy x y z
theorem bn_c{P:Program}{op:BinOp}{ty:Nat}{x y z:Value}{ox oy:Operand}[s:BnC P op ty x y z]:Bn P op ty ox oy x y z:=s.ok ox oy
theorem Row.sl{lo:Nat}{h:zB}{v:Value}{e sz len:Nat}{vs:List Value}(r:Row lo h v e sz len vs):∃p c,v = .slice p len c:=by
 rcases r with⟨rfl,rfl,rfl⟩|⟨b,off,cap,m,z,kd,_,rfl,_⟩
 · exact⟨_,_,rfl⟩
 · exact⟨_,_,rfl⟩
theorem Own.sl{lo n:Nat}{h:zB}{v:Value}{e sz len:Nat}{vs:List Value}(r:Own lo n h v e sz len vs):∃p c,v = .slice p len c:=by
 rcases r with⟨rfl,rfl,_⟩|⟨b,_,_,rfl,_⟩
 · exact⟨_,_,rfl⟩
 · exact⟨_,_,rfl⟩
end
section
def Mty(lo n:Nat)(h:zB)(v:Value):Prop:=∃b z kd,lo≤b∧b<n∧v = .slice (some ⟨b,0,none⟩) 0 0∧yZ (zF h b)=some (0,z,kd)∧kd≠2∧kd≠3
theorem Mty.row{lo n:Nat}{h:zB}{v:Value}(r:Mty lo n h v)(e sz:Nat):Row n h v e sz 0 []:=by
 obtain⟨b,z,kd,h1,h2,rfl,h3,_⟩:=r;exact .inr ⟨b,0,0,0,z,kd,h2,rfl,by simp,h3,by simp,rowAt.nil _ _ _,.inl ⟨by decide,ae _⟩⟩
theorem mty_new{h:zB}{n lo:Nat}(hl:lo≤n):Mty lo (n+1) (hal h n (mkC [] 0 0)) (.slice (some ⟨n,0,none⟩) 0 0):=
 ⟨n,0,0,hl,aS n,rfl,by rw[zO,if_pos rfl];exact uN [] 0 0,by decide,by decide⟩
theorem Mty.tch{S:List Nat}{lo n n':Nat}{h h':zB}{v:Value}(r:Mty lo n h v)(t:Tch S h n h' n')(hS:∀b,zP v=some b→b∉S):Mty lo n' h' v:=by
 obtain⟨b,z,kd,h1,h2,rfl,h3,h4⟩:=r;exact⟨b,z,kd,h1,aO h2 t.1,rfl,by rw[t.2 b h2 (hS b rfl)];exact h3,h4⟩
theorem append_mt{P:Program}{sT xT e sz lo n m:Nat}{h:zB}{v x:Value}{new:List Value}{K:KH}(hT:apTB P sT xT e sz=true)(hv:Mty lo n h v)(dX:lo≤n)(hr:Row n h x e sz m new)(h1:∀y∈new,y.oneCell'=true)(hlim:m<1000000)
(hK0:m=0→∀h',Mty lo n h' v→Tch [] h n h' n→K h' n v=true)(hK:0<m→∀v' h' n',Own lo n' h' v' e sz m new→Tch [] h n h' n'→K h' n' v'=true):vG P [sT,xT] [v,x] h n K=true:=by
 obtain⟨xd,ei,z,t1,t2,t3,t4,t5,t6,t7,t8,t9⟩:=apTB_of hT;have iJ:=(row_of (hv.row e sz)).1;have gV:=hv;obtain⟨b,zz,kd,g1,g2,rfl,g3,g4,g5⟩:=hv;have hnew:new.length=m*sz:=hr.lens;have gL:xD P h e ei.size xd x=some (m,new):=by rw[t6];exact uO t3 hr
 unfold vG sC;dsimp only;rw [t1,t2];dsimp only;rw [t4,t5];dsimp only;rw [gL];dsimp only
 have c1:(Nat.beq ei.size 0 || !Nat.beq (cellsOf z).length ei.size || !Nat.blt (Nat.add 0 m) 1000000 || !Nat.blt ei.bytes 100000)=false:=by
  have a1:Nat.beq ei.size 0=false:=by
   cases e9:Nat.beq ei.size 0 with
   | false=>rfl
   | true=>have:=zE e9;omega
  have a2:Nat.beq (cellsOf z).length ei.size=true:=by rw[t7,t6];exact aB _
  rw[a1,a2,xE (show Nat.add 0 m<1000000 from by have:Nat.add 0 m=m:=aG m;omega),xE t9];rfl
 rw[c1];have fF:Nat.beq 0 inf=false:=by decide
 show cond (Nat.beq m 0 && false && (Nat.beq 0 inf || Nat.ble 0 0)) _ (cond (Nat.beq 0 inf) _ (growEx h n (some ⟨b,0,none⟩) 0 0 m ei.size (zc e ei.size) new λv h n=>K h n v))=true;rw [cn,fF];show growEx h n (some ⟨b,0,none⟩) 0 0 m ei.size (zc e ei.size) new (λv h n=>K h n v)=true;unfold growEx;by_cases hm:m=0
 · subst hm;have gh:new=[]:=aH.1 (by simpa using hnew);subst gh;show storeAt h b (Nat.add 0 (Nat.mul 0 ei.size)) [] (λh'=>K h' n (.slice (some ⟨b,0,none⟩) 0 0))=true;have hz:Nat.add 0 (Nat.mul 0 ei.size)=0:=by show 0+0*ei.size=0;omega
   rw[hz];refine rW g3 ⟨g4,g5⟩ (ae _) (λy hy=>by cases hy) ?_;refine hK0 rfl _ ⟨b,zz,kd,g1,g2,rfl,?_,g4,g5⟩ ⟨ae _,λb' eO _=>?_⟩
   · rw[xL,if_pos rfl,rV];exact g3
   · rw[xL];by_cases e3:b=b'
     · subst e3;rw [if_pos rfl];cases zF h b <;> rfl
     · rw[if_neg e3]
 · have b1:Nat.ble (Nat.add 0 m) 0=false:=by
    cases e9:Nat.ble (Nat.add 0 m) 0 with
    | false=>rfl
    | true=>
     have h9:Nat.add 0 m≤0:=yK e9;have ft:0+m≤0:=h9;omega
   rw[b1]
   show(match rowOf h ei.size 0 (.slice (some ⟨b,0,none⟩) 0 0) with
    | some old=>xH .lF 0 (old++new) λc=>zR h n (.cells c (Nat.mul (Nat.add 0 m) ei.size) (zc e ei.size) 1) λh' n'=>K h' n' (.slice (some ⟨n,0,none⟩) (Nat.add 0 m) inf)
    | none=>false)=true
   rw[t6,iJ];show xH .lF 0 ([]++new) _=true;refine wG h1 ?_;rw [zV];have hz:Nat.add 0 m=m:=aG m;have eh:Nat.mul (Nat.add 0 m) sz=new.length:=by rw[hz];exact hnew.symm
   rw[eh,hz];refine hK (by omega) _ _ _ (.inr ⟨n,dX,aS n,rfl,?_,hnew,by omega,λi=>?_⟩) ⟨cy n,λb hb _=>?_⟩
   · rw[zH,if_pos rfl];rfl
   · unfold zC;rw [zH,if_pos rfl];exact vO new (zc e sz) 1 i
   · rw[zH,if_neg (by omega)]
def OwnE(lo n:Nat)(h:zB)(v:Value)(e sz len:Nat)(vs:List Value):Prop:=Own lo n h v e sz len vs∨(Mty lo n h v∧len=0∧vs=[])
theorem OwnE.row{lo n:Nat}{h:zB}{v:Value}{e sz len:Nat}{vs:List Value}(r:OwnE lo n h v e sz len vs)(hs:1≤sz):Row n h v e sz len vs:=by
 rcases r with r|⟨r,rfl,rfl⟩
 · exact r.row hs
 · exact r.row e sz
theorem OwnE.tch{S:List Nat}{lo n n':Nat}{h h':zB}{v:Value}{e sz len:Nat}{vs:List Value}(r:OwnE lo n h v e sz len vs)(t:Tch S h n h' n')(hS:∀b,zP v=some b→b∉S):OwnE lo n' h' v e sz len vs:=by
 rcases r with r|⟨r,rfl,rfl⟩
 · exact .inl (r.tch t hS)
 · exact .inr ⟨r.tch t hS,rfl,rfl⟩
theorem OwnE.low{lo n:Nat}{h:zB}{v:Value}{e sz len:Nat}{vs:List Value}(r:OwnE lo n h v e sz len vs):∀x∈(zP v).toList,lo≤x:=λx hx=>by
 rcases r with r|⟨⟨b,z,kd,h1,h2,rfl,_⟩,rfl,rfl⟩
 · cases hb:zP v with
   | none=>rw [hb]at hx;cases hx
   | some b=>rw [hb]at hx;simp at hx;subst hx;exact(r.blk hb).1
 · rw[show zP (.slice (some ⟨b,0,none⟩) 0 0)=some b from rfl]at hx;simp at hx;subst hx;exact h1
theorem appE{P:Program}{sT xT e sz:Nat}[A:ApC P sT xT e sz]{cx:Cx}{d:List Deferred}{u:Option zI}{h:zB}{n lo len m:Nat}{v x:Value}{vs new:List Value}{K:W→Value→Prop}(ho:OwnE lo n h v e sz len vs)(hr:Row n h x e sz m new)(dX:lo≤n)(h1:∀y∈new,y.oneCell'=true)(hlim:len+m<1000000)
(k:∀v' h' n',OwnE lo n' h' v' e sz (len+m) (vs++new)→Tch (zP v).toList h n h' n'→K ⟨d,u,h',n'⟩ v'):BuB P cx .append [sT,xT] [v,x] d u h n K:=by
 rcases ho with ho|⟨ho,rfl,rfl⟩
 · have:=append_own (K:=λh' n' v'=>xJ (K ⟨d,u,h',n'⟩ v')) A.ok ho dX hr hr.lens h1 hlim λv' h' n' o a b=>isSo_iff.2 (k v' h' n' (.inl o) ⟨a,λb' hb hS=>b b' hb λe=>hS (by rw[e];simp)⟩);exact this
 · have:=append_mt (K:=λh' n' v'=>xJ (K ⟨d,u,h',n'⟩ v')) A.ok ho dX hr h1 (by omega) (λhm h' r t=>isSo_iff.2 (k v h' n (.inr ⟨r,by omega,by
    subst hm;have:=hr.lens;simpa using aH.1 (by simpa using this)⟩) ⟨t.1,λb hb _=>t.2 b hb (by simp)⟩)) (λhm v' h' n' o t=>isSo_iff.2 (k v' h' n' (.inl (by rw[aG];exact o)) ⟨t.1,λb hb _=>t.2 b hb (by simp)⟩))
   exact this
theorem bn_s0{P:Program}{ty el:Nat}[s:UnC P ty (.slice el)]{ox oy:Operand}{a b c d:Nat}:Bn P .eql ty ox oy (.slice none a b) (.slice none c d) (.bool true):=by
 show(match BinOp.eql,und P ty with
  | .eql,some dd=>cond (zT ox oy (.slice none a b) (.slice none c d)) ((uD dd (.slice none a b) (.slice none c d)).map Value.bool) none
  | .neq,some dd=>cond (zT ox oy (.slice none a b) (.slice none c d)) ((uD dd (.slice none a b) (.slice none c d)).map λb=>Value.bool (!b)) none
  | _,_=>none:Option Value)=_
 rw[s.ok];rfl
theorem bn_s1{P:Program}{ty el:Nat}[s:UnC P ty (.slice el)]{ox oy:Operand}{p:Addr}{a b c d:Nat}:Bn P .eql ty ox oy (.slice (some p) a b) (.slice none c d) (.bool false):=by
 show(match BinOp.eql,und P ty with
  | .eql,some dd=>cond (zT ox oy (.slice (some p) a b) (.slice none c d)) ((uD dd (.slice (some p) a b) (.slice none c d)).map Value.bool) none
  | .neq,some dd=>cond (zT ox oy (.slice (some p) a b) (.slice none c d)) ((uD dd (.slice (some p) a b) (.slice none c d)).map λb=>Value.bool (!b)) none
  | _,_=>none:Option Value)=_
 rw[s.ok];rfl
section
variable {P:Program} {ng:Nat}
def Iter(P:Program)(ng:Nat){α : Type}(enc: α→Value)(elems:List α)(g:FuncId)(args:List Value)(L:Nat)(h:zB)(n:Nat)(E:zB→Nat→Prop):Prop:=
 ∀(J:List α→zB→Nat→Prop) (JF:zB→Nat→Prop),(∀done h' n',J done h' n'→E h' n')→J [] h n→
  (∀done e h' n',J done h' n'→(done++[e]) <+: elems→Rou P ng L [enc e] h' n' λr h2 n2=>n'≤n2∧((r = .ret (.bool true)∧J (done++[e]) h2 n2)∨(r = .ret (.bool false)∧JF h2 n2)))→
  Com P ng g args h n λr h' n'=>r = .ret (.tuple #[])∧(J elems h' n'∨JF h' n')
theorem it_core[Fit P ng]{α : Type}{enc: α→Value}{elems:List α}{ps:List Tmp}{assign body:Code}{fn:FuncId}{l:List (Nat×Value)}{t:Fr}{cx:Cx}{d:List Deferred}{u:Option zI}{h:zB}{n L D:Nat}{Q:QX}{g:FuncId}{args:List Value}{E:zB→Nat→Prop}
(I:List α→zB→Nat→Prop)(F:Code→zB→Nat→Prop)(gQ:ps.length=1)(it:Iter P ng enc elems g args L h n E)(hE:∀done h' n',I done h' n'→E h' n')
(hL:zF h L=LoO .ready none fn ps.toArray assign body D (FA l t))(h0:I [] h n)
(bd:∀done e h' n',I done h' n'→zF h' L=LoO .ready none fn ps.toArray assign body D (FA l t)→(done++[e]) <+: elems→WC P ng assign ⟨fn,some L,false⟩ (FA (parl ps [enc e] l) t) ⟨[],none,h',n'⟩ (asQ P ng L fn ps.toArray assign body D (FA l t) λr h2 n2=>n'≤n2∧((r = .ret (.bool true)∧zF h2 L=LoO .ready none fn ps.toArray assign body D (FA l t)∧I (done++[e]) h2 n2)∨(r = .ret (.bool false)∧∃j,zF h2 L=LoO .done (some j) fn ps.toArray assign body D (FA l t)∧F j h2 n2))))
(fin:∀h' n',I elems h' n'→Q .normal (FA l t) ⟨d,u,hal h' L (LoO .exhausted none fn ps.toArray assign body D (FA l t)),n'⟩)
(finF:∀j h' n',F j h' n'→WC P ng j cx (FA l t) ⟨d,u,hal h' L (LoO .exhausted (some j) fn ps.toArray assign body D (FA l t)),n'⟩ Q) :
 CallB P ng g args h n (rgQ P ng L fn ps.toArray assign body D cx (FA l t) d u Q):=by
 refine cal0 (it (λdone h' n'=>zF h' L=LoO .ready none fn ps.toArray assign body D (FA l t)∧I done h' n') (λh' n'=>∃j,zF h' L=LoO .done (some j) fn ps.toArray assign body D (FA l t)∧F j h' n') (λdone h' n' q=>hE _ _ _ q.2) ⟨hL,h0⟩ λdone e h' n' ⟨q1,q2⟩ hp=>rou q1 gQ (bd done e h' n' q2 q1 hp)) ?_
 rintro _ h' n' ⟨rfl,⟨q1,q2⟩|⟨j,q1,q2⟩⟩
 · exact .inl ⟨q1,fin h' n' q2⟩
 · exact .inr ⟨j,q1,finF j h' n' q2⟩
end
end
section
def MpS(h:zB)(b:Nat)(l:List (List UInt8×Value)):Prop:=∃es clock,zF h b = .map es clock∧es.map (λe=>(e.key,e.val))=l.map λp=>(str p.1,p.2)
 class MsC (P:Program) (ty:Nat) (z:outParam Value):Prop where ok:∃kt et,und P ty=some (.map kt et)∧und P kt=some .string∧yW P et=some z
theorem keyEq_str(x y:List UInt8):keyEq (str x) (str y)=some (decide (x=y)):=by
 show some (vF x y)=_;rw [wP]
theorem findS_no{x:List UInt8}:∀{l:List (List UInt8×Value)} {es:List MapEntry} {i:Nat},es.map (λe=>(e.key,e.val))=(l.map λp=>(str p.1,p.2))→(∀p∈l,p.1≠x)→findE (str x) es i=some none:=by
 intro l
 induction l with
 | nil=>intro es i he _;rw [List.map_eq_nil_iff.1 he];rfl
 | cons p r ih =>
  intro es i he dY
  cases es with
  | nil=>cases he
  | cons e es=>
   rw[bE,bE]at he;injection he with h1 h2
   injection h1 with h1 h3
   unfold findE;rw [h1,keyEq_str,decide_eq_false λh=>dY p (aY ..) h.symm];exact ih h2 λq hq=>dY q (aT _ hq)
theorem findS_at{x:List UInt8}{v:Value}{B:List (List UInt8×Value)}:∀{A:List (List UInt8×Value)} {es:List MapEntry} {i:Nat},es.map (λe=>(e.key,e.val))=((A++(x,v)::B).map λp=>(str p.1,p.2))→(∀p∈A,p.1≠x)→findE (str x) es i=some (some (i+A.length,v)):=by
 intro A
 induction A with
 | nil =>
  intro es i he _
  cases es with
  | nil=>cases he
  | cons e es=>
   rw[bE,bV,bE]at he;injection he with h1 h2
   injection h1 with h1 h3
   unfold findE;rw [h1,keyEq_str,decide_eq_true rfl,h3];rfl
 | cons p r ih =>
  intro es i he dY
  cases es with
  | nil=>cases he
  | cons e es=>
   rw[bE,dJ,bE]at he;injection he with h1 h2
   injection h1 with h1 h3
   unfold findE;rw [h1,keyEq_str,decide_eq_false λh=>dY p (aY ..) h.symm];rw [show some (some (i+(p::r).length,v))=some (some ((i+1)+r.length,v)) by rw[a7];congr 3;omega];exact ih h2 λq hq=>dY q (aT _ hq)
section
variable {P:Program} {ty:Nat} {z:Value} {h:zB} {b:Nat} {l:List (List UInt8×Value)} {x:List UInt8}
theorem lku_no[s:MsC P ty z](m:MpS h b l)(dY:∀p∈l,p.1≠x):yX P h ty (.map (some b)) (str x) true=some (.tuple ⟨[z,.bool false]⟩):=by
 obtain⟨kt,et,h1,h2,h3⟩:=s.ok;obtain⟨es,clock,h4,h5⟩:=m;unfold yX;rw [h1];dsimp only;rw [h2,h3];dsimp only;rw [h4];dsimp only;rw [findS_no h5 dY];rfl
theorem lku_at[s:MsC P ty z]{A B:List (List UInt8×Value)}{v:Value}{ok:Bool}(m:MpS h b (A++(x,v)::B))(dY:∀p∈A,p.1≠x):yX P h ty (.map (some b)) (str x) ok=some (cond ok (.tuple ⟨[v,.bool true]⟩) v):=by
 obtain⟨kt,et,h1,h2,h3⟩:=s.ok;obtain⟨es,clock,h4,h5⟩:=m;unfold yX;rw [h1];dsimp only;rw [h2,h3];dsimp only;rw [h4];dsimp only;rw [findS_at h5 dY];rfl
theorem mset_new[s:MsC P ty z]{v:Value}(m:MpS h b l)(dY:∀p∈l,p.1≠x):∃o,MSet P ty (.map (some b)) (str x) v h (hal h b o)∧MpS (hal h b o) b (l++[(x,v)]):=by
 obtain⟨kt,et,h1,h2,h3⟩:=s.ok;obtain⟨es,clock,h4,h5⟩:=m;refine⟨.map (es++[{ key:=str x,val:=v,born:=clock }]) (Nat.succ clock),λK hK=>?_,_,_,by rw[zO,if_pos rfl],by rw[aK,aK,h5];rfl⟩;unfold vK;rw [h1];dsimp only;rw [h2,h4];dsimp only;rw [findS_no h5 dY];show h.setK .dead _ b K=true;rw [Tr.setK_eq];exact hK
end
theorem MpS.tch{S:List Nat}{h h':zB}{n n' b:Nat}{l:List (List UInt8×Value)}(m:MpS h b l)(t:Tch S h n h' n')(hb:b<n)(hS:b∉S):MpS h' b l:=by
 obtain⟨es,clock,h4,h5⟩:=m;exact⟨es,clock,by rw[t.2 b hb hS];exact h4,h5⟩
theorem mps_new{h:zB}{n:Nat}:MpS (hal h n (.map [] 0)) n []:=⟨[],0,by rw[zO,if_pos rfl],rfl⟩
end
section
noncomputable def slB(P:Program)(ty e sz:Nat):Bool:=match und P ty with
  | some (.slice e') => match inf? P e' with
    | some ei=>Nat.beq e' e && Nat.beq ei.size sz
    | none=>false
  | _=>false
 class SlC (P:Program) (ty:Nat) (e sz:outParam Nat):Prop where ok:slB P ty e sz=true
theorem SlC.get{P:Program}{ty e sz:Nat}(s:SlC P ty e sz):und P ty=some (.slice e)∧∃ei,inf? P e=some ei∧ei.size=sz:=by
 have h:=s.ok;unfold slB at h;split at h
 · rename_i e' h1;split at h
   · rename_i ei h2;obtain⟨a,b⟩:=ad.1 h;have a:=zE a;have b:=zE b;subst a;exact⟨h1,ei,h2,b⟩
   · cases h
 · cases h
theorem bound_at{d most k:Nat}(h:k≤most):yC d most (some (I64 (k:Nat)))=some k:=by
 show(cond (Nat.ble k most) (some k) none:Option Nat)=some k;rw [uF h];rfl
section
variable {P:Program} {ty e sz lo n len k:Nat} {h:zB} {v:Value} {vs:List Value}
theorem slice_full[s:SlC P ty e sz](o:Own lo n h v e sz len vs)(hk:k≤len)(hl:len<1000000)(hs:1≤sz):∃v',wW P h ty v none (some (I64 (k:Nat))) (some (I64 (k:Nat)))=some v'∧Row n h v' e sz k (vs.take (k*sz))∧zP v'=zP v∧(v' = .slice none 0 0∨∃b,v' = .slice (some ⟨b,0,none⟩) k k):=by
 obtain⟨hu,ei,hi,hsz⟩:=s.get;rcases o with⟨rfl,rfl,rfl⟩|⟨b,q1,q2,rfl,q3,q4,q5,q6⟩
 · obtain rfl:k=0:=by omega
   refine⟨.slice none 0 0,?_,.inl ⟨rfl,rfl,by simp⟩,rfl,.inl rfl⟩;unfold wW;rw [hu];dsimp only;rw [hi];rfl
 · have d9:(1000000:Nat)≤inf:=by decide
   refine⟨.slice (some ⟨b,0,none⟩) k k,?_,?_,rfl,.inr ⟨b,rfl⟩⟩
   · unfold wW;rw [hu];dsimp only;rw [hi];dsimp only;have fh:Nat.beq inf inf=true:=aB _;rw [fh];cases hg:zF h b <;> rw[hg]at q3 <;> first|(cases q3;done)|(exact absurd (kd_of q3) (by decide))|skip
     rename_i c kn z' kd';have q3':some (kn,z',kd')=some (vs.length,zc e sz,1):=q3;simp only[Option.some.injEq,Prod.mk.injEq]at q3';obtain⟨rfl,rfl,rfl⟩:=q3';show cond (Nat.beq (zc e sz) (zc e ei.size) && Nat.ble 1 ei.size) (tN ⟨b,0,none⟩ len ei.size none (some (I64 (k:Nat))) (some (I64 (k:Nat)))) none=_;rw [hsz,aB,uF hs];unfold tN;dsimp only[Bool.and_self,cond_true];rw [bound_at hk];dsimp only;rw [bound_at (ae k)];show cond (Nat.blt k inf) (some (Value.slice (some (cond (Nat.beq k 0) ⟨b,0,none⟩ (far ⟨b,0,none⟩ (Nat.mul 0 sz)))) (Nat.sub k 0) (Nat.sub k 0))) none=_;rw [xE (by omega)];have e0:Nat.mul 0 sz=0:=bB sz;rw [e0];have e1:far ⟨b,0,none⟩ 0=⟨b,0,none⟩:=rfl;rw [e1];cases Nat.beq k 0 <;> rfl
   · have jz:k*sz≤len*sz:=bH _ hk;refine .inr ⟨b,0,k,vs.length,zc e sz,1,q2,rfl,?_,q3,?_,λj x hj=>?_,.inl ⟨by omega,ae _⟩⟩
     · rw[aF,q4];omega
     · rw[aF];omega
     · rw[List.getElem?_take]at hj;split at hj
       · rw[aG,q6];exact hj
       · cases hj
theorem ofListFrom_append:∀(l:List Value) (c:Tr Value) (i:Nat) (l':List Value),Tr.ofListFrom undef (Tr.ofListFrom undef c i l) (i+l.length) l'=Tr.ofListFrom undef c i (l++l'):=by
 intro l
 induction l with
 | nil=>intro c i l';rfl
 | cons a l ih=>
  intro c i l';rw [dJ,a7,show i+(l.length+1)=(i+1)+l.length by omega];exact ih _ (i+1) l'
def WayR(lo n:Nat)(h:zB)(v:Value)(e sz len:Nat)(vs:List Value):Prop:=∃b m z kd cap,lo≤b∧b<n∧v = .slice (some ⟨b,0,none⟩) len cap∧yZ (zF h b)=some (m,z,kd)∧vs.length=len*sz∧vs.length≤m∧(∀i,i<vs.length→zC h b i=vs[i]?)∧
 ((kd=0∧z=0∧cap<inf∧len≤cap∧cap*sz≤m)∨(kd=1∧cap=inf∧z=zc e sz))
theorem WayR.row(r:WayR lo n h v e sz len vs)(hs:1≤sz):Row n h v e sz len vs:=by
 obtain⟨b,m,z,kd,cap,h1,h2,rfl,h3,h4,h5,h6,h7⟩:=r;refine .inr ⟨b,0,cap,m,z,kd,h2,rfl,h4,h3,by omega,λj x hj=>?_,?_⟩
 · rw[aG,h6 j (ab.1 hj).1];exact hj
 · rcases h7 with⟨rfl,_,g1,g2,g3⟩|⟨rfl,rfl,rfl⟩
   · exact .inl ⟨g1,g2⟩
   · exact .inr ⟨rfl,rfl,rfl,hs⟩
theorem WayR.blk(r:WayR lo n h v e sz len vs){b:Nat}(hb:zP v=some b):lo≤b∧b<n:=by
 obtain⟨b',m,z,kd,cap,h1,h2,rfl,_⟩:=r;injection hb with hb;subst hb;exact⟨h1,h2⟩
theorem WayR.keep(r:WayR lo n h v e sz len vs){h':zB}{n':Nat}(hn:n≤n')(ek:∀b,zP v=some b→zF h' b=zF h b):WayR lo n' h' v e sz len vs:=by
 obtain⟨b,m,z,kd,cap,h1,h2,rfl,h3,h4,h5,h6,h7⟩:=r;have he:=ek b rfl;exact⟨b,m,z,kd,cap,h1,aO h2 hn,rfl,by rw[he];exact h3,h4,h5,λi hi=>by unfold zC;rw [he];exact h6 i hi,h7⟩
theorem WayR.tch{S:List Nat}{h':zB}{n':Nat}(r:WayR lo n h v e sz len vs)(t:Tch S h n h' n')(hS:∀b,zP v=some b→b∉S):WayR lo n' h' v e sz len vs:=
 r.keep t.1 λb hb=>t.2 b (r.blk hb).2 (hS b hb)
theorem way_new{cs:List Value}(dX:lo≤n)(hl:cs.length=len*sz)(dV:len<inf):WayR lo (n+1) (hal h n (mkC cs 0 0)) (.slice (some ⟨n,0,none⟩) len len) e sz len cs:=by
 refine⟨n,cs.length,0,0,len,dX,aS n,rfl,?_,hl,ae _,λi _=>?_,.inl ⟨rfl,rfl,dV,ae _,by omega⟩⟩
 · rw[zO,if_pos rfl];exact uN _ _ _
 · unfold zC;rw [zO,if_pos rfl];exact vO _ _ _ _
theorem way_cut[s:SlC P ty e sz](r:WayR lo n h v e sz len vs)(hk:k≤len)(hs:1≤sz):∃v',wW P h ty v none (some (I64 (k:Nat))) none=some v'∧WayR lo n h v' e sz k (vs.take (k*sz))∧zP v'=zP v:=by
 obtain⟨hu,ei,hi,hsz⟩:=s.get;obtain⟨b,m,z,kd,cap,h1,h2,rfl,h3,h4,h5,h6,h7⟩:=r;have jz:k*sz≤len*sz:=bH _ hk
 have hw:∀cap',((kd=0∧z=0∧cap'<inf∧k≤cap'∧cap'*sz≤m)∨(kd=1∧cap'=inf∧z=zc e sz))→WayR lo n h (.slice (some ⟨b,0,none⟩) k cap') e sz k (vs.take (k*sz)):=λcap' hc=>by
  refine⟨b,m,z,kd,cap',h1,h2,rfl,h3,by rw[aF];omega,by rw[aF];omega,λi hi=>?_,hc⟩;rw [aF]at hi;rw [h6 i (by omega),aI (by omega)]
 rcases h7 with⟨rfl,rfl,g1,g2,g3⟩|⟨rfl,rfl,rfl⟩
 · refine⟨.slice (some ⟨b,0,none⟩) k cap,?_,hw cap (.inl ⟨rfl,rfl,g1,by omega,g3⟩),rfl⟩;unfold wW;rw [hu];dsimp only;rw [hi];dsimp only
   have fh:Nat.beq cap inf=false:=by
    cases e9:Nat.beq cap inf with
    | false=>rfl
    | true=>have:=zE e9;omega
   rw[fh];show vW ⟨b,0,none⟩ len cap ei.size none (some (I64 (k:Nat))) none=_;unfold vW
   show(match yC len cap (some (I64 (k:Nat))) with
    | none=>none
    | some h=>match yC 0 h none with
     | none=>none
     | some l=>cond (Nat.blt cap inf && Nat.ble h cap) (some (Value.slice (some (cond (Nat.beq cap l) ⟨b,0,none⟩ (far ⟨b,0,none⟩ (Nat.mul l ei.size)))) (Nat.sub h l) (Nat.sub cap l))) none:Option Value)=_
   rw[bound_at (by omega)];show cond (Nat.blt cap inf && Nat.ble k cap) (some (Value.slice (some (cond (Nat.beq cap 0) ⟨b,0,none⟩ (far ⟨b,0,none⟩ (Nat.mul 0 ei.size)))) (Nat.sub k 0) (Nat.sub cap 0))) none=_;rw [xE g1,uF (by omega)];have e0:Nat.mul 0 ei.size=0:=bB _;rw [e0];have e1:far ⟨b,0,none⟩ 0=⟨b,0,none⟩:=rfl;rw [e1];cases Nat.beq cap 0 <;> rfl
 · refine⟨.slice (some ⟨b,0,none⟩) k inf,?_,hw inf (.inr ⟨rfl,rfl,rfl⟩),rfl⟩;unfold wW;rw [hu];dsimp only;rw [hi];dsimp only;have fh:Nat.beq inf inf=true:=aB _;rw [fh];cases hg:zF h b <;> rw[hg]at h3 <;> first|(cases h3;done)|(exact absurd (kd_of h3) (by decide))|skip
   rename_i c kn z' kd';have q3':some (kn,z',kd')=some (m,zc e sz,1):=h3;simp only[Option.some.injEq,Prod.mk.injEq]at q3';obtain⟨rfl,rfl,rfl⟩:=q3';show cond (Nat.beq (zc e sz) (zc e ei.size) && Nat.ble 1 ei.size) (tN ⟨b,0,none⟩ len ei.size none (some (I64 (k:Nat))) none) none=_;rw [hsz,aB,uF hs];unfold tN;dsimp only[Bool.and_self,cond_true];rw [bound_at hk];show some (Value.slice (some (far ⟨b,0,none⟩ (Nat.mul 0 sz))) (Nat.sub k 0) inf)=_;have e0:Nat.mul 0 sz=0:=bB _;rw [e0];rfl
theorem way_app{sT xT m:Nat}{x:Value}{new:List Value}[A:ApC P sT xT e sz]{cx:Cx}{d:List Deferred}{u:Option zI}{K:W→Value→Prop}(r:WayR lo n h v e sz len vs)(hvs:∀y∈vs,y.oneCell'=true)(dX:lo≤n)(hr:Row n h x e sz m new)(hm:0<m)(h1:∀y∈new,y.oneCell'=true)(hlim:len+m<1000000)
(k:∀v' h' n',WayR lo n' h' v' e sz (len+m) (vs++new)→(∀b,zP v'=some b→zP v=some b∨n≤b)→Tch (zP v).toList h n h' n'→K ⟨d,u,h',n'⟩ v'):BuB P cx .append [sT,xT] [v,x] d u h n K:=by
 obtain⟨xd,ei,z0,t1,t2,t3,t4,t5,t6,t7,t8,t9⟩:=apTB_of A.ok;have hnew:new.length=m*sz:=hr.lens;have gL:xD P h e ei.size xd x=some (m,new):=by rw[t6];exact uO t3 hr
 have iJ:=(row_of (r.row (by omega))).1;obtain⟨b,bm,z,kd,cap,g1,g2,rfl,g3,g4,g5,g6,g7⟩:=r;show vG P [sT,xT] [.slice (some ⟨b,0,none⟩) len cap,x] h n (λh' n' v'=>xJ (K ⟨d,u,h',n'⟩ v'))=true;unfold vG sC;dsimp only;rw [t1,t2];dsimp only;rw [t4,t5];dsimp only;rw [gL];dsimp only
 have c1:(Nat.beq ei.size 0 || !Nat.beq (cellsOf z0).length ei.size || !Nat.blt (Nat.add len m) 1000000 || !Nat.blt ei.bytes 100000)=false:=by
  have a1:Nat.beq ei.size 0=false:=by
   cases e9:Nat.beq ei.size 0 with
   | false=>rfl
   | true=>have:=zE e9;omega
  have a2:Nat.beq (cellsOf z0).length ei.size=true:=by rw[t7,t6];exact aB _
  rw[a1,a2,xE (show Nat.add len m<1000000 from hlim),xE t9];rfl
 rw[c1]
 have fx:Nat.beq m 0=false:=by
  cases e9:Nat.beq m 0 with
  | false=>rfl
  | true=>have:=zE e9;omega
 rw[fx];show cond (Nat.beq cap inf) _ _=true;have ej:(vs++new).length=(len+m)*sz:=by rw[ak,g4,hnew,bM]
 have inplace:(len+m)*sz≤bm→∀cap',((kd=0∧z=0∧cap'<inf∧len+m≤cap'∧cap'*sz≤bm)∨(kd=1∧cap'=inf∧z=zc e sz))→K ⟨d,u,hst h b (len*sz) new,n⟩ (.slice (some ⟨b,0,none⟩) (len+m) cap'):=λhle cap' hc=>by
  have jS:kd≠3:=by rcases hc with⟨rfl,_⟩|⟨rfl,_⟩ <;> decide
  have fB:len*sz+new.length≤bm:=by rw[hnew,← bM];exact hle
  refine k _ _ _ ⟨b,bm,z,kd,cap',g1,g2,rfl,?_,ej,by omega,λi hi=>?_,hc⟩ (λb' eO=>.inl eO) ⟨ae _,λb' eO hS=>?_⟩
  · rw[xL,if_pos rfl,rV];exact g3
  · unfold zC;rw [xL,if_pos rfl,cellOf_stC _ _ _ g3 fB jS];by_cases fc:len*sz≤i
    · rw[if_pos (by rw[ak]at hi;omega),au (by omega),g4]
    · rw[if_neg (by omega),ax (by omega)];exact g6 i (by omega)
  · rw[xL,if_neg (by
     rintro rfl
     exact hS (by simp[zP]))]
 have fresh:∀(c:Tr Value) (fl:zB),(∀i,i<vs.length→Tr.get undef c i=(vs[i]?).getD undef)→(∀b',b'≠b→zF fl b'=zF h b')→K ⟨d,u,hal fl n (.cells (Tr.ofListFrom undef c vs.length new) ((len+m)*sz) (zc e sz) 1),n+1⟩ (.slice (some ⟨n,0,none⟩) (len+m) inf):=λc fl hc hh=>by
  refine k _ _ _ ⟨n,(len+m)*sz,zc e sz,1,inf,dX,aS n,rfl,?_,ej,by omega,λi hi=>?_,.inr ⟨rfl,rfl,rfl⟩⟩ (λb' eO=>.inr (by
   injection eO with eO;have eO:n=b':=eO;omega)) ⟨cy n,λb' eO hS=>?_⟩
  · rw[zO,if_pos rfl];rfl
  · unfold zC;rw [zO,if_pos rfl];unfold xR;dsimp only;rw [if_pos (by omega),Tr.get_ofListFrom];rw [ak]at hi;by_cases fc:vs.length≤i
    · rw[if_pos (by omega),au fc];simp [aa (show i - vs.length<new.length by omega),aU]
    · rw[if_neg (by omega),hc i (by omega),ax (by omega),aa (by omega)];rfl
  · rw[zO,if_neg (by omega)]
    exact hh b' (by
     rintro rfl
     exact hS (by simp[zP]))
 rcases g7 with⟨rfl,rfl,p1,p2,p3⟩|⟨rfl,rfl,rfl⟩
 · have fh:Nat.beq cap inf=false:=by
    cases e9:Nat.beq cap inf with
    | false=>rfl
    | true=>have:=zE e9;omega
   rw[fh];show growEx h n (some ⟨b,0,none⟩) len cap m ei.size (zc e ei.size) new (λv h n=>xJ (K ⟨d,u,h,n⟩ v))=true;unfold growEx;by_cases hc:len+m≤cap
   · rw[uF (show Nat.add len m≤cap from hc)];show storeAt h b (Nat.add 0 (Nat.mul len ei.size)) new (λh'=>xJ (K ⟨d,u,h',n⟩ (.slice (some ⟨b,0,none⟩) (Nat.add len m) cap)))=true;have e0:Nat.add 0 (Nat.mul len ei.size)=len*sz:=by rw[t6];exact aG _
     rw[e0];have hcm:(len+m)*sz≤bm:=aZ (bH _ hc) p3;refine rW g3 ⟨by decide,by decide⟩ (by rw[hnew,← bM];exact hcm) h1 ?_;exact isSo_iff.2 (inplace hcm cap (.inl ⟨rfl,rfl,p1,hc,p3⟩))
   · have e1:Nat.ble (Nat.add len m) cap=false:=by
      cases e9:Nat.ble (Nat.add len m) cap with
      | false=>rfl
      | true=>exact absurd (yK e9) hc
     rw[e1]
     show(match rowOf h ei.size len (.slice (some ⟨b,0,none⟩) len cap) with
      | some old=>xH .lF 0 (old++new) λc=>zR h n (.cells c (Nat.mul (Nat.add len m) ei.size) (zc e ei.size) 1) λh' n'=>xJ (K ⟨d,u,h',n'⟩ (.slice (some ⟨n,0,none⟩) (Nat.add len m) inf))
      | none=>false)=true
     rw[t6,iJ];dsimp only;refine wG (λy hy=>(az.1 hy).elim (hvs y) (h1 y)) ?_;rw [xW];have:=fresh (Tr.ofListFrom undef .lF 0 vs) h (λi hi=>by rw[Tr.get_ofListFrom,if_pos (by omega)];simp [aU]) (λ_ _=>rfl)
     have e3:Tr.ofListFrom undef (Tr.ofListFrom undef .lF 0 vs) vs.length new=Tr.ofListFrom undef .lF 0 (vs++new):=by
      have:=ofListFrom_append vs .lF 0 new
      rwa [aG]at this
     rw[e3]at this;exact isSo_iff.2 this
 · have fh:Nat.beq inf inf=true:=aB _;rw [fh];show tO h n b len m ei.size (zc e ei.size) new (λv h n=>xJ (K ⟨d,u,h,n⟩ v))=true;unfold tO;have g3':=g3;cases hg:zF h b <;> rw[hg]at g3 <;> first|(cases g3;done)|(exact absurd (kd_of g3) (by decide))|skip
   rename_i c kn z' kd';have q3':some (kn,z',kd')=some (bm,zc e sz,1):=g3;simp only[Option.some.injEq,Prod.mk.injEq]at q3';obtain⟨rfl,rfl,rfl⟩:=q3';show cond (Nat.beq (zc e sz) (zc e ei.size)) _ _=true;have e5:Nat.beq (zc e sz) (zc e ei.size)=true:=by rw[t6];exact aB _
   rw[e5];by_cases hc:(len+m)*sz≤kn
   · rw[uF (show Nat.mul (Nat.add len m) ei.size≤kn by rw[t6];exact hc)];show storeAt h b (Nat.mul len ei.size) new (λh'=>xJ (K ⟨d,u,h',n⟩ (.slice (some ⟨b,0,none⟩) (Nat.add len m) inf)))=true;have e0:Nat.mul len ei.size=len*sz:=by rw[t6];rfl
     rw[e0];refine rW g3' ⟨by decide,by decide⟩ (by rw[hnew,← bM];exact hc) h1 ?_;exact isSo_iff.2 (inplace hc inf (.inr ⟨rfl,rfl,rfl⟩))
   · have e6:Nat.ble (Nat.mul (Nat.add len m) ei.size) kn=false:=by
      cases e9:Nat.ble (Nat.mul (Nat.add len m) ei.size) kn with
      | false=>rfl
      | true=>have:=yK e9;rw [t6]at this;exact absurd this hc
     rw[e6];have e7:Nat.mul len ei.size=vs.length:=by rw[t6];exact g4.symm
     rw[e7,uF g5];show xH c vs.length new _=true;refine wG h1 ?_;rw [Tr.setK_eq,xW];have mj:Nat.mul (Nat.add len m) ei.size=(len+m)*sz:=by rw[t6];rfl
     rw[mj];refine isSo_iff.2 (fresh c _ (λi hi=>?_) λb' eO=>?_)
     · have:=g6 i hi;unfold zC at this;rw [hg]at this;unfold xR at this;dsimp only at this;rw [if_pos (by omega)]at this;rw [← this];rfl
     · rw[zH,if_neg λe=>eO e.symm]
end
end
section
def Low(nI:Nat)(h:zB)(n:Nat)(h':zB)(n':Nat):Prop:=n≤n'∧∀b,b<nI→zF h' b=zF h b
theorem Tch.lowR{S:List Nat}{h h':zB}{n n' nI:Nat}(t:Tch S h n h' n')(hn:nI≤n)(hS:∀b∈S,nI≤b):Low nI h n h' n':=⟨t.1,λb hb=>t.2 b (by omega) λhx=>by have:=hS b hx;omega⟩
section
variable {P:Program} {ng:Nat}
def IterM(P:Program)(ng:Nat){α : Type}(elR: α→Value→zB→Nat→Prop)(elems:List α)(g:FuncId)(args:List Value)(L nI:Nat)(h:zB)(n:Nat)(E:zB→Nat→Prop):Prop:=
 ∀(J:List α→zB→Nat→Prop) (JF:zB→Nat→Prop),(∀done h' n',J done h' n'→E h' n')→(∀done h' n' h2 n2,J done h' n'→Low nI h' n' h2 n2→J done h2 n2)→(∀h' n' h2 n2,JF h' n'→Low nI h' n' h2 n2→JF h2 n2)→J [] h n→
  (∀done e v h' n',J done h' n'→elR e v h' n'→(done++[e]) <+: elems→Rou P ng L [v] h' n' λr h2 n2=>n'≤n2∧((r = .ret (.bool true)∧J (done++[e]) h2 n2∧Tch (List.range nI) h' n' h2 n2)∨(r = .ret (.bool false)∧JF h2 n2∧Tch (List.range nI) h' n' h2 n2)))→
  Com P ng g args h n λr h' n'=>n≤n'∧r = .ret (.tuple #[])∧(J elems h' n'∨JF h' n')
theorem it_coreM[Fit P ng]{α : Type}{elR: α→Value→zB→Nat→Prop}{elems:List α}{ps:List Tmp}{assign body:Code}{fn:FuncId}{l:List (Nat×Value)}{t:Fr}{cx:Cx}{d:List Deferred}{u:Option zI}{h:zB}{n L D nI:Nat}{Q:QX}{g:FuncId}{args:List Value}{E:zB→Nat→Prop}
(I:List α→zB→Nat→Prop)(F:Code→zB→Nat→Prop)(gQ:ps.length=1)(it:IterM P ng elR elems g args L nI h n E)(hE:∀done h' n',I done h' n'→E h' n')
(eG:∀done h' n' h2 n2,I done h' n'→Low nI h' n' h2 n2→I done h2 n2)(hclF:∀j h' n' h2 n2,F j h' n'→Low nI h' n' h2 n2→F j h2 n2)(hLI:L<nI)
(hL:zF h L=LoO .ready none fn ps.toArray assign body D (FA l t))(h0:I [] h n)
(bd:∀done e v h' n',I done h' n'→zF h' L=LoO .ready none fn ps.toArray assign body D (FA l t)→elR e v h' n'→(done++[e]) <+: elems→WC P ng assign ⟨fn,some L,false⟩ (FA (parl ps [v] l) t) ⟨[],none,h',n'⟩ (asQ P ng L fn ps.toArray assign body D (FA l t) λr h2 n2=>n'≤n2∧((r = .ret (.bool true)∧zF h2 L=LoO .ready none fn ps.toArray assign body D (FA l t)∧I (done++[e]) h2 n2∧Tch (List.range nI) h' n' h2 n2)∨(r = .ret (.bool false)∧(∃j,zF h2 L=LoO .done (some j) fn ps.toArray assign body D (FA l t)∧F j h2 n2)∧Tch (List.range nI) h' n' h2 n2))))
(fin:∀h' n',n≤n'→I elems h' n'→Q .normal (FA l t) ⟨d,u,hal h' L (LoO .exhausted none fn ps.toArray assign body D (FA l t)),n'⟩)
(finF:∀j h' n',n≤n'→F j h' n'→WC P ng j cx (FA l t) ⟨d,u,hal h' L (LoO .exhausted (some j) fn ps.toArray assign body D (FA l t)),n'⟩ Q) :
 CallB P ng g args h n (rgQ P ng L fn ps.toArray assign body D cx (FA l t) d u Q):=by
 refine cal0 (it (λdone h' n'=>zF h' L=LoO .ready none fn ps.toArray assign body D (FA l t)∧I done h' n') (λh' n'=>∃j,zF h' L=LoO .done (some j) fn ps.toArray assign body D (FA l t)∧F j h' n') (λdone h' n' q=>hE _ _ _ q.2)
  (λdone h' n' h2 n2 q t=>⟨by rw[t.2 L hLI];exact q.1,eG _ _ _ _ _ q.2 t⟩) (λh' n' h2 n2 ⟨j,q1,q2⟩ t=>⟨j,by rw[t.2 L hLI];exact q1,hclF _ _ _ _ _ q2 t⟩) ⟨hL,h0⟩ λdone e v h' n' ⟨q1,q2⟩ he hp=>(rou (args:=[v]) q1 gQ (bd done e v h' n' q2 q1 he hp)).mono ?_) ?_
 · rintro r h2 n2 ⟨a,⟨b1,b2,b3,b4⟩|b⟩
   · exact⟨a,.inl ⟨b1,⟨b2,b3⟩,b4⟩⟩
   · exact⟨a,.inr b⟩
 · rintro _ h' n' ⟨hn,rfl,⟨q1,q2⟩|⟨j,q1,q2⟩⟩
   · exact .inl ⟨q1,fin h' n' hn q2⟩
   · exact .inr ⟨j,q1,finF j h' n' hn q2⟩
end
end
section
open Go.RowKit Classical
section
variable {P:Program} {ng:Nat}
def szB(w:World)(b:Nat):Nat:=match w.heap[b]? with|some (.cells cs _ _)=>cs.size|_=>0
def idI(w:World):Inj:=λb=>if b<w.heap.size then some ⟨b,szB w b,0⟩ else none
theorem idI_lt{w:World}{b:Nat}{B:Bl}(h:idI w b=some B):b<w.heap.size∧B=⟨b,szB w b,0⟩:=by
 unfold idI at h;split at h
 · rename_i hb;injection h with h;exact⟨hb,h.symm⟩
 · cases h
theorem idI_of{w:World}{b:Nat}(h:b<w.heap.size):idI w b=some ⟨b,szB w b,0⟩:=if_pos h
def tJ(b0:Nat):Value→Value
 | .slice (some _) 0 0=>.slice (some ⟨b0,0,none⟩) 0 0
 | v=>v
noncomputable def tellV(b0:Nat)(w:World)(v:Value):Value:=if RV (idI w) (tJ b0 v) v then tJ b0 v else undef
noncomputable def tellO(b0:Nat)(w:World)(o:Option Obj):AObj:=match o with
 | some (.cells cs _ _)=>.rows (Tr.ofListFrom undef .lF 0 (cs.toList.map (tellV b0 w))) cs.size
 | _=>.dead
noncomputable def tellH(b0:Nat)(w:World):Nat→zB
 | 0=>.lF
 | k+1=>(tellH b0 w k).set .dead (tellO b0 w w.heap[k]?) k
theorem tellH_get(b0:Nat)(w:World)(k b:Nat):zF (tellH b0 w k) b=if b<k then tellO b0 w w.heap[b]? else .dead:=by
 induction k with
 | zero=>rw [if_neg (by omega)];exact Tr.get_leaf _ _
 | succ k ih=>
  show zF ((tellH b0 w k).set .dead (tellO b0 w w.heap[k]?) k) b=_;rw [zH,ih];by_cases h:k=b
  · subst h;rw [if_pos rfl,if_pos (by omega)]
  · rw[if_neg h];by_cases h2:b<k
    · rw[if_pos h2,if_pos (by omega)]
    · rw[if_neg h2,if_neg (by omega)]
noncomputable def qD(b0:Nat)(w:World):List (Nat×List Value)→zB
 | []=>tellH b0 w w.heap.size
 | p::r=>(qD b0 w r).set .dead (mkC p.2 0 2) p.1
theorem mirH_get(b0:Nat)(w:World)(tabs:List (Nat×List Value))(b:Nat):(∃p∈tabs,p.1=b∧zF (qD b0 w tabs) b=mkC p.2 0 2)∨zF (qD b0 w tabs) b=if b<w.heap.size then tellO b0 w w.heap[b]? else .dead:=by
 induction tabs with
 | nil=>exact .inr (tellH_get b0 w _ b)
 | cons p r ih=>
  have e:zF (qD b0 w (p::r)) b=if p.1=b then mkC p.2 0 2 else zF (qD b0 w r) b:=zH _ _ _ _
  by_cases h:p.1=b
  · exact .inl ⟨p,aY ..,h,by rw[e,if_pos h]⟩
  · rw[e,if_neg h];rcases ih with⟨q,h1,h2,h3⟩|h1
    · exact .inl ⟨q,aT _ h1,h2,h3⟩
    · exact .inr h1
theorem mir_heapR{b0:Nat}{w:World}{tabs:List (Nat×List Value)}(hng:ng≤w.heap.size)(hw:rT w tabs)(hgood:∀p∈tabs,∀v∈p.2,RV (idI w) v v) :
 HeapR P ng (idI w) w.heap.size w (qD b0 w tabs) w.heap.size w:=by
 refine⟨λb hb=>if_neg (by omega),λb B e hl=>?_,λa b A B ea eb _ _ hab=>?_,Below.refl _ _,ae _,λg hg=>⟨_,idI_of (by omega),rfl⟩,hng⟩
 · obtain⟨hb,rfl⟩:=idI_lt e;rcases mirH_get b0 w tabs b with⟨p,h1,rfl,h3⟩|h1
   · obtain⟨el,⟨lo,hi⟩,h4⟩:=hw p h1;refine⟨_,h4,?_⟩;have hs:szB w p.1=p.2.length:=by unfold szB;rw [h4];rfl
     rw[h3];refine .cells (by rw[hs];exact ae _) (by rw[hs];rfl) (λ_=>hs.symm) ⟨λh=>by omega,λh=>by omega⟩ (λi v' fc e=>?_) (λh=>absurd rfl h) (λh=>absurd rfl h);rw [Tr.get_ofListFrom,if_pos (by omega)];have e1:p.2[i]? = some (p.2.getD (i - 0) undef):=by simp[aa fc]
     have e2:p.2[i]? = some v':=by simpa using e
     rw[e1]at e2;injection e2 with e2;subst e2
     exact hgood p h1 _ (aj.2 ⟨i,e1⟩)
   · rw[if_pos hb]at h1;rw [h1]at hl ⊢
     cases ho:w.heap[b]? with
     | none=>rw [ho]at hl;exact absurd rfl hl
     | some o =>
      rw[ho]at hl;refine⟨o,rfl,?_⟩;cases o <;> first|exact absurd rfl hl|skip
      rename_i cs el fr;refine .rows rfl (λi v' e hu=>?_);have hi:i<cs.size:=(bI.1 e).1;have e1:(cs.toList.map (tellV b0 w))[i]? = some (tellV b0 w v'):=by rw[ap,aJ,e];rfl
      have e2:Tr.get undef (Tr.ofListFrom undef .lF 0 (cs.toList.map (tellV b0 w))) i=tellV b0 w v':=by
       rw[Tr.get_ofListFrom,if_pos (by simp;exact hi)];simp only[aU,Nat.sub_zero,e1,Option.getD_some]
      rw[e2]at hu ⊢;unfold tellV at hu ⊢;by_cases hr:RV (idI w) (tJ b0 v') v'
      · rw[if_pos hr];exact hr
      · rw[if_neg hr]at hu;cases hu
 · obtain⟨_,rfl⟩:=idI_lt ea;obtain⟨_,rfl⟩:=idI_lt eb;exact hab
theorem mir_tab{b0:Nat}{w:World}{tabs:List (Nat×List Value)}(hd:∀p∈tabs,∀q∈tabs,p.1=q.1→p=q){p:Nat×List Value}(hp:p∈tabs):zF (qD b0 w tabs) p.1=mkC p.2 0 2:=by
 induction tabs with
 | nil=>cases hp
 | cons q r ih=>
  have e:zF (qD b0 w (q::r)) p.1=if q.1=p.1 then mkC q.2 0 2 else zF (qD b0 w r) p.1:=zH _ _ _ _
  rw[e];by_cases h:q.1=p.1
  · rw[if_pos h,hd q (aY ..) p hp h]
  · rw[if_neg h];rcases aA.1 hp with rfl|hp
    · exact absurd rfl h
    · exact ih (λa ha b hb=>hd a (aT _ ha) b (aT _ hb)) hp
theorem mir_cell{b0:Nat}{w:World}{tabs:List (Nat×List Value)}(hw:rT w tabs)(hab:∀p∈tabs,∀v∈p.2,tJ b0 v=v){b i:Nat}{v:Value}(hc:w.cell? ⟨b,i,none⟩=some v)(hr:RV (idI w) (tJ b0 v) v)(hu:isU (tJ b0 v)=false) :
 zC (qD b0 w tabs) b i=some (tJ b0 v)∧b<w.heap.size∧∃m kd,yZ (zF (qD b0 w tabs) b)=some (m,0,kd)∧m=szB w b∧i<m∧kd≠0:=by
 unfold World.cell? at hc;dsimp only at hc;split at hc
 · rename_i cs el fr ho;have hc:cs[i]? = some v:=by simpa using hc
   have hb:b<w.heap.size:=by
    rcases aw b w.heap.size with h1|h1
    · exact h1
    · rw[aQ h1]at ho;cases ho
   have hi:i<cs.size:=(bI.1 hc).1;have hs:szB w b=cs.size:=by unfold szB;rw [ho]
   refine⟨?_,hb,?_⟩
   · unfold zC;rcases mirH_get b0 w tabs b with⟨p,h1,rfl,h3⟩|h1
     · obtain⟨el',fr',h4⟩:=hw p h1;rw [ho]at h4;injection h4 with h4;injection h4 with h4 _ _;subst h4
       rw[h3,vO];have hc:p.2[i]? = some v:=by simpa using hc
       rw[hab p h1 v (aj.2 ⟨i,hc⟩)];exact hc
     · rw[h1,if_pos hb,ho];have e1:(cs.toList.map (tellV b0 w))[i]? = some (tJ b0 v):=by rw[ap,aJ,hc];exact congrArg some (if_pos hr)
       have e2:Tr.get undef (Tr.ofListFrom undef .lF 0 (cs.toList.map (tellV b0 w))) i=tJ b0 v:=by
        rw[Tr.get_ofListFrom,if_pos (by simp;exact hi)];simp only[aU,Nat.sub_zero,e1,Option.getD_some]
       show(if i<cs.size∧isU (Tr.get undef (Tr.ofListFrom undef .lF 0 (cs.toList.map (tellV b0 w))) i)=false then some (Tr.get undef (Tr.ofListFrom undef .lF 0 (cs.toList.map (tellV b0 w))) i) else none)=some (tJ b0 v);rw [e2,if_pos ⟨hi,hu⟩]
   · rcases mirH_get b0 w tabs b with⟨p,h1,rfl,h3⟩|h1
     · obtain⟨el',fr',h4⟩:=hw p h1;rw [ho]at h4;injection h4 with h4;injection h4 with h4 _ _;subst h4
       exact⟨_,2,by rw[h3];rfl,hs.symm,hi,by decide⟩
     · exact⟨_,3,by rw[h1,if_pos hb,ho];rfl,hs.symm,hi,by decide⟩
 · cases hc
theorem law_com{f:FuncId}{args args':List Value}{h:zB}{n:Nat}(r:Com P ng f args h n λo _ _=>o = .ret (.bool true))(w:World){ρ : Inj}(hH:HeapR P ng ρ w.heap.size w h n w)(hra:RVs ρ args args') :
 Calls P f ⟨args'⟩ w λe w'=>e = .returned (.bool true)∧Go.RowKit.Below w.heap.size w w':=by
 obtain⟨o,h',n',rfl,hc⟩:=r none;have hx:(loS P ng).call f args false none h n (finV (.bool true))=true:=loS_call.2 ⟨.ret (.bool true),none,h',n',rfl,hc⟩;obtain⟨o,u',h',n',hk,hc⟩:=calls_of rU hx;obtain rfl:=finV_ret hk;refine(hc ρ w.heap.size w w args' hH hra).mono λe w' ⟨ρ',h1,h2,h3⟩=>?_
 cases e with
 | returned v'=>
  have h3:RV ρ' (.bool true) v':=h3;rw [h3.of_bool];exact⟨rfl,h1.below⟩
 | _=>cases h3
end
end
end Go.Ex
