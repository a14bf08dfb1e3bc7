/- What the law leans on, part 7 of 24. Conditions: those that each theorem states. -/
import Derived.Test.YtdiejolnllipnaaGreatDoorMachPrintsx6

set_option linter.unusedVariables false
set_option linter.unusedSimpArgs false
namespace Go.Ex
section
section
variable {P:Program} {ng:Nat}
def Com(P:Program)(ng:Nat)(f:FuncId)(args:List Value)(h:zB)(n:Nat)(Q:Out->zB->Nat->Prop):Prop:=∀u:Option zK,∃o h' n',Q o h' n'/\CallTo P ng f args false u h n o u h' n'
abbrev Ret(P:Program)(ng:Nat)(f:FuncId)(args:List Value)(h:zB)(n:Nat)(Q:Value->zB->Nat->Prop):Prop:=Com P ng f args h n λo h' n'=>∃v,o = .ret v/\Q v h' n'
abbrev Pur(P:Program)(ng:Nat)(f:FuncId)(args:List Value)(h:zB)(n:Nat)(v:Value):Prop:=Com P ng f args h n λo h' n'=>o = .ret v/\h'=h/\n'=n
theorem Com.mono{f:FuncId}{args:List Value}{h:zB}{n:Nat}{Q Q':Out->zB->Nat->Prop}(c:Com P ng f args h n Q)(hq:∀o h' n',Q o h' n'->Q' o h' n'):Com P ng f args h n Q':=λu=>by
  obtain⟨o,h',n',q,r⟩:=c u;exact⟨o,h',n',hq _ _ _ q,r⟩
 class IsCall (G:Prop) (P:outParam Program) (ng:outParam Nat) (g:outParam FuncId) (args:outParam (List Value)) (h:outParam zB) (n:outParam Nat) (K:outParam (Out->zB->Nat->Prop)):Prop where ok:CallB P ng g args h n K->G
instance {P:Program} {ng:Nat} {g:FuncId} {args:List Value} {h:zB} {n:Nat} {K:Out->zB->Nat->Prop}:IsCall (CallB P ng g args h n K) P ng g args h n K:=⟨id⟩
theorem cal0{g:FuncId}{args:List Value}{h:zB}{n:Nat}{Q K:Out->zB->Nat->Prop}(c:Com P ng g args h n Q)(k:∀o h' n',Q o h' n'->K o h' n'):CallB P ng g args h n K:=by
 obtain⟨o,h',n',q,r⟩:=c none;exact loS_call.2 ⟨o,none,h',n',isSo_iff.2 (k _ _ _ q),r⟩
theorem cal{G:Prop}{g:FuncId}{args:List Value}{h:zB}{n:Nat}{Q K:Out->zB->Nat->Prop}[s:IsCall G P ng g args h n K](c:Com P ng g args h n Q)(k:∀o h' n',Q o h' n'->K o h' n'):G:=s.ok (cal0 c k)
theorem yG{G:Prop}{g:FuncId}{args:List Value}{h:zB}{n:Nat}{Q:Value->zB->Nat->Prop}{K:Out->zB->Nat->Prop}[s:IsCall G P ng g args h n K](c:Ret P ng g args h n Q)(k:∀v h' n',Q v h' n'->K (.ret v) h' n'):G:=
 s.ok (cal0 c λo h' n' ⟨v,e,q⟩=>by rw[e];exact k v h' n' q)
theorem zS{G:Prop}{g:FuncId}{args:List Value}{h:zB}{n:Nat}{v:Value}{K:Out->zB->Nat->Prop}[s:IsCall G P ng g args h n K](c:Pur P ng g args h n v)(k:K (.ret v) h n):G:=
  s.ok (cal0 c λo h' n' ⟨e1,e2,e3⟩=>by rw[e1,e2,e3];exact k)
 class PurC (P:Program) (ng:Nat) (g:FuncId) (args:List Value) (h:zB) (n:Nat) (v:outParam Value):Prop where ok:Pur P ng g args h n v
theorem calC{G:Prop}{g:FuncId}{args:List Value}{h:zB}{n:Nat}{v:Value}{K:Out->zB->Nat->Prop}[s:IsCall G P ng g args h n K][c:PurC P ng g args h n v](k:K (.ret v) h n):G:=s.ok (zS c.ok k)
theorem Com.pure{f:FuncId}{args:List Value}{h:zB}{n:Nat}{v:Value}(c:Com P ng f args h n λo h' n'=>o = .ret v/\Tch [] h n h' n')(hv:xW v=true\/∃l:List Value,v = .tuple ⟨l⟩/\l.all xW=true):Pur P ng f args h n v:=λu=>by
 obtain⟨o,h',n',⟨rfl,t⟩,r⟩:=c none;exact⟨_,h,n,⟨rfl,rfl,rfl⟩,r.pureE ⟨t.1,λb hb=>t.2 b hb qL⟩ hv u⟩
def arl:Nat->List Value->List (Nat×Value)->List (Nat×Value)
 | _,[],acc=>acc
 | i,v::r,acc=>arl (i+1) r ((i,v)::acc)
theorem arl_FA:∀(args:List Value) (i:Nat) (acc:List (Nat×Value)) (t:Fr),Tr.ofListFrom undef (FA acc t) i args=FA (arl i args acc) t:=by
  intro args
  induction args with
  | nil=>intro i acc t;rfl
  | cons v r ih=>intro i acc t;exact ih (i+1) ((i,v)::acc) t
 class BoC (P:Program) (f:FuncId) (fn:outParam Func):Prop where ok:∀c,fn.body=some c->bodyOf P f=some (fn,c)
def retQ(P:Program)(ng:Nat)(fn:Func)(u:Option zK)(Q:Out->zB->Nat->Prop):QX:=λx t w=>match x with
 | .normal=>(loS P ng).leave fn none t w (λo u' h' n'=>wE (u'=u/\Q o h' n'))=true
 | .ret=>(loS P ng).leave fn none t w (λo u' h' n'=>wE (u'=u/\Q o h' n'))=true
 | .panic c=>(loS P ng).leave fn (some c) t w (λo u' h' n'=>wE (u'=u/\Q o h' n'))=true
 | _=>False
theorem ent[Fit P ng]{f:FuncId}{fn:Func}[b:BoC P f fn]{c:Code}{args:List Value}{h:zB}{n:Nat}{Q:Out->zB->Nat->Prop}
(k:∀u,WC P ng c ⟨f,none,false⟩ (FA (arl 0 args []) .lF) ⟨[],u,h,n⟩ (retQ P ng fn u Q))(hc:fn.body=some c:=by exact rfl)(hl:Nat.ble args.length fn.ntmps=true:=by exact rfl):Com P ng f args h n Q:=λu=>by
 have hx:xcall P (loS P ng) f args false u h n (λo u' h' n'=>wE (u'=u/\Q o h' n'))=true:=by
  unfold xcall;rw [b.ok c hc]
  show(Bool.rec false (args0 fr0 0 args λt=>
   (loS P ng).code c ⟨f,none,false⟩ t ⟨[],u,h,n⟩ λx t w=>AX.rec ((loS P ng).leave fn none t w (λo u' h' n'=>wE (u'=u/\Q o h' n'))) (λ_=>false) (λ_=>false) ((loS P ng).leave fn none t w (λo u' h' n'=>wE (u'=u/\Q o h' n'))) (λc=>(loS P ng).leave fn (some c) t w (λo u' h' n'=>wE (u'=u/\Q o h' n'))) x) (Nat.ble args.length fn.ntmps):Bool)=true
  rw[hl,args0_eq,show fr0=FA [] .lF from rfl,arl_FA];obtain⟨x,t',w',q,r⟩:=k u;refine loS_code.2 ⟨x,t',w',?_,r⟩
  cases x with
  | normal=>exact q
  | exit i=>exact q.elim
  | goto i=>exact q.elim
  | ret=>exact q
  | panic c=>exact q
 obtain⟨o,u',h',n',q,r⟩:=xcall_ok (Fit.ok) sJ hx;obtain⟨e,q2⟩:=isSo_iff.1 q;subst e;exact⟨o,h',n',q2,r⟩
theorem leave_of[Fit P ng]{fn:Func}{mode:Option zK}{t:Fr}{w:W}{k:KO}(h:xleave P (loS P ng) fn mode t w k=true):(loS P ng).leave fn mode t w k=true:=by
 obtain⟨o,u',h',n',q,r⟩:=xleave_ok (Fit.ok) sJ h;exact loS_leave.2 ⟨o,u',h',n',q,r⟩
def Rs(P:Program)(l:List (Nat×Value))(t:Fr)(h:zB):List ResultVar->List Value->Prop
 | [],vs=>vs=[]
 | .tmp i::r,vs=>∃v vr,vs=v::vr/\lk l t i=v/\Rs P l t h r vr
 | .cell i ty::r,vs=>∃v vr,vs=v::vr/\qLoad P ty h (lk l t i)=some v/\Rs P l t h r vr
theorem Rs.eq{l:List (Nat×Value)}{t:Fr}{h:zB}:∀{rs:List ResultVar} {vs:List Value},Rs P l t h rs vs->xB P (FA l t) h rs=some vs:=by
 intro rs
 induction rs with
 | nil=>intro vs h;rw [show vs=[] from h];rfl
 | cons x r ih =>
  intro vs hv
  cases x with
  | tmp i=>
   obtain⟨v,vr,rfl,h1,h2⟩:=hv;unfold xB;rw [ih h2,fget_FA,h1]
  | cell i ty=>
   obtain⟨v,vr,rfl,h1,h2⟩:=hv;have gd:ldV P h ty (lk l t i)=some v:=h1;unfold xB;rw [ih h2,fget_FA,gd]
theorem ret_of[Fit P ng]{fn:Func}{u:Option zK}{Q:Out->zB->Nat->Prop}{l:List (Nat×Value)}{t:Fr}{h:zB}{n:Nat}(k:Ob (Wh fn.results.toList) λrs=>Ob (Rs P l t h rs) λvs=>Ob (Wh (sD vs)) λv=>Q (.ret v) h n) :
 (loS P ng).leave fn none (FA l t) ⟨[],u,h,n⟩ (λo u' h' n'=>wE (u'=u/\Q o h' n'))=true:=by
 obtain⟨rs,e1,vs,e2,v,e3,q⟩:=k;refine leave_of ?_
 show(match xB P (FA l t) h fn.results.toList with
  | some l=>xU (sD l) λv=>wE (u=u/\Q (.ret v) h n)
  | none=>false)=true
 rw[show fn.results.toList=rs from e1,e2.eq];show xU (sD vs) _=true;rw [yN,show sD vs=v from e3];exact isSo_iff.2 ⟨rfl,q⟩
instance [Fit P ng] {fn:Func} {u:Option zK} {Q:Out->zB->Nat->Prop} {l:List (Nat×Value)} {t:Fr} {h:zB} {n:Nat}:Stp (retQ P ng fn u Q .ret (FA l t) ⟨[],u,h,n⟩) (Ob (Wh fn.results.toList) λrs=>Ob (Rs P l t h rs) λvs=>Ob (Wh (sD vs)) λv=>Q (.ret v) h n):=⟨ret_of⟩
instance [Fit P ng] {fn:Func} {u:Option zK} {Q:Out->zB->Nat->Prop} {l:List (Nat×Value)} {t:Fr} {h:zB} {n:Nat}:Stp (retQ P ng fn u Q .normal (FA l t) ⟨[],u,h,n⟩) (Ob (Wh fn.results.toList) λrs=>Ob (Rs P l t h rs) λvs=>Ob (Wh (sD vs)) λv=>Q (.ret v) h n):=⟨ret_of⟩
instance [Fit P ng] {fn:Func} {u:Option zK} {Q:Out->zB->Nat->Prop} {t:Fr} {h:zB} {n:Nat} {c:zK}:Stp (retQ P ng fn u Q (.panic c) t ⟨[],u,h,n⟩) (Q (.panic c) h n):=⟨λq=>leave_of (isSo_iff.2 ⟨rfl,q⟩)⟩
section
variable {ty:Nat} {ox oy:Operand} {k:IntKind} {a b:Int}
theorem binI{op:BinOp}:binV P op ty ox oy (.int k a) (.int k b)=intOp op k a b (aBin P op ty ox oy (.int k a) (.int k b)):=by
 show(Bool.rec _ _ (tJ k k):Option Value)=_;have:tJ k k=true:=by cases k <;> rfl
 rw[this]
theorem wrap_in{x:Int}(h: -9223372036854775808<=x/\x<9223372036854775808):vS .i64 x=x:=by
 rw[wU];exact Go.IntWalk.i64_in x qJ 
theorem bn_add(h: -9223372036854775808<=a+b/\a+b<9223372036854775808):Bn P .add ty ox oy (I64 a) (I64 b) (I64 (a+b)):=by
 unfold Bn;rw [binI];show(Int.rec (λm=>some (.int .i64 (.ofNat m))) (λm=>some (.int .i64 (.negSucc m))) (vS .i64 (iadd a b)):Option Value)=_;rw [iadd_eq,wrap_in h];cases a+b <;> rfl
theorem bn_sub(h: -9223372036854775808<=a - b/\a - b<9223372036854775808):Bn P .sub ty ox oy (I64 a) (I64 b) (I64 (a - b)):=by
 unfold Bn;rw [binI];show(Int.rec (λm=>some (.int .i64 (.ofNat m))) (λm=>some (.int .i64 (.negSucc m))) (vS .i64 (isub a b)):Option Value)=_;rw [isub_eq,wrap_in h];cases a - b <;> rfl
theorem bn_eq:Bn P .eql ty ox oy (.int k a) (.int k b) (.bool (decide (a=b))):=by unfold Bn;rw [binI,<- wQ];rfl
theorem bn_ne:Bn P .neq ty ox oy (.int k a) (.int k b) (.bool (decide (a≠b))):=by
 unfold Bn;rw [binI];show some (Value.bool (Bool.rec true false (ieqB a b)))=_;rw [wQ];by_cases h:a=b
 . rw[decide_eq_true h,decide_eq_false (by simpa using h)]
 . rw[decide_eq_false h,decide_eq_true h]
theorem bn_lt:Bn P .lss ty ox oy (.int k a) (.int k b) (.bool (decide (a<b))):=by unfold Bn;rw [binI,<- iltB_eq];rfl
theorem bn_le:Bn P .leq ty ox oy (.int k a) (.int k b) (.bool (decide (a<=b))):=by unfold Bn;rw [binI,<- ileB_eq];rfl
theorem bn_gt:Bn P .gtr ty ox oy (.int k a) (.int k b) (.bool (decide (b<a))):=by unfold Bn;rw [binI,<- iltB_eq];rfl
theorem bn_ge:Bn P .geq ty ox oy (.int k a) (.int k b) (.bool (decide (b<=a))):=by unfold Bn;rw [binI,<- ileB_eq];rfl
end
theorem cv_int{dst:Nat}{k k':IntKind}[s:IkC P dst k']{a:Int}:Cv P dst (.int k a) (.int k' (k'.wrap a)):=by
 show sY P dst _=_;unfold sY;rw [s.ok];show some (Value.int k' (vS k' a))=_;rw [wU]
theorem bn_subu{ty:Nat}{ox oy:Operand}{a b:Int}:Bn P .sub ty ox oy (.int .u64 a) (.int .u64 b) (.int .u64 (IntKind.wrap .u64 (a - b))):=by
 unfold Bn;rw [binI];show(Int.rec (λm=>some (.int .u64 (.ofNat m))) (λm=>some (.int .u64 (.negSucc m))) (vS .u64 (isub a b)):Option Value)=_;rw [isub_eq,wU];cases IntKind.wrap .u64 (a - b) <;> rfl
theorem vE(x y:List UInt8):vT x y=decide (x=y):=by
 induction x generalizing y with
 | nil=>cases y <;> rfl
 | cons a x ih =>
  cases y with
  | nil=>rfl
  | cons b y=>
   show cond (Nat.beq a.toNat b.toNat) (vT x y) false=_;rw [ih];by_cases h:a=b
   . subst h;rw [aR];simp
   . have:Nat.beq a.toNat b.toNat=false:=by
      cases e:Nat.beq a.toNat b.toNat with
      | false=>rfl
      | true=>exact absurd (UInt8.toNat_inj.1 (zT e)) h
     rw[this,decide_eq_false λe=>h (List.cons.inj e).1];rfl
theorem bs_eq{ty:Nat}{ox oy:Operand}{a b:List UInt8}:Bn P .eql ty ox oy (str a) (str b) (.bool (decide (a=b))):=by
 show some (Value.bool (vT a b))=_;rw [vE]
theorem bs_ne{ty:Nat}{ox oy:Operand}{a b:List UInt8}:Bn P .neq ty ox oy (str a) (str b) (.bool (decide (a≠b))):=by
 show some (Value.bool (!vT a b))=_;rw [vE,decide_not]
theorem ixv_str{ty:Nat}[s:UnC P ty .string]{a:List UInt8}{k:IntKind}{i:Nat}{b:UInt8}(hb:a[i]? = some b):Ixv P ty (str a) (.int k (i:Nat)) (.int .u8 (b.toNat:Nat)):=by
 show aIndex P ty _ _=_;unfold aIndex;rw [s.ok]
 show(match nthB a i with
  | some b=>some (Value.int .u8 (.ofNat b.toNat))
  | none=>none)=_
 rw[nthB_eq,hb];rfl
theorem len_slc{ty:Nat}{e:TypeId}[s:UnC P ty (.slice e)]{p:Option Addr}{m c:Nat}{h:zB}:Qb P .len [ty] [.slice p m c] h (some (I64 (m:Nat))):=by
 show aLen P h ty _=_;unfold aLen;rw [s.ok];rfl
theorem len_txt{ty:Nat}[s:UnC P ty .string]{a:List UInt8}{h:zB}:Qb P .len [ty] [str a] h (some (I64 (a.length:Nat))):=by
 show aLen P h ty _=_;unfold aLen;rw [s.ok];rfl
theorem bi_app{tys:List Nat}{asz:List Value}{h:zB}:Qb P .append tys asz h none:=rfl
theorem bi_rec{tys:List Nat}{asz:List Value}{h:zB}:Qb P .recover tys asz h none:=rfl
end
end
section
abbrev KH:=zB->Nat->Value->Bool
noncomputable def vA(P:Program)(tys:List TypeId)(args:List Value)(h:zB)(n:Nat)(K:KH):Bool:=sC P tys args h n λv h n=>K h n v
noncomputable def apTB(P:Program)(sT xT el sz:Nat):Bool:=
 match und P sT,und P xT with
 | some (.slice e), some xd => match xd with
  | .int _=>false
  | _=>match inf? P e,xI P e with
   | some ei,some z=>Nat.beq e el && (Nat.beq ei.size sz && (Nat.beq (cellsOf z).length sz && (Nat.blt 0 sz && Nat.blt ei.bytes 100000)))
   | _,_=>false
 | _,_=>false
theorem apTB_of{P:Program}{sT xT e sz:Nat}(h:apTB P sT xT e sz=true):∃xd ei z,und P sT=some (.slice e)/\und P xT=some xd/\(∀k,xd≠.int k)/\inf? P e=some ei/\xI P e=some z/\ei.size=sz/\(cellsOf z).length=sz/\0<sz/\ei.bytes<100000:=by
 unfold apTB at h;split at h
 . rename_i e' xd h1 h2;split at h
   . cases h
   . rename_i eJ;split at h
     . rename_i ei z h3 h4;obtain⟨a0,hrest⟩:=ak.1 h;obtain rfl:=zT a0;obtain⟨a1,a2⟩:=ak.1 hrest;obtain⟨a2,a3⟩:=ak.1 a2;obtain⟨a3,a4⟩:=ak.1 a3;exact⟨xd,ei,z,h1,h2,λk hk=>eJ k hk,h3,h4,zT a1,zT a2,xJ a3,xJ a4⟩
     . cases h
 . cases h
def Own(lo n:Nat)(h:zB)(v:Value)(e sz:Nat)(len:Nat)(vs:List Value):Prop:=
 (v = .slice none 0 0/\len=0/\vs=[])\/∃b,lo<=b/\b<n/\v = .slice (some ⟨b,0,none⟩) len inf/\yC (zG h b)=some (vs.length,zc e sz,1)/\vs.length=len*sz/\0<len/\∀i,zD h b i=vs[i]?
def Row(n:Nat)(h:zB)(v:Value)(e sz len:Nat)(vs:List Value):Prop:=
 (v = .slice none 0 0/\len=0/\vs=[])\/∃b off cap m z kd,b<n/\v = .slice (some ⟨b,off,none⟩) len cap/\vs.length=len*sz/\yC (zG h b)=some (m,z,kd)/\off+vs.length<=m/\rowAt h b off vs/\((cap<inf/\len<=cap)\/(cap=inf/\kd=1/\z=zc e sz/\1<=sz))
def zH:Value->Option Nat
 | .slice (some a) _ _=>some a.block
 | _=>none
theorem row_of{n:Nat}{h:zB}{v:Value}{e sz len:Nat}{vs:List Value}(r:Row n h v e sz len vs):rowOf h sz len v=some vs/\lenV v=some len/\strFits sz v=true:=by
 rcases r with⟨rfl,rfl,rfl⟩|⟨b,off,cap,m,z,kd,hb,rfl,hl,hi,hm,hr⟩
 . exact⟨rfl,rfl,rfl⟩
 . refine⟨?_,rfl,rfl⟩;obtain⟨hr,fq⟩:=hr;unfold rowAt zD at hr;unfold rowOf;dsimp only;have e1:Nat.mul len sz=vs.length:=hl.symm
   have e:∀kn,kn=m->(Nat.ble len len && Nat.ble (Nat.add off (Nat.mul len sz)) kn)=true:=λkn hk=>by
    rw[e1,vC (ad _),hk,vC (show Nat.add off vs.length<=m from hm)];rfl
   cases hg:zG h b <;> rw[hg]at hi <;> first|(cases hi;done)|skip
   . rename_i c kn z' kd';injection hi with hi
     injection hi with h1 h2
     rw[hg]at hr;dsimp only;rw [e kn h1,e1];show some (c.toListFrom undef off vs.length)=some vs;rw [row_list (λi v e=>cells_cell e) hr]
   . rename_i c kn;injection hi with hi
     injection hi with h1 h2
     rw[hg]at hr;dsimp only;rw [e kn h1,e1];show knownL (c.toListFrom undef off vs.length)=some vs;rw [row_list (λi v e=>(rows_cell e).1) hr];exact knownL_of (rows_known hr)
section
variable {P:Program}
theorem uK{sz n:Nat}{h:zB}{e:TypeId}{xd:TypeDesc}(eJ:∀k,xd≠.int k){x:Value}{m:Nat}{new:List Value}(r:Row n h x e sz m new):xD P h e sz xd x=some (m,new):=by
 obtain⟨r1,r2,r3⟩:=row_of r;unfold xD;split
 . rename_i k;exact absurd rfl (eJ k)
 . rw[r2];dsimp only;rw [r3,r1];rfl
theorem append_own0{sT xT e sz lo n len m:Nat}{h:zB}{v x:Value}{vs new:List Value}{K:KH}(hT:apTB P sT xT e sz=true)(ho:Own lo n h v e sz len vs)(eE:lo<=n)(hap0:∀xd,(∀k,xd≠.int k)->xD P h e sz xd x=some (m,new))(hnew:new.length=m*sz)(h1:∀y∈new,y.oneCell'=true)
(hlim:len+m<1000000)(hK:∀v' h' n',Own lo n' h' v' e sz (len+m) (vs++new)->n<=n'->(∀b,b<n->zH v≠some b->zG h' b=zG h b)->K h' n' v'=true):vA P [sT,xT] [v,x] h n K=true:=by
 obtain⟨xd,ei,z,t1,t2,t3,t4,t5,t6,t7,t8,t9⟩:=apTB_of hT;have hZ:xD P h e ei.size xd x=some (m,new):=by rw[t6];exact hap0 _ t3
 unfold vA sC
 obtain⟨base,cap,hv⟩:∃base cap,v = .slice base len cap:=by
  rcases ho with⟨rfl,rfl,rfl⟩|⟨b,_,_,rfl,_⟩
  . exact⟨_,_,rfl⟩
  . exact⟨_,_,rfl⟩
 subst hv;dsimp only;rw [t1,t2];dsimp only;rw [t4,t5];dsimp only;rw [hZ];dsimp only
 have c1:(Nat.beq ei.size 0 || !Nat.beq (cellsOf z).length ei.size || !Nat.blt (Nat.add len m) 1000000 || !Nat.blt ei.bytes 100000)=false:=by
  have a1:Nat.beq ei.size 0=false:=by
   cases e9:Nat.beq ei.size 0 with
   | false=>rfl
   | true=>have:=zT e9;omega
  have a2:Nat.beq (cellsOf z).length ei.size=true:=by rw[t7,t6];exact aR _
  rw[a1,a2,xV (show Nat.add len m<1000000 from hlim),xV t9];rfl
 rw[c1];show cond (Nat.beq m 0 && !Nat.beq cap 0 && (Nat.beq cap inf || Nat.ble len cap)) _ _=true;by_cases hm:m=0
 . subst hm;have gt:new=[]:=aP.1 (by simpa using hnew);subst gt;rcases ho with⟨hv,rfl,rfl⟩|⟨b,q1,q2,hv,q3,q4,q5,q6⟩
   . injection hv with fC _ hv2
     subst fC hv2;show K h n (.slice none 0 0)=true;exact hK _ _ _ (.inl ⟨rfl,rfl,rfl⟩) (ad _) λ_ _ _=>rfl
   . injection hv with fC _ hv2
     subst fC hv2;show K h n (.slice (some ⟨b,0,none⟩) len inf)=true;refine hK _ _ _ (.inr ⟨b,q1,q2,rfl,?_⟩) (ad _) λ_ _ _=>rfl;rw [bS];exact⟨q3,q4,q5,q6⟩
 . have fG:Nat.beq m 0=false:=by
    cases e9:Nat.beq m 0 with
    | false=>rfl
    | true=>exact absurd (zT e9) hm
   rw[fG];show cond (Nat.beq cap inf) _ _=true;rcases ho with⟨hv,rfl,rfl⟩|⟨b,q1,q2,hv,q3,q4,q5,q6⟩
   . injection hv with fC _ hv2
     subst fC hv2;have ff:Nat.beq 0 inf=false:=by decide
     rw[ff];dsimp only[cond_false];unfold growEx
     have b1:Nat.ble (Nat.add 0 m) 0=false:=by
      cases e9:Nat.ble (Nat.add 0 m) 0 with
      | false=>rfl
      | true=>
       have h9:Nat.add 0 m<=0:=xQ e9;have fM:0+m<=0:=h9;omega
     rw[b1];show xN .lF 0 ([]++new) _=true;refine wG h1 ?_;rw [yM]
     have eJ:Nat.mul (Nat.add 0 m) ei.size=new.length:=by
      have:Nat.add 0 m=m:=aK m;rw [this,t6];exact hnew.symm
     rw[eJ,t6];have hz:Nat.add 0 m=m:=aK m;rw [hz];have jy:0<m:=by omega
     refine hK _ _ _ (.inr ⟨n,eE,be n,by rw[aK],?_,?_,by omega,λi=>?_⟩) (cH n) λb hb _=>?_
     . rw[zN,if_pos rfl];rfl
     . simpa using hnew
     . unfold zD;rw [zN,if_pos rfl];exact wW new (zc e sz) 1 i
     . rw[zN,if_neg qJ]
   . injection hv with fC _ hv2
     subst fC hv2;have fP:Nat.beq inf inf=true:=aR inf;rw [fP];show tN h n b len m ei.size (zc e ei.size) new (λv h n=>K h n v)=true;unfold tN;cases hg:zG h b <;> rw[hg]at q3 <;> first|(cases q3;done)|(exact absurd (kd_of q3) qK)|skip
     rename_i c kn z' kd';have q3':some (kn,z',kd')=some (vs.length,zc e sz,1):=q3;simp only[Option.some.injEq,Prod.mk.injEq]at q3';obtain⟨rfl,rfl,rfl⟩:=q3';show cond (Nat.beq (zc e sz) (zc e ei.size)) _ _=true;have e5:Nat.beq (zc e sz) (zc e ei.size)=true:=by rw[t6];exact aR _
     rw[e5];have gB:Nat.mul len ei.size=vs.length:=by rw[t6];exact q4.symm
     have e6:Nat.ble (Nat.mul (Nat.add len m) ei.size) vs.length=false:=by
      cases e9:Nat.ble (Nat.mul (Nat.add len m) ei.size) vs.length with
      | false=>rfl
      | true=>
       have h9:(len+m)*ei.size<=vs.length:=xQ e9;rw [t6,q4,bX]at h9;have:0<m*sz:=Nat.mul_pos qJ  t8;omega
     rw[e6,gB,vC (ad _)];show xN c vs.length new _=true;refine wG h1 ?_;rw [Tr.setK_eq,yM]
     have mq:Nat.mul (Nat.add len m) ei.size=(vs++new).length:=by
      rw[t6,ah,q4,hnew];exact bX len m sz
     rw[mq];refine hK _ _ _ (.inr ⟨n,eE,be n,rfl,?_,?_,by omega,λi=>?_⟩) (cH n) λb' hb eJ=>?_
     . rw[zN,if_pos rfl];rfl
     . rw[ah,q4,hnew,bX]
     . unfold zD;rw [zN,if_pos rfl];unfold wR;dsimp only;have q6':=q6 i;unfold zD at q6';rw [hg]at q6';unfold wR at q6';dsimp only at q6';by_cases hi:i<vs.length
       . rw[if_pos hi]at q6';rw [if_pos (by rw[ah];omega),Tr.get_ofListFrom,if_neg qJ,q6',az hi]
       . rw[ax qJ];by_cases fh:i<(vs++new).length
         . rw[ah]at fh;rw [if_pos (by rw[ah];omega),Tr.get_ofListFrom,if_pos qJ];simp [aa (show i - vs.length<new.length by omega),aZ]
         . rw[ah]at fh;rw [if_neg (by rw[ah];omega),aw qJ]
     . have fT:b≠b':=λe=>eJ (by rw[e];rfl);rw [zN,if_neg qJ,zN,if_neg fT]
theorem append_own{sT xT e sz lo n len m:Nat}{h:zB}{v x:Value}{vs new:List Value}{K:KH}(hT:apTB P sT xT e sz=true)(ho:Own lo n h v e sz len vs)(eE:lo<=n)(hr:Row n h x e sz m new)(hnew:new.length=m*sz)(h1:∀y∈new,y.oneCell'=true)
(hlim:len+m<1000000)(hK:∀v' h' n',Own lo n' h' v' e sz (len+m) (vs++new)->n<=n'->(∀b,b<n->zH v≠some b->zG h' b=zG h b)->K h' n' v'=true):vA P [sT,xT] [v,x] h n K=true:=
 append_own0 hT ho eE (λ_ eJ=>uK eJ hr) hnew h1 hlim hK
theorem append_text{sT xT e lo n len:Nat}{h:zB}{v:Value}{vs:List Value}{l:List UInt8}{K:KH}(hT:apTB P sT xT e 1=true)(ho:Own lo n h v e 1 len vs)(eE:lo<=n)
(hlim:len+l.length<1000000)(hK:∀v' h' n',Own lo n' h' v' e 1 (len+l.length) (vs++l.map λb=>Value.int .u8 (b.toNat:Nat))->n<=n'->(∀b,b<n->zH v≠some b->zG h' b=zG h b)->K h' n' v'=true):vA P [sT,xT] [v,.string ⟨⟨l⟩⟩] h n K=true:=by
 refine append_own0 hT ho eE (λxd eJ=>?_) qL  (λy hy=>?_) hlim hK
 . unfold xD;split
   . rename_i k;exact absurd rfl (eJ k)
   . have e1:lenV (.string ⟨⟨l⟩⟩)=some l.length:=rfl
     have e2:rowOf h 1 l.length (.string ⟨⟨l⟩⟩)=some (l.map λb=>Value.int .u8 (b.toNat:Nat)):=by
      show some ((l.take l.length).map λb=>Value.int .u8 (.ofNat b.toNat))=_;rw [aY];rfl
     have e3:strFits 1 (.string ⟨⟨l⟩⟩)=true:=rfl;rw [e1];dsimp only;rw [e3,e2];rfl
 . obtain⟨b,_,rfl⟩:=aB.1 hy;rfl
theorem Own.row{lo n:Nat}{h:zB}{v:Value}{e sz len:Nat}{vs:List Value}(o:Own lo n h v e sz len vs)(hsz:1<=sz):Row n h v e sz len vs:=by
 rcases o with⟨rfl,rfl,rfl⟩|⟨b,q1,q2,rfl,q3,q4,q5,q6⟩
 . exact .inl ⟨rfl,rfl,rfl⟩
 . exact .inr ⟨b,0,inf,vs.length,zc e sz,1,q2,rfl,q4,q3,by omega,λj v e=>by rw[q6,aK];exact e,.inr ⟨rfl,rfl,rfl,hsz⟩⟩
theorem Row.keep{n:Nat}{h:zB}{v:Value}{e sz len:Nat}{vs:List Value}(r:Row n h v e sz len vs){h':zB}{n':Nat}(hn:n<=n')(ek:∀b,zH v=some b->zG h' b=zG h b):Row n' h' v e sz len vs:=by
 rcases r with⟨rfl,rfl,rfl⟩|⟨b,off,cap,m,z,kd,hb,rfl,hl,hi,hm,hr,hc⟩
 . exact .inl ⟨rfl,rfl,rfl⟩
 . have he:=ek b rfl;exact .inr ⟨b,off,cap,m,z,kd,aG hb hn,rfl,hl,by rw[he];exact hi,hm,λj v e=>by unfold zD;rw [he];exact hr j v e,hc⟩
theorem Own.keep{lo n:Nat}{h:zB}{v:Value}{e sz len:Nat}{vs:List Value}(r:Own lo n h v e sz len vs){h':zB}{n':Nat}(hn:n<=n')(ek:∀b,zH v=some b->zG h' b=zG h b):Own lo n' h' v e sz len vs:=by
 rcases r with⟨rfl,rfl,rfl⟩|⟨b,q1,q2,rfl,q3,q4,q5,q6⟩
 . exact .inl ⟨rfl,rfl,rfl⟩
 . have he:=ek b rfl;exact .inr ⟨b,q1,aG q2 hn,rfl,by rw[he];exact q3,q4,q5,λi=>by unfold zD;rw [he];exact q6 i⟩
theorem slice_from{n:Nat}{h:zB}{v:Value}{e sz len:Nat}{vs:List Value}{ty:TypeId}{ei:TypeInfo}(hu:und P ty=some (.slice e))(hi:inf? P e=some ei)(hs:ei.size=sz)(r:Row n h v e sz len vs){k:IntKind}{i:Nat}(hle:i<=len) :
 ∃v',xS P h ty v (some (.int k (i:Nat))) none none=some v'/\Row n h v' e sz (len - i) (vs.drop (i*sz))/\(zH v'=zH v):=by
 rcases r with⟨rfl,rfl,rfl⟩|⟨b,off,cap,m,z,kd,hb,rfl,hl,fh,hm,hr,hc⟩
 . obtain rfl:i=0:=by omega
   refine⟨.slice none 0 0,?_,.inl ⟨rfl,rfl,by simp⟩,rfl⟩;unfold xS;rw [hu];dsimp only;rw [hi];rfl
 . have ie:(vs.drop (i*sz)).length=(len - i)*sz:=by rw[List.length_drop,hl,Nat.sub_mul]
   have jR:∀off',off'=off+i*sz->rowAt h b off' (vs.drop (i*sz)):=λoff' e j v hj=>by
    subst e;rw [List.getElem?_drop]at hj;have:=hr _ v hj;rw [<- this];congr 1;omega
   have ig:i*sz<=len*sz:=bN _ hle;rcases hc with⟨iB,hc2⟩|⟨rfl,rfl,rfl,hsz⟩
   . have fz:Nat.beq cap inf=false:=by
      cases e9:Nat.beq cap inf with
      | false=>rfl
      | true=>have:=zT e9;omega
     have b1:zZ 0 len (some (.int k (i:Nat)))=some i:=by
      show(cond (Nat.ble i len) (some i) none:Option Nat)=some i;rw [vC hle];rfl
     have main:xS P h ty (.slice (some ⟨b,off,none⟩) len cap) (some (.int k (i:Nat))) none none=some (Value.slice (some (cond (Nat.beq cap i) ⟨b,off,none⟩ (far ⟨b,off,none⟩ (Nat.mul i sz)))) (Nat.sub len i) (Nat.sub cap i)):=by
      unfold xS;rw [hu];dsimp only;rw [hi];dsimp only;rw [fz];show wT ⟨b,off,none⟩ len cap ei.size (some (.int k (i:Nat))) none none=_;unfold wT
      show((match zZ len cap none with
       | none=>none
       | some h=>match zZ 0 h (some (.int k (i:Nat))) with
        | none=>none
        | some l=>cond (Nat.blt cap inf && Nat.ble h cap) (some (Value.slice (some (cond (Nat.beq cap l) ⟨b,off,none⟩ (far ⟨b,off,none⟩ (Nat.mul l ei.size)))) (Nat.sub h l) (Nat.sub cap l))) none):Option Value)=_
      show((match zZ 0 len (some (.int k (i:Nat))) with
       | none=>none
       | some l=>cond (Nat.blt cap inf && Nat.ble len cap) (some (Value.slice (some (cond (Nat.beq cap l) ⟨b,off,none⟩ (far ⟨b,off,none⟩ (Nat.mul l ei.size)))) (Nat.sub len l) (Nat.sub cap l))) none):Option Value)=_
      rw[b1];dsimp only;rw [xV iB,vC hc2,hs];rfl
     refine⟨_,main,?_,?_⟩
     . cases e9:Nat.beq cap i with
       | true=>
        have:=zT e9;obtain rfl:i=len:=by omega
        refine .inr ⟨b,off,Nat.sub cap i,m,z,kd,hb,rfl,ie,fh,?_,λj v hj=>?_,.inl ⟨?_,?_⟩⟩
        . rw[ie];have:i - i=0:=bB i;rw [this];omega
        . have:(vs.drop (i*sz)).length=0:=by rw[ie,bB,bI]
          rw[aP.1 this]at hj;simp at hj
        . show cap - i<inf;omega
        . show i - i<=cap - i;omega
       | false=>
        refine .inr ⟨b,off+i*sz,Nat.sub cap i,m,z,kd,hb,rfl,ie,fh,?_,jR _ rfl,.inl ⟨?_,?_⟩⟩
        . rw[ie,Nat.sub_mul];omega
        . show cap - i<inf;omega
        . show len - i<=cap - i;omega
     . cases Nat.beq cap i <;> rfl
   . have b1:zZ 0 len (some (.int k (i:Nat)))=some i:=by
      show(cond (Nat.ble i len) (some i) none:Option Nat)=some i;rw [vC hle];rfl
     have fz:Nat.beq inf inf=true:=aR _
     have main:xS P h ty (.slice (some ⟨b,off,none⟩) len inf) (some (.int k (i:Nat))) none none=some (Value.slice (some (far ⟨b,off,none⟩ (Nat.mul i sz))) (Nat.sub len i) inf):=by
      unfold xS;rw [hu];dsimp only;rw [hi];dsimp only;rw [fz];cases hg:zG h b <;> rw[hg]at fh <;> first|(cases fh;done)|(exact absurd (kd_of fh) qK)|skip
      rename_i c kn z' kd';have q3':some (kn,z',kd')=some (m,zc e sz,1):=fh;simp only[Option.some.injEq,Prod.mk.injEq]at q3';obtain⟨rfl,rfl,rfl⟩:=q3';show cond (Nat.beq (zc e sz) (zc e ei.size) && Nat.ble 1 ei.size) (uP ⟨b,off,none⟩ len ei.size (some (.int k (i:Nat))) none none) none=_;rw [hs,aR,vC hsz]
      show((match zZ 0 len (some (.int k (i:Nat))) with
       | none=>none
       | some l=>some (Value.slice (some (far ⟨b,off,none⟩ (Nat.mul l sz))) (Nat.sub len l) inf)):Option Value)=_
      rw[b1]
     refine⟨_,main,.inr ⟨b,off+i*sz,inf,m,zc e sz,1,hb,rfl,ie,fh,?_,jR _ rfl,.inr ⟨rfl,rfl,rfl,hsz⟩⟩,rfl⟩;rw [ie,Nat.sub_mul];omega
end
section
variable {P:Program}
theorem append_new{sT xT e sz lo n len m:Nat}{h:zB}{v x:Value}{vs new:List Value}{K:KH}(hT:apTB P sT xT e sz=true)(ho:Own lo n h v e sz len vs)(hm0':0<m)(hr:Row n h x e sz m new)(hnew:new.length=m*sz)(h1:∀y∈new,y.oneCell'=true)
(hlim:len+m<1000000)(hK:∀v' h' n',Own n n' h' v' e sz (len+m) (vs++new)->n<=n'->(∀b,b<n->zH v≠some b->zG h' b=zG h b)->K h' n' v'=true):vA P [sT,xT] [v,x] h n K=true:=by
 obtain⟨xd,ei,z,t1,t2,t3,t4,t5,t6,t7,t8,t9⟩:=apTB_of hT;have hZ:xD P h e ei.size xd x=some (m,new):=by rw[t6];exact uK t3 hr
 unfold vA sC
 obtain⟨base,cap,hv⟩:∃base cap,v = .slice base len cap:=by
  rcases ho with⟨rfl,rfl,rfl⟩|⟨b,_,_,rfl,_⟩
  . exact⟨_,_,rfl⟩
  . exact⟨_,_,rfl⟩
 subst hv;dsimp only;rw [t1,t2];dsimp only;rw [t4,t5];dsimp only;rw [hZ];dsimp only
 have c1:(Nat.beq ei.size 0 || !Nat.beq (cellsOf z).length ei.size || !Nat.blt (Nat.add len m) 1000000 || !Nat.blt ei.bytes 100000)=false:=by
  have a1:Nat.beq ei.size 0=false:=by
   cases e9:Nat.beq ei.size 0 with
   | false=>rfl
   | true=>have:=zT e9;omega
  have a2:Nat.beq (cellsOf z).length ei.size=true:=by rw[t7,t6];exact aR _
  rw[a1,a2,xV (show Nat.add len m<1000000 from hlim),xV t9];rfl
 rw[c1];show cond (Nat.beq m 0 && !Nat.beq cap 0 && (Nat.beq cap inf || Nat.ble len cap)) _ _=true;by_cases hm:m=0
 . omega
 . have fG:Nat.beq m 0=false:=by
    cases e9:Nat.beq m 0 with
    | false=>rfl
    | true=>exact absurd (zT e9) hm
   rw[fG];show cond (Nat.beq cap inf) _ _=true;rcases ho with⟨hv,rfl,rfl⟩|⟨b,q1,q2,hv,q3,q4,q5,q6⟩
   . injection hv with fC _ hv2
     subst fC hv2;have ff:Nat.beq 0 inf=false:=by decide
     rw[ff];dsimp only[cond_false];unfold growEx
     have b1:Nat.ble (Nat.add 0 m) 0=false:=by
      cases e9:Nat.ble (Nat.add 0 m) 0 with
      | false=>rfl
      | true=>
       have h9:Nat.add 0 m<=0:=xQ e9;have fM:0+m<=0:=h9;omega
     rw[b1];show xN .lF 0 ([]++new) _=true;refine wG h1 ?_;rw [yM]
     have eJ:Nat.mul (Nat.add 0 m) ei.size=new.length:=by
      have:Nat.add 0 m=m:=aK m;rw [this,t6];exact hnew.symm
     rw[eJ,t6];have hz:Nat.add 0 m=m:=aK m;rw [hz];have jy:0<m:=by omega
     refine hK _ _ _ (.inr ⟨n,ad n,be n,by rw[aK],?_,?_,by omega,λi=>?_⟩) (cH n) λb hb _=>?_
     . rw[zN,if_pos rfl];rfl
     . simpa using hnew
     . unfold zD;rw [zN,if_pos rfl];exact wW new (zc e sz) 1 i
     . rw[zN,if_neg qJ]
   . injection hv with fC _ hv2
     subst fC hv2;have fP:Nat.beq inf inf=true:=aR inf;rw [fP];show tN h n b len m ei.size (zc e ei.size) new (λv h n=>K h n v)=true;unfold tN;cases hg:zG h b <;> rw[hg]at q3 <;> first|(cases q3;done)|(exact absurd (kd_of q3) qK)|skip
     rename_i c kn z' kd';have q3':some (kn,z',kd')=some (vs.length,zc e sz,1):=q3;simp only[Option.some.injEq,Prod.mk.injEq]at q3';obtain⟨rfl,rfl,rfl⟩:=q3';show cond (Nat.beq (zc e sz) (zc e ei.size)) _ _=true;have e5:Nat.beq (zc e sz) (zc e ei.size)=true:=by rw[t6];exact aR _
     rw[e5];have gB:Nat.mul len ei.size=vs.length:=by rw[t6];exact q4.symm
     have e6:Nat.ble (Nat.mul (Nat.add len m) ei.size) vs.length=false:=by
      cases e9:Nat.ble (Nat.mul (Nat.add len m) ei.size) vs.length with
      | false=>rfl
      | true=>
       have h9:(len+m)*ei.size<=vs.length:=xQ e9;rw [t6,q4,bX]at h9;have:0<m*sz:=Nat.mul_pos qJ  t8;omega
     rw[e6,gB,vC (ad _)];show xN c vs.length new _=true;refine wG h1 ?_;rw [Tr.setK_eq,yM]
     have mq:Nat.mul (Nat.add len m) ei.size=(vs++new).length:=by
      rw[t6,ah,q4,hnew];exact bX len m sz
     rw[mq];refine hK _ _ _ (.inr ⟨n,ad n,be n,rfl,?_,?_,by omega,λi=>?_⟩) (cH n) λb' hb eJ=>?_
     . rw[zN,if_pos rfl];rfl
     . rw[ah,q4,hnew,bX]
     . unfold zD;rw [zN,if_pos rfl];unfold wR;dsimp only;have q6':=q6 i;unfold zD at q6';rw [hg]at q6';unfold wR at q6';dsimp only at q6';by_cases hi:i<vs.length
       . rw[if_pos hi]at q6';rw [if_pos (by rw[ah];omega),Tr.get_ofListFrom,if_neg qJ,q6',az hi]
       . rw[ax qJ];by_cases fh:i<(vs++new).length
         . rw[ah]at fh;rw [if_pos (by rw[ah];omega),Tr.get_ofListFrom,if_pos qJ];simp [aa (show i - vs.length<new.length by omega),aZ]
         . rw[ah]at fh;rw [if_neg (by rw[ah];omega),aw qJ]
     . have fT:b≠b':=λe=>eJ (by rw[e];rfl);rw [zN,if_neg qJ,zN,if_neg fT]
end
end
section
theorem TmR.same{ρ : Inj}{N:Nat}{t t2:Fr}{ts:Array Value}(h:∀i,fget t2 i=fget t i)(r:TmR ρ N t ts):TmR ρ N t2 ts:=⟨r.sz,λi v e=>by rw[h i];exact r.tm i v e⟩
section
variable {P:Program} {ng:Nat}
theorem CodeTo.pre{c:Code}{cx:Cx}{t t2 t':Fr}{w w':W}{x:AX}(h:∀i,fget t2 i=fget t i)(r:CodeTo P ng c cx t2 w x t' w'):CodeTo P ng c cx t w x t' w':=λhc b k ρ base w0 a wd cs hI=>
 r hc b k ρ base w0 a wd cs ⟨hI.fn,hI.kind,hI.rd,hI.rdf,hI.tm.same h,hI.hp,hI.dr,hI.ur,hI.fnd⟩
theorem WC.pre{c:Code}{cx:Cx}{t t2:Fr}{w:W}{Q:QX}(h:∀i,fget t2 i=fget t i)(r:WC P ng c cx t2 w Q):WC P ng c cx t w Q:=by
 obtain⟨x,t',w',q,r⟩:=r;exact⟨x,t',w',q,r.pre h⟩
def Slots(l:List (Nat×Value))(t:Fr):List (Nat×Value)->Prop
 | []=>True
 | p::r=>lk l t p.1=p.2/\Slots l t r
theorem Slots.lk{l:List (Nat×Value)}{t:Fr}:∀{s:List (Nat×Value)},Slots l t s->∀i,Go.Ex.lk s (FA l t) i=Go.Ex.lk l t i:=by
 intro s
 induction s with
 | nil=>intro _ i;exact fget_FA l t i
 | cons p r ih=>
  rintro ⟨h1,h2⟩ i
  show(bif Nat.beq p.1 i then p.2 else Go.Ex.lk r (FA l t) i)=_
  cases e:Nat.beq p.1 i with
  | true=>rw [<- zT e,h1];rfl
  | false=>exact ih h2 i
theorem Slots.fget{l s:List (Nat×Value)}{t:Fr}(h:Slots l t s):∀i,fget (FA s (FA l t)) i=Go.Ex.fget (FA l t) i:=λi=>by rw[fget_FA,fget_FA,h.lk]
def Rnd{α : Type}(l:List (Nat×Value))(t:Fr)(I: α->List (Nat×Value))(J: α->zB->Nat->Prop)(m: α->Nat)(a: α)(h:zB)(n:Nat):Prop:=∃a',m a'<m a/\Slots l t (I a')/\J a' h n
theorem rnd{α : Type}{l:List (Nat×Value)}{t:Fr}{I: α->List (Nat×Value)}{J: α->zB->Nat->Prop}{m: α->Nat}{a: α}{h:zB}{n:Nat}(a': α)(hJ:J a' h n)(h1:m a'<m a:=by first|omega|(dsimp only;omega))(h2:Slots l t (I a'):=by repeat' first|exact trivial|refine⟨rfl,?_⟩):Rnd l t I J m a h n:=⟨a',h1,h2,hJ⟩
def lpQ{α : Type}(I: α->List (Nat×Value))(J: α->zB->Nat->Prop)(m: α->Nat)(a: α)(d:List Deferred)(u:Option zK)(Q:QX):QX:=λx t w=>match x with
 | .normal=>∃a',m a'<m a/\(∀i,fget (FA (I a') t) i=fget t i)/\∃h n,w=⟨d,u,h,n⟩/\J a' h n
 | x=>Q x t w
theorem lpR{b:Code}{cx:Cx}{Q:QX}{l:List (Nat×Value)}{t:Fr}{d:List Deferred}{u:Option zK}{h:zB}{n:Nat}{α : Type}(I: α->List (Nat×Value))(J: α->zB->Nat->Prop)(m: α->Nat)(a0: α)(hJ:J a0 h n)
(step:∀a t h n,J a h n->WC P ng b cx (FA (I a) t) ⟨d,u,h,n⟩ (lpQ I J m a d u Q))(h0:Slots l t (I a0):=by repeat' first|exact trivial|refine⟨rfl,?_⟩):WC P ng (.loop b) cx (FA l t) ⟨d,u,h,n⟩ Q:=by
 refine wc_loop (α := α) (λa t w=>(∀i,fget (FA (I a) t) i=fget t i)/\∃h n,w=⟨d,u,h,n⟩/\J a h n) m ?_ a0 _ _ ⟨h0.fget,h,n,rfl,hJ⟩
 rintro a t w ⟨h1,h,n,rfl,h2⟩
 refine((step a t h n h2).pre h1).mono λx t' w' q=>?_
 cases x with
 | normal=>exact q
 | exit i=>exact q
 | goto i=>exact q
 | ret=>exact q
 | panic c=>exact q
section
variable {α : Type} {I: α->List (Nat×Value)} {J: α->zB->Nat->Prop} {m: α->Nat} {a: α} {d:List Deferred} {u:Option zK} {Q:QX} {l:List (Nat×Value)} {t:Fr} {h:zB} {n:Nat} {w:W}
instance:Stp (lpQ I J m a d u Q .normal (FA l t) ⟨d,u,h,n⟩) (Rnd l t I J m a h n):=⟨λ⟨a',h1,h2,h3⟩=>⟨a',h1,h2.fget,h,n,rfl,h3⟩⟩
instance {i:Nat}:Stp (lpQ I J m a d u Q (.exit i) t w) (Q (.exit i) t w):=⟨id⟩
instance:Stp (lpQ I J m a d u Q .ret t w) (Q .ret t w):=⟨id⟩
instance {c:zK}:Stp (lpQ I J m a d u Q (.panic c) t w) (Q (.panic c) t w):=⟨id⟩
def cutQ{α : Type}(I: α->List (Nat×Value))(J: α->zB->Nat->Prop)(d:List Deferred)(u:Option zK)(Q:QX):QX:=λx t w=>match x with
 | .normal=>∃a,(∀i,fget (FA (I a) t) i=fget t i)/\∃h n,w=⟨d,u,h,n⟩/\J a h n
 | x=>Q x t w
def Btw{α : Type}(l:List (Nat×Value))(t:Fr)(I: α->List (Nat×Value))(J: α->zB->Nat->Prop)(h:zB)(n:Nat):Prop:=∃a,Slots l t (I a)/\J a h n
instance:Stp (cutQ I J d u Q .normal (FA l t) ⟨d,u,h,n⟩) (Btw l t I J h n):=⟨λ⟨a',h2,h3⟩=>⟨a',h2.fget,h,n,rfl,h3⟩⟩
instance {i:Nat}:Stp (cutQ I J d u Q (.exit i) t w) (Q (.exit i) t w):=⟨id⟩
instance:Stp (cutQ I J d u Q .ret t w) (Q .ret t w):=⟨id⟩
instance {c:zK}:Stp (cutQ I J d u Q (.panic c) t w) (Q (.panic c) t w):=⟨id⟩
theorem cut{α : Type}{c:Code}{cx:Cx}{Q:QX}{l:List (Nat×Value)}{t:Fr}{d:List Deferred}{u:Option zK}{h:zB}{n:Nat}(I: α->List (Nat×Value))(J: α->zB->Nat->Prop)(first:WC P ng c cx (FA l t) ⟨d,u,h,n⟩ (cutQ I J d u Q))
(rest:∀a t h n,J a h n->Q .normal (FA (I a) t) ⟨d,u,h,n⟩)(hQ:∀(t t2:Fr) (w:W),(∀i,fget t2 i=fget t i)->Q .normal t2 w->Q .normal t w):WC P ng c cx (FA l t) ⟨d,u,h,n⟩ Q:=by
 refine first.mono λx t' w' q=>?_
 cases x with
 | normal=>
  obtain⟨a,h1,h,n,rfl,h2⟩:=q;exact hQ _ _ _ h1 (rest a t' h n h2)
 | exit i=>exact q
 | goto i=>exact q
 | ret=>exact q
 | panic c=>exact q
end
theorem cat_hal{h:zB}{n b i:Nat}{o:AObj}{v:Value}(hb:b≠n)(c:zD h b i=some v):zD (hal h n o) b i=some v:=by unfold zD;rw [zO,if_neg λe=>hb e.symm];exact c
theorem cat_hst{h:zB}{a off b i:Nat}{ws:List Value}{v:Value}(hb:b≠a)(c:zD h b i=some v):zD (hst h a off ws) b i=some v:=by unfold zD;rw [zX,if_neg λe=>hb e.symm];exact c
theorem cat_tch{S:List Nat}{h h':zB}{n n' b i:Nat}{v:Value}(t:Tch S h n h' n')(hb:b<n)(hS:b∉S)(c:zD h b i=some v):zD h' b i=some v:=by unfold zD;rw [t.2 b hb hS];exact c
theorem Tch.le{S:List Nat}{h h':zB}{n n':Nat}(t:Tch S h n h' n'):n<=n':=t.1
theorem Tch.hal{S:List Nat}{h h':zB}{n m:Nat}{o:AObj}(t:Tch S h n h' m):Tch S h n (Go.Ex.hal h' m o) (m+1):=⟨dA t.1,λb hb hS=>by rw[zO,if_neg (by have:=t.1;omega)];exact t.2 b hb hS⟩
theorem Tch.upd{S:List Nat}{h h':zB}{n m L:Nat}{o:AObj}(t:Tch S h n h' m)(hL:n<=L\/L∈S):Tch S h n (Go.Ex.hal h' L o) m:=⟨t.1,λb hb hS=>by
 rw[zO,if_neg (by
  rintro rfl
  rcases hL with h1|h1
  . omega
  . exact hS h1)]
 exact t.2 b hb hS⟩
theorem Tch.hst{S:List Nat}{h h':zB}{n n' a off:Nat}{ws:List Value}(t:Tch S h n h' n')(ha:n<=a\/a∈S):Tch S h n (Go.Ex.hst h' a off ws) n':=⟨t.1,λb hb hS=>by
 rw[zX,if_neg (by
  rintro rfl
  rcases ha with h1|h1
  . omega
  . exact hS h1)]
 exact t.2 b hb hS⟩
theorem Tch.tch{S S':List Nat}{h h1 h':zB}{n n1 n':Nat}(t':Tch S' h1 n1 h' n')(t:Tch S h n h1 n1)(hs:∀x∈S',n<=x\/x∈S):Tch S h n h' n':=⟨aW t.1 t'.1,λb hb hS=>by
 rw[t'.2 b (aG hb t.1) λhx=>(hs b hx).elim (λh1=>absurd hb qJ) hS];exact t.2 b hb hS⟩
theorem zA{S:List Nat}{h h':zB}{n n':Nat}(t:Tch S h n h' n':=by
 repeat' first
  | with_reducible exact Tch.refl _ _ _
  | with_reducible assumption
  | with_reducible apply Tch.hal
  | with_reducible apply Tch.upd
  | with_reducible apply Tch.hst
  | ((with_reducible apply Tch.tch);(focus (with_reducible assumption)))
  | (left;omega)
  | omega
  | (right;simp;done)
  | (simp;done)
  | (simp;omega)):Tch S h n h' n':=t
def sbk:Value->Nat
 | .slice (some a) _ _=>a.block
 | _=>0
def sof:Value->Nat
 | .slice (some a) _ _=>a.off
 | _=>0
section
variable {lo:Nat} {h:zB} {v:Value} {e sz len:Nat} {vs:List Value}
theorem Row.one(r:Row lo h v e sz len vs):v.oneCell'=true:=by
 rcases r with⟨rfl,_⟩|⟨b,off,cap,m,z,kd,_,rfl,_⟩ <;> rfl
theorem Row.lens(r:Row lo h v e sz len vs):vs.length=len*sz:=by
 rcases r with⟨rfl,rfl,rfl⟩|⟨b,off,cap,m,z,kd,_,rfl,h1,_⟩
 . simp
 . exact h1
theorem Row.low(r:Row lo h v e sz len vs)(h0:0<len):sbk v<lo:=by
 rcases r with⟨rfl,rfl,rfl⟩|⟨b,off,cap,m,z,kd,h1,rfl,_⟩
 . omega
 . exact h1
theorem Row.at(r:Row lo h v e sz len vs){i:Nat}{x:Value}(hi:vs[i]? = some x):zD h (sbk v) (sof v+i)=some x:=by
 rcases r with⟨rfl,rfl,rfl⟩|⟨b,off,cap,m,z,kd,h1,rfl,_,_,_,h2,_⟩
 . cases hi
 . exact h2 i x hi
theorem len_rw{P:Program}{ty el:Nat}[s:UnC P ty (.slice el)]{h':zB}(r:Row lo h v e sz len vs):Qb P .len [ty] [v] h' (some (I64 (len:Nat))):=by
 rcases r with⟨rfl,rfl,rfl⟩|⟨b,off,cap,m,z,kd,h1,rfl,_⟩
 . exact len_slc
 . exact len_slc
theorem iad_rw{k:IntKind}{i:Nat}(r:Row lo h v e sz len vs)(hi:i<len):Iad sz v (.int k (i:Nat)) (.pointer (some ⟨sbk v,sof v+i*sz,none⟩)):=by
 rcases r with⟨rfl,rfl,rfl⟩|⟨b,off,cap,m,z,kd,h1,rfl,_⟩
 . omega
 . exact⟨b,off,len,cap,k,i,rfl,rfl,hi,rfl⟩
theorem iad_rwI{k:IntKind}{x:Int}(r:Row lo h v e sz len vs)(h0:0<=x)(hi:x<len):Iad sz v (.int k x) (.pointer (some ⟨sbk v,sof v+x.toNat*sz,none⟩)):=by
 obtain⟨i,rfl⟩:=bC h0;exact iad_rw r qJ 
theorem Row.tch{S:List Nat}{h':zB}{n n':Nat}(r:Row lo h v e sz len vs)(t:Tch S h n h' n')(hl:lo<=n)(hS:∀b,zH v=some b->b∉S):Row lo h' v e sz len vs:=by
 refine r.keep (ad _) λb hb=>t.2 b ?_ (hS b hb);rcases r with⟨rfl,rfl,rfl⟩|⟨b',off,cap,m,z,kd,h1,rfl,_⟩
 . cases hb
 . injection hb with hb;have hb:b'=b:=hb;omega
theorem Row.up(r:Row lo h v e sz len vs){lo':Nat}(hl:lo<=lo'):Row lo' h v e sz len vs:=r.keep hl λ_ _=>rfl
theorem zF{n:Nat}{cs:List Value}(hl:cs.length=len*sz)(eD:len<inf):Row (n+1) (hal h n (mkC cs 0 0)) (.slice (some ⟨n,0,none⟩) len len) e sz len cs:=by
 refine .inr ⟨n,0,len,cs.length,0,0,be _,rfl,hl,?_,by omega,λj x hj=>?_,.inl ⟨eD,ad _⟩⟩
 . rw[zO,if_pos rfl];exact vK _ _ _
 . unfold zD;rw [zO,if_pos rfl,aK];rw [wW];exact hj
end
 class ApC (P:Program) (sT xT:Nat) (e sz:outParam Nat):Prop where ok:apTB P sT xT e sz=true
theorem appO{sT xT e sz:Nat}[A:ApC P sT xT e sz]{cx:Cx}{d:List Deferred}{u:Option zK}{h:zB}{n lo len m:Nat}{v x:Value}{vs new:List Value}{K:W->Value->Prop}(ho:Own lo n h v e sz len vs)(hr:Row n h x e sz m new)(eE:lo<=n)(h1:One new)(hlim:len+m<1000000)
(k:∀v' h' n',Own lo n' h' v' e sz (len+m) (vs++new)->Tch (zH v).toList h n h' n'->K ⟨d,u,h',n'⟩ v'):BuB P cx .append [sT,xT] [v,x] d u h n K:=by
 have:=append_own (K:=λh' n' v'=>wE (K ⟨d,u,h',n'⟩ v')) A.ok ho eE hr hr.lens h1.all hlim λv' h' n' o a b=>isSo_iff.2 (k v' h' n' o ⟨a,λb' hb hS=>b b' hb λe=>hS (by rw[e];simp)⟩);exact this
theorem Own.tch{S:List Nat}{lo n n':Nat}{h h':zB}{v:Value}{e sz len:Nat}{vs:List Value}(r:Own lo n h v e sz len vs)(t:Tch S h n h' n')(hS:∀b,zH v=some b->b∉S):Own lo n' h' v e sz len vs:=by
 refine r.keep t.1 λb hb=>t.2 b ?_ (hS b hb);rcases r with⟨rfl,_,_⟩|⟨b',_,h1,rfl,_⟩
 . cases hb
 . injection hb with hb;subst hb;exact h1
theorem Own.nil{lo n:Nat}{h:zB}{e sz:Nat}:Own lo n h (.slice none 0 0) e sz 0 []:=.inl ⟨rfl,rfl,rfl⟩
theorem Own.one{lo n:Nat}{h:zB}{v:Value}{e sz len:Nat}{vs:List Value}(r:Own lo n h v e sz len vs):v.oneCell'=true:=by
 rcases r with⟨rfl,_⟩|⟨b,_,_,rfl,_⟩ <;> rfl
theorem Own.blk{lo n:Nat}{h:zB}{v:Value}{e sz len:Nat}{vs:List Value}(r:Own lo n h v e sz len vs){b:Nat}(hb:zH v=some b):lo<=b/\b<n:=by
 rcases r with⟨rfl,_⟩|⟨b',h1,h2,rfl,_⟩
 . cases hb
 . injection hb with hb;subst hb;exact⟨h1,h2⟩
end
end
section
noncomputable def regIn(id:Nat):Code->List (Array Oper):=Code.rec (motive:=λ_=>List (Array Oper)) [] (λi ops dr=>Bool.rec [] (Bool.rec [] [ops] (Nat.beq i id)) dr) (λ_ _ a b=>a++b) (λ_ _ _ a b=>a++b) (λ_ _ a=>a) (λ_ a=>a)
 (λ_ _ _ _ a b=>a++b) (λ_=>[]) (λ_ a=>a) (λ_=>[]) (λ_=>[]) [] (λ_=>[])
noncomputable def regOf(P:Program)(f id:Nat):Array Oper:=Option.rec #[] (λfb=>List.rec #[] (λa _ _=>a) (regIn id fb.2)) (bodyOf P f)
noncomputable def dl(ops:Array Oper):List Nat->List DOp
 | []=>[]
 | e::r=>match ops.toList[e % 64]? with
  | some o=>⟨o,e % 64,Nat.beq (e / 2048) 1,e / 64 % 16,Nat.beq (e / 1024 % 2) 1⟩::dl ops r
  | none=>[]
theorem dl_at{ops:Array Oper}:∀{tb:List Nat},∀y∈dl ops tb,ops[y.i]? = some y.o
  | [],y,h=>by cases h
  | e :: r, y, h => by
    unfold dl at h;split at h
    . rename_i o ho;rcases au.1 h with rfl|h
      . rw[<- aO];exact ho
      . exact dl_at y h
    . cases h
 class DrC (P:Program) (f id:Nat) (tbl:outParam (List Nat)):Prop where ok:Plan (regOf P f id) (dl (regOf P f id) tbl)
def RgE(P:Program)(f id:Nat)(ops:Array Oper):Prop:=regOf P f id=ops
inductive Lk where
 | lk (op:Op) (t:Fr) (v:Value)
 | nw (b:Nat) (o:AObj)
def LkA(P:Program)(op:Op)(t:Fr)(v:Value)(h:zB):Prop:=uF op P t h=some v
def LkOK(P:Program)(h:zB):Lk->Prop
 | .lk op t v=>LkA P op t v h
 | .nw b o=>zG h b=o
def LksOK(P:Program)(k:Nat)(h:zB):List (Nat×Lk)->Prop
 | []=>True
 | p::r=>(k<=p.1->LkOK P h p.2)/\LksOK P k h r
theorem quiet_e{op:Op}{P:Program}{t:Fr}{h:zB}(hk:2<=xP op):uF op P t h=none:=by
 cases op <;> first|rfl|(exfalso;have h0:2<=0:=hk;omega)|(exfalso;have h0:2<=1:=hk;omega)|skip
 case call c=>
  obtain⟨callee,args,tys⟩:=c
  cases callee with
  | value f=>rfl
  | invoke a b=>rfl
  | builtin b=>cases b <;> first|rfl|(exfalso;have h0:2<=1:=hk;omega)
theorem eff_q{op:Op}{P:Program}{lo:Lo}{cx:Cx}{t:Fr}{w:W}{k:KV}{kp:KP}(hk:xP op<=1):eff op P lo cx t w k kp=false:=by
 cases op <;> first|rfl|(exfalso;have h0:2<=1:=hk;omega)|(exfalso;have h0:3<=1:=hk;omega)|skip
 case makeMap a b=>cases b <;> first|(exfalso;have h0:2<=1:=hk;omega)|(exfalso;have h0:3<=1:=hk;omega)
 case call c=>
  obtain⟨callee,args,tys⟩:=c
  cases callee with
  | value f=>exfalso;have h0:3<=1:=hk;omega
  | invoke a b=>exfalso;have h0:3<=1:=hk;omega
  | builtin b=>cases b <;> first|rfl|(exfalso;have h0:3<=1:=hk;omega)
theorem kind_le(op:Op):xP op<=3:=by
 have h0:(0:Nat)<=3:=by decide
 have h1:(1:Nat)<=3:=by decide
 have h2:(2:Nat)<=3:=by decide
 have h3:(3:Nat)<=3:=by decide
 cases op <;> first|exact h0|exact h1|exact h2|exact h3|skip
 case makeMap a b=>cases b <;> first|exact h2|exact h3
 case call c=>
  obtain⟨callee,args,tys⟩:=c
  cases callee with
  | value f=>exact h3
  | invoke a b=>exact h3
  | builtin b=>cases b <;> first|exact h1|exact h3
section
variable {P:Program} {ng:Nat}
def kcl(op:Op)(ac:Bool):Nat:=bif ac then 3 else xP op
def kcn(ac:Bool)(k:Nat):Nat:=bif ac then k+1 else k
def WD(P:Program)(ng:Nat)(all:Array Oper)(cx:Cx)(Q:QX):List DOp->Nat->List (Nat×Lk)->Fr->W->Prop
 | [],_,_,t,w=>Q .normal t w
 | x :: r, k, ls, t, w => (wanted all t x.o.guard = false -> WD P ng all cx Q r (kcn x.ac k) ls (putF t x.o.dst undef) w) /\
  (wanted all t x.o.guard=true->OpB P ng x.o.op cx t w (λw' v=>match kcl x.o.op x.ac with
   | 0=>WD P ng all cx Q r k ls (putF t x.o.dst v) w'
   | 1=>WD P ng all cx Q r k ((x.hi,.lk x.o.op t v)::ls) (putF t x.o.dst v) w'
   | 2=>LksOK P k w'.h ls/\WD P ng all cx Q r k ((x.hi,.nw w.n (zG w'.h w.n))::ls) (putF t x.o.dst v) w'
   | _=>LksOK P (k+1) w'.h ls/\WD P ng all cx Q r (k+1) ls (putF t x.o.dst v) w')
   λc w'=>kcl x.o.op x.ac=3/\(x.so=true\/w'.d=[])/\Q (.panic c) t w')
theorem cnt_cons(x:DOp)(l:List DOp):cnt (x::l)=kcn x.ac (cnt l):=by
 unfold cnt kcn;rw [cQ];cases x.ac <;> rfl
theorem new_ok{lo:Lo}{cx:Cx}(hP:xC ng P=true){o:Oper}{t:Fr}{w:W}{k:KV}{kp:KP}(hk:xP o.op=2)(hx:eff o.op P lo cx t w k kp=true) :
 ∃v ob,NewVal P ng o t v ob/\k (W.mk w.d w.u (w.h.set .dead ob w.n) (w.n+1)) (v w.n)=true:=by
 cases eT:o.op with
 | alloc el=>exact alloc_ok hP eT hx
 | box el x=>exact box_ok eT hx
 | buildSlice ty len parts=>exact buildSlice_ok hP eT hx
 | makeMap ty r=>exact makeMap_ok eT hx
 | makeSlice ty l c=>rw [eT]at hx;exact(aU hx).elim
 | call c=>
  rw[eT]at hk;obtain⟨callee,asz,ts⟩:=c
  cases callee with
  | builtin b=>cases b <;> cases hk
  | _=>cases hk
 | _=>rw [eT]at hk;cases hk
def WdE(P:Program)(ng:Nat)(all:Array Oper)(cx:Cx)(Q:QX)(t0:Fr)(W0:W)(D:List DOp):Prop:=∃F E x w',D=E++xs F/\Past P ng all cx t0 W0 F/\Q x (stT t0 F) w'/\((E=[]/\x = .normal/\w'=stW W0 F)\/
 ∃rest d c,E=rest++[d]/\d.ac=true/\wanted all (stT t0 F) d.o.guard=true/\OpTo P ng d.o cx (stT t0 F) (stW W0 F) (.panic c) w'/\(d.so=true\/w'.d=[])/\x = .panic c)
theorem wd_ok[F:Fit P ng]{all:Array Oper}{cx:Cx}{Q:QX}{t0:Fr}{W0:W}:∀(l:List DOp) (k:Nat) (ls:List (Nat×Lk)) (R:List Rec),(∀x∈l,xP x.o.op=3->x.ac=true)->WD P ng all cx Q l k ls (stT t0 R) (stW W0 R)->Past P ng all cx t0 W0 R->k=cnt (xs R)->
 (∀q∈R,Pd q.x->∀k h,LksOK P k h ls->k<=q.x.hi->q.ok h)->WdE P ng all cx Q t0 W0 (l.reverse++xs R):=by
 intro l
 induction l with
 | nil=>intro k ls R _ h hR _ _;exact⟨R,[],.normal,_,rfl,hR,h,.inl ⟨rfl,rfl,rfl⟩⟩
 | cons x l ih =>
  intro k ls R hac ⟨h1,h2⟩ hR hk hq
  have more:∀{r:Rec} {k ls},r.x=x->RecOK P ng all cx r->r.t=stT t0 R->r.w=stW W0 R->(∀q∈R,Pd q.x->cnt (xs (r::R))<=q.x.hi->q.ok r.w2.h)->WD P ng all cx Q l k ls (putF r.t r.x.o.dst r.v) r.w2->k=cnt (xs (r::R))->
   (Pd r.x->∀k h,LksOK P k h ls->k<=r.x.hi->r.ok h)->(∀q∈R,Pd q.x->∀k h,LksOK P k h ls->k<=q.x.hi->q.ok h)->WdE P ng all cx Q t0 W0 ((x::l).reverse++xs R):=by
   intro r k ls e a1 a2 a3 a4 a5 a6 a7 a8;have:=ih k ls (r::R) (λy hy=>hac y (by simp[hy])) a5 ⟨hR,a1,a2,a3,a4⟩ a6 λq hm=>(au.1 hm).elim (λe=>e ▸ a7) (a8 q)
   rwa [show l.reverse++xs (r::R)=(x::l).reverse++xs R by rw[<- e];simp]at this
  have low:∀q∈R,Pd q.x->cnt (x::xs R)<=q.x.hi->q.ok (stW W0 R).h:=λq lA hp hc=>hR.ok lA hp (by
   rw[cnt_cons]at hc;unfold kcn at hc;cases e:x.ac <;> rw[e]at hc <;> dsimp only[cond]at hc <;> omega)
  have kc:k=cnt (xs R):=hk
  cases hw:wanted all (stT t0 R) x.o.guard with
  | false=>exact more (r:=⟨x,stT t0 R,stW W0 R,undef,stW W0 R,false,λ_=>True⟩) rfl (.skip hw) rfl rfl low (h1 hw) (by rw[hk];exact(cnt_cons _ _).symm) (λ_ _ _ _ _=>trivial) hq
  | true =>
   have ho:=(h2 hw).1;unfold OpB0 at ho
   have act:∀{v w'},x.ac=true->OpTo P ng x.o cx (stT t0 R) (stW W0 R) (.ret v) w'->LksOK P (k+1) w'.h ls->WD P ng all cx Q l (k+1) ls (putF (stT t0 R) x.o.dst v) w'->WdE P ng all cx Q t0 W0 ((x::l).reverse++xs R):=λea b1 b2 b3=>by
    have kc3:cnt (x::xs R)=k+1:=by rw[cnt_cons,hk];unfold kcn;rw [ea];rfl
    exact more rfl (RecOK.act hw ea b1) rfl rfl (λq a b c=>hq q a b _ _ b2 (by rw[<- kc3];exact c)) b3 kc3.symm (λh=>absurd (h.1.symm.trans ea) qL) hq
   cases ea:x.ac with
   | true =>
    unfold kcl at ho;rw [ea]at ho;dsimp only[cond]at ho
    cases hqv:uF x.o.op P (stT t0 R) (stW W0 R).h with
    | some v=>
     rw[hqv]at ho;exact act ea (effVal_op (λc e=>by rw[e]at hqv;cases hqv) (effVal_quiet F.ok hqv)) ho.1 ho.2
    | none=>
     rw[hqv]at ho;obtain⟨out,w',n1,n2⟩:=eff_ok F.ok sJ ho
     cases out with
     | ret v=>obtain⟨n3,n4⟩:=isSo_iff.1 n1;exact act ea n2 n3 n4
     | panic c=>obtain⟨_,n3,n4⟩:=isSo_iff.1 n1;exact⟨R,l.reverse++[x],.panic c,w',by simp,hR,n4,.inr ⟨l.reverse,x,c,rfl,ea,hw,n2,n3,rfl⟩⟩
   | false =>
    unfold kcl at ho;rw [ea]at ho;dsimp only[cond]at ho;have kc0:cnt (x::xs R)=k:=by rw[cnt_cons,hk];unfold kcn;rw [ea];rfl
    have jw:xP x.o.op≠3:=λh=>by have:=hac x qL  h;rw [ea]at this;cases this
    cases hqv:uF x.o.op P (stT t0 R) (stW W0 R).h with
    | some v=>
     rw[hqv]at ho;have look:xP x.o.op<=1:=Nat.le_of_not_lt λh=>by rw[quiet_e h]at hqv;cases hqv
     have rc:=RecOK.look (P:=P) (ng:=ng) (cx:=cx) (x:=x) (w:=stW W0 R) (ok:=λh=>uF x.o.op P (stT t0 R) h=some v) hw ea (λ_ h=>h) hqv;rcases(show xP x.o.op=0\/xP x.o.op=1 by omega) with e|e <;> rw[e]at ho
     . exact more rfl rc rfl rfl low ho kc0.symm (λh=>absurd h.2 (by show ¬(xP x.o.op=1\/xP x.o.op=2);omega)) hq
     . exact more rfl rc rfl rfl low ho kc0.symm (λ_ k h hl hle=>hl.1 hle) λq a b k h hl=>hq q a b k h hl.2
    | none=>
     rw[hqv]at ho;dsimp only at ho;have h23:2<=xP x.o.op:=Nat.le_of_not_lt λh=>by rw[eff_q qJ]at ho;cases ho
     have hle:=kind_le x.o.op;have e:xP x.o.op=2:=by omega
     rw[e]at ho;obtain⟨v,ob,n1,n2⟩:=new_ok F.ok e ho;obtain⟨n2,n3⟩:=isSo_iff.1 n2;refine more rfl (RecOK.made hw ⟨ea,e⟩ n1) rfl rfl (λq a b c=>hq q a b _ _ n2 (by rw[<- kc0];exact c)) n3 kc0.symm (λ_ k h hl hle=>?_) λq a b k h hl=>hq q a b k h hl.2;have:zG h (stW W0 R).n=_:=hl.1 hle;show zG h (stW W0 R).n=ob;rw [this];show zG (Tr.set _ _ _ _) _=_;rw [zN,if_pos rfl]
theorem wc_drawn[F:Fit P ng]{f id:Nat}{rd:Option Nat}{df:Bool}{ops:Array Oper}{tbl:List Nat}[D:DrC P f id tbl]{t:Fr}{w:W}{Q:QX}(he:RgE P f id ops)(h:WD P ng ops ⟨f,rd,df⟩ Q (dl ops tbl) 0 [] t w):WC P ng (.region id ops true) ⟨f,rd,df⟩ t w Q:=by
 have hp:=D.ok;rw [show regOf P f id=ops from he]at hp
 obtain⟨R,E,x,w',h1,h2,h3,h4⟩:=wd_ok (t0:=t) (W0:=w) _ _ _ [] (λx hx=>by
  obtain⟨A,B,e⟩:=bR (bP.2 hx);exact(hp.at e).2.2.2.2.2.2) h trivial rfl λq hq=>by cases hq
 exact⟨x,_,w',h3,drawn_ok F.ok F.mix hp dl_at (by simpa using h1) h2 h4 id⟩
instance [Fit P ng] {f id:Nat} {rd:Option Nat} {df:Bool} {ops:Array Oper} {tbl:List Nat} [DrC P f id tbl] {t:Fr} {w:W} {Q:QX} :
 Stp (WC P ng (.region id ops true) ⟨f,rd,df⟩ t w Q) (Ob1 (RgE P f id ops) <| WD P ng ops ⟨f,rd,df⟩ Q (dl ops tbl) 0 [] t w):=⟨λ⟨h1,h2⟩=>wc_drawn h1 h2⟩
section
variable {all ops:Array Oper} {cx:Cx} {l:List (Nat×Value)} {t:Fr} {w:W} {k:Nat} {ls:List (Nat×Lk)} {Q:QX} {r:List DOp} {op:Op} {d:Option Nat} {ty:TypeId} {pos:String} {af:Array Edge} {i hi:Nat} {so ac:Bool} {g:Option (Nat×Bool)} {v:Value}
instance:Stp (WD P ng all cx Q (dl ops []) k ls t w) (Q .normal t w):=⟨id⟩
instance {e:Nat} {tb:List Nat}:Stp (WD P ng all cx Q (dl ops (e::tb)) k ls t w) (Ob (λo=>Wh (ops.toList[e % 64]?) (some o)) λo=>WD P ng all cx Q (⟨o,e % 64,Nat.beq (e / 2048) 1,e / 64 % 16,Nat.beq (e / 1024 % 2) 1⟩::dl ops tb) k ls t w):=⟨λ⟨o,h1,h2⟩=>by
 unfold dl;rw [show ops.toList[e % 64]? = some o from h1];exact h2⟩
def drQ(P:Program)(ng:Nat)(all:Array Oper)(cx:Cx)(Q:QX)(d:Option Nat)(r:List DOp)(l:List (Nat×Value))(t:Fr)(k:Nat)(ls:List (Nat×Lk))(w:W)(v:Value):Prop:=WD P ng all cx Q r k ls (putF (FA l t) d v) w
instance {j:Nat}:Stp (drQ P ng all cx Q (some j) r l t k ls w v) (WD P ng all cx Q r k ls (FA ((j,v)::l) t) w):=⟨id⟩
instance:Stp (drQ P ng all cx Q none r l t k ls w v) (WD P ng all cx Q r k ls (FA l t) w):=⟨id⟩
def drL(P:Program)(ng:Nat)(all:Array Oper)(cx:Cx)(Q:QX)(op:Op)(hi:Nat)(d:Option Nat)(r:List DOp)(l:List (Nat×Value))(t:Fr)(k:Nat)(ls:List (Nat×Lk))(w:W)(v:Value):Prop:=drQ P ng all cx Q d r l t k ((hi,.lk op (FA l t) v)::ls) w v
instance:Stp (drL P ng all cx Q op hi d r l t k ls w v) (drQ P ng all cx Q d r l t k ((hi,.lk op (FA l t) v)::ls) w v):=⟨id⟩
def drN(P:Program)(ng:Nat)(all:Array Oper)(cx:Cx)(Q:QX)(hi:Nat)(d:Option Nat)(r:List DOp)(l:List (Nat×Value))(t:Fr)(k:Nat)(ls:List (Nat×Lk))(n:Nat)(w:W)(v:Value):Prop:=LksOK P k w.h ls/\drQ P ng all cx Q d r l t k ((hi,.nw n (zG w.h n))::ls) w v
instance {dd:List Deferred} {u:Option zK} {h:zB} {n m:Nat} {ob:AObj}:Stp (drN P ng all cx Q hi d r l t k ls n ⟨dd,u,hal h n ob,m⟩ v) (Ob1 (LksOK P k (hal h n ob) ls) <| drQ P ng all cx Q d r l t k ((hi,.nw n ob)::ls) ⟨dd,u,hal h n ob,m⟩ v):=⟨λ⟨h1,h2⟩=>⟨h1,by
 rw[zO,if_pos rfl];exact h2⟩⟩
def drC(P:Program)(ng:Nat)(all:Array Oper)(cx:Cx)(Q:QX)(d:Option Nat)(r:List DOp)(l:List (Nat×Value))(t:Fr)(k:Nat)(ls:List (Nat×Lk))(w:W)(v:Value):Prop:=LksOK P (k+1) w.h ls/\drQ P ng all cx Q d r l t (k+1) ls w v
instance {dd:List Deferred} {u:Option zK} {h:zB} {n:Nat}:Stp (drC P ng all cx Q d r l t k ls ⟨dd,u,h,n⟩ v) (Ob1 (LksOK P (k+1) h ls) <| drQ P ng all cx Q d r l t (k+1) ls ⟨dd,u,h,n⟩ v):=⟨λ⟨h1,h2⟩=>⟨h1,h2⟩⟩
def drP(so:Bool)(l:List (Nat×Value))(t:Fr)(Q:QX)(c:zK)(w:W):Prop:=(so=true\/w.d=[])/\Q (.panic c) (FA l t) w
instance {c:zK} {dd:List Deferred} {u:Option zK} {h:zB} {n:Nat}:Stp (drP so l t Q c ⟨dd,u,h,n⟩) (Ob (Wh so) λz=>Ch z (Q (.panic c) (FA l t) ⟨dd,u,h,n⟩) (Ob1 (dd=[]) <| Q (.panic c) (FA l t) ⟨dd,u,h,n⟩)):=⟨λ⟨z,h1,h2,h3⟩=>by
 have h1:so=z:=h1
 cases z with
 | true=>exact⟨.inl h1,h2 rfl⟩
 | false=>exact⟨.inr (h3 rfl).1,(h3 rfl).2⟩⟩
def WK(P:Program)(ng:Nat)(all:Array Oper)(cx:Cx)(Q:QX)(op:Op)(hi:Nat)(so:Bool)(d:Option Nat)(r:List DOp)(l:List (Nat×Value))(t:Fr)(k:Nat)(ls:List (Nat×Lk))(w:W):Nat->Prop
 | 0=>OpB P ng op cx (FA l t) w (drQ P ng all cx Q d r l t k ls) λ_ _=>False
 | 1=>OpB P ng op cx (FA l t) w (drL P ng all cx Q op hi d r l t k ls) λ_ _=>False
 | 2=>OpB P ng op cx (FA l t) w (drN P ng all cx Q hi d r l t k ls w.n) λ_ _=>False
 | _=>OpB P ng op cx (FA l t) w (drC P ng all cx Q d r l t k ls) (drP so l t Q)
instance:Stp (WK P ng all cx Q op hi so d r l t k ls w 0) (OpB P ng op cx (FA l t) w (drQ P ng all cx Q d r l t k ls) λ_ _=>False):=⟨id⟩
instance:Stp (WK P ng all cx Q op hi so d r l t k ls w 1) (OpB P ng op cx (FA l t) w (drL P ng all cx Q op hi d r l t k ls) λ_ _=>False):=⟨id⟩
instance {dd:List Deferred} {u:Option zK} {h:zB} {n:Nat}:Stp (WK P ng all cx Q op hi so d r l t k ls ⟨dd,u,h,n⟩ 2) (OpB P ng op cx (FA l t) ⟨dd,u,h,n⟩ (drN P ng all cx Q hi d r l t k ls n) λ_ _=>False):=⟨id⟩
instance:Stp (WK P ng all cx Q op hi so d r l t k ls w 3) (OpB P ng op cx (FA l t) w (drC P ng all cx Q d r l t k ls) (drP so l t Q)):=⟨id⟩
theorem wd_do{g:Option (Nat×Bool)}(hg:wanted all (FA l t) g=true)(h:WK P ng all cx Q op hi so d r l t k ls w (kcl op ac)):WD P ng all cx Q (⟨⟨d,op,ty,pos,af,g⟩,i,ac,hi,so⟩::r) k ls (FA l t) w:=by
 refine⟨λh2=>absurd (hg.symm.trans h2) qL,λ_=>?_⟩;have hle:=kind_le op;dsimp only
 cases ac with
 | true=>unfold WK kcl at h;unfold kcl;simp only[cond,true_and]at h ⊢;exact h
 | false=>
  unfold WK kcl at h;unfold kcl;simp only[cond]at h ⊢;rcases(show xP op=0\/xP op=1\/xP op=2\/xP op=3 by omega) with e|e|e|e <;> simp only[e,true_and,Nat.reduceEqDiff,false_and]at h ⊢ <;> exact h
instance:Stp (WD P ng all cx Q (⟨⟨d,op,ty,pos,af,none⟩,i,ac,hi,so⟩::r) k ls (FA l t) w) (Ob (Wh (kcl op ac)) (WK P ng all cx Q op hi so d r l t k ls w)):=⟨λ⟨k,h1,h2⟩=>wd_do (g:=none) rfl (by rw[show kcl op ac=k from h1];exact h2)⟩
def drS(P:Program)(ng:Nat)(all:Array Oper)(cx:Cx)(Q:QX)(ac:Bool)(d:Option Nat)(r:List DOp)(l:List (Nat×Value))(t:Fr)(k:Nat)(ls:List (Nat×Lk))(w:W):Prop:=drQ P ng all cx Q d r l t (kcn ac k) ls w undef
instance:Stp (drS P ng all cx Q ac d r l t k ls w) (drQ P ng all cx Q d r l t (kcn ac k) ls w undef):=⟨id⟩
theorem wd_skip{g:Option (Nat×Bool)}(hg:wanted all (FA l t) g=false)(h:drS P ng all cx Q ac d r l t k ls w):WD P ng all cx Q (⟨⟨d,op,ty,pos,af,g⟩,i,ac,hi,so⟩::r) k ls (FA l t) w:=⟨λ_=>h,λh2=>absurd (hg.symm.trans h2) qL⟩
instance {g:Nat}:Stp (WD P ng all cx Q (⟨⟨d,op,ty,pos,af,some (g,true)⟩,i,ac,hi,so⟩::r) k ls (FA l t) w)
 (Ob (λz=>Gv all l t g true z) λz=>Ch z (Ob (Wh (kcl op ac)) (WK P ng all cx Q op hi so d r l t k ls w)) (drS P ng all cx Q ac d r l t k ls w)):=⟨λ⟨z,h1,h2,h3⟩=>by
 cases z with
 | true=>
  obtain⟨k,h4,h5⟩:=h2 rfl;exact wd_do h1.wants (by rw[show kcl op ac=k from h4];exact h5)
 | false=>exact wd_skip h1.wants (h3 rfl)⟩
instance {g:Nat}:Stp (WD P ng all cx Q (⟨⟨d,op,ty,pos,af,some (g,false)⟩,i,ac,hi,so⟩::r) k ls (FA l t) w)
 (Ob (λz=>Gv all l t g false z) λz=>Ch z (drS P ng all cx Q ac d r l t k ls w) (Ob (Wh (kcl op ac)) (WK P ng all cx Q op hi so d r l t k ls w))):=⟨λ⟨z,h1,h2,h3⟩=>by
 cases z with
 | false=>
  obtain⟨k,h4,h5⟩:=h3 rfl;exact wd_do h1.wants (by rw[show kcl op ac=k from h4];exact h5)
 | true=>exact wd_skip h1.wants (h2 rfl)⟩
variable {h:zB}
theorem lks_nil:LksOK P k h []:=trivial
theorem lks_off{e:Lk}(hr:Nat.ble k hi=false)(r:LksOK P k h ls):LksOK P k h ((hi,e)::ls):=⟨λhle=>absurd (db hle) (by rw[hr];simp),r⟩
theorem lks_nw{b:Nat}{o:AObj}(e:zG h b=o)(r:LksOK P k h ls):LksOK P k h ((hi,.nw b o)::ls):=⟨λ_=>e,r⟩
theorem lks_lk(e:LkA P op t v h)(r:LksOK P k h ls):LksOK P k h ((hi,.lk op t v)::ls):=⟨λ_=>e,r⟩
theorem lka_ld1{x:Operand}{b o:Nat}[s:ShC P ty .scal](e:evb l t x = .pointer (some ⟨b,o,none⟩))(c:zD h b o=some v):LkA P (.load ty x) (FA l t) v h:=by
 show qLoad P ty h (ev (FA l t) x)=_;rw [xA,e];exact load_scal s.ok c
theorem lka_ldN{x:Operand}{vs:List Value}{b o sz:Nat}[s:ShC P ty (.agg sz)](e:evb l t x = .pointer (some ⟨b,o,none⟩))(h0:0<sz)(c:Rd h b o sz vs):LkA P (.load ty x) (FA l t) (.agg ⟨vs⟩) h:=by
 show qLoad P ty h (ev (FA l t) x)=_;rw [xA,e];obtain⟨h1,h2⟩:=c.row;exact load_agg s.ok h1 h0 h2
theorem lka_len{x:Operand}{lo0 el ee sz len:Nat}{h0:zB}{vs:List Value}[s:UnC P ty (.slice el)](e:evb l t x=v)(hr:Row lo0 h0 v ee sz len vs):LkA P (.call ⟨.builtin .len,[x].toArray,[ty].toArray⟩) (FA l t) (I64 (len:Nat)) h:=by
 show quietB P .len [ty] [ev (FA l t) x] h=_;rw [xA,e];exact len_rw hr
end
end
end
section
section
variable {P:Program} {ng:Nat}
def lvQ(P:Program)(ng:Nat)(mode:Option zK)(fn:Func)(u:Option zK)(Q:Out->zB->Nat->Prop)(t:Fr)(w:W):Prop:=(loS P ng).leave fn mode t w (λo u' h' n'=>wE (u'=u/\Q o h' n'))=true
def Def(P:Program)(ng:Nat)(g:FuncId)(args:List Value)(u0:Option zK)(h:zB)(n:Nat)(Q:Option zK->zB->Nat->Prop):Prop:=∃v u' h' n',Q u' h' n'/\CallTo P ng g args true u0 h n (.ret v) u' h' n'
section
variable {fn:Func} {u:Option zK} {Q:Out->zB->Nat->Prop} {l:List (Nat×Value)} {t:Fr} {h:zB} {n:Nat} {ds:List Deferred}
instance {D:Deferred}:Stp (retQ P ng fn u Q .ret t ⟨D::ds,u,h,n⟩) (lvQ P ng none fn u Q t ⟨D::ds,u,h,n⟩):=⟨id⟩
instance {D:Deferred}:Stp (retQ P ng fn u Q .normal t ⟨D::ds,u,h,n⟩) (lvQ P ng none fn u Q t ⟨D::ds,u,h,n⟩):=⟨id⟩
instance {D:Deferred} {c:zK}:Stp (retQ P ng fn u Q (.panic c) t ⟨D::ds,u,h,n⟩) (lvQ P ng (some c) fn u Q t ⟨D::ds,u,h,n⟩):=⟨id⟩
instance [Fit P ng]:Stp (lvQ P ng none fn u Q (FA l t) ⟨[],u,h,n⟩) (Ob (Wh fn.results.toList) λrs=>Ob (Rs P l t h rs) λvs=>Ob (Wh (sD vs)) λv=>Q (.ret v) h n):=⟨ret_of⟩
instance [Fit P ng] {c:zK}:Stp (lvQ P ng (some c) fn u Q t ⟨[],u,h,n⟩) (Q (.panic c) h n):=⟨λq=>leave_of (isSo_iff.2 ⟨rfl,q⟩)⟩
def Clt(h:zB)(r:Nat):Prop:=zG h r = .deferred true
instance [Fit P ng] {mode:Option zK} {r:Nat} {asz:Array Value}:Stp (lvQ P ng mode fn u Q t ⟨⟨.collected r,asz⟩::ds,u,h,n⟩) (Ob1 (Clt h r) <| lvQ P ng mode fn u Q t ⟨ds,u,hal h r (.deferred false),n⟩):=⟨λ⟨h1,h2⟩=>leave_of (by
 show(match zG h r with
  | .deferred true=>h.setK .dead (.deferred false) r λh=>(loS P ng).leave fn mode t ⟨ds,u,h,n⟩ _
  | _=>false)=true
 rw[show zG h r = .deferred true from h1];dsimp only;rw [Tr.setK_eq];exact h2)⟩
theorem lv_none[Fit P ng]{g:FuncId}{cap args:List Value}{R:zB->Nat->Prop}(c:Def P ng g (args++cap) none h n λu' h' n'=>u'=none/\R h' n')(k:∀h' n',R h' n'->lvQ P ng none fn u Q t ⟨ds,u,h',n'⟩):lvQ P ng none fn u Q t ⟨⟨.fn (.func g) ⟨cap⟩,⟨args⟩⟩::ds,u,h,n⟩:=leave_of (by
 obtain⟨v,u',h',n',⟨rfl,r⟩,hc⟩:=c;exact loS_call.2 ⟨.ret v,none,h',n',(by exact k h' n' r),hc⟩)
theorem rN[Fit P ng]{g:FuncId}{cap args:List Value}{ch:zK}{x:Value}{R:zB->Nat->Prop}(c:Def P ng g (args++cap) (some ch) h n λu' h' n'=>u'=some [⟨x,true,false⟩]/\R h' n')(k:∀h' n',R h' n'->lvQ P ng none fn u Q t ⟨ds,u,h',n'⟩):lvQ P ng (some ch) fn u Q t ⟨⟨.fn (.func g) ⟨cap⟩,⟨args⟩⟩::ds,u,h,n⟩:=leave_of (by
 obtain⟨v,u',h',n',⟨rfl,r⟩,hc⟩:=c;exact loS_call.2 ⟨.ret v,_,h',n',(by exact k h' n' r),hc⟩)
end
def dfQ(P:Program)(ng:Nat)(fn:Func)(Q:Out->Option zK->zB->Nat->Prop):QX:=λx t w=>match x with
 | .normal=>(loS P ng).leave fn none t w (λo u' h' n'=>wE (Q o u' h' n'))=true
 | .ret=>(loS P ng).leave fn none t w (λo u' h' n'=>wE (Q o u' h' n'))=true
 | .panic c=>(loS P ng).leave fn (some c) t w (λo u' h' n'=>wE (Q o u' h' n'))=true
 | _=>False
theorem entD[Fit P ng]{f:FuncId}{fn:Func}[b:BoC P f fn]{c:Code}{args:List Value}{u:Option zK}{h:zB}{n:Nat}{Q:Option zK->zB->Nat->Prop}
(k:WC P ng c ⟨f,none,true⟩ (FA (arl 0 args []) .lF) ⟨[],u,h,n⟩ (dfQ P ng fn λo u' h' n'=>∃v,o = .ret v/\Q u' h' n'))(hc:fn.body=some c:=by exact rfl)(hl:Nat.ble args.length fn.ntmps=true:=by exact rfl):Def P ng f args u h n Q:=by
 have hx:xcall P (loS P ng) f args true u h n (λo u' h' n'=>wE (∃v,o = .ret v/\Q u' h' n'))=true:=by
  unfold xcall;rw [b.ok c hc]
  show(Bool.rec false (args0 fr0 0 args λt=>
   (loS P ng).code c ⟨f,none,true⟩ t ⟨[],u,h,n⟩ λx t w=>AX.rec ((loS P ng).leave fn none t w (λo u' h' n'=>wE (∃v,o = .ret v/\Q u' h' n'))) (λ_=>false) (λ_=>false) ((loS P ng).leave fn none t w (λo u' h' n'=>wE (∃v,o = .ret v/\Q u' h' n'))) (λc=>(loS P ng).leave fn (some c) t w (λo u' h' n'=>wE (∃v,o = .ret v/\Q u' h' n'))) x) (Nat.ble args.length fn.ntmps):Bool)=true
  rw[hl,args0_eq,show fr0=FA [] .lF from rfl,arl_FA];obtain⟨x,t',w',q,r⟩:=k;refine loS_code.2 ⟨x,t',w',?_,r⟩
  cases x with
  | normal=>exact q
  | exit i=>exact q.elim
  | goto i=>exact q.elim
  | ret=>exact q
  | panic c=>exact q
 obtain⟨o,u',h',n',q,r⟩:=xcall_ok (Fit.ok) sJ hx;obtain⟨v,e,q2⟩:=isSo_iff.1 q;subst e;exact⟨v,u',h',n',q2,r⟩
theorem df_ret[Fit P ng]{fn:Func}{u:Option zK}{Q:Out->Option zK->zB->Nat->Prop}{l:List (Nat×Value)}{t:Fr}{h:zB}{n:Nat}(k:Ob (Wh fn.results.toList) λrs=>Ob (Rs P l t h rs) λvs=>Ob (Wh (sD vs)) λv=>Q (.ret v) u h n) :
 (loS P ng).leave fn none (FA l t) ⟨[],u,h,n⟩ (λo u' h' n'=>wE (Q o u' h' n'))=true:=by
 obtain⟨rs,e1,vs,e2,v,e3,q⟩:=k;refine leave_of ?_
 show(match xB P (FA l t) h fn.results.toList with
  | some l=>xU (sD l) λv=>wE (Q (.ret v) u h n)
  | none=>false)=true
 rw[show fn.results.toList=rs from e1,e2.eq];show xU (sD vs) _=true;rw [yN,show sD vs=v from e3];exact isSo_iff.2 q
instance [Fit P ng] {fn:Func} {u:Option zK} {Q:Out->Option zK->zB->Nat->Prop} {l:List (Nat×Value)} {t:Fr} {h:zB} {n:Nat}:Stp (dfQ P ng fn Q .ret (FA l t) ⟨[],u,h,n⟩) (Ob (Wh fn.results.toList) λrs=>Ob (Rs P l t h rs) λvs=>Ob (Wh (sD vs)) λv=>Q (.ret v) u h n):=⟨df_ret⟩
instance [Fit P ng] {fn:Func} {u:Option zK} {Q:Out->Option zK->zB->Nat->Prop} {l:List (Nat×Value)} {t:Fr} {h:zB} {n:Nat}:Stp (dfQ P ng fn Q .normal (FA l t) ⟨[],u,h,n⟩) (Ob (Wh fn.results.toList) λrs=>Ob (Rs P l t h rs) λvs=>Ob (Wh (sD vs)) λv=>Q (.ret v) u h n):=⟨df_ret⟩
section
variable {f:FuncId} {tys:List Nat} {asz:List Value} {d:List Deferred} {u:Option zK} {h:zB} {n:Nat} {K:W->Value->Prop}
instance {v:Value} {older:zK}:Stp (BuB P ⟨f,none,true⟩ .recover tys asz d (some (⟨v,false,false⟩::older)) h n K) (K ⟨d,some (⟨v,true,false⟩::older),h,n⟩ v):=⟨λq=>isSo_iff.2 q⟩
instance:Stp (BuB P ⟨f,none,true⟩ .recover tys asz d none h n K) (K ⟨d,none,h,n⟩ .nilIface):=⟨λq=>isSo_iff.2 q⟩
end
noncomputable def ifB(P:Program)(ty:Nat):Bool:=match und P ty with
  | some (.interface _)=>true
  | _=>false
 class IfC (P:Program) (ty:Nat):Prop where ok:ifB P ty=true
theorem IfC.get{ty:Nat}(s:IfC P ty):∃m,und P ty=some (.interface m):=by
 have h:=s.ok;unfold ifB at h;split at h
 . rename_i m e;exact⟨m,e⟩
 . cases h
theorem bn_if1{ty t0:Nat}[s:IfC P ty]{ox oy:Operand}{v:Value}:Bn P .neq ty ox oy (.iface t0 v) .nilIface (.bool true):=by
 obtain⟨m,e⟩:=s.get
 show(match BinOp.neq,und P ty with
  | .eql,some d=>cond (zV ox oy (.iface t0 v) .nilIface) ((vQ d (.iface t0 v) .nilIface).map Value.bool) none
  | .neq,some d=>cond (zV ox oy (.iface t0 v) .nilIface) ((vQ d (.iface t0 v) .nilIface).map λb=>Value.bool (!b)) none
  | _,_=>none:Option Value)=_
 rw[e];rfl
theorem bn_if0{ty:Nat}[s:IfC P ty]{ox:Operand}{v:Value}:Bn P .neq ty ox (.const v) .nilIface .nilIface (.bool false):=by
 obtain⟨m,e⟩:=s.get
 show(match BinOp.neq,und P ty with
  | .eql,some d=>cond (zV ox (.const v) .nilIface .nilIface) ((vQ d .nilIface .nilIface).map Value.bool) none
  | .neq,some d=>cond (zV ox (.const v) .nilIface .nilIface) ((vQ d .nilIface .nilIface).map λb=>Value.bool (!b)) none
  | _,_=>none:Option Value)=_
 rw[e];show cond (isConst ox || isConst (.const v)) _ none=_;cases isConst ox <;> rfl
theorem tya_hit{t0:Nat}[s:PlC P t0]{v:Value}:wO P (.iface t0 v) t0 true=some (.tuple ⟨[v,.bool true]⟩):=by
 obtain⟨d,e,hp⟩:=s.get;unfold wO;rw [e];cases d <;> first|(cases hp;done)|(dsimp only;rw [aR];rfl)
noncomputable def LoO(st:LoopState)(pend:Option Code)(fn:FuncId)(params:Array Tmp)(assign body:Code)(D:Nat)(t:Fr):AObj:=.loop { state:=st,pending:=pend,fn,tmps:= #[],params,assign,body,defers:=D } t
def rgQ(P:Program)(ng:Nat)(L:Nat)(fn:FuncId)(params:Array Tmp)(assign body:Code)(D:Nat)(cx:Cx)(t:Fr)(d:List Deferred)(u:Option zK)(Q:QX):Out->zB->Nat->Prop:=λo h n=>match o with
 | .ret _=>(zG h L=LoO .ready none fn params assign body D t/\Q .normal t ⟨d,u,hal h L (LoO .exhausted none fn params assign body D t),n⟩)\/(∃j,zG h L=LoO .done (some j) fn params assign body D t/\WC P ng j cx t ⟨d,u,hal h L (LoO .exhausted (some j) fn params assign body D t),n⟩ Q)
 | .panic c=>Q (.panic c) t ⟨d,u,h,n⟩
theorem rg_inv{L:Nat}{fn:FuncId}{params:Array Tmp}{assign body:Code}{D:Nat}{cx:Cx}{t:Fr}{d:List Deferred}{u:Option zK}{Q:QX}{fv:Value}{g:FuncId}{fs cs:List Value}{h:zB}{n:Nat}(hf:fv = .func (.func g) ⟨fs⟩ ⟨cs⟩)
(k:CallB P ng g (fs++(.func (.yield L) #[] #[]::cs)) h n (rgQ P ng L fn params assign body D cx t d u Q)) :
 xinvoke (loS P ng) fv [.func (.yield L) #[] #[]] h n
  (λ_ h2 n2=>match zG h2 L with
   | .loop l t0 => match l.state with
    | .busy=>false
    | _=>h2.setK .dead (.loop { l with state:=.exhausted } t0) L λh3=>match l.pending with
     | none=>soK Q .normal t ⟨d,u,h3,n2⟩
     | some j=>(loS P ng).code j cx t ⟨d,u,h3,n2⟩ (soK Q)
   | _=>false)
  (λc h2 n2=>soK Q (.panic c) t ⟨d,u,h2,n2⟩)=true:=by
 subst hf;obtain⟨o,u',h',n',q,r⟩:=loS_call.1 k;refine loS_call.2 ⟨o,u',h',n',?_,r⟩;have q:=isSo_iff.1 q
 cases o with
 | panic c=>exact isSo_iff.2 q
 | ret v=>
  rcases q with⟨e,q⟩|⟨j,e,q⟩
  . show(match zG h' L with
     | .loop l t0 => match l.state with
      | .busy=>false
      | _=>h'.setK .dead (.loop { l with state:=.exhausted } t0) L λh3=>match l.pending with
       | none=>soK Q .normal t ⟨d,u,h3,n'⟩
       | some j=>(loS P ng).code j cx t ⟨d,u,h3,n'⟩ (soK Q)
     | _=>false)=true
    rw[e];show h'.setK .dead _ L _=true;rw [Tr.setK_eq];exact isSo_iff.2 q
  . show(match zG h' L with
     | .loop l t0 => match l.state with
      | .busy=>false
      | _=>h'.setK .dead (.loop { l with state:=.exhausted } t0) L λh3=>match l.pending with
       | none=>soK Q .normal t ⟨d,u,h3,n'⟩
       | some j=>(loS P ng).code j cx t ⟨d,u,h3,n'⟩ (soK Q)
     | _=>false)=true
    rw[e];show h'.setK .dead _ L _=true;rw [Tr.setK_eq];exact WC.lo.2 q
theorem wc_rg0[Fit P ng]{f:Operand}{params:Array Tmp}{assign body:Code}{fn:FuncId}{df:Bool}{l:List (Nat×Value)}{t:Fr}{d:List Deferred}{u:Option zK}{h:zB}{n:Nat}{Q:QX}{g:FuncId}{fs cs:List Value}(hf:evb l t f = .func (.func g) ⟨fs⟩ ⟨cs⟩)
(k:CallB P ng g (fs++(.func (.yield (n+1)) #[] #[]::cs)) (hal (hal h n (.deferred true)) (n+1) (LoO .ready none fn params assign body n (FA l t))) (n+2) (rgQ P ng (n+1) fn params assign body n ⟨fn,none,df⟩ (FA l t) ({ target:=.collected n,args:= #[] }::d) u Q)) :
 WC P ng (.rangeFunc f params assign body) ⟨fn,none,df⟩ (FA l t) ⟨d,u,h,n⟩ Q:=by
 refine wc_of ?_;show yD h n (.deferred true) (λh' n'=>xrange (loS P ng) f params assign body ⟨fn,none,df⟩ (FA l t) ({ target:=.collected n,args:= #[] }::d) u h' n' n (soK Q))=true;rw [wA];unfold xrange;rw [wA,xA];exact rg_inv hf k
theorem wc_rg1[Fit P ng]{f:Operand}{params:Array Tmp}{assign body:Code}{fn:FuncId}{df:Bool}{l:List (Nat×Value)}{t t0:Fr}{d:List Deferred}{u:Option zK}{h:zB}{n L0 D:Nat}{Q:QX}{g:FuncId}{fs cs:List Value}{st:LoopState}{pe:Option Code}{fn0:FuncId}{pa:Array Tmp}{asz bo:Code}(hL:zG h L0=LoO st pe fn0 pa asz bo D t0)(hf:evb l t f = .func (.func g) ⟨fs⟩ ⟨cs⟩)
(k:CallB P ng g (fs++(.func (.yield n) #[] #[]::cs)) (hal h n (LoO .ready none fn params assign body D (FA l t))) (n+1) (rgQ P ng n fn params assign body D ⟨fn,some L0,df⟩ (FA l t) d u Q)) :
 WC P ng (.rangeFunc f params assign body) ⟨fn,some L0,df⟩ (FA l t) ⟨d,u,h,n⟩ Q:=by
 refine wc_of ?_
 show(match zG h L0 with
  | .loop ll _=>xrange (loS P ng) f params assign body ⟨fn,some L0,df⟩ (FA l t) d u h n ll.defers (soK Q)
  | _=>false)=true
 rw[hL];show xrange (loS P ng) f params assign body ⟨fn,some L0,df⟩ (FA l t) d u h n D (soK Q)=true;unfold xrange;rw [wA,xA];exact rg_inv hf k
def Rou(P:Program)(ng:Nat)(L:Nat)(args:List Value)(h:zB)(n:Nat)(Q:Out->zB->Nat->Prop):Prop:=∃o h' n',Q o h' n'/\RoundTo P ng L args h n o h' n'
theorem Rou.mono{L:Nat}{args:List Value}{h:zB}{n:Nat}{Q Q':Out->zB->Nat->Prop}(r:Rou P ng L args h n Q)(hq:∀o h' n',Q o h' n'->Q' o h' n'):Rou P ng L args h n Q':=by
 obtain⟨o,h',n',q,r⟩:=r;exact⟨o,h',n',hq _ _ _ q,r⟩
theorem qA{L:Nat}{fs cs asz:List Value}{h:zB}{n:Nat}{d:List Deferred}{u:Option zK}{K:W->Value->Prop}{Kp:zK->W->Prop}(r:Rou P ng L (fs++asz) h n (calQ d u K Kp)):InvB P ng (.func (.yield L) ⟨fs⟩ ⟨cs⟩) asz h n d u K Kp:=by
 obtain⟨o,h',n',q,r⟩:=r;refine loS_round.2 ⟨o,h',n',?_,r⟩
 cases o with
 | ret v=>exact isSo_iff.2 q
 | panic c=>exact isSo_iff.2 q
def parl:List Tmp->List Value->List (Nat×Value)->List (Nat×Value)
 | i::is,v::vs,acc=>parl is vs ((i,v)::acc)
 | _,_,acc=>acc
def bdQ(L:Nat)(fn:FuncId)(params:Array Tmp)(assign body:Code)(D:Nat)(t:Fr)(Q:Out->zB->Nat->Prop):QX:=λx _ w=>w.d=[]/\match x with
 | .normal=>zG w.h L=LoO .busy none fn params assign body D t/\Q (.ret (.bool true)) (hal w.h L (LoO .ready none fn params assign body D t)) w.n
 | .ret=>zG w.h L=LoO .busy none fn params assign body D t/\Q (.ret (.bool false)) (hal w.h L (LoO .done (some .ret) fn params assign body D t)) w.n
 | .exit i=>zG w.h L=LoO .busy none fn params assign body D t/\Q (.ret (.bool false)) (hal w.h L (LoO .done (some (.exit i)) fn params assign body D t)) w.n
 | .goto _=>False
 | .panic c=>Q (.panic c) w.h w.n
def asQ(P:Program)(ng:Nat)(L:Nat)(fn:FuncId)(params:Array Tmp)(assign body:Code)(D:Nat)(t:Fr)(Q:Out->zB->Nat->Prop):QX:=λx t' w=>match x with
 | .normal=>zG w.h L=LoO .ready none fn params assign body D t/\WC P ng body ⟨fn,some L,false⟩ t' ⟨w.d,w.u,hal w.h L (LoO .busy none fn params assign body D t),w.n⟩ (bdQ L fn params assign body D t Q)
 | _=>False
theorem setP_par:∀{is:List Tmp} {vs:List Value} {acc:List (Nat×Value)} {t:Fr} {k:Fr->Bool},is.length=vs.length->sE (FA acc t) is vs k=k (FA (parl is vs acc) t):=by
 intro is
 induction is with
 | nil=>intro vs acc t k hl;cases vs with
  | nil=>rfl
  | cons v vs=>cases hl
 | cons i is ih => intro vs acc t k hl; cases vs with
  | nil=>cases hl
  | cons v vs=>
   show xU v (λv=>fsetK (FA acc t) i v λt'=>sE t' is vs k)=_;rw [yN,fset_FA,ih (by simpa using hl)];rfl
theorem rou[Fit P ng]{L:Nat}{fn:FuncId}{ps:List Tmp}{assign body:Code}{D:Nat}{l:List (Nat×Value)}{t:Fr}{args:List Value}{h:zB}{n:Nat}{Q:Out->zB->Nat->Prop}(hL:zG h L=LoO .ready none fn ps.toArray assign body D (FA l t))(hl:ps.length=args.length)
(k:WC P ng assign ⟨fn,some L,false⟩ (FA (parl ps args l) t) ⟨[],none,h,n⟩ (asQ P ng L fn ps.toArray assign body D (FA l t) Q)):Rou P ng L args h n Q:=by
 have hx:xround (loS P ng) L args h n (λo h' n'=>wE (Q o h' n'))=true:=by
  unfold xround;rw [hL];show sE (FA l t) ps.toArray.toList args _=true;rw [show ps.toArray.toList=ps from rfl,setP_par hl];obtain⟨x,t',w',q,r⟩:=k;refine loS_code.2 ⟨x,t',w',?_,r⟩
  cases x with
  | normal =>
   obtain⟨e,x2,t2,w2,q2,r2⟩:=q;obtain⟨d',u',h',n'⟩:=w';dsimp only at e q2 r2 ⊢;rw [e];show h'.setK .dead _ L _=true;rw [Tr.setK_eq];refine loS_code.2 ⟨x2,t2,w2,?_,r2⟩;obtain⟨d2,u2,h2,n2⟩:=w2;obtain⟨hd,q2⟩:=q2;dsimp only at hd;subst hd
   have fin:∀(j:Option Code) (st:LoopState) (b:Bool),(st=match j with|none=>.ready|some _=>.done)->(b=match j with|none=>true|some _=>false)->zG h2 L=LoO .busy none fn ps.toArray assign body D (FA l t)->
    Q (.ret (.bool b)) (hal h2 L (LoO st j fn ps.toArray assign body D (FA l t))) n2->endRound L j h2 n2 (λo h' n'=>wE (Q o h' n'))=true:=λj st b e1 e2 e3 e4=>by
    unfold endRound;rw [e3];show h2.setK .dead _ L _=true;rw [Tr.setK_eq];subst e1 e2;exact isSo_iff.2 e4
   cases x2 with
   | normal=>exact fin none .ready true rfl rfl q2.1 q2.2
   | exit i=>exact fin (some (.exit i)) .done false rfl rfl q2.1 q2.2
   | goto i=>exact q2.elim
   | ret=>exact fin (some .ret) .done false rfl rfl q2.1 q2.2
   | panic c=>exact isSo_iff.2 q2
  | exit i=>exact q.elim
  | goto i=>exact q.elim
  | ret=>exact q.elim
  | panic c=>exact q.elim
 obtain⟨o,h',n',q,r⟩:=xround_ok (Fit.ok) sJ hx;exact⟨o,h',n',isSo_iff.1 q,r⟩
section
variable {L:Nat} {fn:FuncId} {ps:Array Tmp} {assign body:Code} {D:Nat} {t t':Fr} {Q:Out->zB->Nat->Prop} {u:Option zK} {h:zB} {n:Nat} {d:List Deferred}
def ObE(h:zB)(L:Nat)(o:AObj):Prop:=zG h L=o
instance:Stp (asQ P ng L fn ps assign body D t Q .normal t' ⟨d,u,h,n⟩) (Ob1 (ObE h L (LoO .ready none fn ps assign body D t)) <| WC P ng body ⟨fn,some L,false⟩ t' ⟨d,u,hal h L (LoO .busy none fn ps assign body D t),n⟩ (bdQ L fn ps assign body D t Q)):=⟨λ⟨h1,h2⟩=>⟨h1,h2⟩⟩
instance:Stp (bdQ L fn ps assign body D t Q .normal t' ⟨[],u,h,n⟩) (Ob1 (ObE h L (LoO .busy none fn ps assign body D t)) <| Q (.ret (.bool true)) (hal h L (LoO .ready none fn ps assign body D t)) n):=⟨λ⟨h1,h2⟩=>⟨rfl,h1,h2⟩⟩
instance:Stp (bdQ L fn ps assign body D t Q .ret t' ⟨[],u,h,n⟩) (Ob1 (ObE h L (LoO .busy none fn ps assign body D t)) <| Q (.ret (.bool false)) (hal h L (LoO .done (some .ret) fn ps assign body D t)) n):=⟨λ⟨h1,h2⟩=>⟨rfl,h1,h2⟩⟩
instance {i:Nat}:Stp (bdQ L fn ps assign body D t Q (.exit i) t' ⟨[],u,h,n⟩) (Ob1 (ObE h L (LoO .busy none fn ps assign body D t)) <| Q (.ret (.bool false)) (hal h L (LoO .done (some (.exit i)) fn ps assign body D t)) n):=⟨λ⟨h1,h2⟩=>⟨rfl,h1,h2⟩⟩
instance {c:zK}:Stp (bdQ L fn ps assign body D t Q (.panic c) t' ⟨[],u,h,n⟩) (Q (.panic c) h n):=⟨λh2=>⟨rfl,h2⟩⟩
end
end
theorem xO{h:zB}{L:Nat}{o:AObj}:zG (hal h L o) L=o:=by rw[zO,if_pos rfl]
theorem obe_hal{h:zB}{L n:Nat}{o o':AObj}(hn:L≠n)(e:zG h L=o):zG (hal h n o') L=o:=by rw[zO,if_neg λe=>hn e.symm];exact e
theorem obe_hst{h:zB}{L a off:Nat}{ws:List Value}{o:AObj}(hn:L≠a)(e:zG h L=o):zG (hst h a off ws) L=o:=by rw[zX,if_neg λe=>hn e.symm];exact e
theorem obe_tch{S:List Nat}{h h':zB}{n n' L:Nat}{o:AObj}(t:Tch S h n h' n')(hb:L<n)(hS:L∉S)(e:zG h L=o):zG h' L=o:=by rw[t.2 L hb hS];exact e
end
section
 class BdC (P:Program) (ty:Nat) (ps:List (Nat×Value)) (cs:outParam (List Value)):Prop where ok:aBuild P ty ps=some (.agg ⟨cs⟩)
 class BsC (P:Program) (ty len:Nat) (ps:List (Nat×Value)) (cs:outParam (List Value)):Prop where ok:wP P ty len ps=some (mkC cs 0 0)
theorem bd_c{P:Program}{ty:Nat}{ps:List (Nat×Value)}{cs:List Value}[s:BdC P ty ps cs]:aBuild P ty ps=some (.agg ⟨cs⟩):=s.ok
theorem bs_c{P:Program}{ty len:Nat}{ps:List (Nat×Value)}{cs:List Value}[s:BsC P ty len ps cs]:wP P ty len ps=some (mkC cs 0 0):=s.ok
 class BnC (P:Program) (op:BinOp) (ty:Nat) (x y:Value) (z:outParam Value):Prop where ok:∀ox oy,Bn P op ty ox oy x y z
theorem bn_c{P:Program}{op:BinOp}{ty:Nat}{x y z:Value}{ox oy:Operand}[s:BnC P op ty x y z]:Bn P op ty ox oy x y z:=s.ok ox oy
theorem Row.sl{lo:Nat}{h:zB}{v:Value}{e sz len:Nat}{vs:List Value}(r:Row lo h v e sz len vs):∃p c,v = .slice p len c:=by
 rcases r with⟨rfl,rfl,rfl⟩|⟨b,off,cap,m,z,kd,_,rfl,_⟩
 . exact⟨_,_,rfl⟩
 . exact⟨_,_,rfl⟩
theorem Own.sl{lo n:Nat}{h:zB}{v:Value}{e sz len:Nat}{vs:List Value}(r:Own lo n h v e sz len vs):∃p c,v = .slice p len c:=by
 rcases r with⟨rfl,rfl,_⟩|⟨b,_,_,rfl,_⟩
 . exact⟨_,_,rfl⟩
 . exact⟨_,_,rfl⟩
end
end Go.Ex
