/- What the law leans on: an executor of the model that is sound, deduction over it, and the walks through the code (part 9 of 13). Conditions: those that each theorem states. -/
import Derived.Test.YtcmohelnoldfbaaGreatInterCallsx8

set_option linter.unusedVariables false
set_option linter.unusedSimpArgs false
namespace Go.Ex
theorem TmR.same{ρ : Inj}{N:Nat}{t t2:Fr}{ts:Array Value}(h:∀i,fget t2 i=fget t i)(r:TmR ρ N t ts):TmR ρ N t2 ts:=⟨r.sz,fun i v e=>by rw[h i];exact r.tm i v e⟩
section
variable {P:Program} {ng:Nat}
theorem CodeTo.pre{c:Code}{cx:Cx}{t t2 t':Fr}{w w':W}{x:AX}(h:∀i,fget t2 i=fget t i)(r:CodeTo P ng c cx t2 w x t' w'):CodeTo P ng c cx t w x t' w':=fun hc b k ρ base w0 a wd cs hI=>
 r hc b k ρ base w0 a wd cs ⟨hI.fn,hI.kind,hI.rd,hI.rdf,hI.tm.same h,hI.hp,hI.dr,hI.ur,hI.fnd⟩
theorem WC.pre{c:Code}{cx:Cx}{t t2:Fr}{w:W}{Q:QX}(h:∀i,fget t2 i=fget t i)(r:WC P ng c cx t2 w Q):WC P ng c cx t w Q:=by
 obtain⟨x,t',w',q,r⟩:=r;exact⟨x,t',w',q,r.pre h⟩
def Slots(l:List (Nat×Value))(t:Fr):List (Nat×Value)→Prop
 | []=>True
 | p::r=>lk l t p.1=p.2∧Slots l t r
theorem Slots.lk{l:List (Nat×Value)}{t:Fr}:∀{s:List (Nat×Value)},Slots l t s→∀i,Go.Ex.lk s (FA l t) i=Go.Ex.lk l t i:=by
 intro s
 induction s with
 | nil=>intro _ i;exact fget_FA l t i
 | cons p r ih=>
  rintro ⟨h1,h2⟩ i
  show(bif Nat.beq p.1 i then p.2 else Go.Ex.lk r (FA l t) i)=_
  cases e:Nat.beq p.1 i with
  | true=>rw [← zD e,h1];rfl
  | false=>exact ih h2 i
theorem Slots.fget{l s:List (Nat×Value)}{t:Fr}(h:Slots l t s):∀i,fget (FA s (FA l t)) i=Go.Ex.fget (FA l t) i:=fun i=>by rw[fget_FA,fget_FA,h.lk]
def Rnd{α : Type}(l:List (Nat×Value))(t:Fr)(I: α→List (Nat×Value))(J: α→zB→Nat→Prop)(m: α→Nat)(a: α)(h:zB)(n:Nat):Prop:=∃a',m a'<m a∧Slots l t (I a')∧J a' h n
theorem rnd{α : Type}{l:List (Nat×Value)}{t:Fr}{I: α→List (Nat×Value)}{J: α→zB→Nat→Prop}{m: α→Nat}{a: α}{h:zB}{n:Nat}(a': α)(hJ:J a' h n)(h1:m a'<m a:=by first|omega|(dsimp only;omega))(h2:Slots l t (I a'):=by repeat' first|exact trivial|refine⟨rfl,?_⟩):Rnd l t I J m a h n:=⟨a',h1,h2,hJ⟩
def lpQ{α : Type}(I: α→List (Nat×Value))(J: α→zB→Nat→Prop)(m: α→Nat)(a: α)(d:List Deferred)(u:Option zE)(Q:QX):QX:=fun x t w=>match x with
 | .normal=>∃a',m a'<m a∧(∀i,fget (FA (I a') t) i=fget t i)∧∃h n,w=⟨d,u,h,n⟩∧J a' h n
 | x=>Q x t w
theorem lpR{b:Code}{cx:Cx}{Q:QX}{l:List (Nat×Value)}{t:Fr}{d:List Deferred}{u:Option zE}{h:zB}{n:Nat}{α : Type}(I: α→List (Nat×Value))(J: α→zB→Nat→Prop)(m: α→Nat)(a0: α)(hJ:J a0 h n)
(step:∀a t h n,J a h n→WC P ng b cx (FA (I a) t) ⟨d,u,h,n⟩ (lpQ I J m a d u Q))(h0:Slots l t (I a0):=by repeat' first|exact trivial|refine⟨rfl,?_⟩):WC P ng (.loop b) cx (FA l t) ⟨d,u,h,n⟩ Q:=by
 refine wc_loop (α := α) (fun a t w=>(∀i,fget (FA (I a) t) i=fget t i)∧∃h n,w=⟨d,u,h,n⟩∧J a h n) m ?_ a0 _ _ ⟨h0.fget,h,n,rfl,hJ⟩
 rintro a t w ⟨h1,h,n,rfl,h2⟩
 refine((step a t h n h2).pre h1).mono fun x t' w' q=>?_
 cases x with
 | normal=>exact q
 | exit i=>exact q
 | goto i=>exact q
 | ret=>exact q
 | panic c=>exact q
section
variable {α : Type} {I: α→List (Nat×Value)} {J: α→zB→Nat→Prop} {m: α→Nat} {a: α} {d:List Deferred} {u:Option zE} {Q:QX} {l:List (Nat×Value)} {t:Fr} {h:zB} {n:Nat} {w:W}
instance:Stp (lpQ I J m a d u Q .normal (FA l t) ⟨d,u,h,n⟩) (Rnd l t I J m a h n):=⟨fun⟨a',h1,h2,h3⟩=>⟨a',h1,h2.fget,h,n,rfl,h3⟩⟩
instance {i:Nat}:Stp (lpQ I J m a d u Q (.exit i) t w) (Q (.exit i) t w):=⟨id⟩
instance:Stp (lpQ I J m a d u Q .ret t w) (Q .ret t w):=⟨id⟩
instance {c:zE}:Stp (lpQ I J m a d u Q (.panic c) t w) (Q (.panic c) t w):=⟨id⟩
def cutQ{α : Type}(I: α→List (Nat×Value))(J: α→zB→Nat→Prop)(d:List Deferred)(u:Option zE)(Q:QX):QX:=fun x t w=>match x with
 | .normal=>∃a,(∀i,fget (FA (I a) t) i=fget t i)∧∃h n,w=⟨d,u,h,n⟩∧J a h n
 | x=>Q x t w
def Btw{α : Type}(l:List (Nat×Value))(t:Fr)(I: α→List (Nat×Value))(J: α→zB→Nat→Prop)(h:zB)(n:Nat):Prop:=∃a,Slots l t (I a)∧J a h n
instance:Stp (cutQ I J d u Q .normal (FA l t) ⟨d,u,h,n⟩) (Btw l t I J h n):=⟨fun⟨a',h2,h3⟩=>⟨a',h2.fget,h,n,rfl,h3⟩⟩
instance {i:Nat}:Stp (cutQ I J d u Q (.exit i) t w) (Q (.exit i) t w):=⟨id⟩
instance:Stp (cutQ I J d u Q .ret t w) (Q .ret t w):=⟨id⟩
instance {c:zE}:Stp (cutQ I J d u Q (.panic c) t w) (Q (.panic c) t w):=⟨id⟩
theorem cut{α : Type}{c:Code}{cx:Cx}{Q:QX}{l:List (Nat×Value)}{t:Fr}{d:List Deferred}{u:Option zE}{h:zB}{n:Nat}(I: α→List (Nat×Value))(J: α→zB→Nat→Prop)(first:WC P ng c cx (FA l t) ⟨d,u,h,n⟩ (cutQ I J d u Q))
(rest:∀a t h n,J a h n→Q .normal (FA (I a) t) ⟨d,u,h,n⟩)(hQ:∀(t t2:Fr) (w:W),(∀i,fget t2 i=fget t i)→Q .normal t2 w→Q .normal t w):WC P ng c cx (FA l t) ⟨d,u,h,n⟩ Q:=by
 refine first.mono fun x t' w' q=>?_
 cases x with
 | normal=>
  obtain⟨a,h1,h,n,rfl,h2⟩:=q;exact hQ _ _ _ h1 (rest a t' h n h2)
 | exit i=>exact q
 | goto i=>exact q
 | ret=>exact q
 | panic c=>exact q
end
theorem cat_hal{h:zB}{n b i:Nat}{o:AObj}{v:Value}(hb:b≠n)(c:zJ h b i=some v):zJ (hal h n o) b i=some v:=by unfold zJ;rw [zP,if_neg fun e=>hb e.symm];exact c
theorem cat_hst{h:zB}{a off b i:Nat}{ws:List Value}{v:Value}(hb:b≠a)(c:zJ h b i=some v):zJ (hst h a off ws) b i=some v:=by unfold zJ;rw [wL,if_neg fun e=>hb e.symm];exact c
theorem cat_tch{S:List Nat}{h h':zB}{n n' b i:Nat}{v:Value}(t:Tch S h n h' n')(hb:b<n)(hS:b∉S)(c:zJ h b i=some v):zJ h' b i=some v:=by unfold zJ;rw [t.2 b hb hS];exact c
theorem Tch.le{S:List Nat}{h h':zB}{n n':Nat}(t:Tch S h n h' n'):n≤n':=t.1
theorem Tch.hal{S:List Nat}{h h':zB}{n m:Nat}{o:AObj}(t:Tch S h n h' m):Tch S h n (Go.Ex.hal h' m o) (m+1):=⟨Nat.le_succ_of_le t.1,fun b hb hS=>by rw[zP,if_neg (by have:=t.1;omega)];exact t.2 b hb hS⟩
theorem Tch.upd{S:List Nat}{h h':zB}{n m L:Nat}{o:AObj}(t:Tch S h n h' m)(hL:n≤L∨L∈S):Tch S h n (Go.Ex.hal h' L o) m:=⟨t.1,fun b hb hS=>by
 rw[zP,if_neg (by
  rintro rfl
  rcases hL with h1|h1
  · omega
  · exact hS h1)]
 exact t.2 b hb hS⟩
theorem Tch.hst{S:List Nat}{h h':zB}{n n' a off:Nat}{ws:List Value}(t:Tch S h n h' n')(ha:n≤a∨a∈S):Tch S h n (Go.Ex.hst h' a off ws) n':=⟨t.1,fun b hb hS=>by
 rw[wL,if_neg (by
  rintro rfl
  rcases ha with h1|h1
  · omega
  · exact hS h1)]
 exact t.2 b hb hS⟩
theorem Tch.tch{S S':List Nat}{h h1 h':zB}{n n1 n':Nat}(t':Tch S' h1 n1 h' n')(t:Tch S h n h1 n1)(hs:∀x∈S',n≤x∨x∈S):Tch S h n h' n':=⟨Nat.le_trans t.1 t'.1,fun b hb hS=>by
 rw[t'.2 b (Nat.lt_of_lt_of_le hb t.1) fun hx=>(hs b hx).elim (fun h1=>absurd hb (by omega)) hS];exact t.2 b hb hS⟩
theorem zA{S:List Nat}{h h':zB}{n n':Nat}(t:Tch S h n h' n':=by
 repeat' first
  | with_reducible exact Tch.refl _ _ _
  | with_reducible assumption
  | with_reducible apply Tch.hal
  | with_reducible apply Tch.upd
  | with_reducible apply Tch.hst
  | ((with_reducible apply Tch.tch);(focus (with_reducible assumption)))
  | (left;omega)
  | omega
  | (right;simp;done)
  | (simp;done)
  | (simp;omega)):Tch S h n h' n':=t
def sbk:Value→Nat
 | .slice (some a) _ _=>a.block
 | _=>0
def sof:Value→Nat
 | .slice (some a) _ _=>a.off
 | _=>0
section
variable {lo:Nat} {h:zB} {v:Value} {e sz len:Nat} {vs:List Value}
theorem Row.one(r:Row lo h v e sz len vs):v.oneCell'=true:=by
 rcases r with⟨rfl,_⟩|⟨b,off,cap,m,z,kd,_,rfl,_⟩ <;> rfl
theorem Row.lens(r:Row lo h v e sz len vs):vs.length=len*sz:=by
 rcases r with⟨rfl,rfl,rfl⟩|⟨b,off,cap,m,z,kd,_,rfl,h1,_⟩
 · simp
 · exact h1
theorem Row.low(r:Row lo h v e sz len vs)(h0:0<len):sbk v<lo:=by
 rcases r with⟨rfl,rfl,rfl⟩|⟨b,off,cap,m,z,kd,h1,rfl,_⟩
 · omega
 · exact h1
theorem Row.at(r:Row lo h v e sz len vs){i:Nat}{x:Value}(hi:vs[i]? = some x):zJ h (sbk v) (sof v+i)=some x:=by
 rcases r with⟨rfl,rfl,rfl⟩|⟨b,off,cap,m,z,kd,h1,rfl,_,_,_,h2,_⟩
 · cases hi
 · exact h2 i x hi
theorem len_rw{P:Program}{ty el:Nat}[s:UnC P ty (.slice el)]{h':zB}(r:Row lo h v e sz len vs):Qb P .len [ty] [v] h' (some (I64 (len:Nat))):=by
 rcases r with⟨rfl,rfl,rfl⟩|⟨b,off,cap,m,z,kd,h1,rfl,_⟩
 · exact len_slc
 · exact len_slc
theorem iad_rw{k:IntKind}{i:Nat}(r:Row lo h v e sz len vs)(hi:i<len):Iad sz v (.int k (i:Nat)) (.pointer (some ⟨sbk v,sof v+i*sz,none⟩)):=by
 rcases r with⟨rfl,rfl,rfl⟩|⟨b,off,cap,m,z,kd,h1,rfl,_⟩
 · omega
 · exact⟨b,off,len,cap,k,i,rfl,rfl,hi,rfl⟩
theorem iad_rwI{k:IntKind}{x:Int}(r:Row lo h v e sz len vs)(h0:0≤x)(hi:x<len):Iad sz v (.int k x) (.pointer (some ⟨sbk v,sof v+x.toNat*sz,none⟩)):=by
 obtain⟨i,rfl⟩:=Int.eq_ofNat_of_zero_le h0;exact iad_rw r (by omega)
theorem Row.tch{S:List Nat}{h':zB}{n n':Nat}(r:Row lo h v e sz len vs)(t:Tch S h n h' n')(hl:lo≤n)(hS:∀b,yL v=some b→b∉S):Row lo h' v e sz len vs:=by
 refine r.keep (Nat.le_refl _) fun b hb=>t.2 b ?_ (hS b hb);rcases r with⟨rfl,rfl,rfl⟩|⟨b',off,cap,m,z,kd,h1,rfl,_⟩
 · cases hb
 · injection hb with hb;have hb:b'=b:=hb;omega
theorem Row.up(r:Row lo h v e sz len vs){lo':Nat}(hl:lo≤lo'):Row lo' h v e sz len vs:=r.keep hl fun _ _=>rfl
theorem xX{n:Nat}{cs:List Value}(hl:cs.length=len*sz)(hlt:len<inf):Row (n+1) (hal h n (mkC cs 0 0)) (.slice (some ⟨n,0,none⟩) len len) e sz len cs:=by
 refine .inr ⟨n,0,len,cs.length,0,0,Nat.lt_succ_self _,rfl,hl,?_,by omega,fun j x hj=>?_,.inl ⟨hlt,Nat.le_refl _⟩⟩
 · rw[zP,if_pos rfl];exact infoOf_mkC _ _ _
 · unfold zJ;rw [zP,if_pos rfl,Nat.zero_add];rw [wX];exact hj
end
 class ApC (P:Program) (sT xT:Nat) (e sz:outParam Nat):Prop where ok:apTB P sT xT e sz=true
theorem appO{sT xT e sz:Nat}[A:ApC P sT xT e sz]{cx:Cx}{d:List Deferred}{u:Option zE}{h:zB}{n lo len m:Nat}{v x:Value}{vs new:List Value}{K:W→Value→Prop}(ho:Own lo n h v e sz len vs)(hr:Row n h x e sz m new)(hlo:lo≤n)(h1:One new)(hlim:len+m<1000000)
(k:∀v' h' n',Own lo n' h' v' e sz (len+m) (vs++new)→Tch (yL v).toList h n h' n'→K ⟨d,u,h',n'⟩ v'):BuB P cx .append [sT,xT] [v,x] d u h n K:=by
 have:=append_own (K:=fun h' n' v'=>yV (K ⟨d,u,h',n'⟩ v')) A.ok ho hlo hr hr.lens h1.all hlim fun v' h' n' o a b=>isSo_iff.2 (k v' h' n' o ⟨a,fun b' hb hS=>b b' hb fun e=>hS (by rw[e];simp)⟩);exact this
theorem Own.tch{S:List Nat}{lo n n':Nat}{h h':zB}{v:Value}{e sz len:Nat}{vs:List Value}(r:Own lo n h v e sz len vs)(t:Tch S h n h' n')(hS:∀b,yL v=some b→b∉S):Own lo n' h' v e sz len vs:=by
 refine r.keep t.1 fun b hb=>t.2 b ?_ (hS b hb);rcases r with⟨rfl,_,_⟩|⟨b',_,h1,rfl,_⟩
 · cases hb
 · injection hb with hb;subst hb;exact h1
theorem Own.nil{lo n:Nat}{h:zB}{e sz:Nat}:Own lo n h (.slice none 0 0) e sz 0 []:=.inl ⟨rfl,rfl,rfl⟩
theorem Own.one{lo n:Nat}{h:zB}{v:Value}{e sz len:Nat}{vs:List Value}(r:Own lo n h v e sz len vs):v.oneCell'=true:=by
 rcases r with⟨rfl,_⟩|⟨b,_,_,rfl,_⟩ <;> rfl
theorem Own.blk{lo n:Nat}{h:zB}{v:Value}{e sz len:Nat}{vs:List Value}(r:Own lo n h v e sz len vs){b:Nat}(hb:yL v=some b):lo≤b∧b<n:=by
 rcases r with⟨rfl,_⟩|⟨b',h1,h2,rfl,_⟩
 · cases hb
 · injection hb with hb;subst hb;exact⟨h1,h2⟩
end
end Go.Ex
namespace Go.Ex
noncomputable def regIn(id:Nat):Code→List (Array Oper):=Code.rec (motive:=fun _=>List (Array Oper)) [] (fun i ops dr=>Bool.rec [] (Bool.rec [] [ops] (Nat.beq i id)) dr) (fun _ _ a b=>a++b) (fun _ _ _ a b=>a++b) (fun _ _ a=>a) (fun _ a=>a)
 (fun _ _ _ _ a b=>a++b) (fun _=>[]) (fun _ a=>a) (fun _=>[]) (fun _=>[]) [] (fun _=>[])
noncomputable def regOf(P:Program)(f id:Nat):Array Oper:=Option.rec #[] (fun fb=>List.rec #[] (fun a _ _=>a) (regIn id fb.2)) (bodyOf P f)
noncomputable def dl(ops:Array Oper):List (Nat×Nat×Nat×Bool×List Nat)→List DOp
  | []=>[]
  | x :: r => match ops.toList[x.1]? with
    | some o=>⟨o,x.1,zK o.op,x.2.1,x.2.2.1,x.2.2.2.1,x.2.2.2.2⟩::dl ops r
    | none=>[]
 class DrC (P:Program) (f id:Nat) (tbl:outParam (List (Nat×Nat×Nat×Bool×List Nat))):Prop where ok:plan (regOf P f id)=some (dl (regOf P f id) tbl)
def RgE(P:Program)(f id:Nat)(ops:Array Oper):Prop:=regOf P f id=ops
def NLe(a b:Nat):Prop:=a≤b
def LksOK(P:Program)(hs:List W)(ls:List Look):Prop:=yP P hs.length hs ls=true
theorem quiet_e{op:Op}{P:Program}{t:Fr}{h:zB}(hk:2≤zK op):yO op P t h=none:=by
 cases op <;> first|rfl|(exfalso;have h0:2≤0:=hk;omega)|(exfalso;have h0:2≤1:=hk;omega)|skip
 case call c=>
  obtain⟨callee,args,tys⟩:=c
  cases callee with
  | value f=>rfl
  | invoke a b=>rfl
  | builtin b=>cases b <;> first|rfl|(exfalso;have h0:2≤1:=hk;omega)
theorem eff_q{op:Op}{P:Program}{lo:Lo}{cx:Cx}{t:Fr}{w:W}{k:KV}{kp:KP}(hk:zK op≤1):eff op P lo cx t w k kp=false:=by
 cases op <;> first|rfl|(exfalso;have h0:2≤1:=hk;omega)|(exfalso;have h0:3≤1:=hk;omega)|skip
 case makeMap a b=>cases b <;> first|(exfalso;have h0:2≤1:=hk;omega)|(exfalso;have h0:3≤1:=hk;omega)
 case call c=>
  obtain⟨callee,args,tys⟩:=c
  cases callee with
  | value f=>exfalso;have h0:3≤1:=hk;omega
  | invoke a b=>exfalso;have h0:3≤1:=hk;omega
  | builtin b=>cases b <;> first|rfl|(exfalso;have h0:3≤1:=hk;omega)
section
variable {P:Program} {ng:Nat}
noncomputable def panM(P:Program)(ng:Nat)(cx:Cx)(all:Array Oper)(Q:QX)(m:Bool):DOp→List DOp→Fr→W→List W→List Look→zE→W→Bool:=match m with
 | true=>panD P (loS P ng) cx all (soK Q)
 | false=>fun _ _ _ _ _ _ _ _=>false
def WD(P:Program)(ng:Nat)(m:Bool)(all:Array Oper)(l:List DOp)(cx:Cx)(t:Fr)(w:W)(hs:List W)(ls:List Look)(Q:QX):Prop:=xK P (loS P ng) cx all (panM P ng cx all Q m) l t w hs ls (soK Q)=true
theorem wc_drawn[Fit P ng]{f id:Nat}{rd:Option Nat}{df:Bool}{ops:Array Oper}{tbl:List (Nat×Nat×Nat×Bool×List Nat)}[D:DrC P f id tbl]{t:Fr}{w:W}{Q:QX}(he:RgE P f id ops)(h:WD P ng true ops (dl ops tbl) ⟨f,rd,df⟩ t w [w] [] Q):WC P ng (.region id ops true) ⟨f,rd,df⟩ t w Q:=by
 refine wc_of ?_
 show(match plan ops with
 | some l=>xdraw P (loS P ng) ⟨f,rd,df⟩ ops l t w [w] [] (soK Q)
 | none=>false)=true
 have hp:=D.ok;rw [show regOf P f id=ops from he]at hp;rw [hp];exact h
instance [Fit P ng] {f id:Nat} {rd:Option Nat} {df:Bool} {ops:Array Oper} {tbl:List (Nat×Nat×Nat×Bool×List Nat)} [DrC P f id tbl] {t:Fr} {w:W} {Q:QX} :
 Stp (WC P ng (.region id ops true) ⟨f,rd,df⟩ t w Q) (Ob1 (RgE P f id ops) <| WD P ng true ops (dl ops tbl) ⟨f,rd,df⟩ t w [w] [] Q):=⟨fun⟨h1,h2⟩=>wc_drawn h1 h2⟩
section
variable {all ops:Array Oper} {cx:Cx} {l:List (Nat×Value)} {t:Fr} {w:W} {hs:List W} {ls:List Look} {Q:QX} {r:List DOp} {op:Op} {d:Option Nat} {ty:TypeId} {pos:String} {af:Array Edge} {i lo hi:Nat} {so m:Bool} {un:List Nat} {g:Option (Nat×Bool)}
instance:Stp (WD P ng m all (dl ops []) cx t w hs ls Q) (Ob1 (LksOK P hs ls) <| Q .normal t w):=⟨fun⟨h1,h2⟩=>by
 show(soK Q .normal t w && yP P hs.length hs ls)=true;rw [show yP P hs.length hs ls=true from h1,show soK Q .normal t w=true from isSo_iff.2 h2];rfl⟩
instance {x:Nat×Nat×Nat×Bool×List Nat} {tb:List (Nat×Nat×Nat×Bool×List Nat)}:Stp (WD P ng m all (dl ops (x::tb)) cx t w hs ls Q)
 (Ob (fun o=>Wh (ops.toList[x.1]?) (some o)) fun o=>WD P ng m all (⟨o,x.1,zK o.op,x.2.1,x.2.2.1,x.2.2.2.1,x.2.2.2.2⟩::dl ops tb) cx t w hs ls Q):=⟨fun⟨o,h1,h2⟩=>by
 have:dl ops (x::tb)=⟨o,x.1,zK o.op,x.2.1,x.2.2.1,x.2.2.2.1,x.2.2.2.2⟩::dl ops tb:=by
  show(match ops.toList[x.1]? with
  | some o=>(⟨o,x.1,zK o.op,x.2.1,x.2.2.1,x.2.2.2.1,x.2.2.2.2⟩:DOp)::dl ops tb
  | none=>[])=_
  rw[show ops.toList[x.1]? = some o from h1]
 rw[this];exact h2⟩
def drQ(P:Program)(ng:Nat)(m:Bool)(all:Array Oper)(d:Option Nat)(r:List DOp)(cx:Cx)(l:List (Nat×Value))(t:Fr)(hs:List W)(ls:List Look)(Q:QX)(w:W)(v:Value):Prop:=match d with
 | some i=>WD P ng m all r cx (FA ((i,v)::l) t) w hs ls Q
 | none=>WD P ng m all r cx (FA l t) w hs ls Q
instance {v:Value} {j:Nat}:Stp (drQ P ng m all (some j) r cx l t hs ls Q w v) (WD P ng m all r cx (FA ((j,v)::l) t) w hs ls Q):=⟨id⟩
instance {v:Value}:Stp (drQ P ng m all none r cx l t hs ls Q w v) (WD P ng m all r cx (FA l t) w hs ls Q):=⟨id⟩
theorem drQ_so:(fun(w:W) v=>yV (drQ P ng m all d r cx l t hs ls Q w v))=fun w v=>putT (FA l t) d v fun t=>xK P (loS P ng) cx all (panM P ng cx all Q m) r t w hs ls (soK Q):=by
 funext w v
 cases d with
 | none=>exact isSo_bool _
 | some i=>rw [putT_some,fset_FA];exact isSo_bool _
def lkK(P:Program)(ng:Nat)(m:Bool)(all:Array Oper)(op:Op)(d:Option Nat)(lo hi:Nat)(r:List DOp)(cx:Cx)(l:List (Nat×Value))(t:Fr)(hs:List W)(ls:List Look)(Q:QX)(w:W)(v:Value):Prop:=
 drQ P ng m all d r cx l t hs (cond (Nat.beq lo hi) ls (⟨op,FA l t,v,lo,hi⟩::ls)) Q w v
instance {v:Value}:Stp (lkK P ng m all op d lo hi r cx l t hs ls Q w v) (Ob (Wh (Nat.beq lo hi)) fun z=>Ch z (drQ P ng m all d r cx l t hs ls Q w v) (drQ P ng m all d r cx l t hs (⟨op,FA l t,v,lo,hi⟩::ls) Q w v)):=⟨fun⟨z,h1,h2,h3⟩=>by
 unfold lkK;rw [show Nat.beq lo hi=z from h1]
 cases z with
 | true=>exact h2 rfl
 | false=>exact h3 rfl⟩
def drC(P:Program)(ng:Nat)(m:Bool)(all:Array Oper)(d:Option Nat)(r:List DOp)(cx:Cx)(l:List (Nat×Value))(t:Fr)(n:Nat)(hs:List W)(ls:List Look)(Q:QX)(w:W)(v:Value):Prop:=n≤w.n∧drQ P ng m all d r cx l t (w::hs) ls Q w v
instance {v:Value} {n n2:Nat} {dd:List Deferred} {u:Option zE} {h:zB}:Stp (drC P ng m all d r cx l t n hs ls Q ⟨dd,u,h,n2⟩ v) (Ob1 (NLe n n2) <| drQ P ng m all d r cx l t (⟨dd,u,h,n2⟩::hs) ls Q ⟨dd,u,h,n2⟩ v):=⟨fun⟨h1,h2⟩=>⟨h1,h2⟩⟩
def drP(P:Program)(ng:Nat)(m:Bool)(all:Array Oper)(x:DOp)(r:List DOp)(cx:Cx)(l:List (Nat×Value))(t:Fr)(w:W)(hs:List W)(ls:List Look)(Q:QX)(c:zE)(w':W):Prop:=panM P ng cx all Q m x r (FA l t) w hs ls c w'=true
def dryQ(Q:QX)(c:zE)(t:Fr)(w:W):QX:=fun e _ _=>match e with
 | .normal=>Q (.panic c) t w
 | _=>False
instance {c:zE} {t2:Fr} {w2:W}:Stp (dryQ Q c t w .normal t2 w2) (Q (.panic c) t w):=⟨id⟩
theorem soK_dry{c:zE}{w':W}:(soK (dryQ Q c t w'))=fun e _ _=>match e with | .normal=>soK Q (.panic c) t w'|_=>false:=by
 funext e t2 w2
 cases e with
 | normal=>rfl
 | exit i=>exact Bool.eq_false_iff.2 fun h=>(isSo_iff.1 h).elim
 | goto i=>exact Bool.eq_false_iff.2 fun h=>(isSo_iff.1 h).elim
 | ret=>exact Bool.eq_false_iff.2 fun h=>(isSo_iff.1 h).elim
 | panic c=>exact Bool.eq_false_iff.2 fun h=>(isSo_iff.1 h).elim
instance {o:Oper} {k:Nat} {c:zE} {dd:List Deferred} {u:Option zE} {h:zB} {n:Nat}:Stp (drP P ng true all ⟨o,i,k,lo,hi,so,un⟩ r cx l t w hs ls Q c ⟨dd,u,h,n⟩)
 (Ob (Wh so) fun z=>Ch z (Ob1 (LksOK P hs ls) <| Q (.panic c) (FA l t) ⟨dd,u,h,n⟩) (Ob1 (dd=[]) <| WD P ng false all (dryOf un r) cx (FA l t) w hs ls (dryQ Q c (FA l t) ⟨dd,u,h,n⟩))):=⟨fun⟨z,h1,h2,h3⟩=>by
 show panD P (loS P ng) cx all (soK Q) ⟨o,i,k,lo,hi,so,un⟩ r (FA l t) w hs ls c ⟨dd,u,h,n⟩=true;unfold panD;dsimp only;rw [show so=z from h1]
 cases z with
 | true=>
  obtain⟨h4,h5⟩:=h2 rfl;show cond (yP P hs.length hs ls) (soK Q (.panic c) (FA l t) ⟨dd,u,h,n⟩) false=true;rw [show yP P hs.length hs ls=true from h4];exact isSo_iff.2 h5
 | false=>
  obtain⟨h4,h5⟩:=h3 rfl;subst h4;unfold WD at h5;rw [soK_dry]at h5;exact h5⟩
instance {un:List Nat}:Stp (WD P ng m all (dryOf un (dl ops [])) cx t w hs ls Q) (WD P ng m all (dl ops []) cx t w hs ls Q):=⟨id⟩
instance {un:List Nat} {x:Nat×Nat×Nat×Bool×List Nat} {tb:List (Nat×Nat×Nat×Bool×List Nat)}:Stp (WD P ng m all (dryOf un (dl ops (x::tb))) cx t w hs ls Q)
 (Ob (fun o=>Wh (ops.toList[x.1]?) (some o)) fun o=>Ob (Wh (un.any fun i=>Nat.beq i x.1)) fun z=>Ch z (WD P ng m all (⟨o,x.1,zK o.op,x.2.1,x.2.2.1,x.2.2.2.1,x.2.2.2.2⟩::dryOf un (dl ops tb)) cx t w hs ls Q) (WD P ng m all (dryOf un (dl ops tb)) cx t w hs ls Q)):=⟨fun⟨o,h1,z,h2,h3,h4⟩=>by
 have e:dl ops (x::tb)=⟨o,x.1,zK o.op,x.2.1,x.2.2.1,x.2.2.2.1,x.2.2.2.2⟩::dl ops tb:=by
  show(match ops.toList[x.1]? with
  | some o=>(⟨o,x.1,zK o.op,x.2.1,x.2.2.1,x.2.2.2.1,x.2.2.2.2⟩:DOp)::dl ops tb
  | none=>[])=_
  rw[show ops.toList[x.1]? = some o from h1]
 rw[e];unfold dryOf;rw [List.filter_cons];dsimp only;rw [show(un.any fun i=>Nat.beq i x.1)=z from h2]
 cases z with
 | true=>exact h3 rfl
 | false=>exact h4 rfl⟩
def WK(P:Program)(ng:Nat)(m:Bool)(all:Array Oper)(op:Op)(d:Option Nat)(ty:TypeId)(pos:String)(af:Array Edge)(g:Option (Nat×Bool))(i lo hi:Nat)(so:Bool)(un:List Nat)(r:List DOp)(cx:Cx)(l:List (Nat×Value))(t:Fr)(w:W)(hs:List W)(ls:List Look)(Q:QX):Nat→Prop
 | 0=>OpB P ng op cx (FA l t) w (drQ P ng m all d r cx l t hs ls Q) fun _ _=>False
 | 1=>OpB P ng op cx (FA l t) w (lkK P ng m all op d lo hi r cx l t hs ls Q) fun _ _=>False
 | 2=>OpB P ng op cx (FA l t) w (drQ P ng m all d r cx l t hs ls Q) fun _ _=>False
 | _=>OpB P ng op cx (FA l t) w (drC P ng m all d r cx l t w.n hs ls Q) (drP P ng m all ⟨⟨d,op,ty,pos,af,g⟩,i,zK op,lo,hi,so,un⟩ r cx l t w hs ls Q)
instance:Stp (WK P ng m all op d ty pos af g i lo hi so un r cx l t w hs ls Q 0) (OpB P ng op cx (FA l t) w (drQ P ng m all d r cx l t hs ls Q) fun _ _=>False):=⟨id⟩
instance:Stp (WK P ng m all op d ty pos af g i lo hi so un r cx l t w hs ls Q 1) (OpB P ng op cx (FA l t) w (lkK P ng m all op d lo hi r cx l t hs ls Q) fun _ _=>False):=⟨id⟩
instance:Stp (WK P ng m all op d ty pos af g i lo hi so un r cx l t w hs ls Q 2) (OpB P ng op cx (FA l t) w (drQ P ng m all d r cx l t hs ls Q) fun _ _=>False):=⟨id⟩
instance {dd:List Deferred} {u:Option zE} {h:zB} {n:Nat}:Stp (WK P ng m all op d ty pos af g i lo hi so un r cx l t ⟨dd,u,h,n⟩ hs ls Q 3) (OpB P ng op cx (FA l t) ⟨dd,u,h,n⟩ (drC P ng m all d r cx l t n hs ls Q) (drP P ng m all ⟨⟨d,op,ty,pos,af,g⟩,i,zK op,lo,hi,so,un⟩ r cx l t ⟨dd,u,h,n⟩ hs ls Q)):=⟨id⟩
theorem kind_le(op:Op):zK op≤3:=by
 have h0:(0:Nat)≤3:=by decide
 have h1:(1:Nat)≤3:=by decide
 have h2:(2:Nat)≤3:=by decide
 have h3:(3:Nat)≤3:=by decide
 cases op <;> first|exact h0|exact h1|exact h2|exact h3|skip
 case makeMap a b=>cases b <;> first|exact h2|exact h3
 case call c=>
  obtain⟨callee,args,tys⟩:=c
  cases callee with
  | value f=>exact h3
  | invoke a b=>exact h3
  | builtin b=>cases b <;> first|exact h1|exact h3
theorem wd_do{g:Option (Nat×Bool)}(hg:wanted all (FA l t) g=true)(h:WK P ng m all op d ty pos af g i lo hi so un r cx l t w hs ls Q (zK op)):WD P ng m all (⟨⟨d,op,ty,pos,af,g⟩,i,zK op,lo,hi,so,un⟩::r) cx (FA l t) w hs ls Q:=by
 show(match wanted all (FA l t) g with
  | false=>putT (FA l t) d undef fun t'=>xK P (loS P ng) cx all (panM P ng cx all Q m) r t' w (cond (Nat.beq (zK op) 3) (w::hs) hs) ls (soK Q)
  | true => match zK op with
   | 0=>match yO op P (FA l t) w.h with
    | some v=>putT (FA l t) d v fun t'=>xK P (loS P ng) cx all (panM P ng cx all Q m) r t' w hs ls (soK Q)
    | none=>false
   | 1=>match yO op P (FA l t) w.h with
    | some v=>putT (FA l t) d v fun t'=>xK P (loS P ng) cx all (panM P ng cx all Q m) r t' w hs (cond (Nat.beq lo hi) ls (⟨op,FA l t,v,lo,hi⟩::ls)) (soK Q)
    | none=>false
   | 2=>eff op P (loS P ng) cx (FA l t) w (fun w' v=>putT (FA l t) d v fun t'=>xK P (loS P ng) cx all (panM P ng cx all Q m) r t' w' hs ls (soK Q)) fun _ _=>false
   | _=>eff op P (loS P ng) cx (FA l t) w (fun w' v=>cond (Nat.ble w.n w'.n) (putT (FA l t) d v fun t'=>xK P (loS P ng) cx all (panM P ng cx all Q m) r t' w' (w'::hs) ls (soK Q)) false)
    fun c w'=>panM P ng cx all Q m ⟨⟨d,op,ty,pos,af,g⟩,i,zK op,lo,hi,so,un⟩ r (FA l t) w hs ls c w')=true
 rw[hg];dsimp only;have hle:=kind_le op
 have q01:zK op≤1→∀{K:W→Value→Prop} {Kp:zE→W→Prop},OpB P ng op cx (FA l t) w K Kp→∃v,yO op P (FA l t) w.h=some v∧K w v:=fun hk K Kp ho=>by
  replace ho:=ho.1;unfold OpB0 at ho
  cases hq:yO op P (FA l t) w.h with
  | some v=>rw [hq]at ho;exact⟨v,rfl,ho⟩
  | none=>rw [hq]at ho;dsimp only at ho;rw [eff_q hk]at ho;cases ho
 have e23:2≤zK op→∀{K:W→Value→Prop} {Kp:zE→W→Prop},OpB P ng op cx (FA l t) w K Kp→eff op P (loS P ng) cx (FA l t) w (fun w v=>yV (K w v)) (fun c w=>yV (Kp c w))=true:=fun hk K Kp ho=>by
  replace ho:=ho.1;unfold OpB0 at ho;rw [quiet_e hk]at ho;exact ho
 have put:∀(w':W) (v:Value) (hs:List W) (ls:List Look),drQ P ng m all d r cx l t hs ls Q w' v→(putT (FA l t) d v fun t'=>xK P (loS P ng) cx all (panM P ng cx all Q m) r t' w' hs ls (soK Q))=true:=fun w' v hs ls hq=>by
  rw[← congrFun (congrFun drQ_so w') v];exact isSo_iff.2 hq
 rcases(show zK op=0∨zK op=1∨zK op=2∨zK op=3 by omega) with e|e|e|e
 · rw[e]at h ⊢;obtain⟨v,h1,h2⟩:=q01 (by omega) h;rw [h1];exact put _ _ _ _ h2
 · rw[e]at h ⊢;obtain⟨v,h1,h2⟩:=q01 (by omega) h;rw [h1];exact put _ _ _ _ h2
 · rw[e]at h ⊢;have:=e23 (by omega) h;rw [drQ_so]at this
   have e9:(fun(_:zE) (_:W)=>yV False)=fun _ _=>false:=by
    funext _ _
    cases hh:yV False with
    | false=>rfl
    | true=>exact(isSo_iff.1 hh).elim
   rw[e9]at this;exact this
 · rw[e]at h ⊢;have:=e23 (by omega) h
   have e8:(fun(w':W) v=>yV (drC P ng m all d r cx l t w.n hs ls Q w' v))=fun w' v=>cond (Nat.ble w.n w'.n) (putT (FA l t) d v fun t'=>xK P (loS P ng) cx all (panM P ng cx all Q m) r t' w' (w'::hs) ls (soK Q)) false:=by
    funext w' v
    rw[← congrFun (congrFun (drQ_so (hs:=w'::hs)) w') v]
    cases hh:Nat.ble w.n w'.n with
    | true=>
     show yV _=yV _;congr 1
     exact propext ⟨fun h=>h.2,fun h=>⟨Nat.le_of_ble_eq_true hh,h⟩⟩
    | false=>
     show yV _=false
     cases h7:yV (drC P ng m all d r cx l t w.n hs ls Q w' v) with
     | false=>rfl
     | true=>rw [vW (isSo_iff.1 h7).1]at hh;cases hh
   have e7:(fun(c:zE) (w':W)=>yV (drP P ng m all ⟨⟨d,op,ty,pos,af,g⟩,i,3,lo,hi,so,un⟩ r cx l t w hs ls Q c w'))=fun c w'=>panM P ng cx all Q m ⟨⟨d,op,ty,pos,af,g⟩,i,3,lo,hi,so,un⟩ r (FA l t) w hs ls c w':=by
    funext c w'
    exact isSo_bool _
   have h:OpB P ng op cx (FA l t) w (drC P ng m all d r cx l t w.n hs ls Q) (drP P ng m all ⟨⟨d,op,ty,pos,af,g⟩,i,zK op,lo,hi,so,un⟩ r cx l t w hs ls Q):=h;rw [e]at h;have:=e23 (by omega) h;rw [e8,e7]at this;exact this
theorem wd_skip{g:Option (Nat×Bool)}(hg:wanted all (FA l t) g=false)(h:drQ P ng m all d r cx l t (cond (Nat.beq (zK op) 3) (w::hs) hs) ls Q w undef):WD P ng m all (⟨⟨d,op,ty,pos,af,g⟩,i,zK op,lo,hi,so,un⟩::r) cx (FA l t) w hs ls Q:=by
 have h2:(putT (FA l t) d undef fun t'=>xK P (loS P ng) cx all (panM P ng cx all Q m) r t' w (cond (Nat.beq (zK op) 3) (w::hs) hs) ls (soK Q))=true:=by
  rw[← congrFun (congrFun drQ_so w) undef];exact isSo_iff.2 h
 unfold WD xK;dsimp only;rw [hg];exact h2
instance:Stp (WD P ng m all (⟨⟨d,op,ty,pos,af,none⟩,i,zK (⟨d,op,ty,pos,af,none⟩:Oper).op,lo,hi,so,un⟩::r) cx (FA l t) w hs ls Q) (Ob (Wh (zK op)) (WK P ng m all op d ty pos af none i lo hi so un r cx l t w hs ls Q)):=⟨fun⟨k,h1,h2⟩=>wd_do (g:=none) rfl (by rw[show zK op=k from h1];exact h2)⟩
def drS(P:Program)(ng:Nat)(m:Bool)(all:Array Oper)(op:Op)(d:Option Nat)(r:List DOp)(cx:Cx)(l:List (Nat×Value))(t:Fr)(w:W)(hs:List W)(ls:List Look)(Q:QX):Prop:=drQ P ng m all d r cx l t (cond (Nat.beq (zK op) 3) (w::hs) hs) ls Q w undef
instance:Stp (drS P ng m all op d r cx l t w hs ls Q) (Ob (Wh (Nat.beq (zK op) 3)) fun z=>Ch z (drQ P ng m all d r cx l t (w::hs) ls Q w undef) (drQ P ng m all d r cx l t hs ls Q w undef)):=⟨fun⟨z,h1,h2,h3⟩=>by
 unfold drS;rw [show Nat.beq (zK op) 3=z from h1]
 cases z with
 | true=>exact h2 rfl
 | false=>exact h3 rfl⟩
instance {g:Nat}:Stp (WD P ng m all (⟨⟨d,op,ty,pos,af,some (g,true)⟩,i,zK (⟨d,op,ty,pos,af,some (g,true)⟩:Oper).op,lo,hi,so,un⟩::r) cx (FA l t) w hs ls Q)
 (Ob (fun z=>Gv all l t g true z) fun z=>Ch z (Ob (Wh (zK op)) (WK P ng m all op d ty pos af (some (g,true)) i lo hi so un r cx l t w hs ls Q)) (drS P ng m all op d r cx l t w hs ls Q)):=⟨fun⟨z,h1,h2,h3⟩=>by
 cases z with
 | true=>
  obtain⟨k,h4,h5⟩:=h2 rfl;exact wd_do h1.wants (by rw[show zK op=k from h4];exact h5)
 | false=>exact wd_skip h1.wants (h3 rfl)⟩
instance {g:Nat}:Stp (WD P ng m all (⟨⟨d,op,ty,pos,af,some (g,false)⟩,i,zK (⟨d,op,ty,pos,af,some (g,false)⟩:Oper).op,lo,hi,so,un⟩::r) cx (FA l t) w hs ls Q)
 (Ob (fun z=>Gv all l t g false z) fun z=>Ch z (drS P ng m all op d r cx l t w hs ls Q) (Ob (Wh (zK op)) (WK P ng m all op d ty pos af (some (g,false)) i lo hi so un r cx l t w hs ls Q))):=⟨fun⟨z,h1,h2,h3⟩=>by
 cases z with
 | false=>
  obtain⟨k,h4,h5⟩:=h3 rfl;exact wd_do h1.wants (by rw[show zK op=k from h4];exact h5)
 | true=>exact wd_skip h1.wants (h2 rfl)⟩
theorem lks_nil:LksOK P hs []:=rfl
def Sm(v:Value):Prop:=sameB v v=true
theorem sm_int{k:IntKind}{a:Int}:Sm (.int k a):=by
 show(wN k k && ieqB a a)=true;rw [xD,decide_eq_true rfl];cases k <;> rfl
theorem sm_str{a:List UInt8}:Sm (str a):=by show wE a a=true;rw [bytesEq_dec,decide_eq_true rfl]
theorem sm_bool{b:Bool}:Sm (.bool b):=by cases b <;> rfl
theorem sm_ptr{b o:Nat}:Sm (ptr b o):=by show(Nat.beq b b && Nat.beq o o)=true;rw [Nat.beq_refl,Nat.beq_refl];rfl
theorem sm_map{b:Nat}:Sm (.map (some b)):=by show Nat.beq b b=true;exact Nat.beq_refl _
theorem Row.sm{lo:Nat}{h:zB}{v:Value}{e sz len:Nat}{vs:List Value}(r:Row lo h v e sz len vs):Sm v:=by
 rcases r with⟨rfl,_⟩|⟨b,off,cap,m,z,kd,_,rfl,_⟩
 · rfl
 · show(Nat.beq b b && Nat.beq off off && Nat.beq len len && Nat.beq cap cap)=true;rw [Nat.beq_refl,Nat.beq_refl,Nat.beq_refl,Nat.beq_refl];rfl
theorem Own.sm{lo n:Nat}{h:zB}{v:Value}{e sz len:Nat}{vs:List Value}(r:Own lo n h v e sz len vs):Sm v:=by
 rcases r with⟨rfl,_⟩|⟨b,_,_,rfl,_⟩
 · rfl
 · show(Nat.beq b b && Nat.beq 0 0 && Nat.beq len len && Nat.beq inf inf)=true;rw [Nat.beq_refl,Nat.beq_refl,Nat.beq_refl,Nat.beq_refl];rfl
def LkA(P:Program)(l:Look)(k:Nat)(hs:List W):Prop:=vJ P l k hs=true
theorem lks_cons{lk:Look}(h:LkA P lk hs.length hs)(r:LksOK P hs ls):LksOK P hs (lk::ls):=by
 show(vJ P lk hs.length hs && yP P hs.length hs ls)=true;rw [show vJ P lk hs.length hs=true from h,show yP P hs.length hs ls=true from r];rfl
theorem lka_nil{lk:Look}{k:Nat}:LkA P lk k []:=rfl
theorem lka_off{o:Op}{tt:Fr}{v:Value}{k:Nat}(hr:(Nat.ble lo (Nat.pred k) && Nat.ble (Nat.pred k) hi)=false)(r:LkA P ⟨o,tt,v,lo,hi⟩ (Nat.pred k) hs):LkA P ⟨o,tt,v,lo,hi⟩ k (w::hs):=by
 show(cond (Nat.ble lo (Nat.pred k) && Nat.ble (Nat.pred k) hi) _ true && vJ P ⟨o,tt,v,lo,hi⟩ (Nat.pred k) hs)=true;rw [hr,show vJ P ⟨o,tt,v,lo,hi⟩ (Nat.pred k) hs=true from r];rfl
theorem lka_on{o:Op}{tt:Fr}{v:Value}{k:Nat}(h1:lookLt w.n o tt=true)(h2:yO o P tt w.h=some v)(h3:Sm v)(r:LkA P ⟨o,tt,v,lo,hi⟩ (Nat.pred k) hs):LkA P ⟨o,tt,v,lo,hi⟩ k (w::hs):=by
 show(cond (Nat.ble lo (Nat.pred k) && Nat.ble (Nat.pred k) hi) (lookLt w.n o tt && (match yO o P tt w.h with
  | some v'=>sameB v' v
  | none=>false)) true && vJ P ⟨o,tt,v,lo,hi⟩ (Nat.pred k) hs)=true
 rw[h1,h2,show vJ P ⟨o,tt,v,lo,hi⟩ (Nat.pred k) hs=true from r];dsimp only;rw [show sameB v v=true from h3];cases (Nat.ble lo (Nat.pred k) && Nat.ble (Nat.pred k) hi) <;> rfl
theorem lka_ld1{x:Operand}{v:Value}{k b o n:Nat}{h:zB}{dd:List Deferred}{u:Option zE}[s:ShC P ty .scal](e:evb l t x = .pointer (some ⟨b,o,none⟩))(hb:b<n)(c:zJ h b o=some v)(h3:Sm v)(r:LkA P ⟨.load ty x,FA l t,v,lo,hi⟩ (Nat.pred k) hs) :
 LkA P ⟨.load ty x,FA l t,v,lo,hi⟩ k (⟨dd,u,h,n⟩::hs):=by
 refine lka_on ?_ ?_ h3 r
 · show blkLt n (ev (FA l t) x)=true;rw [zX,e];exact yU hb
 · show qLoad P ty h (ev (FA l t) x)=_;rw [zX,e];exact load_scal s.ok c
def Sms(vs:List Value):Prop:=vI vs vs=true
theorem sml_nil:Sms []:=rfl
theorem sml_int{k:IntKind}{a:Int}{r:List Value}(h:Sms r):Sms (.int k a::r):=by
 show(scalB (.int k a) (.int k a) && vI r r)=true;rw [show scalB (.int k a) (.int k a)=true from sm_int,show vI r r=true from h];rfl
theorem sml_str{a:List UInt8}{r:List Value}(h:Sms r):Sms (str a::r):=by
 show(scalB (str a) (str a) && vI r r)=true;rw [show scalB (str a) (str a)=true from sm_str,show vI r r=true from h];rfl
theorem sml_row{lo:Nat}{h:zB}{v:Value}{e sz len:Nat}{vs r:List Value}(q:Row lo h v e sz len vs)(h:Sms r):Sms (v::r):=by
 show(scalB v v && vI r r)=true
 have:scalB v v=true:=by
  have:=q.sm;rcases q with⟨rfl,_⟩|⟨b,off,cap,m,z,kd,_,rfl,_⟩ <;> exact this
 rw[this,show vI r r=true from h];rfl
theorem lka_ldN{x:Operand}{vs:List Value}{k b o n sz:Nat}{h:zB}{dd:List Deferred}{u:Option zE}[s:ShC P ty (.agg sz)](e:evb l t x = .pointer (some ⟨b,o,none⟩))(hb:b<n)(h0:0<sz)(c:Rd h b o sz vs)(h3:Sms vs)(r:LkA P ⟨.load ty x,FA l t,.agg ⟨vs⟩,lo,hi⟩ (Nat.pred k) hs) :
 LkA P ⟨.load ty x,FA l t,.agg ⟨vs⟩,lo,hi⟩ k (⟨dd,u,h,n⟩::hs):=by
 refine lka_on ?_ ?_ h3 r
 · show blkLt n (ev (FA l t) x)=true;rw [zX,e];exact yU hb
 · show qLoad P ty h (ev (FA l t) x)=_;rw [zX,e];obtain⟨h1,h2⟩:=c.row;exact load_agg s.ok h1 h0 h2
theorem Row.blk{lo0:Nat}{h:zB}{v:Value}{e sz len:Nat}{vs:List Value}{n:Nat}(r:Row lo0 h v e sz len vs)(hl:lo0≤n):blkLt n v=true:=by
 rcases r with⟨rfl,_⟩|⟨b,off,cap,m,z,kd,h1,rfl,_⟩
 · rfl
 · exact yU (show b<n by omega)
theorem lka_len{x:Operand}{v:Value}{k lo0 n el ee sz len:Nat}{h h0:zB}{vs:List Value}{dd:List Deferred}{u:Option zE}[s:UnC P ty (.slice el)](e:evb l t x=v)(hr:Row lo0 h0 v ee sz len vs)(hlo:lo0≤n)(r:LkA P ⟨.call ⟨.builtin .len,[x].toArray,[ty].toArray⟩,FA l t,I64 (len:Nat),lo,hi⟩ (Nat.pred k) hs) :
 LkA P ⟨.call ⟨.builtin .len,[x].toArray,[ty].toArray⟩,FA l t,I64 (len:Nat),lo,hi⟩ k (⟨dd,u,h,n⟩::hs):=by
 refine lka_on ?_ ?_ sm_int r
 · show blkLt n (ev (FA l t) x)=true;rw [zX,e];exact hr.blk hlo
 · show quietB P .len [ty] [ev (FA l t) x] h=_;rw [zX,e];exact len_rw hr
end
end
end Go.Ex
namespace Go.Ex
section
variable {P:Program} {ng:Nat}
def lvQ(P:Program)(ng:Nat)(mode:Option zE)(fn:Func)(u:Option zE)(Q:Out→zB→Nat→Prop)(t:Fr)(w:W):Prop:=(loS P ng).leave fn mode t w (fun o u' h' n'=>yV (u'=u∧Q o h' n'))=true
def Def(P:Program)(ng:Nat)(g:FuncId)(args:List Value)(u0:Option zE)(h:zB)(n:Nat)(Q:Option zE→zB→Nat→Prop):Prop:=∃v u' h' n',Q u' h' n'∧CallTo P ng g args true u0 h n (.ret v) u' h' n'
section
variable {fn:Func} {u:Option zE} {Q:Out→zB→Nat→Prop} {l:List (Nat×Value)} {t:Fr} {h:zB} {n:Nat} {ds:List Deferred}
instance {D:Deferred}:Stp (retQ P ng fn u Q .ret t ⟨D::ds,u,h,n⟩) (lvQ P ng none fn u Q t ⟨D::ds,u,h,n⟩):=⟨id⟩
instance {D:Deferred}:Stp (retQ P ng fn u Q .normal t ⟨D::ds,u,h,n⟩) (lvQ P ng none fn u Q t ⟨D::ds,u,h,n⟩):=⟨id⟩
instance {D:Deferred} {c:zE}:Stp (retQ P ng fn u Q (.panic c) t ⟨D::ds,u,h,n⟩) (lvQ P ng (some c) fn u Q t ⟨D::ds,u,h,n⟩):=⟨id⟩
instance [Fit P ng]:Stp (lvQ P ng none fn u Q (FA l t) ⟨[],u,h,n⟩) (Ob (Wh fn.results.toList) fun rs=>Ob (Rs P l t h rs) fun vs=>Ob (Wh (vB vs)) fun v=>Q (.ret v) h n):=⟨ret_of⟩
instance [Fit P ng] {c:zE}:Stp (lvQ P ng (some c) fn u Q t ⟨[],u,h,n⟩) (Q (.panic c) h n):=⟨fun q=>leave_of (isSo_iff.2 ⟨rfl,q⟩)⟩
def Clt(h:zB)(r:Nat):Prop:=zF h r = .deferred true
instance [Fit P ng] {mode:Option zE} {r:Nat} {asz:Array Value}:Stp (lvQ P ng mode fn u Q t ⟨⟨.collected r,asz⟩::ds,u,h,n⟩) (Ob1 (Clt h r) <| lvQ P ng mode fn u Q t ⟨ds,u,hal h r (.deferred false),n⟩):=⟨fun⟨h1,h2⟩=>leave_of (by
 show(match zF h r with
  | .deferred true=>h.setK .dead (.deferred false) r fun h=>(loS P ng).leave fn mode t ⟨ds,u,h,n⟩ _
  | _=>false)=true
 rw[show zF h r = .deferred true from h1];dsimp only;rw [Tr.setK_eq];exact h2)⟩
theorem lv_none[Fit P ng]{g:FuncId}{cap args:List Value}{R:zB→Nat→Prop}(c:Def P ng g (args++cap) none h n fun u' h' n'=>u'=none∧R h' n')(k:∀h' n',R h' n'→lvQ P ng none fn u Q t ⟨ds,u,h',n'⟩):lvQ P ng none fn u Q t ⟨⟨.fn (.func g) ⟨cap⟩,⟨args⟩⟩::ds,u,h,n⟩:=leave_of (by
 obtain⟨v,u',h',n',⟨rfl,r⟩,hc⟩:=c;exact loS_call.2 ⟨.ret v,none,h',n',(by exact k h' n' r),hc⟩)
end
def dfQ(P:Program)(ng:Nat)(fn:Func)(Q:Out→Option zE→zB→Nat→Prop):QX:=fun x t w=>match x with
 | .normal=>(loS P ng).leave fn none t w (fun o u' h' n'=>yV (Q o u' h' n'))=true
 | .ret=>(loS P ng).leave fn none t w (fun o u' h' n'=>yV (Q o u' h' n'))=true
 | .panic c=>(loS P ng).leave fn (some c) t w (fun o u' h' n'=>yV (Q o u' h' n'))=true
 | _=>False
theorem entD[Fit P ng]{f:FuncId}{fn:Func}[b:BoC P f fn]{c:Code}{args:List Value}{u:Option zE}{h:zB}{n:Nat}{Q:Option zE→zB→Nat→Prop}
(k:WC P ng c ⟨f,none,true⟩ (FA (arl 0 args []) .lF) ⟨[],u,h,n⟩ (dfQ P ng fn fun o u' h' n'=>∃v,o = .ret v∧Q u' h' n'))(hc:fn.body=some c:=by exact rfl)(hl:Nat.ble args.length fn.ntmps=true:=by exact rfl):Def P ng f args u h n Q:=by
 have hx:xcall P (loS P ng) f args true u h n (fun o u' h' n'=>yV (∃v,o = .ret v∧Q u' h' n'))=true:=by
  unfold xcall;rw [b.ok c hc]
  show(Bool.rec false (args0 fr0 0 args fun t=>
   (loS P ng).code c ⟨f,none,true⟩ t ⟨[],u,h,n⟩ fun x t w=>AX.rec ((loS P ng).leave fn none t w (fun o u' h' n'=>yV (∃v,o = .ret v∧Q u' h' n'))) (fun _=>false) (fun _=>false) ((loS P ng).leave fn none t w (fun o u' h' n'=>yV (∃v,o = .ret v∧Q u' h' n'))) (fun c=>(loS P ng).leave fn (some c) t w (fun o u' h' n'=>yV (∃v,o = .ret v∧Q u' h' n'))) x) (Nat.ble args.length fn.ntmps):Bool)=true
  rw[hl,args0_eq,show fr0=FA [] .lF from rfl,arl_FA];obtain⟨x,t',w',q,r⟩:=k;refine loS_code.2 ⟨x,t',w',?_,r⟩
  cases x with
  | normal=>exact q
  | exit i=>exact q.elim
  | goto i=>exact q.elim
  | ret=>exact q
  | panic c=>exact q
 obtain⟨o,u',h',n',q,r⟩:=xcall_ok (Fit.ok) vV hx;obtain⟨v,e,q2⟩:=isSo_iff.1 q;subst e;exact⟨v,u',h',n',q2,r⟩
theorem df_ret[Fit P ng]{fn:Func}{u:Option zE}{Q:Out→Option zE→zB→Nat→Prop}{l:List (Nat×Value)}{t:Fr}{h:zB}{n:Nat}(k:Ob (Wh fn.results.toList) fun rs=>Ob (Rs P l t h rs) fun vs=>Ob (Wh (vB vs)) fun v=>Q (.ret v) u h n) :
 (loS P ng).leave fn none (FA l t) ⟨[],u,h,n⟩ (fun o u' h' n'=>yV (Q o u' h' n'))=true:=by
 obtain⟨rs,e1,vs,e2,v,e3,q⟩:=k;refine leave_of ?_
 show(match yC P (FA l t) h fn.results.toList with
  | some l=>yN (vB l) fun v=>yV (Q (.ret v) u h n)
  | none=>false)=true
 rw[show fn.results.toList=rs from e1,e2.eq];show yN (vB vs) _=true;rw [zW,show vB vs=v from e3];exact isSo_iff.2 q
instance [Fit P ng] {fn:Func} {u:Option zE} {Q:Out→Option zE→zB→Nat→Prop} {l:List (Nat×Value)} {t:Fr} {h:zB} {n:Nat}:Stp (dfQ P ng fn Q .ret (FA l t) ⟨[],u,h,n⟩) (Ob (Wh fn.results.toList) fun rs=>Ob (Rs P l t h rs) fun vs=>Ob (Wh (vB vs)) fun v=>Q (.ret v) u h n):=⟨df_ret⟩
instance [Fit P ng] {fn:Func} {u:Option zE} {Q:Out→Option zE→zB→Nat→Prop} {l:List (Nat×Value)} {t:Fr} {h:zB} {n:Nat}:Stp (dfQ P ng fn Q .normal (FA l t) ⟨[],u,h,n⟩) (Ob (Wh fn.results.toList) fun rs=>Ob (Rs P l t h rs) fun vs=>Ob (Wh (vB vs)) fun v=>Q (.ret v) u h n):=⟨df_ret⟩
section
variable {f:FuncId} {tys:List Nat} {asz:List Value} {d:List Deferred} {u:Option zE} {h:zB} {n:Nat} {K:W→Value→Prop}
instance {v:Value} {older:zE}:Stp (BuB P ⟨f,none,true⟩ .recover tys asz d (some (⟨v,false,false⟩::older)) h n K) (K ⟨d,some (⟨v,true,false⟩::older),h,n⟩ v):=⟨fun q=>isSo_iff.2 q⟩
instance:Stp (BuB P ⟨f,none,true⟩ .recover tys asz d none h n K) (K ⟨d,none,h,n⟩ .nilIface):=⟨fun q=>isSo_iff.2 q⟩
end
noncomputable def ifB(P:Program)(ty:Nat):Bool:=match und P ty with
  | some (.interface _)=>true
  | _=>false
 class IfC (P:Program) (ty:Nat):Prop where ok:ifB P ty=true
theorem IfC.get{ty:Nat}(s:IfC P ty):∃m,und P ty=some (.interface m):=by
 have h:=s.ok;unfold ifB at h;split at h
 · rename_i m e;exact⟨m,e⟩
 · cases h
theorem bn_if1{ty t0:Nat}[s:IfC P ty]{ox oy:Operand}{v:Value}:Bn P .neq ty ox oy (.iface t0 v) .nilIface (.bool true):=by
 obtain⟨m,e⟩:=s.get
 show(match BinOp.neq,und P ty with
  | .eql,some d=>cond (zO ox oy (.iface t0 v) .nilIface) ((xZ d (.iface t0 v) .nilIface).map Value.bool) none
  | .neq,some d=>cond (zO ox oy (.iface t0 v) .nilIface) ((xZ d (.iface t0 v) .nilIface).map fun b=>Value.bool (!b)) none
  | _,_=>none:Option Value)=_
 rw[e];rfl
theorem bn_if0{ty:Nat}[s:IfC P ty]{ox:Operand}{v:Value}:Bn P .neq ty ox (.const v) .nilIface .nilIface (.bool false):=by
 obtain⟨m,e⟩:=s.get
 show(match BinOp.neq,und P ty with
  | .eql,some d=>cond (zO ox (.const v) .nilIface .nilIface) ((xZ d .nilIface .nilIface).map Value.bool) none
  | .neq,some d=>cond (zO ox (.const v) .nilIface .nilIface) ((xZ d .nilIface .nilIface).map fun b=>Value.bool (!b)) none
  | _,_=>none:Option Value)=_
 rw[e];show cond (isConst ox || isConst (.const v)) _ none=_;cases isConst ox <;> rfl
theorem tya_hit{t0:Nat}[s:PlC P t0]{v:Value}:xB P (.iface t0 v) t0 true=some (.tuple ⟨[v,.bool true]⟩):=by
 obtain⟨d,e,hp⟩:=s.get;unfold xB;rw [e];cases d <;> first|(cases hp;done)|(dsimp only;rw [Nat.beq_refl];rfl)
noncomputable def LoO(st:LoopState)(pend:Option Code)(fn:FuncId)(params:Array Tmp)(assign body:Code)(D:Nat)(t:Fr):AObj:=.loop { state:=st,pending:=pend,fn,tmps:= #[],params,assign,body,defers:=D } t
def rgQ(P:Program)(ng:Nat)(L:Nat)(fn:FuncId)(params:Array Tmp)(assign body:Code)(D:Nat)(cx:Cx)(t:Fr)(d:List Deferred)(u:Option zE)(Q:QX):Out→zB→Nat→Prop:=fun o h n=>match o with
 | .ret _=>(zF h L=LoO .ready none fn params assign body D t∧Q .normal t ⟨d,u,hal h L (LoO .exhausted none fn params assign body D t),n⟩)∨(∃j,zF h L=LoO .done (some j) fn params assign body D t∧WC P ng j cx t ⟨d,u,hal h L (LoO .exhausted (some j) fn params assign body D t),n⟩ Q)
 | .panic c=>Q (.panic c) t ⟨d,u,h,n⟩
theorem rg_inv{L:Nat}{fn:FuncId}{params:Array Tmp}{assign body:Code}{D:Nat}{cx:Cx}{t:Fr}{d:List Deferred}{u:Option zE}{Q:QX}{fv:Value}{g:FuncId}{fs cs:List Value}{h:zB}{n:Nat}(hf:fv = .func (.func g) ⟨fs⟩ ⟨cs⟩)
(k:CallB P ng g (fs++(.func (.yield L) #[] #[]::cs)) h n (rgQ P ng L fn params assign body D cx t d u Q)) :
 xinvoke (loS P ng) fv [.func (.yield L) #[] #[]] h n
  (fun _ h2 n2=>match zF h2 L with
   | .loop l t0 => match l.state with
    | .busy=>false
    | _=>h2.setK .dead (.loop { l with state:=.exhausted } t0) L fun h3=>match l.pending with
     | none=>soK Q .normal t ⟨d,u,h3,n2⟩
     | some j=>(loS P ng).code j cx t ⟨d,u,h3,n2⟩ (soK Q)
   | _=>false)
  (fun c h2 n2=>soK Q (.panic c) t ⟨d,u,h2,n2⟩)=true:=by
 subst hf;obtain⟨o,u',h',n',q,r⟩:=loS_call.1 k;refine loS_call.2 ⟨o,u',h',n',?_,r⟩;have q:=isSo_iff.1 q
 cases o with
 | panic c=>exact isSo_iff.2 q
 | ret v=>
  rcases q with⟨e,q⟩|⟨j,e,q⟩
  · show(match zF h' L with
     | .loop l t0 => match l.state with
      | .busy=>false
      | _=>h'.setK .dead (.loop { l with state:=.exhausted } t0) L fun h3=>match l.pending with
       | none=>soK Q .normal t ⟨d,u,h3,n'⟩
       | some j=>(loS P ng).code j cx t ⟨d,u,h3,n'⟩ (soK Q)
     | _=>false)=true
    rw[e];show h'.setK .dead _ L _=true;rw [Tr.setK_eq];exact isSo_iff.2 q
  · show(match zF h' L with
     | .loop l t0 => match l.state with
      | .busy=>false
      | _=>h'.setK .dead (.loop { l with state:=.exhausted } t0) L fun h3=>match l.pending with
       | none=>soK Q .normal t ⟨d,u,h3,n'⟩
       | some j=>(loS P ng).code j cx t ⟨d,u,h3,n'⟩ (soK Q)
     | _=>false)=true
    rw[e];show h'.setK .dead _ L _=true;rw [Tr.setK_eq];exact WC.lo.2 q
theorem wc_rg0[Fit P ng]{f:Operand}{params:Array Tmp}{assign body:Code}{fn:FuncId}{df:Bool}{l:List (Nat×Value)}{t:Fr}{d:List Deferred}{u:Option zE}{h:zB}{n:Nat}{Q:QX}{g:FuncId}{fs cs:List Value}(hf:evb l t f = .func (.func g) ⟨fs⟩ ⟨cs⟩)
(k:CallB P ng g (fs++(.func (.yield (n+1)) #[] #[]::cs)) (hal (hal h n (.deferred true)) (n+1) (LoO .ready none fn params assign body n (FA l t))) (n+2) (rgQ P ng (n+1) fn params assign body n ⟨fn,none,df⟩ (FA l t) ({ target:=.collected n,args:= #[] }::d) u Q)) :
 WC P ng (.rangeFunc f params assign body) ⟨fn,none,df⟩ (FA l t) ⟨d,u,h,n⟩ Q:=by
 refine wc_of ?_;show zL h n (.deferred true) (fun h' n'=>xrange (loS P ng) f params assign body ⟨fn,none,df⟩ (FA l t) ({ target:=.collected n,args:= #[] }::d) u h' n' n (soK Q))=true;rw [xL];unfold xrange;rw [xL,zX];exact rg_inv hf k
def Rou(P:Program)(ng:Nat)(L:Nat)(args:List Value)(h:zB)(n:Nat)(Q:Out→zB→Nat→Prop):Prop:=∃o h' n',Q o h' n'∧RoundTo P ng L args h n o h' n'
theorem Rou.mono{L:Nat}{args:List Value}{h:zB}{n:Nat}{Q Q':Out→zB→Nat→Prop}(r:Rou P ng L args h n Q)(hq:∀o h' n',Q o h' n'→Q' o h' n'):Rou P ng L args h n Q':=by
 obtain⟨o,h',n',q,r⟩:=r;exact⟨o,h',n',hq _ _ _ q,r⟩
theorem inv_yield{L:Nat}{fs cs asz:List Value}{h:zB}{n:Nat}{d:List Deferred}{u:Option zE}{K:W→Value→Prop}{Kp:zE→W→Prop}(r:Rou P ng L (fs++asz) h n (calQ d u K Kp)):InvB P ng (.func (.yield L) ⟨fs⟩ ⟨cs⟩) asz h n d u K Kp:=by
 obtain⟨o,h',n',q,r⟩:=r;refine loS_round.2 ⟨o,h',n',?_,r⟩
 cases o with
 | ret v=>exact isSo_iff.2 q
 | panic c=>exact isSo_iff.2 q
def parl:List Tmp→List Value→List (Nat×Value)→List (Nat×Value)
 | i::is,v::vs,acc=>parl is vs ((i,v)::acc)
 | _,_,acc=>acc
def bdQ(L:Nat)(fn:FuncId)(params:Array Tmp)(assign body:Code)(D:Nat)(t:Fr)(Q:Out→zB→Nat→Prop):QX:=fun x _ w=>w.d=[]∧match x with
 | .normal=>zF w.h L=LoO .busy none fn params assign body D t∧Q (.ret (.bool true)) (hal w.h L (LoO .ready none fn params assign body D t)) w.n
 | .ret=>zF w.h L=LoO .busy none fn params assign body D t∧Q (.ret (.bool false)) (hal w.h L (LoO .done (some .ret) fn params assign body D t)) w.n
 | .exit i=>zF w.h L=LoO .busy none fn params assign body D t∧Q (.ret (.bool false)) (hal w.h L (LoO .done (some (.exit i)) fn params assign body D t)) w.n
 | .goto _=>False
 | .panic c=>Q (.panic c) w.h w.n
def asQ(P:Program)(ng:Nat)(L:Nat)(fn:FuncId)(params:Array Tmp)(assign body:Code)(D:Nat)(t:Fr)(Q:Out→zB→Nat→Prop):QX:=fun x t' w=>match x with
 | .normal=>zF w.h L=LoO .ready none fn params assign body D t∧WC P ng body ⟨fn,some L,false⟩ t' ⟨w.d,w.u,hal w.h L (LoO .busy none fn params assign body D t),w.n⟩ (bdQ L fn params assign body D t Q)
 | _=>False
theorem setP_par:∀{is:List Tmp} {vs:List Value} {acc:List (Nat×Value)} {t:Fr} {k:Fr→Bool},is.length=vs.length→vC (FA acc t) is vs k=k (FA (parl is vs acc) t):=by
 intro is
 induction is with
 | nil=>intro vs acc t k hl;cases vs with
  | nil=>rfl
  | cons v vs=>cases hl
 | cons i is ih => intro vs acc t k hl; cases vs with
  | nil=>cases hl
  | cons v vs=>
   show yN v (fun v=>fsetK (FA acc t) i v fun t'=>vC t' is vs k)=_;rw [zW,fset_FA,ih (by simpa using hl)];rfl
theorem rou[Fit P ng]{L:Nat}{fn:FuncId}{ps:List Tmp}{assign body:Code}{D:Nat}{l:List (Nat×Value)}{t:Fr}{args:List Value}{h:zB}{n:Nat}{Q:Out→zB→Nat→Prop}(hL:zF h L=LoO .ready none fn ps.toArray assign body D (FA l t))(hl:ps.length=args.length)
(k:WC P ng assign ⟨fn,some L,false⟩ (FA (parl ps args l) t) ⟨[],none,h,n⟩ (asQ P ng L fn ps.toArray assign body D (FA l t) Q)):Rou P ng L args h n Q:=by
 have hx:xround (loS P ng) L args h n (fun o h' n'=>yV (Q o h' n'))=true:=by
  unfold xround;rw [hL];show vC (FA l t) ps.toArray.toList args _=true;rw [show ps.toArray.toList=ps from rfl,setP_par hl];obtain⟨x,t',w',q,r⟩:=k;refine loS_code.2 ⟨x,t',w',?_,r⟩
  cases x with
  | normal =>
   obtain⟨e,x2,t2,w2,q2,r2⟩:=q;obtain⟨d',u',h',n'⟩:=w';dsimp only at e q2 r2 ⊢;rw [e];show h'.setK .dead _ L _=true;rw [Tr.setK_eq];refine loS_code.2 ⟨x2,t2,w2,?_,r2⟩;obtain⟨d2,u2,h2,n2⟩:=w2;obtain⟨hd,q2⟩:=q2;dsimp only at hd;subst hd
   have fin:∀(j:Option Code) (st:LoopState) (b:Bool),(st=match j with|none=>.ready|some _=>.done)→(b=match j with|none=>true|some _=>false)→zF h2 L=LoO .busy none fn ps.toArray assign body D (FA l t)→
    Q (.ret (.bool b)) (hal h2 L (LoO st j fn ps.toArray assign body D (FA l t))) n2→endRound L j h2 n2 (fun o h' n'=>yV (Q o h' n'))=true:=fun j st b e1 e2 e3 e4=>by
    unfold endRound;rw [e3];show h2.setK .dead _ L _=true;rw [Tr.setK_eq];subst e1 e2;exact isSo_iff.2 e4
   cases x2 with
   | normal=>exact fin none .ready true rfl rfl q2.1 q2.2
   | exit i=>exact fin (some (.exit i)) .done false rfl rfl q2.1 q2.2
   | goto i=>exact q2.elim
   | ret=>exact fin (some .ret) .done false rfl rfl q2.1 q2.2
   | panic c=>exact isSo_iff.2 q2
  | exit i=>exact q.elim
  | goto i=>exact q.elim
  | ret=>exact q.elim
  | panic c=>exact q.elim
 obtain⟨o,h',n',q,r⟩:=xround_ok (Fit.ok) vV hx;exact⟨o,h',n',isSo_iff.1 q,r⟩
section
variable {L:Nat} {fn:FuncId} {ps:Array Tmp} {assign body:Code} {D:Nat} {t t':Fr} {Q:Out→zB→Nat→Prop} {u:Option zE} {h:zB} {n:Nat} {d:List Deferred}
def ObE(h:zB)(L:Nat)(o:AObj):Prop:=zF h L=o
instance:Stp (asQ P ng L fn ps assign body D t Q .normal t' ⟨d,u,h,n⟩) (Ob1 (ObE h L (LoO .ready none fn ps assign body D t)) <| WC P ng body ⟨fn,some L,false⟩ t' ⟨d,u,hal h L (LoO .busy none fn ps assign body D t),n⟩ (bdQ L fn ps assign body D t Q)):=⟨fun⟨h1,h2⟩=>⟨h1,h2⟩⟩
instance:Stp (bdQ L fn ps assign body D t Q .normal t' ⟨[],u,h,n⟩) (Ob1 (ObE h L (LoO .busy none fn ps assign body D t)) <| Q (.ret (.bool true)) (hal h L (LoO .ready none fn ps assign body D t)) n):=⟨fun⟨h1,h2⟩=>⟨rfl,h1,h2⟩⟩
instance:Stp (bdQ L fn ps assign body D t Q .ret t' ⟨[],u,h,n⟩) (Ob1 (ObE h L (LoO .busy none fn ps assign body D t)) <| Q (.ret (.bool false)) (hal h L (LoO .done (some .ret) fn ps assign body D t)) n):=⟨fun⟨h1,h2⟩=>⟨rfl,h1,h2⟩⟩
instance {i:Nat}:Stp (bdQ L fn ps assign body D t Q (.exit i) t' ⟨[],u,h,n⟩) (Ob1 (ObE h L (LoO .busy none fn ps assign body D t)) <| Q (.ret (.bool false)) (hal h L (LoO .done (some (.exit i)) fn ps assign body D t)) n):=⟨fun⟨h1,h2⟩=>⟨rfl,h1,h2⟩⟩
instance {c:zE}:Stp (bdQ L fn ps assign body D t Q (.panic c) t' ⟨[],u,h,n⟩) (Q (.panic c) h n):=⟨fun h2=>⟨rfl,h2⟩⟩
end
end
theorem vF{h:zB}{L:Nat}{o:AObj}:zF (hal h L o) L=o:=by rw[zP,if_pos rfl]
theorem obe_hal{h:zB}{L n:Nat}{o o':AObj}(hn:L≠n)(e:zF h L=o):zF (hal h n o') L=o:=by rw[zP,if_neg fun e=>hn e.symm];exact e
theorem obe_hst{h:zB}{L a off:Nat}{ws:List Value}{o:AObj}(hn:L≠a)(e:zF h L=o):zF (hst h a off ws) L=o:=by rw[wL,if_neg fun e=>hn e.symm];exact e
theorem obe_tch{S:List Nat}{h h':zB}{n n' L:Nat}{o:AObj}(t:Tch S h n h' n')(hb:L<n)(hS:L∉S)(e:zF h L=o):zF h' L=o:=by rw[t.2 L hb hS];exact e
end Go.Ex
namespace Go.Ex
 class BdC (P:Program) (ty:Nat) (ps:List (Nat×Value)) (cs:outParam (List Value)):Prop where ok:aBuild P ty ps=some (.agg ⟨cs⟩)
 class BsC (P:Program) (ty len:Nat) (ps:List (Nat×Value)) (cs:outParam (List Value)):Prop where ok:xC P ty len ps=some (mkC cs 0 0)
theorem bd_c{P:Program}{ty:Nat}{ps:List (Nat×Value)}{cs:List Value}[s:BdC P ty ps cs]:aBuild P ty ps=some (.agg ⟨cs⟩):=s.ok
theorem bs_c{P:Program}{ty len:Nat}{ps:List (Nat×Value)}{cs:List Value}[s:BsC P ty len ps cs]:xC P ty len ps=some (mkC cs 0 0):=s.ok
 class BnC (P:Program) (op:BinOp) (ty:Nat) (x y:Value) (z:outParam Value):Prop where ok:∀ox oy,Bn P op ty ox oy x y z
theorem bn_c{P:Program}{op:BinOp}{ty:Nat}{x y z:Value}{ox oy:Operand}[s:BnC P op ty x y z]:Bn P op ty ox oy x y z:=s.ok ox oy
theorem Row.sl{lo:Nat}{h:zB}{v:Value}{e sz len:Nat}{vs:List Value}(r:Row lo h v e sz len vs):∃p c,v = .slice p len c:=by
 rcases r with⟨rfl,rfl,rfl⟩|⟨b,off,cap,m,z,kd,_,rfl,_⟩
 · exact⟨_,_,rfl⟩
 · exact⟨_,_,rfl⟩
end Go.Ex
namespace Go.Ex
def Mty(lo n:Nat)(h:zB)(v:Value):Prop:=∃b z kd,lo≤b∧b<n∧v = .slice (some ⟨b,0,none⟩) 0 0∧infoOf (zF h b)=some (0,z,kd)∧kd≠2∧kd≠3
theorem Mty.row{lo n:Nat}{h:zB}{v:Value}(r:Mty lo n h v)(e sz:Nat):Row n h v e sz 0 []:=by
 obtain⟨b,z,kd,h1,h2,rfl,h3,_⟩:=r;exact .inr ⟨b,0,0,0,z,kd,h2,rfl,by simp,h3,by simp,rowAt.nil _ _ _,.inl ⟨by decide,Nat.le_refl _⟩⟩
theorem mty_new{h:zB}{n lo:Nat}(hl:lo≤n):Mty lo (n+1) (hal h n (mkC [] 0 0)) (.slice (some ⟨n,0,none⟩) 0 0):=
 ⟨n,0,0,hl,Nat.lt_succ_self n,rfl,by rw[zP,if_pos rfl];exact infoOf_mkC [] 0 0,by decide,by decide⟩
theorem append_mt{P:Program}{sT xT e sz lo n m:Nat}{h:zB}{v x:Value}{new:List Value}{K:KH}(hT:apTB P sT xT e sz=true)(hv:Mty lo n h v)(hlo:lo≤n)(hr:Row n h x e sz m new)(h1:∀y∈new,y.oneCell'=true)(hlim:m<1000000)
(hK0:m=0→∀h',Mty lo n h' v→Tch [] h n h' n→K h' n v=true)(hK:0<m→∀v' h' n',Own lo n' h' v' e sz m new→Tch [] h n h' n'→K h' n' v'=true):eAppend P [sT,xT] [v,x] h n K=true:=by
 obtain⟨xd,ei,z,t1,t2,t3,t4,t5,t6,t7,t8,t9⟩:=apTB_of hT;have hrow:=(row_of (hv.row e sz)).1;have hv':=hv;obtain⟨b,zz,kd,g1,g2,rfl,g3,g4,g5⟩:=hv;have hnew:new.length=m*sz:=hr.lens;have hap:xF P h e ei.size xd x=some (m,new):=by rw[t6];exact appended_of t3 hr
 unfold eAppend xappend;dsimp only;rw [t1,t2];dsimp only;rw [t4,t5];dsimp only;rw [hap];dsimp only
 have c1:(Nat.beq ei.size 0 || !Nat.beq (cellsOf z).length ei.size || !Nat.blt (Nat.add 0 m) 1000000 || !Nat.blt ei.bytes 100000)=false:=by
  have a1:Nat.beq ei.size 0=false:=by
   cases e9:Nat.beq ei.size 0 with
   | false=>rfl
   | true=>have:=zD e9;omega
  have a2:Nat.beq (cellsOf z).length ei.size=true:=by rw[t7,t6];exact Nat.beq_refl _
  rw[a1,a2,yU (show Nat.add 0 m<1000000 from by have:Nat.add 0 m=m:=Nat.zero_add m;omega),yU t9];rfl
 rw[c1];have hb0:Nat.beq 0 inf=false:=by decide
 show cond (Nat.beq m 0 && false && (Nat.beq 0 inf || Nat.ble 0 0)) _ (cond (Nat.beq 0 inf) _ (growEx h n (some ⟨b,0,none⟩) 0 0 m ei.size (zc e ei.size) new fun v h n=>K h n v))=true;rw [Bool.and_false,hb0];show growEx h n (some ⟨b,0,none⟩) 0 0 m ei.size (zc e ei.size) new (fun v h n=>K h n v)=true;unfold growEx;by_cases hm:m=0
 · subst hm;have hn0:new=[]:=List.length_eq_zero_iff.1 (by simpa using hnew);subst hn0;show storeAt h b (Nat.add 0 (Nat.mul 0 ei.size)) [] (fun h'=>K h' n (.slice (some ⟨b,0,none⟩) 0 0))=true;have hz:Nat.add 0 (Nat.mul 0 ei.size)=0:=by show 0+0*ei.size=0;omega
   rw[hz];refine storeAt_tt g3 ⟨g4,g5⟩ (Nat.le_refl _) (fun y hy=>by cases hy) ?_;refine hK0 rfl _ ⟨b,zz,kd,g1,g2,rfl,?_,g4,g5⟩ ⟨Nat.le_refl _,fun b' hb' _=>?_⟩
   · rw[wL,if_pos rfl,infoOf_stC];exact g3
   · rw[wL];by_cases e3:b=b'
     · subst e3;rw [if_pos rfl];cases zF h b <;> rfl
     · rw[if_neg e3]
 · have b1:Nat.ble (Nat.add 0 m) 0=false:=by
    cases e9:Nat.ble (Nat.add 0 m) 0 with
    | false=>rfl
    | true=>
     have h9:Nat.add 0 m≤0:=yJ e9;have h10:0+m≤0:=h9;omega
   rw[b1]
   show(match rowOf h ei.size 0 (.slice (some ⟨b,0,none⟩) 0 0) with
    | some old=>yW .lF 0 (old++new) fun c=>zL h n (.cells c (Nat.mul (Nat.add 0 m) ei.size) (zc e ei.size) 1) fun h' n'=>K h' n' (.slice (some ⟨n,0,none⟩) (Nat.add 0 m) inf)
    | none=>false)=true
   rw[t6,hrow];show yW .lF 0 ([]++new) _=true;refine wK h1 ?_;rw [zR];have hz:Nat.add 0 m=m:=Nat.zero_add m;have hne:Nat.mul (Nat.add 0 m) sz=new.length:=by rw[hz];exact hnew.symm
   rw[hne,hz];refine hK (by omega) _ _ _ (.inr ⟨n,hlo,Nat.lt_succ_self n,rfl,?_,hnew,by omega,fun i=>?_⟩) ⟨Nat.le_succ n,fun b hb _=>?_⟩
   · rw[zH,if_pos rfl];rfl
   · unfold zJ;rw [zH,if_pos rfl];exact wX new (zc e sz) 1 i
   · rw[zH,if_neg (by omega)]
def OwnE(lo n:Nat)(h:zB)(v:Value)(e sz len:Nat)(vs:List Value):Prop:=Own lo n h v e sz len vs∨(Mty lo n h v∧len=0∧vs=[])
theorem OwnE.row{lo n:Nat}{h:zB}{v:Value}{e sz len:Nat}{vs:List Value}(r:OwnE lo n h v e sz len vs)(hs:1≤sz):Row n h v e sz len vs:=by
 rcases r with r|⟨r,rfl,rfl⟩
 · exact r.row hs
 · exact r.row e sz
theorem appE{P:Program}{sT xT e sz:Nat}[A:ApC P sT xT e sz]{cx:Cx}{d:List Deferred}{u:Option zE}{h:zB}{n lo len m:Nat}{v x:Value}{vs new:List Value}{K:W→Value→Prop}(ho:OwnE lo n h v e sz len vs)(hr:Row n h x e sz m new)(hlo:lo≤n)(h1:∀y∈new,y.oneCell'=true)(hlim:len+m<1000000)
(k:∀v' h' n',OwnE lo n' h' v' e sz (len+m) (vs++new)→Tch (yL v).toList h n h' n'→K ⟨d,u,h',n'⟩ v'):BuB P cx .append [sT,xT] [v,x] d u h n K:=by
 rcases ho with ho|⟨ho,rfl,rfl⟩
 · have:=append_own (K:=fun h' n' v'=>yV (K ⟨d,u,h',n'⟩ v')) A.ok ho hlo hr hr.lens h1 hlim fun v' h' n' o a b=>isSo_iff.2 (k v' h' n' (.inl o) ⟨a,fun b' hb hS=>b b' hb fun e=>hS (by rw[e];simp)⟩);exact this
 · have:=append_mt (K:=fun h' n' v'=>yV (K ⟨d,u,h',n'⟩ v')) A.ok ho hlo hr h1 (by omega) (fun hm h' r t=>isSo_iff.2 (k v h' n (.inr ⟨r,by omega,by
    subst hm;have:=hr.lens;simpa using List.length_eq_zero_iff.1 (by simpa using this)⟩) ⟨t.1,fun b hb _=>t.2 b hb (by simp)⟩)) (fun hm v' h' n' o t=>isSo_iff.2 (k v' h' n' (.inl (by rw[Nat.zero_add];exact o)) ⟨t.1,fun b hb _=>t.2 b hb (by simp)⟩))
   exact this
theorem bn_s0{P:Program}{ty el:Nat}[s:UnC P ty (.slice el)]{ox oy:Operand}{a b c d:Nat}:Bn P .eql ty ox oy (.slice none a b) (.slice none c d) (.bool true):=by
 show(match BinOp.eql,und P ty with
  | .eql,some dd=>cond (zO ox oy (.slice none a b) (.slice none c d)) ((xZ dd (.slice none a b) (.slice none c d)).map Value.bool) none
  | .neq,some dd=>cond (zO ox oy (.slice none a b) (.slice none c d)) ((xZ dd (.slice none a b) (.slice none c d)).map fun b=>Value.bool (!b)) none
  | _,_=>none:Option Value)=_
 rw[s.ok];rfl
theorem bn_s1{P:Program}{ty el:Nat}[s:UnC P ty (.slice el)]{ox oy:Operand}{p:Addr}{a b c d:Nat}:Bn P .eql ty ox oy (.slice (some p) a b) (.slice none c d) (.bool false):=by
 show(match BinOp.eql,und P ty with
  | .eql,some dd=>cond (zO ox oy (.slice (some p) a b) (.slice none c d)) ((xZ dd (.slice (some p) a b) (.slice none c d)).map Value.bool) none
  | .neq,some dd=>cond (zO ox oy (.slice (some p) a b) (.slice none c d)) ((xZ dd (.slice (some p) a b) (.slice none c d)).map fun b=>Value.bool (!b)) none
  | _,_=>none:Option Value)=_
 rw[s.ok];rfl
section
variable {P:Program} {ng:Nat}
def Iter(P:Program)(ng:Nat){α : Type}(enc: α→Value)(elems:List α)(g:FuncId)(args:List Value)(L:Nat)(h:zB)(n:Nat)(E:zB→Nat→Prop):Prop:=
 ∀(J:List α→zB→Nat→Prop) (JF:zB→Nat→Prop),(∀done h' n',J done h' n'→E h' n')→J [] h n→
  (∀done e h' n',J done h' n'→(done++[e]) <+: elems→Rou P ng L [enc e] h' n' fun r h2 n2=>n'≤n2∧((r = .ret (.bool true)∧J (done++[e]) h2 n2)∨(r = .ret (.bool false)∧JF h2 n2)))→
  Com P ng g args h n fun r h' n'=>r = .ret (.tuple #[])∧(J elems h' n'∨JF h' n')
theorem it_core[Fit P ng]{α : Type}{enc: α→Value}{elems:List α}{ps:List Tmp}{assign body:Code}{fn:FuncId}{l:List (Nat×Value)}{t:Fr}{cx:Cx}{d:List Deferred}{u:Option zE}{h:zB}{n L D:Nat}{Q:QX}{g:FuncId}{args:List Value}{E:zB→Nat→Prop}
(I:List α→zB→Nat→Prop)(F:Code→zB→Nat→Prop)(hps:ps.length=1)(it:Iter P ng enc elems g args L h n E)(hE:∀done h' n',I done h' n'→E h' n')
(hL:zF h L=LoO .ready none fn ps.toArray assign body D (FA l t))(h0:I [] h n)
(bd:∀done e h' n',I done h' n'→zF h' L=LoO .ready none fn ps.toArray assign body D (FA l t)→(done++[e]) <+: elems→WC P ng assign ⟨fn,some L,false⟩ (FA (parl ps [enc e] l) t) ⟨[],none,h',n'⟩ (asQ P ng L fn ps.toArray assign body D (FA l t) fun r h2 n2=>n'≤n2∧((r = .ret (.bool true)∧zF h2 L=LoO .ready none fn ps.toArray assign body D (FA l t)∧I (done++[e]) h2 n2)∨(r = .ret (.bool false)∧∃j,zF h2 L=LoO .done (some j) fn ps.toArray assign body D (FA l t)∧F j h2 n2))))
(fin:∀h' n',I elems h' n'→Q .normal (FA l t) ⟨d,u,hal h' L (LoO .exhausted none fn ps.toArray assign body D (FA l t)),n'⟩)
(finF:∀j h' n',F j h' n'→WC P ng j cx (FA l t) ⟨d,u,hal h' L (LoO .exhausted (some j) fn ps.toArray assign body D (FA l t)),n'⟩ Q) :
 CallB P ng g args h n (rgQ P ng L fn ps.toArray assign body D cx (FA l t) d u Q):=by
 refine cal0 (it (fun done h' n'=>zF h' L=LoO .ready none fn ps.toArray assign body D (FA l t)∧I done h' n') (fun h' n'=>∃j,zF h' L=LoO .done (some j) fn ps.toArray assign body D (FA l t)∧F j h' n') (fun done h' n' q=>hE _ _ _ q.2) ⟨hL,h0⟩ fun done e h' n' ⟨q1,q2⟩ hp=>rou q1 hps (bd done e h' n' q2 q1 hp)) ?_
 rintro _ h' n' ⟨rfl,⟨q1,q2⟩|⟨j,q1,q2⟩⟩
 · exact .inl ⟨q1,fin h' n' q2⟩
 · exact .inr ⟨j,q1,finF j h' n' q2⟩
end
end Go.Ex
namespace Go.Ex
def MpS(h:zB)(b:Nat)(l:List (List UInt8×Value)):Prop:=∃es clock,zF h b = .map es clock∧es.map (fun e=>(e.key,e.val))=l.map fun p=>(str p.1,p.2)
 class MsC (P:Program) (ty:Nat) (z:outParam Value):Prop where ok:∃kt et,und P ty=some (.map kt et)∧und P kt=some .string∧zZ P et=some z
theorem keyEq_str(x y:List UInt8):keyEq (str x) (str y)=some (decide (x=y)):=by
 show some (wE x y)=_;rw [bytesEq_dec]
theorem findS_at{x:List UInt8}{v:Value}{B:List (List UInt8×Value)}:∀{A:List (List UInt8×Value)} {es:List MapEntry} {i:Nat},es.map (fun e=>(e.key,e.val))=((A++(x,v)::B).map fun p=>(str p.1,p.2))→(∀p∈A,p.1≠x)→vA (str x) es i=some (some (i+A.length,v)):=by
 intro A
 induction A with
 | nil =>
  intro es i he _
  cases es with
  | nil=>cases he
  | cons e es=>
   rw[List.map_cons,List.nil_append,List.map_cons]at he;injection he with h1 h2
   injection h1 with h1 h3
   unfold vA;rw [h1,keyEq_str,decide_eq_true rfl,h3];rfl
 | cons p r ih =>
  intro es i he hno
  cases es with
  | nil=>cases he
  | cons e es=>
   rw[List.map_cons,List.cons_append,List.map_cons]at he;injection he with h1 h2
   injection h1 with h1 h3
   unfold vA;rw [h1,keyEq_str,decide_eq_false fun h=>hno p (List.mem_cons_self ..) h.symm];rw [show some (some (i+(p::r).length,v))=some (some ((i+1)+r.length,v)) by rw[List.length_cons];congr 3;omega];exact ih h2 fun q hq=>hno q (List.mem_cons_of_mem _ hq)
section
variable {P:Program} {ty:Nat} {z:Value} {h:zB} {b:Nat} {l:List (List UInt8×Value)} {x:List UInt8}
theorem lku_at[s:MsC P ty z]{A B:List (List UInt8×Value)}{v:Value}{ok:Bool}(m:MpS h b (A++(x,v)::B))(hno:∀p∈A,p.1≠x):yH P h ty (.map (some b)) (str x) ok=some (cond ok (.tuple ⟨[v,.bool true]⟩) v):=by
 obtain⟨kt,et,h1,h2,h3⟩:=s.ok;obtain⟨es,clock,h4,h5⟩:=m;unfold yH;rw [h1];dsimp only;rw [h2,h3];dsimp only;rw [h4];dsimp only;rw [findS_at h5 hno];rfl
end
theorem MpS.tch{S:List Nat}{h h':zB}{n n' b:Nat}{l:List (List UInt8×Value)}(m:MpS h b l)(t:Tch S h n h' n')(hb:b<n)(hS:b∉S):MpS h' b l:=by
 obtain⟨es,clock,h4,h5⟩:=m;exact⟨es,clock,by rw[t.2 b hb hS];exact h4,h5⟩
end Go.Ex
namespace Go.Ex
noncomputable def slB(P:Program)(ty e sz:Nat):Bool:=match und P ty with
  | some (.slice e') => match inf? P e' with
    | some ei=>Nat.beq e' e && Nat.beq ei.size sz
    | none=>false
  | _=>false
 class SlC (P:Program) (ty:Nat) (e sz:outParam Nat):Prop where ok:slB P ty e sz=true
theorem SlC.get{P:Program}{ty e sz:Nat}(s:SlC P ty e sz):und P ty=some (.slice e)∧∃ei,inf? P e=some ei∧ei.size=sz:=by
 have h:=s.ok;unfold slB at h;split at h
 · rename_i e' h1;split at h
   · rename_i ei h2;obtain⟨a,b⟩:=Bool.and_eq_true_iff.1 h;have a:=zD a;have b:=zD b;subst a;exact⟨h1,ei,h2,b⟩
   · cases h
 · cases h
theorem bound_at{d most k:Nat}(h:k≤most):zT d most (some (I64 (k:Nat)))=some k:=by
 show(cond (Nat.ble k most) (some k) none:Option Nat)=some k;rw [vW h];rfl
section
variable {P:Program} {ty e sz lo n len k:Nat} {h:zB} {v:Value} {vs:List Value}
theorem slice_full[s:SlC P ty e sz](o:Own lo n h v e sz len vs)(hk:k≤len)(hl:len<1000000)(hs:1≤sz):∃v',wS P h ty v none (some (I64 (k:Nat))) (some (I64 (k:Nat)))=some v'∧Row n h v' e sz k (vs.take (k*sz))∧yL v'=yL v∧(v' = .slice none 0 0∨∃b,v' = .slice (some ⟨b,0,none⟩) k k):=by
 obtain⟨hu,ei,hi,hsz⟩:=s.get;rcases o with⟨rfl,rfl,rfl⟩|⟨b,q1,q2,rfl,q3,q4,q5,q6⟩
 · obtain rfl:k=0:=by omega
   refine⟨.slice none 0 0,?_,.inl ⟨rfl,rfl,by simp⟩,rfl,.inl rfl⟩;unfold wS;rw [hu];dsimp only;rw [hi];rfl
 · have hinf:(1000000:Nat)≤inf:=by decide
   refine⟨.slice (some ⟨b,0,none⟩) k k,?_,?_,rfl,.inr ⟨b,rfl⟩⟩
   · unfold wS;rw [hu];dsimp only;rw [hi];dsimp only;have hci:Nat.beq inf inf=true:=Nat.beq_refl _;rw [hci];cases hg:zF h b <;> rw[hg]at q3 <;> first|(cases q3;done)|(exact absurd (kd_of q3) (by decide))|skip
     rename_i c kn z' kd';have q3':some (kn,z',kd')=some (vs.length,zc e sz,1):=q3;simp only[Option.some.injEq,Prod.mk.injEq]at q3';obtain⟨rfl,rfl,rfl⟩:=q3';show cond (Nat.beq (zc e sz) (zc e ei.size) && Nat.ble 1 ei.size) (aSliceOp ⟨b,0,none⟩ len ei.size none (some (I64 (k:Nat))) (some (I64 (k:Nat)))) none=_;rw [hsz,Nat.beq_refl,vW hs];unfold aSliceOp;dsimp only[Bool.and_self,cond_true];rw [bound_at hk];dsimp only;rw [bound_at (Nat.le_refl k)];show cond (Nat.blt k inf) (some (Value.slice (some (cond (Nat.beq k 0) ⟨b,0,none⟩ (far ⟨b,0,none⟩ (Nat.mul 0 sz)))) (Nat.sub k 0) (Nat.sub k 0))) none=_;rw [yU (by omega)];have e0:Nat.mul 0 sz=0:=Nat.zero_mul sz;rw [e0];have e1:far ⟨b,0,none⟩ 0=⟨b,0,none⟩:=rfl;rw [e1];cases Nat.beq k 0 <;> rfl
   · have hkl:k*sz≤len*sz:=Nat.mul_le_mul_right _ hk;refine .inr ⟨b,0,k,vs.length,zc e sz,1,q2,rfl,?_,q3,?_,fun j x hj=>?_,.inl ⟨by omega,Nat.le_refl _⟩⟩
     · rw[List.length_take,q4];omega
     · rw[List.length_take];omega
     · rw[List.getElem?_take]at hj;split at hj
       · rw[Nat.zero_add,q6];exact hj
       · cases hj
def WayR(lo n:Nat)(h:zB)(v:Value)(e sz len:Nat)(vs:List Value):Prop:=∃b m z kd cap,lo≤b∧b<n∧v = .slice (some ⟨b,0,none⟩) len cap∧infoOf (zF h b)=some (m,z,kd)∧vs.length=len*sz∧vs.length≤m∧(∀i,i<vs.length→zJ h b i=vs[i]?)∧
 ((kd=0∧z=0∧cap<inf∧len≤cap∧cap*sz≤m)∨(kd=1∧cap=inf∧z=zc e sz))
theorem WayR.row(r:WayR lo n h v e sz len vs)(hs:1≤sz):Row n h v e sz len vs:=by
 obtain⟨b,m,z,kd,cap,h1,h2,rfl,h3,h4,h5,h6,h7⟩:=r;refine .inr ⟨b,0,cap,m,z,kd,h2,rfl,h4,h3,by omega,fun j x hj=>?_,?_⟩
 · rw[Nat.zero_add,h6 j (List.getElem?_eq_some_iff.1 hj).1];exact hj
 · rcases h7 with⟨rfl,_,g1,g2,g3⟩|⟨rfl,rfl,rfl⟩
   · exact .inl ⟨g1,g2⟩
   · exact .inr ⟨rfl,rfl,rfl,hs⟩
theorem way_cut[s:SlC P ty e sz](r:WayR lo n h v e sz len vs)(hk:k≤len)(hs:1≤sz):∃v',wS P h ty v none (some (I64 (k:Nat))) none=some v'∧WayR lo n h v' e sz k (vs.take (k*sz))∧yL v'=yL v:=by
 obtain⟨hu,ei,hi,hsz⟩:=s.get;obtain⟨b,m,z,kd,cap,h1,h2,rfl,h3,h4,h5,h6,h7⟩:=r;have hkl:k*sz≤len*sz:=Nat.mul_le_mul_right _ hk
 have hw:∀cap',((kd=0∧z=0∧cap'<inf∧k≤cap'∧cap'*sz≤m)∨(kd=1∧cap'=inf∧z=zc e sz))→WayR lo n h (.slice (some ⟨b,0,none⟩) k cap') e sz k (vs.take (k*sz)):=fun cap' hc=>by
  refine⟨b,m,z,kd,cap',h1,h2,rfl,h3,by rw[List.length_take];omega,by rw[List.length_take];omega,fun i hi=>?_,hc⟩;rw [List.length_take]at hi;rw [h6 i (by omega),List.getElem?_take_of_lt (by omega)]
 rcases h7 with⟨rfl,rfl,g1,g2,g3⟩|⟨rfl,rfl,rfl⟩
 · refine⟨.slice (some ⟨b,0,none⟩) k cap,?_,hw cap (.inl ⟨rfl,rfl,g1,by omega,g3⟩),rfl⟩;unfold wS;rw [hu];dsimp only;rw [hi];dsimp only
   have hci:Nat.beq cap inf=false:=by
    cases e9:Nat.beq cap inf with
    | false=>rfl
    | true=>have:=zD e9;omega
   rw[hci];show wT ⟨b,0,none⟩ len cap ei.size none (some (I64 (k:Nat))) none=_;unfold wT
   show(match zT len cap (some (I64 (k:Nat))) with
    | none=>none
    | some h=>match zT 0 h none with
     | none=>none
     | some l=>cond (Nat.blt cap inf && Nat.ble h cap) (some (Value.slice (some (cond (Nat.beq cap l) ⟨b,0,none⟩ (far ⟨b,0,none⟩ (Nat.mul l ei.size)))) (Nat.sub h l) (Nat.sub cap l))) none:Option Value)=_
   rw[bound_at (by omega)];show cond (Nat.blt cap inf && Nat.ble k cap) (some (Value.slice (some (cond (Nat.beq cap 0) ⟨b,0,none⟩ (far ⟨b,0,none⟩ (Nat.mul 0 ei.size)))) (Nat.sub k 0) (Nat.sub cap 0))) none=_;rw [yU g1,vW (by omega)];have e0:Nat.mul 0 ei.size=0:=Nat.zero_mul _;rw [e0];have e1:far ⟨b,0,none⟩ 0=⟨b,0,none⟩:=rfl;rw [e1];cases Nat.beq cap 0 <;> rfl
 · refine⟨.slice (some ⟨b,0,none⟩) k inf,?_,hw inf (.inr ⟨rfl,rfl,rfl⟩),rfl⟩;unfold wS;rw [hu];dsimp only;rw [hi];dsimp only;have hci:Nat.beq inf inf=true:=Nat.beq_refl _;rw [hci];cases hg:zF h b <;> rw[hg]at h3 <;> first|(cases h3;done)|(exact absurd (kd_of h3) (by decide))|skip
   rename_i c kn z' kd';have q3':some (kn,z',kd')=some (m,zc e sz,1):=h3;simp only[Option.some.injEq,Prod.mk.injEq]at q3';obtain⟨rfl,rfl,rfl⟩:=q3';show cond (Nat.beq (zc e sz) (zc e ei.size) && Nat.ble 1 ei.size) (aSliceOp ⟨b,0,none⟩ len ei.size none (some (I64 (k:Nat))) none) none=_;rw [hsz,Nat.beq_refl,vW hs];unfold aSliceOp;dsimp only[Bool.and_self,cond_true];rw [bound_at hk];show some (Value.slice (some (far ⟨b,0,none⟩ (Nat.mul 0 sz))) (Nat.sub k 0) inf)=_;have e0:Nat.mul 0 sz=0:=Nat.zero_mul _;rw [e0];rfl
end
end Go.Ex
namespace Go.Ex
section
variable {P:Program} {ng:Nat}
end
end Go.Ex
namespace Go.Ex
def Sub(l h:zB):Prop:=∀b,zF l b = .dead∨zF h b=zF l b
theorem Sub.refl(h:zB):Sub h h:=fun _=>.inr rfl
section
variable {P:Program} {ng:Nat}
theorem HeapR.sub{ρ : Inj}{base:Nat}{w0:World}{h l:zB}{n:Nat}{wd:World}(r:HeapR P ng ρ base w0 h n wd)(hs:Sub l h):HeapR P ng ρ base w0 l n wd:=by
 refine⟨r.dom,fun b B e hl=>?_,fun a b A B ea eb la lb=>?_,r.below,r.size,r.glob,r.ngn⟩
 · rcases hs b with h1|h1
   · exact absurd h1 hl
   · rw[← h1]at hl ⊢;exact r.obj b B e hl
 · rcases hs a with h1|h1
   · exact absurd h1 la
   · rcases hs b with h2|h2
     · exact absurd h2 lb
     · exact r.inj a b A B ea eb (by rw[h1];exact la) (by rw[h2];exact lb)
theorem Grow.sub{ρ ρ':Inj}{h l h1 l1:zB}{n n':Nat}{wd wd':World}(g:Grow ρ l n wd ρ' h1 n' wd')(hs:Sub l h)(hs1:Sub l1 h1):Grow ρ h n wd ρ' l1 n' wd':=by
 have up:∀b,zF l b≠.dead→zF h b≠.dead:=fun b hb=>by
  rcases hs b with h2|h2
  · exact absurd h2 hb
  · rw[h2];exact hb
 have dn:∀b,zF h1 b = .dead→zF l1 b = .dead:=fun b hb=>by
  rcases hs1 b with h2|h2
  · exact h2
  · rw[← h2];exact hb
 refine⟨g.nn,g.old,fun b B hb e=>?_,fun c hc hk=>g.keep c hc fun b B e hl=>hk b B e (up b hl),g.size,fun b hb hd=>dn b (g.dead b hb ?_),g.tape⟩
 · rcases g.new b B hb e with h2|⟨a,A,h3,h4,h5,h6⟩
   · exact .inl h2
   · exact .inr ⟨a,A,h3,h4,h5,up a h6⟩
 · rcases hs b with h2|h2
   · exact h2
   · rw[← h2];exact hd
theorem CallTo.sub{f:FuncId}{args:List Value}{df:Bool}{u u':Option zE}{h l h1 l1:zB}{n n':Nat}{o:Out}(c:CallTo P ng f args df u l n o u' h1 n')(hs:Sub l h)(hs1:Sub l1 h1) :
 CallTo P ng f args df u h n o u' l1 n':=by
 refine⟨c.1,fun ρ base w0 wd args' cs hH ha hu=>?_⟩;obtain⟨ρ',wd',fr,cs',s1,s2,s3,s4,s5,s6,s7⟩:=c.2 ρ base w0 wd args' cs (hH.sub hs) ha hu;exact⟨ρ',wd',fr,cs',s1,s2.sub hs1,s3.sub hs hs1,s4,s5,s6,s7⟩
theorem CallTo.chain{f:FuncId}{args:List Value}{u':Option zE}{h h1:zB}{n n':Nat}{o:Out}(c:CallTo P ng f args false none h n o u' h1 n')(u:Option zE) :
 CallTo P ng f args false u h n o u h1 n':=by
 refine⟨c.1,fun ρ base w0 wd args' cs hH ha hu=>?_⟩;obtain⟨ρ',wd',fr,cs',s1,s2,s3,s4,s5,s6,s7⟩:=c.2 ρ base w0 wd args' cs hH ha (fun e=>by cases e);exact⟨ρ',wd',fr,cs',s1,s2,s3,s4,(fun e=>Bool.noConfusion e),s6,s7⟩
end
noncomputable def eqVs(a b:List Value)(f:Value→Value→Bool):Bool:=
 List.rec (motive:=fun _=>List Value→Bool) (fun b=>List.rec true (fun _ _ _=>false) b) (fun x _ ih b=>List.rec false (fun y r _=>Bool.rec false (ih r) (f x y)) b) a b
noncomputable def eqV0(x y:Value):Bool:=scalB x y
noncomputable def eqV1(x y:Value):Bool:=
 match x,y with
 | .func (.func f) a b,.func (.func g) c d=>Nat.beq f g && (eqVs a.toList c.toList eqV0 && eqVs b.toList d.toList eqV0)
 | .iface t a,.iface s b=>Nat.beq t s && scalB a b
 | .agg a,.agg b=>eqVs a.toList b.toList eqV0
 | .tuple a,.tuple b=>eqVs a.toList b.toList eqV0
 | x,y=>scalB x y
noncomputable def eqTr(a b:Tr Value):Bool:=
 Tr.rec (motive:=fun _=>Tr Value→Bool) (fun b=>Tr.rec true (fun _ _ _ _ _=>false) b)
  (fun _ v _ il ir b=>Tr.rec false (fun l w r _ _=>Bool.rec false (Bool.rec false (ir r) (il l)) (eqV1 v w)) b) a b
noncomputable def eqEs(a b:List MapEntry):Bool:=
 List.rec (motive:=fun _=>List MapEntry→Bool) (fun b=>List.rec true (fun _ _ _=>false) b)
  (fun x _ ih b=>List.rec false (fun y r _=>Bool.rec false (ih r) (Nat.beq x.born y.born && (eqV1 x.key y.key && eqV1 x.val y.val))) b) a b
noncomputable def eqObj(a b:AObj):Bool:=
 match a,b with
 | .cells c n z kd,.cells c' n' z' kd'=>Nat.beq n n' && (Nat.beq z z' && (Nat.beq kd kd' && eqTr c c'))
 | .map es k,.map es' k'=>Nat.beq k k' && eqEs es es'
 | _,_=>false
noncomputable def subH(l h:zB):Bool:=
 Tr.rec (motive:=fun _=>zB→Bool) (fun _=>true)
  (fun _ v _ il ir h=>Tr.rec false (fun hl w hr _ _=>Bool.rec false (Bool.rec false (ir hr) (il hl)) (AObj.rec (motive:=fun _=>AObj→Bool) (fun _=>true) (fun c n z kd w=>eqObj (.cells c n z kd) w) (fun es k w=>eqObj (.map es k) w) (fun _ _ _=>false) (fun _ _=>false) (fun _ _ _ _ _=>false) (fun _ _ _=>false) v w)) h) l h
theorem eqVs_eq{f:Value→Value→Bool}(hf:∀x y,f x y=true→x=y):∀{a b:List Value},eqVs a b f=true→a=b:=by
 intro a
 induction a with
 | nil=>intro b h;cases b with
  | nil=>rfl
  | cons _ _=>cases h
 | cons x a ih => intro b h; cases b with
  | nil=>cases h
  | cons y b=>
   have h':(Bool.rec false (eqVs a b f) (f x y):Bool)=true:=h
   cases e:f x y with
   | false=>rw [e]at h';cases h'
   | true=>rw [e]at h';rw [hf _ _ e,ih h']
theorem arr_eq{a b:Array Value}(h:a.toList=b.toList):a=b:=by cases a;cases b;cases h;rfl
theorem eqV1_eq{x y:Value}(h:eqV1 x y=true):x=y:=by
 unfold eqV1 at h;split at h
 · obtain⟨h1,h2⟩:=Bool.and_eq_true_iff.1 h;obtain⟨h2,h3⟩:=Bool.and_eq_true_iff.1 h2;rw [zD h1,arr_eq (eqVs_eq (fun _ _=>xW) h2),arr_eq (eqVs_eq (fun _ _=>xW) h3)]
 · obtain⟨h1,h2⟩:=Bool.and_eq_true_iff.1 h;rw [zD h1,xW h2]
 · rw[arr_eq (eqVs_eq (fun _ _=>xW) h)]
 · rw[arr_eq (eqVs_eq (fun _ _=>xW) h)]
 · exact xW h
theorem eqTr_eq:∀{a b:Tr Value},eqTr a b=true→a=b:=by
 intro a
 induction a with
 | lF=>intro b h;cases b with
  | lF=>rfl
  | nD _ _ _=>cases h
 | nD l v r il ir => intro b h; cases b with
  | lF=>cases h
  | nD l' w r' =>
   have h':(Bool.rec false (Bool.rec false (eqTr r r') (eqTr l l')) (eqV1 v w):Bool)=true:=h
   cases e1:eqV1 v w with
   | false=>rw [e1]at h';cases h'
   | true=>
    rw[e1]at h'
    cases e2:eqTr l l' with
    | false=>rw [e2]at h';cases h'
    | true=>rw [e2]at h';rw [eqV1_eq e1,il e2,ir h']
theorem eqEs_eq:∀{a b:List MapEntry},eqEs a b=true→a=b:=by
 intro a
 induction a with
 | nil=>intro b h;cases b with
  | nil=>rfl
  | cons _ _=>cases h
 | cons x a ih => intro b h; cases b with
  | nil=>cases h
  | cons y b =>
   have h':(Bool.rec false (eqEs a b) (Nat.beq x.born y.born && (eqV1 x.key y.key && eqV1 x.val y.val)):Bool)=true:=h
   cases e:(Nat.beq x.born y.born && (eqV1 x.key y.key && eqV1 x.val y.val)) with
   | false=>rw [e]at h';cases h'
   | true=>
    rw[e]at h';obtain⟨e1,e2⟩:=Bool.and_eq_true_iff.1 e;obtain⟨e2,e3⟩:=Bool.and_eq_true_iff.1 e2;obtain⟨k1,v1,b1⟩:=x;obtain⟨k2,v2,b2⟩:=y;dsimp only at e1 e2 e3;rw [ih h',zD e1,eqV1_eq e2,eqV1_eq e3]
theorem eqObj_eq{a b:AObj}(h:eqObj a b=true):a=b:=by
 unfold eqObj at h;split at h
 · obtain⟨h1,h2⟩:=Bool.and_eq_true_iff.1 h;obtain⟨h2,h3⟩:=Bool.and_eq_true_iff.1 h2;obtain⟨h3,h4⟩:=Bool.and_eq_true_iff.1 h3;rw [zD h1,zD h2,zD h3,eqTr_eq h4]
 · obtain⟨h1,h2⟩:=Bool.and_eq_true_iff.1 h;rw [zD h1,eqEs_eq h2]
 · cases h
theorem subP:∀{l h:zB},subH l h=true→∀p,Tr.getP .dead p l = .dead∨Tr.getP .dead p h=Tr.getP .dead p l:=by
 intro l
 induction l with
 | lF=>intro h _ p;exact .inl (Tr.getP_leaf _ _)
 | nD l v r il ir => intro h hs p; cases h with
  | lF=>cases hs
  | nD hl w hr =>
   have h':(Bool.rec false (Bool.rec false (subH r hr) (subH l hl)) (AObj.rec (motive:=fun _=>AObj→Bool) (fun _=>true) (fun c n z kd w=>eqObj (.cells c n z kd) w) (fun es k w=>eqObj (.map es k) w) (fun _ _ _=>false) (fun _ _=>false) (fun _ _ _ _ _=>false) (fun _ _ _=>false) v w):Bool)=true:=hs
   cases e1:(AObj.rec (motive:=fun _=>AObj→Bool) (fun _=>true) (fun c n z kd w=>eqObj (.cells c n z kd) w) (fun es k w=>eqObj (.map es k) w) (fun _ _ _=>false) (fun _ _=>false) (fun _ _ _ _ _=>false) (fun _ _ _=>false) v w:Bool) with
   | false=>rw [e1]at h';cases h'
   | true =>
    rw[e1]at h'
    cases e2:subH l hl with
    | false=>rw [e2]at h';cases h'
    | true =>
     rw[e2]at h'
     cases p with
     | here=>
      show v = .dead∨w=v
      cases v with
      | dead=>exact .inl rfl
      | cells=>exact .inr (eqObj_eq e1).symm
      | map=>exact .inr (eqObj_eq e1).symm
      | _=>cases e1
     | l p=>exact il e2 p
     | r p=>exact ir h' p
theorem subH_ok{l h:zB}(hs:subH l h=true):Sub l h:=fun _=>subP hs _
structure Rsl where
 v:Value
 h:zB
 n:Nat
structure Once where
 f:FuncId
 args:List Value
 h:zB
 n:Nat
 r:Rsl
noncomputable def Once.fin(o:Once):KO:=fun x _ h n=>Out.rec (fun v=>Bool.rec false (Bool.rec false (subH o.r.h h) (Nat.beq n o.r.n)) (eqV1 v o.r.v)) (fun _=>false) x
noncomputable def Once.run(o:Once)(lo:Lo):Bool:=lo.call o.f o.args false none o.h o.n o.fin
theorem once_to{P:Program}{ng:Nat}{lo:Lo}(hS:Sound P ng lo){o:Once}(hr:o.run lo=true)(u:Option zE){h:zB}(hs:Sub o.h h):CallTo P ng o.f o.args false u h o.n (.ret o.r.v) u o.r.h o.r.n:=by
 obtain⟨x,u',h',n',hk,hc⟩:=hS.call _ _ _ _ _ _ _ hr
 cases x with
 | panic c=>cases hk
 | ret v =>
  have hk':(Bool.rec false (Bool.rec false (subH o.r.h h') (Nat.beq n' o.r.n)) (eqV1 v o.r.v):Bool)=true:=hk
  cases e1:eqV1 v o.r.v with
  | false=>rw [e1]at hk';cases hk'
  | true =>
   rw[e1]at hk'
   cases e2:Nat.beq n' o.r.n with
   | false=>rw [e2]at hk';cases hk'
   | true=>
    rw[e2]at hk';obtain rfl:=eqV1_eq e1;obtain rfl:=zD e2;exact(hc.chain u).sub hs (subH_ok hk')
end Go.Ex
namespace Go.Ex
section
variable {P:Program} {ty:Nat} {ox oy:Operand} {a:Nat}
theorem bn_quo64(h:(a:Int)<9223372036854775808):Bn P .quo ty ox oy (I64 (a:Nat)) (I64 64) (I64 ((a / 64:Nat):Int)):=by
 unfold Bn;rw [binI];show cond (ieqB 64 0) none (some (Value.int .i64 (wC .i64 (Int.tdiv (a:Nat) 64))))=_;rw [xD];show some (Value.int .i64 (wC .i64 (Int.tdiv (a:Nat) 64)))=_
 have e:Int.tdiv ((a:Nat):Int) 64=((a / 64:Nat):Int):=by
  rw[show(64:Int)=((64:Nat):Int) from rfl,Int.ofNat_tdiv]
 rw[e,wrap_in ⟨by omega,by omega⟩]
theorem bn_rem64:Bn P .rem ty ox oy (I64 (a:Nat)) (I64 64) (I64 ((a % 64:Nat):Int)):=by
 unfold Bn;rw [binI];show cond (ieqB 64 0) none (some (Value.int .i64 (Int.tmod (a:Nat) 64)))=_;rw [xD];show some (Value.int .i64 (Int.tmod (a:Nat) 64))=_
 have e:Int.tmod ((a:Nat):Int) 64=((a % 64:Nat):Int):=by
  rw[show(64:Int)=((64:Nat):Int) from rfl,Int.ofNat_tmod]
 rw[e]
abbrev U64(x:Nat):Value:=.int .u64 ((x:Nat):Int)
theorem wrap_u{x:Nat}(h:x<18446744073709551616):wC .u64 ((x:Nat):Int)=(x:Nat):=by
 rw[yZ];show((x:Nat):Int) % 18446744073709551616=_;omega
theorem bn_shl{x m:Nat}(hm:m<64)(h:x*2 ^ m<18446744073709551616):Bn P .shl ty ox oy (U64 x) (I64 (m:Nat)) (U64 (x*2 ^ m)):=by
 show(cond (Nat.blt m 64) (some (Value.int .u64 (wC .u64 (Int.mul (x:Nat) (.ofNat (Nat.pow 2 m)))))) none:Option Value)=_;rw [yU hm];have e:Int.mul ((x:Nat):Int) (.ofNat (Nat.pow 2 m))=((x*2 ^ m:Nat):Int):=rfl;rw [e,wrap_u h];rfl
theorem bn_shl1{m:Nat}(hm:m<64):Bn P .shl ty ox oy (.int .u64 1) (I64 (m:Nat)) (U64 (2 ^ m)):=by
 have h:2 ^ m<18446744073709551616:=Nat.pow_lt_pow_right (by decide) hm;have:=bn_shl (P:=P) (ty:=ty) (ox:=ox) (oy:=oy) (x:=1) hm (by omega);rw [Nat.one_mul]at this;exact this
theorem bn_shr{x m:Nat}(hm:m<64):Bn P .shr ty ox oy (U64 x) (I64 (m:Nat)) (U64 (x >>> m)):=by
 show(cond (Nat.blt m 64) (some (Value.int .u64 (.ofNat (Nat.shiftRight x m)))) none:Option Value)=_;rw [yU hm];rfl
theorem bits_of{op:BinOp}{x y r:Nat}(hx:x<18446744073709551616)(hy:y<18446744073709551616)(he:bitNat op x y=some r):aBits op .u64 ((x:Nat):Int) ((y:Nat):Int)=some (U64 r):=by
 show cond (Nat.blt x 18446744073709551616 && Nat.blt y 18446744073709551616) ((bitNat op x y).map fun r=>Value.int .u64 (.ofNat r)) none=_;rw [yU hx,yU hy,he];rfl
theorem bn_and{x y:Nat}(hx:x<18446744073709551616)(hy:y<18446744073709551616):Bn P .and ty ox oy (U64 x) (U64 y) (U64 (x &&& y)):=by
 unfold Bn;rw [binI];exact bits_of hx hy rfl
theorem bn_and1{x:Nat}(hx:x<18446744073709551616):Bn P .and ty ox oy (U64 x) (.int .u64 1) (U64 (x &&& 1)):=bn_and hx (by decide)
theorem bn_or{x y:Nat}(hx:x<18446744073709551616)(hy:y<18446744073709551616):Bn P .or ty ox oy (U64 x) (U64 y) (U64 (x ||| y)):=by
 unfold Bn;rw [binI];exact bits_of hx hy rfl
theorem bn_andnot{x y:Nat}(hx:x<18446744073709551616)(hy:y<18446744073709551616):Bn P .andNot ty ox oy (U64 x) (U64 y) (U64 (x ^^^ (x &&& y))):=by
 unfold Bn;rw [binI];exact bits_of hx hy rfl
end
end Go.Ex
