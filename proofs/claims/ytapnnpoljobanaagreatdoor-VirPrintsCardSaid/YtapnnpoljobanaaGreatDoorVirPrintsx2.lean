/- What the law leans on: an executor of the model that is sound, deduction over it, and the walks through the code (part 2 of 6). Conditions: those that each theorem states. -/
import Derived.Test.YtapnnpoljobanaaGreatDoorVirPrintsx1
import Derived.Orders

set_option linter.unusedVariables false
set_option linter.unusedSimpArgs false
namespace Go.Ex
section
variable {P:Program} {ng:Nat}
theorem TmR.put{ρ : Inj}{N:Nat}{t:Fr}{ts:Array Value}(h:TmR ρ N t ts){v v':Value}(hv:RV ρ v v')(i:Nat):TmR ρ N (Tr.set undef v t i) (ts.setIfInBounds i v'):=by
 refine⟨by simpa using h.sz,fun j x hx=>?_⟩;unfold zA;rw [Tr.get_set_if];rw [Array.getElem?_setIfInBounds]at hx;by_cases e:i=j
 · subst e;rw [if_pos rfl]at hx ⊢;split at hx
   · injection hx with hx;subst hx;exact hv
   · cases hx
 · rw[if_neg e]at hx ⊢;exact h.tm j x hx
theorem run_loop{wd:World}{r:Nat}{l:Loop}(h:wd.heap[r]? = some (.loop l)):(Instr.getLoop r).run P wd = .ok l wd:=by simp[Instr.getLoop,getObj,Sem.run,h]
theorem run_setLoop{wd:World}{r:Nat}{l l2:Loop}(h:wd.heap[r]? = some (.loop l)):(setObj r (.loop l2)).run P wd = .ok () { wd with heap:=wd.heap.setIfInBounds r (.loop l2) }:=by simp[setObj,Sem.run,h]
noncomputable def setP:Fr→List Tmp→List Value→Fr
 | t,i::is,v::vs=>setP (Tr.set undef v t i) is vs
 | t,_,_=>t
theorem setParams_true:∀{is:List Tmp} {vs:List Value} {t:Fr} {k:Fr→Bool},pZ t is vs k=true→is.length=vs.length∧k (setP t is vs)=true:=by
 intro is
 induction is with
 | nil=>
  intro vs t k h
  cases vs with
  | nil=>exact⟨rfl,h⟩
  | cons v vs=>cases h
 | cons i is ih =>
  intro vs t k h
  cases vs with
  | nil=>cases h
  | cons v vs=>
   simp only[pZ,wY,fsetK,Tr.setK_eq]at h;obtain⟨h1,h2⟩:=ih h;exact⟨by simp[h1],h2⟩
theorem setP_ok{ρ : Inj}{N:Nat}:∀{is:List Tmp} {vs vs':List Value} {t:Fr} {ts:Array Value},TmR ρ N t ts→RVs ρ vs vs'→
 TmR ρ N (setP t is vs) ((is.zip vs').foldl (fun tmps (x:Tmp×Value)=>tmps.setIfInBounds x.1 x.2) ts):=by
 intro is
 induction is with
 | nil=>intro vs vs' t ts h _;cases vs <;> exact h
 | cons i is ih =>
  intro vs vs' t ts h hv
  cases vs with
  | nil=>obtain rfl:=hv.of_nil;exact h
  | cons v vs=>
   obtain⟨v',r',rfl,h1,h2⟩:=hv.of_cons;exact ih (h.put h1 i) h2
theorem HeapR.turnLoop{ρ : Inj}{base:Nat}{w0:World}{h:zH}{n:Nat}{wd:World}(r:HeapR P ng ρ base w0 h n wd){l:Nat}{B:Bl}(hb: ρ l=some B){l1:Loop}{t1:Fr}(hg:yG h l = .loop l1 t1)(s:LoopState)(p:Option Code)
(hp:∀j,p=some j→∀N,vY ng N j=true) :
 ∃l1':Loop,wd.heap[B.b]? = some (.loop l1')∧l1'.state=l1.state∧l1'.pending=l1.pending∧
  HeapR P ng ρ base w0 (h.set .dead (.loop { l1 with state:=s,pending:=p } t1) l) n { wd with heap:=wd.heap.setIfInBounds B.b (.loop { l1' with state:=s,pending:=p }) }∧
  Grow ρ h n wd ρ (h.set .dead (.loop { l1 with state:=s,pending:=p } t1) l) n { wd with heap:=wd.heap.setIfInBounds B.b (.loop { l1' with state:=s,pending:=p }) }:=by
 have hdead:yG h l≠.dead:=by rw[hg];exact AObj.noConfusion
 obtain⟨ob,e1,e2⟩:=r.obj l B hb hdead;rw [hg]at e2
 cases e2 with
 | loop h1 h2 h3 h4 h5 h6 h7 h8 h9 h10 h11 h12 hbb =>
  rename_i l1';have hlt:=r.lt hb hdead
  obtain⟨g1,g2⟩:=r.turn hb hdead (.loop { l1 with state:=s,pending:=p } t1) (.loop { l1' with state:=s,pending:=p }) { wd with heap:=wd.heap.setIfInBounds B.b (.loop { l1' with state:=s,pending:=p }) } hbb
   (.loop rfl rfl h3 h4 h5 h6 h7 h8 h9 h10 hp h12 hbb) (by simp[hlt]) (by simp) (fun c hc=>by
    show(wd.heap.setIfInBounds B.b _)[c]? = _;rw [Array.getElem?_setIfInBounds,if_neg (fun e=>hc e.symm)]) rfl rfl rfl
  exact⟨l1',e1,h1,h2,g1,g2⟩
def jumpOK(j:Option Code):Prop:=∀c,j=some c→∀(ng N:Nat),vY ng N c=true
theorem endRound_ok{l:Nat}{j:Option Code}(hj:jumpOK j){h:zH}{n:Nat}{k:Out→zH→Nat→Bool}(hx:endRound l j h n k=true) :
 ∃h',k (.ret (.bool j.isNone)) h' n=true∧∀(ρ : Inj) (base:Nat) (w0 wd:World) (B:Bl),HeapR P ng ρ base w0 h n wd→ρ l=some B→
  ∃wd',(Instr.endRound B.b j).run P wd = .ok (.bool j.isNone) wd'∧HeapR P ng ρ base w0 h' n wd'∧Grow ρ h n wd ρ h' n wd':=by
 unfold endRound at hx;split at hx
 case h_2=>cases hx
 rename_i l2 t2 hg;rw [Tr.setK_eq]at hx
 have key:∀(s:LoopState) (q:Bool),s=(if j.isNone then .ready else .done)→q=j.isNone→k (.ret (.bool q)) (h.set .dead (.loop { l2 with state:=s,pending:=j } t2) l) n=true→
  ∃h',k (.ret (.bool j.isNone)) h' n=true∧∀(ρ : Inj) (base:Nat) (w0 wd:World) (B:Bl),HeapR P ng ρ base w0 h n wd→ρ l=some B→
   ∃wd',(Instr.endRound B.b j).run P wd = .ok (.bool j.isNone) wd'∧HeapR P ng ρ base w0 h' n wd'∧Grow ρ h n wd ρ h' n wd':=by
  intro s q hs hq hk;subst hq;refine⟨_,hk,fun ρ base w0 wd B hH hb=>?_⟩;obtain⟨l1',e1,e2,e3,e4,e5⟩:=hH.turnLoop hb hg s j (fun c hc N=>hj c hc ng N);refine⟨_,?_,e4,e5⟩;subst hs;simp [Instr.endRound,Instr.getLoop,getObj,setObj,Sem.run,e1]
 cases j with
 | none=>exact key _ _ rfl rfl hx
 | some c=>exact key _ _ rfl rfl hx
theorem xround_ok{lo:Lo}(_hP:xV ng P=true)(hS:Sound P ng lo){l:Nat}{args:List Value}{h:zH}{n:Nat}{k:Out→zH→Nat→Bool}(hx:xround lo l args h n k=true) :
 ∃o h' n',k o h' n'=true∧RoundTo P ng l args h n o h' n':=by
 unfold xround at hx;split at hx
 case h_2=>cases hx
 rename_i ll t0 hg;obtain⟨hlen,hx⟩:=setParams_true hx;obtain⟨x,t1,w1,hk,hc⟩:=hS.code _ _ _ _ _ hx
 cases x with
 | normal =>
  obtain⟨d1,u1,h1,n1⟩:=w1;dsimp only at hk;split at hk
  case h_2=>cases hk
  rename_i l1 tt1 hg1;split at hk
  case h_2=>cases hk
  rename_i hst1;rw [Tr.setK_eq]at hk;obtain⟨x2,t2,w2,hk2,hc2⟩:=hS.code _ _ _ _ _ hk;obtain⟨d2,u2,h2,n2⟩:=w2
  have body:∀(ρ : Inj) (base:Nat) (w0 wd:World) (args':List Value) (B:Bl) (c:Frame) (cs:List Frame),HeapR P ng ρ base w0 h n wd→ρ l=some B→RVs ρ args args'→
   ∃f tmps asg body,(Instr.yield B.b ⟨args'⟩).run P wd = .ok (.round B.b f tmps asg body) wd∧
    ∃(b:Frame) (ρ2:Inj) (a2:Act) (wd2:World),b.roundOf=some B.b∧b.kind = .normal∧In P ng ρ2 base w0 b a2 wd2 (c::cs) ⟨ll.fn,some l,false⟩ t2 ⟨d2,u2,h2,n2⟩∧Grow ρ h n wd ρ2 h2 n2 wd2∧ρ2 l=some B∧
     Arr P (lone (Frame.round B.b f tmps asg body .normal) (c::cs) wd) b [] (c::cs) ρ2 a2 wd2 x2:=by
   intro ρ base w0 wd args' B c cs hH hb ha;have hdead:yG h l≠.dead:=by rw[hg];exact AObj.noConfusion
   obtain⟨ob,e1,e2⟩:=hH.obj l B hb hdead;rw [hg]at e2
   cases e2 with
   | loop q1 q2 q3 q4 q5 q6 q7 q8 q9 q10 q11 q12 hbb =>
    rename_i ll'
    have hsz:¬((⟨args'⟩:Array Value).size≠ll'.params.size):=by
     have:ll'.params.size=args.length:=by rw[q4];simpa using hlen
     have h3:=ha.1;simp;omega
    have hy:(Instr.yield B.b ⟨args'⟩).run P wd = .ok (.round B.b ll.fn ((ll'.params.zip ⟨args'⟩).foldl (fun tmps (x:Tmp×Value)=>tmps.setIfInBounds x.1 x.2) ll'.tmps) ll.assign ll.body) wd:=by
     simp only[Instr.yield,Sem.run_bind,run_loop e1,Result.andThen_ok,if_neg hsz,q3,q5,q6];rfl
    refine⟨_,_,_,_,hy,?_⟩
    have hb0:Frame.round B.b ll.fn ((ll'.params.zip ⟨args'⟩).foldl (fun tmps (x:Tmp×Value)=>tmps.setIfInBounds x.1 x.2) ll'.tmps) ll.assign ll.body .normal =
     ({ (default:Frame) with fn:=ll.fn,kind:=.normal,roundOf:=some B.b }:Frame).atR { tmps:=(ll'.params.zip ⟨args'⟩).foldl (fun tmps (x:Tmp×Value)=>tmps.setIfInBounds x.1 x.2) ll'.tmps,defers:=[] } [.code ll.assign,.beginRound,.code ll.body]:=rfl
    rw[hb0]
    have htm:TmR ρ (ntm P ll.fn) (setP t0 ll.params.toList args) ((ll'.params.zip ⟨args'⟩).foldl (fun tmps (x:Tmp×Value)=>tmps.setIfInBounds x.1 x.2) ll'.tmps):=by
     have:=setP_ok (is:=ll.params.toList) q8 ha;rw [q4,← Array.foldl_toList,Array.toList_zip];exact this
    have hI:In P ng ρ base w0 ({ (default:Frame) with fn:=ll.fn,kind:=.normal,roundOf:=some B.b }:Frame) { tmps:=(ll'.params.zip ⟨args'⟩).foldl (fun tmps (x:Tmp×Value)=>tmps.setIfInBounds x.1 x.2) ll'.tmps,defers:=[] } wd (c::cs) ⟨ll.fn,some l,false⟩ (setP t0 ll.params.toList args) ⟨[],none,h,n⟩:=
     ⟨rfl,rfl,⟨B,hb,rfl⟩,fun _=>rfl,htm,hH,.nil,(fun e=>by cases e),q12⟩
    obtain⟨ρ1,a1,wd1,cs1,i1,g1,c1,r1⟩:=hc q9 _ [.beginRound,.code ll.body] ρ base w0 _ wd (c::cs) hI
    have hcs:cs1=c::cs:=by
     rcases c1 with e|⟨e,_⟩
     · exact e
     · cases e
    subst hcs;have hb1: ρ1 l=some B:=g1.le hH.dom _ _ hb
    obtain⟨l1',z1,z2,z3,z4,z5⟩:=i1.hp.turnLoop hb1 hg1 .busy l1.pending (by
     have hd1:yG h1 l≠.dead:=by rw[hg1];exact AObj.noConfusion
     obtain⟨ob1,y1,y2⟩:=i1.hp.obj l B hb1 hd1;dsimp only at y2;rw [hg1]at y2
     cases y2 with
     | loop _ _ _ _ _ _ _ _ _ _ q _ _=>exact q)
    have hbr:(Instr.beginRound B.b).run P wd1 = .ok () { wd1 with heap:=wd1.heap.setIfInBounds B.b (.loop { l1' with state:=.busy,pending:=l1.pending }) }:=by
     have e9:({ l1' with state:=.busy,pending:=l1.pending }:Loop) = { l1' with state:=.busy }:=by rw[← z3]
     rw[e9];simp only[Instr.beginRound,Sem.run_bind,run_loop z1,Result.andThen_ok,z2,hst1,run_setLoop z1];rfl
    have st:=stepR_beginRound (P:=P) (b:=({ (default:Frame) with fn:=ll.fn,kind:=.normal,roundOf:=some B.b }:Frame)) (a:=a1) (k:=[.code ll.body]) (cs:=c::cs) (w:=wd1) rfl hbr
    have hI2:In P ng ρ1 base w0 ({ (default:Frame) with fn:=ll.fn,kind:=.normal,roundOf:=some B.b }:Frame) a1 _ (c::cs) ⟨ll.fn,some l,false⟩ t1 ⟨d1,u1,_,n1⟩:=
     ⟨i1.fn,i1.kind,i1.rd,i1.rdf,i1.tm,z4,i1.dr,(fun e=>by cases e),i1.fnd⟩
    obtain⟨ρ2,a2,wd2,cs2,i2,g2,c2,r2⟩:=hc2 q10 _ [] ρ1 base w0 a1 _ (c::cs) hI2
    have hcs:cs2=c::cs:=by
     rcases c2 with e|⟨e,_⟩
     · exact e
     · cases e
    subst hcs;exact⟨_,ρ2,a2,wd2,rfl,rfl,i2,(g1.trans z5).trans g2,g2.le z4.dom _ _ hb1,r2.of_steps (Steps.trans r1 (.one st))⟩
  cases d2 with
  | cons _ _=>cases hk2
  | nil =>
   dsimp only at hk2
   have fin:∀(j:Option Code),jumpOK j→endRound l j h2 n2 k=true→(∀(b:Frame) (ρ : Inj) (a:Act) (wd wd':World) (m0:Machine) (c:Frame) (cs:List Frame) (L:Nat),b.roundOf=some L→b.kind = .normal→(Instr.endRound L j).run P wd = .ok (.bool j.isNone) wd'→
    Arr P m0 b [] (c::cs) ρ a wd x2→Steps P m0 (lone (c.finish (.bool j.isNone)) cs wd'))→∃o h' n',k o h' n'=true∧RoundTo P ng l args h n o h' n':=by
    intro j hj he hm;obtain⟨h3,k3,hend⟩:=endRound_ok (P:=P) (ng:=ng) hj he;refine⟨_,h3,n2,k3,fun ρ base w0 wd args' B c cs hH hb ha=>?_⟩;obtain⟨f,tmps,asg,bd,y1,b,ρ2,a2,wd2,y2,y3,y4,y5,y6,y7⟩:=body ρ base w0 wd args' B c cs hH hb ha;obtain⟨wd3,z1,z2,z3⟩:=hend ρ2 base w0 wd2 B y4.hp y6;exact⟨f,tmps,asg,bd,y1,ρ2,wd3,z2,y5.trans z3,.bool j.isNone,RV.bool _,hm b ρ2 a2 wd2 wd3 _ c cs B.b y2 y3 z1 y7⟩
   cases x2 with
   | normal =>
    exact fin none (fun c e=>by cases e) hk2 fun b ρ a wd wd' m0 c cs L hb hkd he hr=>
     Steps.trans hr (.one (stepR_round_end hb hkd he))
   | ret =>
    exact fin (some .ret) (fun c e _ _=>by injection e with e;subst e;rfl) hk2 fun b ρ a wd wd' m0 c cs L hb hkd he hr=>by
     obtain⟨k2,s⟩:=hr;exact s.trans (.one (stepR_round_ret hb hkd he))
   | exit id =>
    exact fin (some (.exit id)) (fun c e _ _=>by injection e with e;subst e;rfl) hk2 fun b ρ a wd wd' m0 c cs L hb hkd he hr=>by
     obtain⟨k2,ex,s⟩:=hr;exact s.trans (.one (stepR_round_exit hb hkd (by rw[ex];rfl) he))
   | goto id =>
    exact fin (some (.goto id)) (fun c e _ _=>by injection e with e;subst e;rfl) hk2 fun b ρ a wd wd' m0 c cs L hb hkd he hr=>by
     obtain⟨k2,ex,s⟩:=hr;exact s.trans (.one (stepR_round_goto hb hkd (by rw[ex];rfl) he))
   | panic ch=>
    refine⟨_,h2,n2,hk2,fun ρ base w0 wd args' B c cs hH hb ha=>?_⟩;obtain⟨f,tmps,asg,bd,y1,b,ρ2,a2,wd2,y2,y3,y4,y5,y6,k2,ch',y7,y8⟩:=body ρ base w0 wd args' B c cs hH hb ha;have hd:a2.defers=[]:=by have:=y4.dr;generalize a2.defers=z at this;cases this;rfl
    exact⟨f,tmps,asg,bd,y1,ρ2,wd2,y4.hp,y5,ch',y7,y8.trans (.one (step_leave_panicked ⟨rfl,hd,y4.fnd⟩))⟩
 | exit i=>cases hk
 | goto i=>cases hk
 | ret=>cases hk
 | panic c=>cases hk
end
section
variable {P:Program} {ng:Nat}
theorem step_range{b:Frame}{a:Act}{kk:List Item}{cs:List Frame}{wd wd1:World}{f:Operand}{params:Array Tmp}{asg body:Code}{l:Nat}{mark:List Deferred}{d:Deferred}{nx:Next}{fr:Frame}
(he:(Instr.enterLoop b.fn a.tmps params asg body b.roundOf).run P wd = .ok (l,mark) wd1)
(hd:(Deferred.ofValue (a.eval f) #[.func (.yield l) #[] #[]]).run P wd1 = .ok d wd1)(hi:(invoke d.target d.args).run P wd1 = .ok nx wd1)(hp:pushed P nx=some fr) :
 step P (lone (b.atR a (.code (.rangeFunc f params asg body)::kk)) cs wd) = .next (lone fr (b.atR { tmps:=a.tmps,defers:=mark++a.defers } (.inRangeFunc l::kk)::cs) wd1):=by
 refine step_lone_go ?_;have ev1:(b.atR { tmps:=a.tmps,defers:=mark++a.defers } (.inRangeFunc l::kk)).eval=a.eval:=Frame.eval_atR b _ _
 have hr:(resolve a.eval { callee:=.value f,args:= #[.const (.func (.yield l) #[] #[])],argTypes:= #[] } 0).run P wd1 = .ok d wd1:=by
  simpa [resolve,Act.eval] using hd
 simp only[Frame.atR]at ev1;cases nx <;> simp only[pushed]at hp <;> first|(cases hp;done)|skip
 all_goals
  injection hp with hp
  subst hp;simp [stepG,stepG.exec,stepG.apply,Frame.atR,he,ev1,hr,hi]
theorem step_endRange{b:Frame}{a:Act}{kk:List Item}{cs:List Frame}{wd wd1:World}{l:Nat}{j:Option Code}(he:(Instr.endLoop l).run P wd = .ok j wd1) :
 step P (lone (b.atR a (.endRangeFunc l::kk)) cs wd) = .next (lone (b.atR a ((j.map Item.code).toList++kk)) cs wd1):=
 step_lone_go (by simp[stepG,stepG.exec,Frame.atR,he])
theorem xrange_ok{lo:Lo}(hS:Sound P ng lo){f:Operand}{params:Array Tmp}{asg body:Code}{cx:Cx}{t:Fr}{d:List Deferred}{u:Option yF}{h:zH}{n blk:Nat}{k:KX}(hx:xrange lo f params asg body cx t d u h n blk k=true) :
 ∃x t' w',k x t' w'=true∧∀(_hok:vY ng (ntm P cx.fn) (.rangeFunc f params asg body)=true) (ρ : Inj) (base:Nat) (w0:World) (b:Frame) (a:Act) (wd:World) (cs:List Frame) (D:Bl) (kk:List Item),In P ng ρ base w0 b a wd cs cx t ⟨d,u,h,n⟩→ρ blk=some D→
  ∃dd nx fr,(Deferred.ofValue (a.eval f) #[.func (.yield wd.heap.size) #[] #[]]).run P { wd with heap:=wd.heap.push (.loop { state:=.ready,pending:=none,fn:=b.fn,tmps:=a.tmps,params,assign:=asg,body,defers:=D.b }) } =
   .ok dd { wd with heap:=wd.heap.push (.loop { state:=.ready,pending:=none,fn:=b.fn,tmps:=a.tmps,params,assign:=asg,body,defers:=D.b }) }∧
   (invoke dd.target dd.args).run P { wd with heap:=wd.heap.push (.loop { state:=.ready,pending:=none,fn:=b.fn,tmps:=a.tmps,params,assign:=asg,body,defers:=D.b }) } =
    .ok nx { wd with heap:=wd.heap.push (.loop { state:=.ready,pending:=none,fn:=b.fn,tmps:=a.tmps,params,assign:=asg,body,defers:=D.b }) }∧pushed P nx=some fr∧
   ∃ρ' a' wd' cs',In P ng ρ' base w0 b a' wd' cs' cx t' w'∧Grow ρ h n wd ρ' w'.h w'.n wd'∧CsTo cx.df cs cs'∧
    Arr P (lone fr (b.atR a (.inRangeFunc wd.heap.size::kk)::cs) { wd with heap:=wd.heap.push (.loop { state:=.ready,pending:=none,fn:=b.fn,tmps:=a.tmps,params,assign:=asg,body,defers:=D.b }) }) b kk cs' ρ' a' wd' x:=by
 unfold xrange at hx;rw [xC]at hx;obtain⟨o,h2,n2,hk,hc⟩:=xinvoke_ok hS hx
 have call:∀(hok:vY ng (ntm P cx.fn) (.rangeFunc f params asg body)=true) (ρ : Inj) (base:Nat) (w0:World) (b:Frame) (a:Act) (wd:World) (cs:List Frame) (D:Bl) (kk:List Item),In P ng ρ base w0 b a wd cs cx t ⟨d,u,h,n⟩→ρ blk=some D→
  ∃dd nx fr,(Deferred.ofValue (a.eval f) #[.func (.yield wd.heap.size) #[] #[]]).run P { wd with heap:=wd.heap.push (.loop { state:=.ready,pending:=none,fn:=b.fn,tmps:=a.tmps,params,assign:=asg,body,defers:=D.b }) } =
   .ok dd { wd with heap:=wd.heap.push (.loop { state:=.ready,pending:=none,fn:=b.fn,tmps:=a.tmps,params,assign:=asg,body,defers:=D.b }) }∧
   (invoke dd.target dd.args).run P { wd with heap:=wd.heap.push (.loop { state:=.ready,pending:=none,fn:=b.fn,tmps:=a.tmps,params,assign:=asg,body,defers:=D.b }) } =
    .ok nx { wd with heap:=wd.heap.push (.loop { state:=.ready,pending:=none,fn:=b.fn,tmps:=a.tmps,params,assign:=asg,body,defers:=D.b }) }∧pushed P nx=some fr∧
   ∃ρ2 wd2,In P ng ρ2 base w0 b a wd2 cs cx t ⟨d,u,h2,n2⟩∧Grow ρ h n wd ρ2 h2 n2 wd2∧ρ2 n=some ⟨wd.heap.size,0,0⟩∧
    Back P (lone fr (b.atR a (.inRangeFunc wd.heap.size::kk)::cs) { wd with heap:=wd.heap.push (.loop { state:=.ready,pending:=none,fn:=b.fn,tmps:=a.tmps,params,assign:=asg,body,defers:=D.b }) }) (b.atR a (.inRangeFunc wd.heap.size::kk)) cs wd2 ρ2 o:=by
  intro hok ρ base w0 b a wd cs D kk hI hD;obtain⟨o1,o2⟩:=Bool.and_eq_true_iff.1 hok;obtain⟨o2,o3⟩:=Bool.and_eq_true_iff.1 o2;have hle:=Inj.le_put (⟨wd.heap.size,0,0⟩:Bl) (hI.hp.dom n (Nat.le_refl _))
  obtain⟨a1,a2⟩:=hI.hp.alloc (.loop { state:=.ready,pending:=none,fn:=cx.fn,tmps:= #[],params,assign:=asg,body,defers:=blk } t)
   (.loop { state:=.ready,pending:=none,fn:=b.fn,tmps:=a.tmps,params,assign:=asg,body,defers:=D.b }) ⟨wd.heap.size,0,0⟩ rfl
   (.loop rfl rfl hI.fn rfl rfl rfl ⟨D,hle _ _ hD,rfl⟩ (hI.tm.mono hle) o2 o3 (fun j e=>by cases e) (by have:=hI.fnd;rwa [hI.fn]at this) hI.hp.size)
  have hf:RV (ρ.put n ⟨wd.heap.size,0,0⟩) (ev t f) (a.eval f):=(ev_rv hI.hp hI.tm o1).mono hle;obtain⟨dd,nx,fr,r1,r2,r3,r4⟩:=hc _ base w0 _ (a.eval f) [.func (.yield wd.heap.size) #[] #[]] a1 hf (RVs.cons (RV.yield (B:=⟨wd.heap.size,0,0⟩) (uS _ _ _)) (RVs.nil _));refine⟨dd,nx,fr,r1,r2,r3,?_⟩;obtain⟨ρ2,wd2,s1,s2,s3⟩:=r4 (b.atR a (.inRangeFunc wd.heap.size::kk)) cs;have hle2:=hle.trans (s2.le a1.dom);exact⟨ρ2,wd2,⟨hI.fn,hI.kind,hI.rd.mono hle2,hI.rdf,hI.tm.mono hle2,s1,hI.dr.mono hle2,hI.ur.mono hle2,hI.fnd⟩,a2.trans s2,s2.le a1.dom _ _ (uS _ _ _),s3⟩
 cases o with
 | panic c=>
  refine⟨_,_,_,hk,fun hok ρ base w0 b a wd cs D kk hI hD=>?_⟩;obtain⟨dd,nx,fr,r1,r2,r3,ρ2,wd2,i2,g2,b2,ch',c1,c2⟩:=call hok ρ base w0 b a wd cs D kk hI hD;exact⟨dd,nx,fr,r1,r2,r3,ρ2,a,wd2,cs,i2,g2,CsTo.refl _ _,_,ch',c1,by rw[Frame.raise_atR]at c2;exact c2⟩
 | ret v =>
  have hk':(match yG h2 n with
   | .loop l t0 => match l.state with
    | .busy=>false
    | _=>h2.setK .dead (.loop { l with state:=.exhausted } t0) n fun h3=>match l.pending with
     | none=>k .normal t ⟨d,u,h3,n2⟩
     | some j=>lo.code j cx t ⟨d,u,h3,n2⟩ k
   | _=>false)=true:=hk
  cases hg:yG h2 n with
  | loop l t0 =>
   rw[hg]at hk';dsimp only at hk'
   have hk3:l.state≠.busy∧(h2.setK .dead (.loop { l with state:=.exhausted } t0) n fun h3=>match l.pending with
    | none=>k .normal t ⟨d,u,h3,n2⟩
    | some j=>lo.code j cx t ⟨d,u,h3,n2⟩ k)=true:=by
    split at hk'
    · cases hk'
    · rename_i hb;exact⟨hb,hk'⟩
   obtain⟨hbusy,hk4⟩:=hk3;rw [Tr.setK_eq]at hk4
   have ends:∀(hok:vY ng (ntm P cx.fn) (.rangeFunc f params asg body)=true) (ρ : Inj) (base:Nat) (w0:World) (b:Frame) (a:Act) (wd:World) (cs:List Frame) (D:Bl) (kk:List Item),In P ng ρ base w0 b a wd cs cx t ⟨d,u,h,n⟩→ρ blk=some D→
    ∃dd nx fr,(Deferred.ofValue (a.eval f) #[.func (.yield wd.heap.size) #[] #[]]).run P { wd with heap:=wd.heap.push (.loop { state:=.ready,pending:=none,fn:=b.fn,tmps:=a.tmps,params,assign:=asg,body,defers:=D.b }) } =
     .ok dd { wd with heap:=wd.heap.push (.loop { state:=.ready,pending:=none,fn:=b.fn,tmps:=a.tmps,params,assign:=asg,body,defers:=D.b }) }∧
     (invoke dd.target dd.args).run P { wd with heap:=wd.heap.push (.loop { state:=.ready,pending:=none,fn:=b.fn,tmps:=a.tmps,params,assign:=asg,body,defers:=D.b }) } =
      .ok nx { wd with heap:=wd.heap.push (.loop { state:=.ready,pending:=none,fn:=b.fn,tmps:=a.tmps,params,assign:=asg,body,defers:=D.b }) }∧pushed P nx=some fr∧
     ∃ρ2 wd3,In P ng ρ2 base w0 b a wd3 cs cx t ⟨d,u,h2.set .dead (.loop { l with state:=.exhausted } t0) n,n2⟩∧Grow ρ h n wd ρ2 (h2.set .dead (.loop { l with state:=.exhausted } t0) n) n2 wd3∧(∀j,l.pending=some j→∀N,vY ng N j=true)∧
      Steps P (lone fr (b.atR a (.inRangeFunc wd.heap.size::kk)::cs) { wd with heap:=wd.heap.push (.loop { state:=.ready,pending:=none,fn:=b.fn,tmps:=a.tmps,params,assign:=asg,body,defers:=D.b }) }) (lone (b.atR a ((l.pending.map Item.code).toList++kk)) cs wd3):=by
    intro hok ρ base w0 b a wd cs D kk hI hD;obtain⟨dd,nx,fr,r1,r2,r3,ρ2,wd2,i2,g2,b2,v',c1,c2⟩:=call hok ρ base w0 b a wd cs D kk hI hD;refine⟨dd,nx,fr,r1,r2,r3,ρ2,?_⟩;have hd1:yG h2 n≠.dead:=by rw[hg];exact AObj.noConfusion
    have hpend:∀j,l.pending=some j→∀N,vY ng N j=true:=by
     obtain⟨ob1,y1,y2⟩:=i2.hp.obj n _ b2 hd1;dsimp only at y2;rw [hg]at y2
     cases y2 with
     | loop _ _ _ _ _ _ _ _ _ _ q _ _=>exact q
    obtain⟨l1',z1,z2,z3,z4,z5⟩:=i2.hp.turnLoop b2 hg .exhausted l.pending hpend
    have he:(Instr.endLoop wd.heap.size).run P wd2 = .ok l.pending { wd2 with heap:=wd2.heap.setIfInBounds wd.heap.size (.loop { l1' with state:=.exhausted,pending:=l.pending }) }:=by
     have hnb:¬((l1'.state == LoopState.busy)=true):=by rw[z2];simpa using hbusy
     have e9:({ l1' with state:=.exhausted,pending:=l.pending }:Loop) = { l1' with state:=.exhausted }:=by rw[← z3]
     rw[e9];simp only[Instr.endLoop,Sem.run_bind,run_loop z1,Result.andThen_ok,if_neg hnb,run_setLoop z1,Sem.run_pure,z3]
    refine⟨_,⟨i2.fn,i2.kind,i2.rd,i2.rdf,i2.tm,z4,i2.dr,i2.ur,i2.fnd⟩,g2.trans z5,hpend,c2.trans (.one ?_)⟩;exact step_endRange (b:=b) (a:=a) (kk:=kk) (cs:=cs) he
   cases hp:l.pending with
   | none=>
    rw[hp]at hk4;refine⟨_,_,_,hk4,fun hok ρ base w0 b a wd cs D kk hI hD=>?_⟩;obtain⟨dd,nx,fr,r1,r2,r3,ρ2,wd3,i3,g3,_,s3⟩:=ends hok ρ base w0 b a wd cs D kk hI hD;rw [hp]at i3 g3 s3;exact⟨dd,nx,fr,r1,r2,r3,ρ2,a,wd3,cs,i3,g3,CsTo.refl _ _,s3⟩
   | some j=>
    rw[hp]at hk4;obtain⟨x,t',w',k5,hc5⟩:=hS.code _ _ _ _ _ hk4;refine⟨x,t',w',k5,fun hok ρ base w0 b a wd cs D kk hI hD=>?_⟩;obtain⟨dd,nx,fr,r1,r2,r3,ρ2,wd3,i3,g3,hpe,s3⟩:=ends hok ρ base w0 b a wd cs D kk hI hD;have hpe':=hpe j hp;rw [hp]at i3 g3 s3;obtain⟨ρ4,a4,wd4,cs4,i4,g4,c4,r4⟩:=hc5 (hpe' _) b kk ρ2 base w0 a wd3 cs i3;exact⟨dd,nx,fr,r1,r2,r3,ρ4,a4,wd4,cs4,i4,g3.trans g4,c4,r4.of_steps s3⟩
  | dead=>rw [hg]at hk';cases hk'
  | cells _ _ _ _=>rw [hg]at hk';cases hk'
  | map _ _=>rw [hg]at hk';cases hk'
  | deferred _=>rw [hg]at hk';cases hk'
  | rows _ _=>rw [hg]at hk';cases hk'
theorem xrangeFunc_ok{lo:Lo}(hS:Sound P ng lo)(f:Operand)(params:Array Tmp)(asg body:Code)(cx:Cx)(t:Fr)(w:W)(k:KX)(hx:xcode P lo (.rangeFunc f params asg body) cx t w k=true) :
 ∃x t' w',k x t' w'=true∧CodeTo P ng (.rangeFunc f params asg body) cx t w x t' w':=by
 obtain⟨d,u,h,n⟩:=w;obtain⟨fn,rd,df⟩:=cx
 cases rd with
 | none =>
  have hx':(xB h n (.deferred true) fun h' n'=>xrange lo f params asg body ⟨fn,none,df⟩ t ({ target:=.collected n,args:= #[] }::d) u h' n' n k)=true:=hx;rw [xC]at hx';obtain⟨x,t',w',hk,hc⟩:=xrange_ok hS hx';refine⟨x,t',w',hk,fun hok b kk ρ base w0 a wd cs hI=>?_⟩;have hle:=Inj.le_put (⟨wd.heap.size,0,0⟩:Bl) (hI.hp.dom n (Nat.le_refl _));obtain⟨a1,a2⟩:=hI.hp.alloc (.deferred true) (.deferred (some [])) ⟨wd.heap.size,0,0⟩ rfl (.ready hI.hp.size)
  have hI2:In P ng (ρ.put n ⟨wd.heap.size,0,0⟩) base w0 b { tmps:=a.tmps,defers:=⟨.collected wd.heap.size,#[]⟩::a.defers } { wd with heap:=wd.heap.push (.deferred (some [])) } cs ⟨fn,none,df⟩ t ⟨{ target:=.collected n,args:= #[] }::d,u,h.set .dead (.deferred true) n,n+1⟩:=
   ⟨hI.fn,hI.kind,hI.rd.mono hle,hI.rdf,hI.tm.mono hle,a1,.coll (B:=⟨wd.heap.size,0,0⟩) (uS _ _ _) (hI.dr.mono hle),hI.ur.mono hle,hI.fnd⟩
  obtain⟨dd,nx,fr,r1,r2,r3,ρ2,a2',wd2,cs2,i2,g2,c2,s2⟩:=hc hok _ base w0 b _ _ cs ⟨wd.heap.size,0,0⟩ kk hI2 (uS _ _ _);refine⟨ρ2,a2',wd2,cs2,i2,a2.trans g2,c2,s2.of_steps (.one ?_)⟩
  have hro:b.roundOf=none:=by
   have:=hI.rd
   cases hb:b.roundOf with
   | none=>rfl
   | some l=>rw [hb]at this;exact this.elim
  exact step_range (mark:=[⟨.collected wd.heap.size,#[]⟩]) (by rw[hro];simp [Instr.enterLoop];rfl) r1 r2 r3
 | some l =>
  have hx':(match yG h l with
   | .loop ll _=>xrange lo f params asg body ⟨fn,some l,df⟩ t d u h n ll.defers k
   | _=>false)=true:=hx
  cases hg:yG h l with
  | loop ll t0 =>
   rw[hg]at hx';dsimp only at hx';obtain⟨x,t',w',hk,hc⟩:=xrange_ok hS hx';refine⟨x,t',w',hk,fun hok b kk ρ base w0 a wd cs hI=>?_⟩;have hro:=hI.rd
   cases hb:b.roundOf with
   | none=>rw [hb]at hro;exact hro.elim
   | some l' =>
    rw[hb]at hro;obtain⟨B,hB,hBl⟩:=hro;have hd1:yG h l≠.dead:=by rw[hg];exact AObj.noConfusion
    obtain⟨ob1,y1,y2⟩:=hI.hp.obj l _ hB hd1;dsimp only at y2;rw [hg]at y2
    cases y2 with
    | loop _ _ _ _ _ _ q7 _ _ _ _ _ _=>
     rename_i ll';obtain⟨D,hD,hDb⟩:=q7;obtain⟨dd,nx,fr,r1,r2,r3,ρ2,a2',wd2,cs2,i2,g2,c2,s2⟩:=hc hok ρ base w0 b a wd cs D kk hI hD;refine⟨ρ2,a2',wd2,cs2,i2,g2,c2,s2.of_steps (.one ?_)⟩;refine step_range (mark:=[]) ?_ r1 r2 r3;rw [hb,← hBl];simp only[Instr.enterLoop,Sem.run_bind,run_loop y1,Result.andThen_ok,Sem.run_pure,hDb];simp [newObj,Sem.run]
  | dead=>rw [hg]at hx';cases hx'
  | cells _ _ _ _=>rw [hg]at hx';cases hx'
  | map _ _=>rw [hg]at hx';cases hx'
  | deferred _=>rw [hg]at hx';cases hx'
  | rows _ _=>rw [hg]at hx';cases hx'
end
section
variable (P:Program) (ng:Nat)
structure In0 (ρ : Inj) (base:Nat) (w0:World) (b:Frame) (a:Act) (wd:World) (cs:List Frame) (cx:Cx) (w:W):Prop where
 fn:b.fn=cx.fn
 kind:b.kind=kindOfDf cx.df
 rd:RdR ρ cx.round b.roundOf
 rdf:cx.round.isSome=true→cx.df=false
 hp:HeapR P ng ρ base w0 w.h w.n wd
 dr:DRs ρ w.d a.defers
 ur:UR ρ cx.df w.u cs
 fnd:∃fn,P.funcs[b.fn]? = some fn
def Done(m:Machine)(b:Frame)(a':Act)(cs':List Frame)(wd':World)(ρ':Inj)(o:Oper)(ops:Array Oper)(i:Nat)(rest:List Nat)(k:List Item):Out→Prop
 | .ret v=>∃v',RV ρ' v v'∧Steps P m (lone (b.atR (a'.put o.dst v') (.inRegion ops rest::k)) cs' wd')
 | .panic c=>∃c',ChR ρ' c c'∧Steps P m (lone { b.atR a' (.inRegion ops (i::rest)::k) with mode:=.panicking c' } cs' wd')
def OpTo(o:Oper)(cx:Cx)(t:Fr)(w:W)(out:Out)(w':W):Prop:=
 ∀(ρ : Inj) (base:Nat) (w0:World) (b:Frame) (a:Act) (wd:World) (cs:List Frame),In0 P ng ρ base w0 b a wd cs cx w→OpsR ρ t a o→
  ∀(ops:Array Oper) (i:Nat) (rest:List Nat) (k:List Item),ops[i]? = some o→Region.wanted o (yielded ops a.tmps)=true→
   ∃ρ' a' wd' cs',In0 P ng ρ' base w0 b a' wd' cs' cx w'∧a'.tmps=a.tmps∧Grow ρ w.h w.n wd ρ' w'.h w'.n wd'∧CsTo cx.df cs cs'∧
    Done P (lone (b.atR a (.inRegion ops (i::rest)::k)) cs wd) b a' cs' wd' ρ' o ops i rest k out
end
section
variable {P:Program} {ng:Nat}
theorem In.in0{ρ : Inj}{base:Nat}{w0:World}{b:Frame}{a:Act}{wd:World}{cs:List Frame}{cx:Cx}{t:Fr}{w:W}(h:In P ng ρ base w0 b a wd cs cx t w):In0 P ng ρ base w0 b a wd cs cx w:=
 ⟨h.fn,h.kind,h.rd,h.rdf,h.hp,h.dr,h.ur,h.fnd⟩
theorem In0.next{ρ ρ':Inj}{base:Nat}{w0:World}{b:Frame}{a:Act}{wd wd':World}{cs:List Frame}{cx:Cx}{w w':W}(h:In0 P ng ρ base w0 b a wd cs cx w)(hd:w'.d=w.d)(hu:w'.u=w.u)
(hp:HeapR P ng ρ' base w0 w'.h w'.n wd')(hg:Grow ρ w.h w.n wd ρ' w'.h w'.n wd'):In0 P ng ρ' base w0 b a wd' cs cx w':=
 have hle:=hg.le h.hp.dom
 ⟨h.fn,h.kind,h.rd.mono hle,h.rdf,hp,by rw[hd];exact h.dr.mono hle,by rw[hu];exact h.ur.mono hle,h.fnd⟩
theorem step_res{b:Frame}{a:Act}{cs:List Frame}{wd wd':World}{o:Oper}{ops:Array Oper}{i:Nat}{rest:List Nat}{k:List Item}{v':Value}(hnd:∀c,o.op≠.defer c)(ho:ops[i]? = some o)
(hw:Region.wanted o (yielded ops a.tmps)=true)(hr:Res ((execOp a.eval o).run P wd) v' wd') :
 step P (lone (b.atR a (.inRegion ops (i::rest)::k)) cs wd) = .next (lone (b.atR (a.put o.dst v') (.inRegion ops rest::k)) cs wd'):=by
 refine step_lone_go ?_;rw [stepGR_op ho hw,Oper.semAt_eq _ _ _ hnd]
 have hf:(b.atR a (.inRegion ops (i::rest)::k)).finish v'=b.atR (a.put o.dst v') (.inRegion ops rest::k):=by
  rw[Frame.finish_atR,ho];rfl
 rcases hr with hr|⟨hr,rfl⟩
 · rw[← hf];simp [stepG.apply,hr]
 · rw[← hf];simp [stepG.apply,hr]
theorem oE{o:Oper}{cx:Cx}{t:Fr}{w w':W}{v:Value}(hnd:∀c,o.op≠.defer c)(h:EffVal P ng o t w v w'):OpTo P ng o cx t w (.ret v) w':=by
 intro ρ base w0 b a wd cs hI hO ops i rest k ho hw;obtain⟨ρ',v',wd',h1,h2,h3,h4⟩:=h.2.2 ρ base w0 a wd hO hI.hp;exact⟨ρ',a,wd',cs,hI.next h.1 h.2.1 h3 h4,rfl,h4,CsTo.refl _ _,v',h2,.one (step_res hnd ho hw h1)⟩
theorem step_push{b:Frame}{a:Act}{cs:List Frame}{wd:World}{o:Oper}{ops:Array Oper}{i:Nat}{rest:List Nat}{k:List Item}{nx:Next}{fr:Frame}(hnd:∀c,o.op≠.defer c)(ho:ops[i]? = some o)
(hw:Region.wanted o (yielded ops a.tmps)=true)(hr:(execOp a.eval o).run P wd = .ok nx wd)(hp:pushed P nx=some fr) :
 step P (lone (b.atR a (.inRegion ops (i::rest)::k)) cs wd) = .next (lone fr (b.atR a (.inRegion ops (i::rest)::k)::cs) wd):=by
 refine step_lone_go ?_;rw [stepGR_op ho hw,Oper.semAt_eq _ _ _ hnd];cases nx <;> simp only[pushed]at hp <;> first|(cases hp;done)|skip
 all_goals
  injection hp with hp
  subst hp;simp [stepG.apply,hr,Frame.atR]
theorem step_recover{b:Frame}{a:Act}{cs:List Frame}{wd:World}{o:Oper}{ops:Array Oper}{i:Nat}{rest:List Nat}{k:List Item}(hnd:∀c,o.op≠.defer c)(ho:ops[i]? = some o)
(hw:Region.wanted o (yielded ops a.tmps)=true)(hro:b.roundOf=none)(hr:(execOp a.eval o).run P wd = .ok .recover wd) :
 (∀{v cs'},tryRecover (b.atR a (.inRegion ops (i::rest)::k)) cs=some (v,cs')→step P (lone (b.atR a (.inRegion ops (i::rest)::k)) cs wd) = .next (lone (b.atR (a.put o.dst v) (.inRegion ops rest::k)) cs' wd))∧
 (tryRecover (b.atR a (.inRegion ops (i::rest)::k)) cs=none→step P (lone (b.atR a (.inRegion ops (i::rest)::k)) cs wd) = .next (lone (b.atR (a.put o.dst .nilIface) (.inRegion ops rest::k)) cs wd)):=by
 have hf:∀v',(b.atR a (.inRegion ops (i::rest)::k)).finish v'=b.atR (a.put o.dst v') (.inRegion ops rest::k):=by
  intro v';rw [Frame.finish_atR,ho];rfl
 have hro':(b.atR a (.inRegion ops (i::rest)::k)).roundOf=none:=hro;refine⟨fun {v cs'} ht=>step_lone_go ?_,fun ht=>step_lone_go ?_⟩
 · rw[stepGR_op ho hw,Oper.semAt_eq _ _ _ hnd,← hf];generalize b.atR a (.inRegion ops (i::rest)::k)=fr at ht hro' ⊢
   simp only[stepG.apply,Sem.runT_eq,hr,if_true,GStep.bare_after,hro',ht,GStep.bare_go]
 · rw[stepGR_op ho hw,Oper.semAt_eq _ _ _ hnd,← hf];generalize b.atR a (.inRegion ops (i::rest)::k)=fr at ht hro' ⊢
   simp only[stepG.apply,Sem.runT_eq,hr,if_true,GStep.bare_after,hro',ht,GStep.bare_go]
theorem OpsR.list{ρ : Inj}{t:Fr}{a:Act}{o:Oper}(h:OpsR ρ t a o){l:List Operand}(hl:∀x∈l,x∈o.op.operands.toList):RVs ρ (l.map (ev t)) (l.map a.eval):=
 RVs.map (ρ := ρ) (ev t) a.eval l fun x hx=>h x (hl x hx)
theorem eff_ok{lo:Lo}(hP:xV ng P=true)(hS:Sound P ng lo){o:Oper}{cx:Cx}{t:Fr}{w:W}{k:KV}{kp:KP}(hx:eff o.op P lo cx t w k kp=true) :
 ∃out w',(Out.rec (motive:=fun _=>Bool) (fun v=>k w' v) (fun c=>kp c w') out)=true∧OpTo P ng o cx t w out w':=by
 have nv:(∃v ob,NewVal P ng o t v ob∧k (W.mk w.d w.u (w.h.set .dead ob w.n) (w.n+1)) (v w.n)=true)→(∀c,o.op≠.defer c)→
  ∃out w',(Out.rec (motive:=fun _=>Bool) (fun v=>k w' v) (fun c=>kp c w') out)=true∧OpTo P ng o cx t w out w':=by
  rintro ⟨v,ob,h1,h2⟩ hnd
  exact⟨.ret (v w.n),_,h2,oE hnd h1.eff⟩
 have evl:(∃w' v,EffVal P ng o t w v w'∧k w' v=true)→(∀c,o.op≠.defer c)→
  ∃out w',(Out.rec (motive:=fun _=>Bool) (fun v=>k w' v) (fun c=>kp c w') out)=true∧OpTo P ng o cx t w out w':=by
  rintro ⟨w',v,h1,h2⟩ hnd
  exact⟨.ret v,w',h2,oE hnd h1⟩
 cases hop:o.op with
 | alloc el=>exact nv (alloc_ok hP hop hx) (by rw[hop];exact fun _=>Op.noConfusion)
 | box el x=>exact nv (box_ok hop hx) (by rw[hop];exact fun _=>Op.noConfusion)
 | buildSlice ty len parts=>exact nv (buildSlice_ok hP hop hx) (by rw[hop];exact fun _=>Op.noConfusion)
 | insert ty m key v=>exact evl (mapUpdate_ok (.inr hop) hx) (by rw[hop];exact fun _=>Op.noConfusion)
 | store ty x v=>exact evl (store_ok hop hx) (by rw[hop];exact fun _=>Op.noConfusion)
 | makeMap ty r=>exact nv (makeMap_ok hop hx) (by rw[hop];exact fun _=>Op.noConfusion)
 | makeSlice ty l c=>exact nv (makeSlice_ok hP hop hx) (by rw[hop];exact fun _=>Op.noConfusion)
 | mapUpdate ty m key v=>exact evl (mapUpdate_ok (.inl hop) hx) (by rw[hop];exact fun _=>Op.noConfusion)
 | panic x =>
  rw[hop]at hx
  have hx':(match ev t x with
   | .iface ty v=>kp [⟨.iface ty v,false,false⟩] w
   | _=>false)=true:=hx
  split at hx'
  case h_2=>cases hx'
  rename_i ty v hv;refine⟨.panic _,w,hx',fun ρ base w0 b a wd cs hI hO ops i rest k ho hw=>?_⟩;have hr:=hO x (by rw[hop];simp [Op.operands]);rw [hv]at hr;generalize hz:a.eval x=x' at hr
  cases hr with
  | iface hv'=>
   rename_i v';refine⟨ρ,a,wd,cs,hI,rfl,Grow.refl _ _ _ _ hI.hp.dom,CsTo.refl _ _,[⟨.iface ty v',false,false⟩],.cons (RV.iface hv') rfl rfl .nil,.one (step_lone_go ?_)⟩;rw [stepGR_op ho hw,Oper.semAt_eq _ _ _ (by rw[hop];exact fun _=>Op.noConfusion),← Frame.raise_atR];have hrun:(execOp a.eval o).run P wd = .halt (.panic (.iface ty v')) wd:=by simp[execOp,hop,hz,Instr.panic]
   simp[stepG.apply,hrun]
 | defer c =>
  rw[hop]at hx;obtain⟨callee,args,tys⟩:=c;obtain⟨fn,rd,df⟩:=cx;obtain⟨d,u,h,n⟩:=w
  cases callee with
  | builtin _=>exact(Bool.false_ne_true hx).elim
  | invoke _ _=>exact(Bool.false_ne_true hx).elim
  | value f =>
   cases rd with
   | some _=>exact(Bool.false_ne_true hx).elim
   | none =>
    have hx':(match ev t f with
     | .func (.func g) first cap=>k ⟨{ target:=.fn (.func g) cap,args:=⟨first.toList++args.toList.map (ev t)⟩ }::d,u,h,n⟩ undef
     | _=>false)=true:=hx
    split at hx'
    case h_2=>cases hx'
    rename_i g first cap hv;refine⟨.ret undef,_,hx',fun ρ base w0 b a wd cs hI hO ops i rest k ho hw=>?_⟩;have hr:=hO f (by rw[hop];simp [Op.operands,Call.operands]);have hargs:RVs ρ (args.toList.map (ev t)) (args.toList.map a.eval):=hO.list fun x hx=>by rw[hop];simp [Op.operands,Call.operands,hx]
    rw[hv]at hr;generalize hz:a.eval f=f' at hr
    have hro:b.roundOf=none:=by
     have:=hI.rd
     cases hb:b.roundOf with
     | none=>rfl
     | some l=>rw [hb]at this;exact this.elim
    cases hr with
    | func hy hfl hcl f1 c1 =>
     rename_i first' cap'
     refine⟨ρ,{ tmps:=a.tmps,defers:=⟨.fn (.func g) cap',⟨first'.toList++args.toList.map a.eval⟩⟩::a.defers },wd,cs,
      ⟨hI.fn,hI.kind,hI.rd,hI.rdf,hI.hp,.fn ⟨hcl,c1⟩ (RVs.append ⟨hfl,f1⟩ hargs) hI.dr,hI.ur,hI.fnd⟩,rfl,Grow.refl _ _ _ _ hI.hp.dom,CsTo.refl _ _,undef,RV.undef ρ,.one (step_lone_go ?_)⟩
     rw[stepGR_op ho hw,hro,Oper.semAt_none];have earr:(first'++args.map a.eval:Array Value)=⟨first'.toList++args.toList.map a.eval⟩:=by apply Array.toList_inj.1;simp
     have hrun:(execOp a.eval o).run P wd = .ok (.defer ⟨.fn (.func g) cap',⟨first'.toList++args.toList.map a.eval⟩⟩) wd:=by
      rw[← earr];simp [execOp,hop,resolve,hz,Deferred.ofValue]
     have hf:({ b.atR a (.inRegion ops (i::rest)::k) with defers:=⟨.fn (.func g) cap',⟨first'.toList++args.toList.map a.eval⟩⟩::a.defers }:Frame).finish undef =
      b.atR (Act.put { tmps:=a.tmps,defers:=⟨.fn (.func g) cap',⟨first'.toList++args.toList.map a.eval⟩⟩::a.defers } o.dst undef) (.inRegion ops rest::k):=by
      have:=Frame.finish_atR b { tmps:=a.tmps,defers:=⟨.fn (.func g) cap',⟨first'.toList++args.toList.map a.eval⟩⟩::a.defers } ops i rest k undef;rw [ho]at this;exact this
     rw[← hf];simp [stepG.apply,hrun,Frame.atR]
 | call c =>
  have hnd:∀c,o.op≠.defer c:=by rw[hop];exact fun _=>Op.noConfusion
  rw[hop]at hx;obtain⟨callee,args,tys⟩:=c
  cases callee with
  | invoke _ _=>exact(Bool.false_ne_true hx).elim
  | value f =>
   have hx':(sV w fun h n mk=>qW lo (ev t f) (args.toList.map (ev t)) h n (fun v h n=>k (mk h n) v) (fun c h n=>kp c (mk h n)))=true:=hx;rw [sY]at hx';obtain⟨out,h',n',hk,hc⟩:=xinvoke_ok hS hx';refine⟨out,W.mk w.d w.u h' n',by cases out <;> exact hk,fun ρ base w0 b a wd cs hI hO ops i rest k ho hw=>?_⟩;have hr:=hO f (by rw[hop];simp [Op.operands,Call.operands]);have hargs:RVs ρ (args.toList.map (ev t)) (args.toList.map a.eval):=hO.list fun x hx=>by rw[hop];simp [Op.operands,Call.operands,hx]
   obtain⟨dd,nx,fr,r1,r2,r3,r4⟩:=hc ρ base w0 wd (a.eval f) (args.toList.map a.eval) hI.hp hr hargs;obtain⟨ρ',wd',s1,s2,s3⟩:=r4 (b.atR a (.inRegion ops (i::rest)::k)) cs;have earr:(args.map a.eval:Array Value)=⟨args.toList.map a.eval⟩:=arr_map _ _
   have hrun:(execOp a.eval o).run P wd = .ok nx wd:=by
    simp only[execOp,hop,resolve,Sem.run_bind,earr];rw [r1,Result.andThen_ok,r2]
   have st:=step_push (b:=b) (cs:=cs) (rest:=rest) (k:=k) hnd ho hw hrun r3;refine⟨ρ',a,wd',cs,hI.next rfl rfl s1 s2,rfl,s2,CsTo.refl _ _,?_⟩
   cases out with
   | ret v =>
    obtain⟨v',y1,y2⟩:=s3;refine⟨v',y1,Steps.head st ?_⟩
    have hf:(b.atR a (.inRegion ops (i::rest)::k)).finish v'=b.atR (a.put o.dst v') (.inRegion ops rest::k):=by
     rw[Frame.finish_atR,ho];rfl
    rw[← hf];exact y2
   | panic c=>
    obtain⟨c',y1,y2⟩:=s3;refine⟨c',y1,Steps.head st ?_⟩;rw [← Frame.raise_atR];exact y2
  | builtin bi =>
   have hx':builtinK P cx bi tys.toList (args.toList.map (ev t)) w k=true:=hx;obtain⟨d,u,h,n⟩:=w
   have hrunB:∀(a:Act) (wd wd':World) (v':Value) (s:Sem Value),(∀q,builtin bi tys o.type q (args.map a.eval)=(do pure (Next.value (← s))))→s.run P wd = .ok v' wd'→(execOp a.eval o).run P wd = .ok (.value v') wd':=by
    intro a wd wd' v' s e1 e2;simp only[execOp,hop,Sem.run_bind,qX,Result.andThen_ok,invoke];rw [e1,Sem.run_bind,e2];rfl
   have hargs:∀{ρ : Inj} {a:Act},OpsR ρ t a o→RVs ρ (args.toList.map (ev t)) (args.toList.map a.eval):=fun hO=>hO.list fun x hx=>by rw[hop];simp [Op.operands,Call.operands,hx]
   have earr:∀a:Act,(args.map a.eval:Array Value)=⟨args.toList.map a.eval⟩:=fun a=>arr_map _ _;unfold builtinK at hx';dsimp only at hx';split at hx'
   ·
    obtain⟨v,h',n',hk,hc⟩:=xappend_ok (ng:=ng) (rt:=o.type) hP hx';refine⟨.ret v,_,hk,oE hnd ⟨rfl,rfl,fun ρ base w0 a wd hO hH=>?_⟩⟩;obtain⟨ρ',v',wd',r1,r2,r3,r4⟩:=hc ρ base w0 wd _ hH (hargs hO);exact⟨ρ',v',wd',.inl (hrunB a wd wd' v' _ (fun q=>by rw[earr a];rfl) r1),r2,r3,r4⟩
   ·
    obtain⟨h',hk,hc⟩:=xclear_ok (ng:=ng) (rt:=o.type) hP hx';refine⟨.ret (.tuple #[]),_,hk,oE hnd ⟨rfl,rfl,fun ρ base w0 a wd hO hH=>?_⟩⟩;obtain⟨wd',r1,r2,r3⟩:=hc n ρ base w0 wd _ hH (hargs hO);exact⟨ρ,.tuple #[],wd',.inl (hrunB a wd wd' _ _ (fun q=>by rw[earr a];rfl) r1),RV.undef ρ,r2,r3⟩
   ·
    have hrun:∀(a:Act) (wd:World),(execOp a.eval o).run P wd = .ok .recover wd:=by
     intro a wd;simp only[execOp,hop,Sem.run_bind,qX,Result.andThen_ok,invoke];rfl
    obtain⟨fn,rd,df⟩:=cx
    cases rd with
    | some _=>cases hx'
    | none =>
     have hro:∀{b:Frame} {ρ : Inj},RdR ρ none b.roundOf→b.roundOf=none:=by
      intro b ρ h
      cases hb:b.roundOf with
      | none=>rfl
      | some l=>rw [hb]at h;exact h.elim
     cases df with
     | false=>
      refine⟨.ret .nilIface,_,hx',fun ρ base w0 b a wd cs hI hO ops i rest k ho hw=>?_⟩;refine⟨ρ,a,wd,cs,hI,rfl,Grow.refl _ _ _ _ hI.hp.dom,CsTo.refl _ _,.nilIface,RV.nilIface,.one ?_⟩;refine(step_recover hnd ho hw (hro hI.rd) (hrun a wd)).2 ?_;have:(b.atR a (.inRegion ops (i::rest)::k)).kind = .normal:=hI.kind;unfold tryRecover;simp only[this]
     | true=>
      dsimp only[cond]at hx';split at hx'
      · rename_i v older;refine⟨.ret v,_,hx',fun ρ base w0 b a wd cs hI hO ops i rest k ho hw=>?_⟩;obtain⟨c0,r,rfl,c',hm,hc⟩:=hI.ur rfl
        cases hc with
        | cons hv hrec hgo hl =>
         rename_i e' l';obtain⟨v',r',g'⟩:=e';dsimp only at hrec hgo hv;subst hrec hgo
         refine⟨ρ,a,wd,{ c0 with mode:=.panicking (⟨v',true,false⟩::l') }::r,⟨hI.fn,hI.kind,hI.rd,hI.rdf,hI.hp,hI.dr,fun _=>⟨_,_,rfl,_,rfl,.cons hv rfl rfl hl⟩,hI.fnd⟩,rfl,
          Grow.refl _ _ _ _ hI.hp.dom,.inr ⟨rfl,c0,r,_,rfl,rfl⟩,v',hv,.one ?_⟩
         refine(step_recover hnd ho hw (hro hI.rd) (hrun a wd)).1 ?_;have:(b.atR a (.inRegion ops (i::rest)::k)).kind = .deferred:=hI.kind;unfold tryRecover;simp only[this,hm]
      · refine⟨.ret .nilIface,_,hx',fun ρ base w0 b a wd cs hI hO ops i rest k ho hw=>?_⟩;refine⟨ρ,a,wd,cs,hI,rfl,Grow.refl _ _ _ _ hI.hp.dom,CsTo.refl _ _,.nilIface,RV.nilIface,.one ?_⟩;refine(step_recover hnd ho hw (hro hI.rd) (hrun a wd)).2 ?_;obtain⟨c0,r,rfl,hm⟩:=hI.ur rfl;have hm:c0.mode = .returning:=hm;have:(b.atR a (.inRegion ops (i::rest)::k)).kind = .deferred:=hI.kind;unfold tryRecover;simp only[this,hm]
      · cases hx'
   · cases hx'
 | _=>rw [hop]at hx;exact(Bool.false_ne_true hx).elim
end
section
variable {P:Program} {ng:Nat}
def boolOf:Value→Option Bool
 | .bool b=>some b
 | _=>none
theorem RV.boolOf{ρ : Inj}{v v':Value}(h:RV ρ v v'):boolOf v'=boolOf v:=by cases h <;> rfl
theorem wants_eq(ops:Array Oper)(t:Fr)(g:Nat)(b:Bool):wants ops t g b=((dstOf ops g).bind (fun d=>boolOf (zA t d)) == some b):=by
 unfold wants
 cases dstOf ops g with
 | none=>rfl
 | some d=>
  show wV (zA t d) (fun z=>Bool.rec (Bool.rec true false b) b z) false=(boolOf (zA t d) == some b)
  cases zA t d with
  | bool z=>cases z <;> cases b <;> rfl
  | _=>rfl
theorem wanted_ok{ops:Array Oper}{t:Fr}{tmps:Array Value}{o:Oper}(h:∀g b,o.guard=some (g,b)→∀d,dstOf ops g=some d→∃v,tmps[d]? = some v∧boolOf v=boolOf (zA t d)) :
 Region.wanted o (yielded ops tmps)=wanted ops t o.guard:=by
 unfold Region.wanted wanted
 cases hg:o.guard with
 | none=>rfl
 | some p =>
  obtain⟨g,b⟩:=p;show(yielded ops tmps g == some b)=wants ops t g b;rw [wants_eq];unfold yielded dstOf at *
  cases ho:ops[g]? with
  | none=>rfl
  | some og =>
   cases hd:og.dst with
   | none=>simp [hd]
   | some d=>
    obtain⟨v,h1,h2⟩:=h g b hg d (by rw[ho];exact hd);simp only[Option.bind_some,hd,h1];rw [← h2];cases v <;> rfl
noncomputable def putF(t:Fr)(dst:Option Tmp)(v:Value):Fr:=match dst with|some d=>Tr.set undef v t d|none=>t
theorem sD{t:Fr}{dst:Option Tmp}{v:Value}{k:Fr→Bool}(h:putT t dst v k=true):k (putF t dst v)=true:=by
 cases dst with
 | none=>exact h
 | some d=>
  have h':fsetK t d v k=true:=h;unfold fsetK at h';rw [Tr.setK_eq]at h';exact h'
theorem In0.act{ρ : Inj}{base:Nat}{w0:World}{b:Frame}{a a2:Act}{wd:World}{cs:List Frame}{cx:Cx}{w:W}(h:In0 P ng ρ base w0 b a wd cs cx w)(hd:a2.defers=a.defers):In0 P ng ρ base w0 b a2 wd cs cx w:=
 ⟨h.fn,h.kind,h.rd,h.rdf,h.hp,by rw[hd];exact h.dr,h.ur,h.fnd⟩
theorem put_defers(a:Act)(dst:Option Tmp)(v:Value):(a.put dst v).defers=a.defers:=by cases dst <;> rfl
theorem TmR.putF{ρ : Inj}{N:Nat}{t:Fr}{a:Act}(h:TmR ρ N t a.tmps){v v':Value}(hv:RV ρ v v')(dst:Option Tmp):TmR ρ N (putF t dst v) (a.put dst v').tmps:=by
 cases dst with
 | none=>exact h
 | some d=>exact h.put hv d
theorem In0.toIn{ρ : Inj}{base:Nat}{w0:World}{b:Frame}{a:Act}{wd:World}{cs:List Frame}{cx:Cx}{t:Fr}{w:W}(h:In0 P ng ρ base w0 b a wd cs cx w)(ht:TmR ρ (ntm P cx.fn) t a.tmps):In P ng ρ base w0 b a wd cs cx t w:=
 ⟨h.fn,h.kind,h.rd,h.rdf,ht,h.hp,h.dr,h.ur,h.fnd⟩
theorem skip_put{ops:Array Oper}{b:Frame}{a:Act}{cs:List Frame}{wd:World}{i:Nat}{rest:List Nat}{k:List Item}{o:Oper}(ho:ops[i]? = some o)(hw:Region.wanted o (yielded ops a.tmps)=false) :
 step P (lone (b.atR a (.inRegion ops (i::rest)::k)) cs wd) = .next (lone (b.atR (a.put o.dst undef) (.inRegion ops rest::k)) cs wd):=by
 have:=stepR_op_skip (P:=P) (b:=b) (a:=a) (k:=k) (cs:=cs) (w:=wd) (ops:=ops) (i:=i) (rest:=rest) (by simp[ho,hw]);rw [ho]at this;exact this
theorem one_ok{lo:Lo}(hP:xV ng P=true)(hS:Sound P ng lo){all:Array Oper}{o:Oper}{cx:Cx}{t:Fr}{w:W}{kv:KV}{kp:KP}(hm:o∈all.toList)
(hx:(Bool.rec (kv w undef) (Option.rec (eff o.op P lo cx t w kv kp) (kv w) (sP o.op P t w.h)) (wanted all t o.guard):Bool)=true) :
 ∃out w',(Out.rec (motive:=fun _=>Bool) (fun v=>kv w' v) (fun c=>kp c w') out)=true∧
  ∀(_hc:∀o∈all.toList,rV ng (ntm P cx.fn) o=true) (ρ : Inj) (base:Nat) (w0:World) (b:Frame) (a:Act) (wd:World) (cs:List Frame),In P ng ρ base w0 b a wd cs cx t w→∀(i:Nat) (rest:List Nat) (k:List Item),all[i]? = some o→
   ∃ρ' a' wd' cs',In0 P ng ρ' base w0 b a' wd' cs' cx w'∧a'.tmps=a.tmps∧Grow ρ w.h w.n wd ρ' w'.h w'.n wd'∧CsTo cx.df cs cs'∧
    Done P (lone (b.atR a (.inRegion all (i::rest)::k)) cs wd) b a' cs' wd' ρ' o all i rest k out:=by
 have hops:∀(hc:∀o∈all.toList,rV ng (ntm P cx.fn) o=true) {ρ : Inj} {base:Nat} {w0:World} {b:Frame} {a:Act} {wd:World} {cs:List Frame},In P ng ρ base w0 b a wd cs cx t w→OpsR ρ t a o:=by
  intro hc ρ base w0 b a wd cs hI x hx;exact ev_rv hI.hp hI.tm (List.all_eq_true.1 (Bool.and_eq_true_iff.1 (hc o hm)).1 x hx)
 have hwant:∀(hc:∀o∈all.toList,rV ng (ntm P cx.fn) o=true) {ρ : Inj} {base:Nat} {w0:World} {b:Frame} {a:Act} {wd:World} {cs:List Frame},In P ng ρ base w0 b a wd cs cx t w→Region.wanted o (yielded all a.tmps)=wanted all t o.guard:=by
  intro hc ρ base w0 b a wd cs hI;refine wanted_ok fun g q _ d hd=>?_
  have hlt:d<ntm P cx.fn:=by
   unfold dstOf at hd
   cases ho:all[g]? with
   | none=>rw [ho]at hd;cases hd
   | some og=>
    rw[ho]at hd;have hmem:og∈all.toList:=by rw[← Array.getElem?_toList]at ho;exact List.mem_iff_getElem?.2 ⟨g,ho⟩
    have:=(Bool.and_eq_true_iff.1 (hc og hmem)).2;dsimp only at hd;rw [hd]at this;exact vA this
  have hlt2:d<a.tmps.size:=Nat.lt_of_lt_of_le hlt hI.tm.le;exact⟨a.tmps[d],Array.getElem?_eq_getElem hlt2,(hI.tm.tm d _ (Array.getElem?_eq_getElem hlt2)).boolOf⟩
 cases hw:wanted all t o.guard with
 | false=>
  rw[hw]at hx;refine⟨.ret undef,w,hx,fun hc ρ base w0 b a wd cs hI i rest k ho=>?_⟩;exact⟨ρ,a,wd,cs,hI.in0,rfl,Grow.refl _ _ _ _ hI.hp.dom,CsTo.refl _ _,undef,RV.undef ρ,.one (skip_put ho ((hwant hc hI).trans hw))⟩
 | true =>
  rw[hw]at hx
  have fin:∀{out w'},OpTo P ng o cx t w out w'→∀(hc:∀o∈all.toList,rV ng (ntm P cx.fn) o=true) (ρ : Inj) (base:Nat) (w0:World) (b:Frame) (a:Act) (wd:World) (cs:List Frame),In P ng ρ base w0 b a wd cs cx t w→∀(i:Nat) (rest:List Nat) (k:List Item),all[i]? = some o→
   ∃ρ' a' wd' cs',In0 P ng ρ' base w0 b a' wd' cs' cx w'∧a'.tmps=a.tmps∧Grow ρ w.h w.n wd ρ' w'.h w'.n wd'∧CsTo cx.df cs cs'∧
    Done P (lone (b.atR a (.inRegion all (i::rest)::k)) cs wd) b a' cs' wd' ρ' o all i rest k out:=
   fun h hc ρ base w0 b a wd cs hI i rest k ho=>h ρ base w0 b a wd cs hI.in0 (hops hc hI) all i rest k ho ((hwant hc hI).trans hw)
  cases hq:sP o.op P t w.h with
  | some v=>
   rw[hq]at hx;refine⟨.ret v,w,hx,fin (oE ?_ (effVal_quiet hP hq))⟩;intro c e;rw [e]at hq;cases hq
  | none=>
   rw[hq]at hx;obtain⟨out,w',hk,ho⟩:=eff_ok hP hS hx;exact⟨out,w',hk,fin ho⟩
theorem xops_ok{lo:Lo}(hP:xV ng P=true)(hS:Sound P ng lo){all:Array Oper}{cx:Cx}:∀(l:List Oper) (t:Fr) (w:W) (k:KX),(∀o∈l,o∈all.toList)→xops P lo cx all l t w k=true→
 ∃x t' w',k x t' w'=true∧((∀o∈all.toList,rV ng (ntm P cx.fn) o=true)→∀(is:List Nat),is.length=l.length→(∀(j i:Nat),is[j]? = some i→all[i]? = l[j]?)→∀(b:Frame) (kk:List Item),
  Leads P ng b (.inRegion all is::kk) kk cx t w x t' w'):=by
 intro l
 induction l with
 | nil=>
  intro t w k _ hx;refine⟨.normal,t,w,hx,fun _ is hl _ b kk=>?_⟩;have:is=[]:=List.length_eq_zero_iff.1 hl;subst this;exact yN (fun _ _ _=>stepR_region_end) (tK b kk cx t w)
 | cons o l ih =>
  intro t w k hmem hx;obtain⟨out,w1,hk,h1⟩:=one_ok (o:=o) (all:=all) (kv:=fun w v=>putT t o.dst v fun t=>xops P lo cx all l t w k) (kp:=fun c w=>k (.panic c) t w) hP hS (hmem o (by simp)) hx
  have head:∀{is:List Nat},is.length=(o::l).length→(∀(j i:Nat),is[j]? = some i→all[i]? = (o::l)[j]?)→∃i is',is=i::is'∧all[i]? = some o∧is'.length=l.length∧(∀(j i:Nat),is'[j]? = some i→all[i]? = l[j]?):=by
   intro is hl hi
   cases is with
   | nil=>simp at hl
   | cons i is'=>exact⟨i,is',rfl,by simpa using hi 0 i rfl,by simpa using hl,fun j i2 h=>by simpa using hi (j+1) i2 (by simpa using h)⟩
  cases out with
  | panic c=>
   refine⟨.panic c,t,w1,hk,fun hc is hl hi b kk ρ base w0 a wd cs hI=>?_⟩;obtain⟨i,is',rfl,ho,_,_⟩:=head hl hi;obtain⟨ρ',a',wd',cs',i1,i2,i3,i4,c',i5,i6⟩:=h1 hc ρ base w0 b a wd cs hI i is' kk ho;exact⟨ρ',a',wd',cs',i1.toIn (by rw[i2];exact hI.tm.mono (i3.le hI.hp.dom)),i3,i4,_,c',i5,i6⟩
  | ret v=>
   have hk':=sD hk;obtain⟨x,t',w',hk2,h2⟩:=ih (putF t o.dst v) w1 k (fun q hq=>hmem q (by simp[hq])) hk';refine⟨x,t',w',hk2,fun hc is hl hi b kk ρ base w0 a wd cs hI=>?_⟩;obtain⟨i,is',rfl,ho,hl',hi'⟩:=head hl hi;obtain⟨ρ',a',wd',cs',i1,i2,i3,i4,v',i5,i6⟩:=h1 hc ρ base w0 b a wd cs hI i is' kk ho;have htm:TmR ρ' (ntm P cx.fn) t a'.tmps:=by rw[i2];exact hI.tm.mono (i3.le hI.hp.dom)
   obtain⟨ρ2,a2,wd2,cs2,g1,g2,g3,g4⟩:=h2 hc is' hl' hi' b kk ρ' base w0 (a'.put o.dst v') wd' cs' ((i1.act (put_defers a' o.dst v')).toIn (htm.putF i5 o.dst));exact⟨ρ2,a2,wd2,cs2,g1,i3.trans g2,i4.trans g3,g4.of_steps i6⟩
theorem region_ok{lo:Lo}(hP:xV ng P=true)(hS:Sound P ng lo)(id:Nat)(ops:Array Oper)(cx:Cx)(t:Fr)(w:W)(k:KX)(hx:xcode P lo (.region id ops false) cx t w k=true) :
 ∃x t' w',k x t' w'=true∧CodeTo P ng (.region id ops false) cx t w x t' w':=by
 have hx':xops P lo cx ops ops.toList t w k=true:=hx;obtain⟨x,t',w',hk,h⟩:=xops_ok hP hS ops.toList t w k (fun _ h=>h) hx';refine⟨x,t',w',hk,fun hc b kk=>yN (fun _ _ _=>stepR_region) (h ?_ (List.range ops.size) (by simp) ?_ b kk)⟩
 · exact List.all_eq_true.1 hc
 · intro j i hj
   have:i=j:=by
    by_cases h9:j<ops.size
    · rw[List.getElem?_range h9]at hj;injection hj with hj;exact hj.symm
    · rw[List.getElem?_eq_none (by simpa using h9)]at hj;cases hj
   subst this;rw [Array.getElem?_toList]
end
section
variable {P:Program} {ng:Nat}
def DrawOK(P:Program)(ng:Nat):Prop:=
 ∀lo,Sound P ng lo→∀id ops cx t w k,xcode P lo (.region id ops true) cx t w k=true→∃x t' w',k x t' w'=true∧CodeTo P ng (.region id ops true) cx t w x t' w'
theorem sound_next(hD:DrawOK P ng)(hP:xV ng P=true){lo:Lo}(hS:Sound P ng lo):Sound P ng (Lo.next P lo) where
 code c cx t w k h:=xcode_ok hS (fun id ops draw cx t w k h=>by
  cases draw with
  | true=>exact hD lo hS id ops cx t w k h
  | false=>exact region_ok hP hS id ops cx t w k h) (fun f params asg body cx t w k h=>xrangeFunc_ok hS f params asg body cx t w k h) c cx t w k h
 call _ _ _ _ _ _ _ h:=xcall_ok hP hS h
 round _ _ _ _ _ h:=xround_ok hP hS h
 leave _ _ _ _ _ h:=xleave_ok hP hS h
def EndR(ρ : Inj):Out→Ending→Prop
 | .ret v,.returned v'=>RV ρ v v'
 | .panic c,.panicked c'=>ChR ρ c c'
 | _,_=>False
theorem calls_of{lo:Lo}(hS:Sound P ng lo){f:FuncId}{args:List Value}{h:zH}{n:Nat}{fin:KO}(hx:lo.call f args false none h n fin=true) :
 ∃o u' h' n',fin o u' h' n'=true∧∀(ρ : Inj) (base:Nat) (w0 w:World) (args':List Value),HeapR P ng ρ base w0 h n w→RVs ρ args args'→
  Calls P f ⟨args'⟩ w fun e w'=>∃ρ',HeapR P ng ρ' base w0 h' n' w'∧Grow ρ h n w ρ' h' n' w'∧EndR ρ' o e:=by
 obtain⟨o,u',h',n',hk,_,hc⟩:=hS.call _ _ _ _ _ _ _ hx;refine⟨o,u',h',n',hk,fun ρ base w0 w args' hH ha cs=>?_⟩;obtain⟨ρ',wd',fr,cs',s1,s2,s3,s4,s5,s6,s7⟩:=hc ρ base w0 w args' cs hH ha (fun e=>by cases e)
 have hcs:cs'=cs:=by
  rcases s4 with e|⟨e,_⟩
  · exact e
  · cases e
 subst hcs
 cases o with
 | ret v=>
  obtain⟨v',y1,y2,y3,y4,y5⟩:=s7;exact⟨.returned v',wd',fr,⟨ρ',s2,s3,y5⟩,s1,s6,y1,y2,y3,y4⟩
 | panic c=>
  obtain⟨c',y1,y2,y3,y4⟩:=s7;exact⟨.panicked c',wd',fr,⟨ρ',s2,s3,y4⟩,s1,s6,y1,y2,y3⟩
end
theorem bitB_eq(m i:Nat):wS m i=m.testBit i:=by
 unfold wS;show Nat.beq (Nat.land (Nat.shiftRight m i) 1) 1=_;rw [Nat.testBit];show Nat.beq ((m >>> i) &&& 1) 1=(1 &&& (m >>> i) != 0);rw [Nat.and_comm]
 have h:1 &&& (m >>> i)=0∨1 &&& (m >>> i)=1:=by
  have:=Nat.and_le_left (n:=1) (m:=m >>> i);omega
 rcases h with h|h <;> rw[h] <;> rfl
theorem lor_bit(a b i:Nat):wS (Nat.lor a b) i=(wS a i || wS b i):=by
 simp only[bitB_eq];exact Nat.testBit_or a b i
theorem one_bit(j i:Nat):wS (Nat.shiftLeft 1 j) i=Nat.beq j i:=by
 rw[bitB_eq];show(1 <<< j).testBit i=_;rw [Nat.one_shiftLeft,Nat.testBit_two_pow];by_cases h:j=i
 · subst h;simp
 · have:Nat.beq j i=false:=by
    cases e:Nat.beq j i with
    | false=>rfl
    | true=>exact absurd (yL e) h
   rw[this];simp [h]
theorem land_sub{a b i:Nat}(h:Nat.beq (Nat.land a b) a=true)(hi:wS a i=true):wS b i=true:=by
 have h:=yL h;rw [bitB_eq]at hi ⊢
 have:(a &&& b).testBit i=a.testBit i:=by
  have h:a &&& b=a:=h;rw [h]
 rw[Nat.testBit_and,hi]at this;simpa using this
def sM(e:Edge):Bool:=Region.binds .any e
theorem edgesMask_ok{acc:Tr Nat}{j:Nat}:∀{es:List Edge} {m0 m:Nat},sW acc j es m0=some m→
 (∀b,wS m b=true→wS m0 b=true∨∃e∈es,sM e=true∧(b=e.on∨wS (Tr.get 0 acc e.on) b=true))∧(∀e∈es,sM e=true→e.on<j):=by
 intro es
 induction es with
 | nil=>
  intro m0 m h;simp only[sW]at h;injection h with h;subst h
  exact⟨fun b hb=>.inl hb,fun e he=>by simp at he⟩
 | cons e es ih =>
  intro m0 m h
  have skip:sM e=false→sW acc j es m0=some m→_:=fun ha h=>(show(∀b,wS m b=true→wS m0 b=true∨∃e'∈e::es,sM e'=true∧(b=e'.on∨wS (Tr.get 0 acc e'.on) b=true))∧(∀e'∈e::es,sM e'=true→e'.on<j) from
   have⟨h1,h2⟩:=ih h
   ⟨fun b hb=>(h1 b hb).imp id fun⟨e',m1,m2⟩=>⟨e',by simp[m1],m2⟩,fun e' he ha'=>by
    rcases List.mem_cons.1 he with rfl|he
    · rw[ha]at ha';cases ha'
    · exact h2 e' he ha'⟩)
  have take:sM e=true→(Bool.rec none (sW acc j es (Nat.lor m0 (Nat.lor (Nat.shiftLeft 1 e.on) (Tr.get 0 acc e.on)))) (Nat.blt e.on j):Option Nat)=some m→
   (∀b,wS m b=true→wS m0 b=true∨∃e'∈e::es,sM e'=true∧(b=e'.on∨wS (Tr.get 0 acc e'.on) b=true))∧(∀e'∈e::es,sM e'=true→e'.on<j):=by
   intro ha h
   cases hj:Nat.blt e.on j with
   | false=>rw [hj]at h;cases h
   | true=>
    rw[hj]at h;obtain⟨h1,h2⟩:=ih h;refine⟨fun b hb=>?_,fun e' he ha'=>?_⟩
    · rcases h1 b hb with h3|⟨e',m1,m2⟩
      · rw[lor_bit,lor_bit,one_bit]at h3;simp only[Bool.or_eq_true]at h3;rcases h3 with h3|h3|h3
        · exact .inl h3
        · exact .inr ⟨e,by simp,ha,.inl (yL h3).symm⟩
        · exact .inr ⟨e,by simp,ha,.inr h3⟩
      · exact .inr ⟨e',by simp[m1],m2⟩
    · rcases List.mem_cons.1 he with rfl|he
      · exact vA hj
      · exact h2 e' he ha'
  simp only[sW]at h;unfold sM Region.binds at skip take;cases hg:e.ground <;> rw[hg]at h skip take <;> first|exact take rfl h|exact skip rfl h
theorem tmpMask_ok:∀{xs:List Operand} {m0 b:Nat},(wS m0 b=true∨.tmp b∈xs)→wS (tmpMask xs m0) b=true:=by
 intro xs
 induction xs with
 | nil=>intro m0 b h;rcases h with h|h;(· exact h);(· simp at h)
 | cons x xs ih=>
  intro m0 b h;simp only[tmpMask];apply ih;rcases h with h|h
  · left
    cases x with
    | tmp t=>show wS (Nat.lor m0 (Nat.shiftLeft 1 t)) b=true;rw [lor_bit,h];rfl
    | const v=>exact h
    | global g=>exact h
    | func f=>exact h
  · rcases List.mem_cons.1 h with rfl|h
    · left
      show wS (Nat.lor m0 (Nat.shiftLeft 1 b)) b=true;rw [lor_bit,one_bit,Nat.beq_refl,Bool.or_true]
    · exact .inr h
structure XOK (all:Array Oper) (M:Nat→Nat) (x:XOp):Prop where
 kd:x.kd=wW x.o.op
 ds:x.ds=dstMask x.o.dst
 m:x.m=M x.i
 bits:∀b,wS x.m b=true→∃e∈x.o.after.toList,sM e=true∧(b=e.on∨wS (M e.on) b=true)
 on:∀e∈x.o.after.toList,sM e=true→e.on<x.i
 lk:∀t,.tmp t∈x.o.op.operands.toList→wS x.lk t=true
 glk:∀g b d,x.o.guard=some (g,b)→dstOf all g=some d→wS x.lk d=true
 ga:∀g b,x.o.guard=some (g,b)→wS x.m g=true
theorem xlist_ok{all:Array Oper}:∀{l:List Oper} {j:Nat} {acc:Tr Nat} {xl:List XOp},xlist all l j acc=some xl→
 ∃M:Nat→Nat,(∀k,k<j→M k=Tr.get 0 acc k)∧xl.length=l.length∧∀q o,l[q]? = some o→∃x,xl[q]? = some x∧x.o=o∧x.i=j+q∧XOK all M x:=by
 intro l
 induction l with
 | nil=>
  intro j acc xl h;simp only[xlist]at h;injection h with h;subst h
  exact⟨fun k=>Tr.get 0 acc k,fun _ _=>rfl,rfl,fun q o h=>by simp at h⟩
 | cons o l ih =>
  intro j acc xl h;simp only[xlist]at h
  cases hm:sW acc j o.after.toList 0 with
  | none=>rw [hm]at h;cases h
  | some m=>
   rw[hm]at h;dsimp only at h;split at h
   · cases h
   · rename_i gm hgm
     cases hr:xlist all l (Nat.succ j) (Tr.set 0 m acc j) with
     | none=>rw [hr]at h;cases h
     | some xl' =>
      rw[hr]at h;injection h with h;subst h
      obtain⟨M,h1,h2,h3⟩:=ih hr;obtain⟨e1,e2⟩:=edgesMask_ok hm;have hMj:M j=m:=by rw[h1 j (Nat.lt_succ_self j),Tr.get_set_if,if_pos rfl]
      have hMk:∀k,k<j→M k=Tr.get 0 acc k:=by
       intro k hk;rw [h1 k (Nat.lt_succ_of_lt hk),Tr.get_set_if,if_neg (by omega)]
      refine⟨M,hMk,by simp[h2],fun q o' hq=>?_⟩
      cases q with
      | succ q=>
       obtain⟨x,f1,f2,f3,f4⟩:=h3 q o' (by simpa using hq);exact⟨x,by simpa using f1,f2,by omega,f4⟩
      | zero=>
       simp at hq;subst hq;refine⟨_,rfl,rfl,rfl,rfl,rfl,hMj.symm,fun b hb=>?_,e2,fun t ht=>tmpMask_ok (.inr ht),fun g b d hg hd=>?_,fun g b hg=>?_⟩
       · rcases e1 b hb with h4|⟨e,q1,q2,q3⟩
         · rw[bitB_eq,Nat.zero_testBit]at h4;cases h4
         · exact⟨e,q1,q2,q3.imp id fun h5=>by rw[hMk _ (e2 e q1 q2)];exact h5⟩
       · apply tmpMask_ok;left
         rw[hg]at hgm;dsimp only at hgm
         cases hb:wS m g with
         | false=>rw [hb]at hgm;cases hgm
         | true=>
          rw[hb]at hgm;injection hgm with hgm
          rw[← hgm,hd];show wS (Nat.shiftLeft 1 d) d=true;rw [one_bit,Nat.beq_refl]
       · rw[hg]at hgm;dsimp only at hgm
         cases hb:wS m g with
         | false=>rw [hb]at hgm;cases hgm
         | true=>rfl
theorem sigB_head{x:XOp}{r:List XOp}{sm pm:Nat}(h:sigB (x::r) sm pm=true) :
 (∀b,wS x.m b=true→wS sm b=true)∧wS sm x.i=false∧
 (x.kd=3→(∀b,wS pm b=true→wS x.m b=true)∧sigB r (Nat.lor sm (Nat.shiftLeft 1 x.i)) 0=true)∧
 (x.kd≠3→sigB r (Nat.lor sm (Nat.shiftLeft 1 x.i)) (Nat.lor pm (Nat.shiftLeft 1 x.i))=true):=by
 simp only[sigB]at h
 cases h1:Nat.beq (Nat.land x.m sm) x.m with
 | false=>rw [h1]at h;cases h
 | true =>
  rw[h1]at h;dsimp only at h
  cases h2:wS sm x.i with
  | true=>rw [h2]at h;cases h
  | false=>
   rw[h2]at h;dsimp only at h;refine⟨fun b hb=>land_sub h1 hb,rfl,fun hk=>?_,fun hk=>?_⟩
   · rw[hk]at h;have h:(Bool.rec false (sigB r (Nat.lor sm (Nat.shiftLeft 1 x.i)) 0) (Nat.beq (Nat.land x.m pm) pm):Bool)=true:=h
     cases h3:Nat.beq (Nat.land x.m pm) pm with
     | false=>rw [h3]at h;cases h
     | true =>
      rw[h3]at h;refine⟨fun b hb=>?_,h⟩
      have e:Nat.land pm x.m=pm:=by
       have:=yL h3;show pm &&& x.m=pm;rw [Nat.and_comm];exact this
      exact land_sub (a:=pm) (by rw[e];exact Nat.beq_refl pm) hb
   · have hk':Nat.beq x.kd 3=false:=by
      cases e:Nat.beq x.kd 3 with
      | false=>rfl
      | true=>exact absurd (yL e) hk
     rw[hk']at h;exact h
theorem sigB_app:∀{pre rest:List XOp} {sm pm:Nat},sigB (pre++rest) sm pm=true→
 ∃sm' pm',sigB rest sm' pm'=true∧(∀b,wS sm' b=true↔(wS sm b=true∨∃y∈pre,y.i=b))∧
  ((∀y∈pre,y.kd≠3)→∀b,(wS pm b=true∨∃y∈pre,y.i=b)→wS pm' b=true):=by
 intro pre
 induction pre with
 | nil=>intro rest sm pm h;exact⟨sm,pm,h,fun b=>by simp,fun _ b hb=>by simpa using hb⟩
 | cons x pre ih =>
  intro rest sm pm h;obtain⟨_,_,h3,h4⟩:=sigB_head h
  have bits:∀{m b},wS (Nat.lor m (Nat.shiftLeft 1 x.i)) b=true↔(wS m b=true∨x.i=b):=by
   intro m b;rw [lor_bit,one_bit,Bool.or_eq_true];exact⟨fun h=>h.imp id yL,fun h=>h.imp id fun e=>by rw[e];exact Nat.beq_refl b⟩
  have key:∀{pm2},sigB (pre++rest) (Nat.lor sm (Nat.shiftLeft 1 x.i)) pm2=true→(x.kd≠3→pm2=Nat.lor pm (Nat.shiftLeft 1 x.i))→
   ∃sm' pm',sigB rest sm' pm'=true∧(∀b,wS sm' b=true↔(wS sm b=true∨∃y∈x::pre,y.i=b))∧
    ((∀y∈x::pre,y.kd≠3)→∀b,(wS pm b=true∨∃y∈x::pre,y.i=b)→wS pm' b=true):=by
   intro pm2 hs hp;obtain⟨sm',pm',a1,a2,a3⟩:=ih hs;refine⟨sm',pm',a1,fun b=>?_,fun hall b hb=>?_⟩
   · rw[a2,bits];simp only[List.mem_cons];constructor
     · rintro ((h|h)|⟨y,h1,h2⟩)
       · exact .inl h
       · exact .inr ⟨x,.inl rfl,h⟩
       · exact .inr ⟨y,.inr h1,h2⟩
     · rintro (h|⟨y,rfl|h1,h2⟩)
       · exact .inl (.inl h)
       · exact .inl (.inr h2)
       · exact .inr ⟨y,h1,h2⟩
   · have e:=hp (hall x (by simp));refine a3 (fun y hy=>hall y (by simp[hy])) b ?_;rw [e,bits];rcases hb with h|⟨y,h1,h2⟩
     · exact .inl (.inl h)
     · rcases List.mem_cons.1 h1 with rfl|h1
       · exact .inl (.inr h2)
       · exact .inr ⟨y,h1,h2⟩
  by_cases hk:x.kd=3
  · exact key (h3 hk).2 (fun e=>absurd hk e)
  · exact key (h4 hk) (fun _=>rfl)
theorem sig_ord{pre post:List XOp}{x:XOp}(h:sigB (pre++x::post) 0 0=true):(∀b,wS x.m b=true→∃y∈pre,y.i=b)∧(∀y∈pre,y.i≠x.i):=by
 obtain⟨sm,pm,h1,h2,_⟩:=sigB_app h;obtain⟨h3,h4,_,_⟩:=sigB_head h1;have z:∀b,¬wS 0 b=true:=fun b e=>by rw[bitB_eq,Nat.zero_testBit]at e;cases e
 refine⟨fun b hb=>((h2 b).1 (h3 b hb)).resolve_left (z b),fun y hy e=>?_⟩;have:=(h2 x.i).2 (.inr ⟨y,hy,e⟩);rw [h4]at this;cases this
theorem sig_next{pre seg post:List XOp}{c:XOp}(h:sigB (pre++(seg++c::post)) 0 0=true)(hc:c.kd=3)(hs:∀y∈seg,y.kd≠3):∀y∈seg,wS c.m y.i=true:=by
 obtain⟨sm,pm,h1,_,_⟩:=sigB_app h;obtain⟨sm2,pm2,h2,_,h3⟩:=sigB_app h1;obtain⟨_,_,h4,_⟩:=sigB_head h2;exact fun y hy=>(h4 hc).1 _ (h3 hs _ (.inr ⟨y,hy,rfl⟩))
theorem allB_ok{α : Type}{f: α→Bool}:∀{l:List α},allB f l=true→∀x∈l,f x=true:=by
 intro l
 induction l with
 | nil=>intro _ x hx;simp at hx
 | cons y l ih =>
  intro h x hx;have h':(Bool.rec false (allB f l) (f y):Bool)=true:=h
  cases hf:f y with
  | false=>rw [hf]at h';cases h'
  | true=>
   rw[hf]at h';rcases List.mem_cons.1 hx with rfl|hx
   · exact hf
   · exact ih h' x hx
theorem sigmaFrom_mem:∀{acts rest:List XOp} {x:XOp},x∈rT rest acts→x∈rest∨x∈acts:=by
 intro acts
 induction acts with
 | nil=>intro rest x h;exact .inl h
 | cons c cs ih=>
  intro rest x h;simp only[rT,List.mem_append,List.mem_cons,List.mem_filter]at h;rcases h with⟨h,_⟩|rfl|h
  · exact .inl h
  · exact .inr (by simp)
  · rcases ih h with h|h
    · exact .inl (List.mem_filter.1 h).1
    · exact .inr (by simp[h])
structure PlanOK (ops:Array Oper) (M:Nat→Nat) (xl S:List XOp):Prop where
 at':∀x∈xl,ops[x.i]? = some x.o
 ok:∀x∈xl,XOK ops M x
 cov:∀i,i<ops.size→∃x∈xl,x.i=i
 sub:∀x∈S,x∈xl
 sig:sigB S 0 0=true
 len:S.length=ops.size
 pair:∀x∈xl,∀y∈xl,∀d,x.o.dst=some d→(wS y.lk d=true∨y.o.dst=some d)→x.i=y.i∨(y.o.dst≠some d∧(wS y.m x.i=true∨wS x.m y.i=true))
 act:∀x∈xl,∀y∈xl,x.kd=3→y.kd=3→x.i=y.i∨wS y.m x.i=true∨wS x.m y.i=true
theorem dst_bit{o:Option Tmp}{d:Nat}:wS (dstMask o) d=true↔o=some d:=by
 cases o with
 | none=>
  show wS 0 d=true↔_;rw [bitB_eq,Nat.zero_testBit];simp
 | some t=>
  show wS (Nat.shiftLeft 1 t) d=true↔_;rw [one_bit];exact⟨fun h=>by rw[yL h],fun h=>by injection h with h;rw [h];exact Nat.beq_refl d⟩
theorem land_zero{a b d:Nat}(h:Nat.beq (Nat.land a b) 0=true)(ha:wS a d=true):wS b d=false:=by
 have h:a &&& b=0:=yL h;rw [bitB_eq]at ha ⊢;have:(a &&& b).testBit d=false:=by rw[h,Nat.zero_testBit]
 rw[Nat.testBit_and,ha]at this;simpa using this
theorem plan_ok{ops:Array Oper}{L:List DOp}(h:plan ops=some L) :
 ∃M xl S,PlanOK ops M xl S∧L=S.map (dopOf xl (S.filter fun x=>Nat.beq x.kd 3)):=by
 unfold plan at h
 cases hx:xlist ops ops.toList 0 .lF with
 | none=>rw [hx]at h;cases h
 | some xl =>
  rw[hx]at h;dsimp only at h;obtain⟨M,_,hlen,hat⟩:=xlist_ok hx;generalize hA:xl.filter (fun x=>Nat.beq x.kd 3)=acts at h
  unfold planOf at h
  cases hc:(pairsOK xl && actsOK acts && Nat.beq (rT xl acts).length ops.toList.length && sigB (rT xl acts) 0 0) with
  | false=>rw [hc]at h;cases h
  | true =>
   rw[hc]at h;dsimp only[cond]at h;injection h with h
   simp only[Bool.and_eq_true]at hc;obtain⟨⟨⟨c1,c2⟩,c3⟩,c4⟩:=hc
   have hact:∀x,x∈acts→x∈xl∧x.kd=3:=by
    intro x hx;rw [← hA]at hx;obtain⟨h1,h2⟩:=List.mem_filter.1 hx;exact⟨h1,yL h2⟩
   have hmem:∀x∈rT xl acts,x∈xl:=by
    intro x hx;rcases sigmaFrom_mem hx with h|h
    · exact h
    · exact(hact x h).1
   have hxl:∀x∈xl,ops[x.i]? = some x.o∧XOK ops M x:=by
    intro x hx;obtain⟨q,hq⟩:=List.mem_iff_getElem?.1 hx
    have hlt:q<ops.toList.length:=by
     rcases Nat.lt_or_ge q xl.length with h5|h5
     · omega
     · rw[List.getElem?_eq_none h5]at hq;cases hq
    obtain⟨x',f1,f2,f3,f4⟩:=hat q _ (List.getElem?_eq_getElem hlt);rw [hq]at f1;injection f1 with f1;subst f1
    refine⟨?_,f4⟩;rw [f3,Nat.zero_add,f2,← Array.getElem?_toList];exact List.getElem?_eq_getElem hlt
   have hcov:∀i,i<ops.size→∃x∈xl,x.i=i:=by
    intro i hi;obtain⟨x',f1,_,f3,_⟩:=hat i _ (List.getElem?_eq_getElem (by simpa using hi));exact⟨x',List.mem_iff_getElem?.2 ⟨i,f1⟩,by omega⟩
   refine⟨M,xl,rT xl acts,⟨fun x hx=>(hxl x hx).1,fun x hx=>(hxl x hx).2,hcov,hmem,c4,by simpa using yL c3,?_,?_⟩,h.symm⟩
   · intro x hx y hy d hd hl;have kx:=(hxl x hx).2;have ky:=(hxl y hy).2;have dx:wS x.ds d=true:=by rw[kx.ds];exact dst_bit.2 hd
     have dy:wS (Nat.lor y.lk y.ds) d=true:=by
      rw[lor_bit,Bool.or_eq_true];exact hl.imp id fun h=>by rw[ky.ds];exact dst_bit.2 h
     have hne:Nat.beq x.ds 0=false:=by
      cases e:Nat.beq x.ds 0 with
      | false=>rfl
      | true=>
       rw[yL e,bitB_eq,Nat.zero_testBit]at dx;cases dx
     have hp:=allB_ok (allB_ok c1 x (List.mem_filter.2 ⟨hx,by rw[hne];rfl⟩)) y hy;unfold pairOK at hp
     cases e:Nat.beq (Nat.land x.ds (Nat.lor y.lk y.ds)) 0 with
     | true=>
      have:=land_zero e dx;rw [dy]at this;cases this
     | false=>
      rw[e]at hp;have hp:(Nat.beq x.i y.i || (Nat.beq (Nat.land x.ds y.ds) 0 && (wS y.m x.i || wS x.m y.i)))=true:=hp;simp only[Bool.or_eq_true,Bool.and_eq_true]at hp;rcases hp with hp|⟨hp1,hp2⟩
      · exact .inl (yL hp)
      · refine .inr ⟨fun e2=>?_,hp2⟩;have:=land_zero hp1 dx;rw [ky.ds,dst_bit.2 e2]at this;cases this
   · intro x hx y hy kx ky;have mx:x∈acts:=by rw[← hA];exact List.mem_filter.2 ⟨hx,by rw[kx];rfl⟩
     have my:y∈acts:=by rw[← hA];exact List.mem_filter.2 ⟨hy,by rw[ky];rfl⟩
     have:=allB_ok (allB_ok c2 x mx) y my;simp only[Bool.or_eq_true]at this;rcases this with(h|h)|h
     · exact .inl (yL h)
     · exact .inr (.inl h)
     · exact .inr (.inr h)
structure Rec where
 x:DOp
 t:Fr
 w:W
 sk:Bool
 v:Value
 w2:W
section
variable (P:Program) (ng:Nat) (all:Array Oper) (cx:Cx)
inductive RecOK:Rec→Prop
 | skip {x:DOp} {t:Fr} {w:W} (hw:wanted all t x.o.guard=false):RecOK ⟨x,t,w,true,undef,w⟩
 | look {x:DOp} {t:Fr} {w:W} {v:Value} (hw:wanted all t x.o.guard=true) (hk:x.kd=0∨x.kd=1) (hq:sP x.o.op P t w.h=some v):RecOK ⟨x,t,w,false,v,w⟩
 | made {x:DOp} {t:Fr} {w:W} {v:Nat→Value} {ob:AObj} (hw:wanted all t x.o.guard=true) (hk:x.kd=2) (hn:NewVal P ng x.o t v ob) :
  RecOK ⟨x,t,w,false,v w.n,W.mk w.d w.u (w.h.set .dead ob w.n) (w.n+1)⟩
 | act {x:DOp} {t:Fr} {w w2:W} {v:Value} (hw:wanted all t x.o.guard=true) (hk:x.kd≠0∧x.kd≠1∧x.kd≠2) (ho:OpTo P ng x.o cx t w (.ret v) w2) (hn:w.n≤w2.n):RecOK ⟨x,t,w,false,v,w2⟩
inductive RecsOK:List Rec→Fr→W→Fr→W→Prop
 | nil (t:Fr) (w:W):RecsOK [] t w t w
 | cons {r:Rec} {R:List Rec} {t':Fr} {w':W} (h:RecOK P ng all cx r) (hr:RecsOK R (putF r.t r.x.o.dst r.v) r.w2 t' w'):RecsOK (r::R) r.t r.w t' w'
end
def hsOf:List Rec→List W→List W
 | [],hs=>hs
 | r::R,hs=>hsOf R (cond (Nat.beq r.x.kd 3) (r.w2::hs) hs)
def lsOf:List Rec→List Look→List Look
 | [],ls=>ls
 | r::R,ls=>lsOf R (cond (!r.sk && (Nat.beq r.x.kd 1 && !Nat.beq r.x.low r.x.high)) (⟨r.x.o.op,r.t,r.v,r.x.low,r.x.high⟩::ls) ls)
section
variable {P:Program} {ng:Nat} {all:Array Oper} {cx:Cx}
def Drew(P:Program)(ng:Nat)(all:Array Oper)(cx:Cx)(L:List DOp)(t:Fr)(w:W)(hs:List W)(ls:List Look)(k:KX):Prop:=
 (∃R t' w',R.map (·.x)=L∧RecsOK P ng all cx R t w t' w'∧k .normal t' w'=true∧sF P (hsOf R hs).length (hsOf R hs) (lsOf R ls)=true)∨
 (∃R d rest c t1 w1 w2,L=R.map (·.x)++d::rest∧RecsOK P ng all cx R t w t1 w1∧wanted all t1 d.o.guard=true∧OpTo P ng d.o cx t1 w1 (.panic c) w2∧d.solo=true∧
  sF P (hsOf R hs).length (hsOf R hs) (lsOf R ls)=true∧k (.panic c) t1 w2=true)
theorem Drew.cons{r:Rec}{L:List DOp}{hs:List W}{ls:List Look}{k:KX}(h:RecOK P ng all cx r)
(d:Drew P ng all cx L (putF r.t r.x.o.dst r.v) r.w2 (cond (Nat.beq r.x.kd 3) (r.w2::hs) hs) (cond (!r.sk && (Nat.beq r.x.kd 1 && !Nat.beq r.x.low r.x.high)) (⟨r.x.o.op,r.t,r.v,r.x.low,r.x.high⟩::ls) ls) k) :
 Drew P ng all cx (r.x::L) r.t r.w hs ls k:=by
 rcases d with⟨R,t',w',h1,h2,h3,h4⟩|⟨R,d,rest,c,t1,w1,w2,h1,h2,h3,h4,h5,h6,h7⟩
 · exact .inl ⟨r::R,t',w',by simp[h1],.cons h h2,h3,h4⟩
 · exact .inr ⟨r::R,d,rest,c,t1,w1,w2,by simp[h1],.cons h h2,h3,h4,h5,h6,h7⟩
theorem new_ok{lo:Lo}(hP:xV ng P=true){o:Oper}{t:Fr}{w:W}{k:KV}{kp:KP}(hk:wW o.op=2)(hx:eff o.op P lo cx t w k kp=true) :
 ∃v ob,NewVal P ng o t v ob∧k (W.mk w.d w.u (w.h.set .dead ob w.n) (w.n+1)) (v w.n)=true:=by
 cases hop:o.op with
 | insert _ _ _ _=>rw [hop]at hk;cases hk
 | store _ _ _=>rw [hop]at hk;cases hk
 | mapUpdate _ _ _ _=>rw [hop]at hk;cases hk
 | defer _=>rw [hop]at hk;cases hk
 | panic _=>rw [hop]at hk;cases hk
 | alloc el=>exact alloc_ok hP hop hx
 | box el x=>exact box_ok hop hx
 | buildSlice ty len parts=>exact buildSlice_ok hP hop hx
 | makeMap ty r=>exact makeMap_ok hop hx
 | makeSlice ty l c=>exact makeSlice_ok hP hop hx
 | call c=>
  rw[hop]at hk;obtain⟨callee,asz,ts⟩:=c
  cases callee with
  | builtin b=>cases b <;> cases hk
  | value f=>cases hk
  | invoke r m=>cases hk
 | _=>rw [hop]at hx;exact(Bool.false_ne_true hx).elim
theorem xdraw_ok{lo:Lo}(hP:xV ng P=true)(hS:Sound P ng lo):∀(L:List DOp) (t:Fr) (w:W) (hs:List W) (ls:List Look) (k:KX),(∀d∈L,d.kd=wW d.o.op)→xdraw P lo cx all L t w hs ls k=true→Drew P ng all cx L t w hs ls k:=by
 intro L
 induction L with
 | nil=>
  intro t w hs ls k _ h;simp only[xdraw,Bool.and_eq_true]at h;exact .inl ⟨[],t,w,rfl,.nil t w,h.1,h.2⟩
 | cons x L ih =>
  intro t w hs ls k hkd h;have hkd':∀d∈L,d.kd=wW d.o.op:=fun d hd=>hkd d (by simp[hd]);have hx:=hkd x (by simp);simp only[xdraw]at h
  cases hw:wanted all t x.o.guard with
  | false=>
   rw[hw]at h;exact Drew.cons (.skip hw) (ih _ _ _ _ _ hkd' (sD h))
  | true=>
   rw[hw]at h;dsimp only at h;split at h
   · rename_i hk;split at h
     · rename_i v hq
       have:=Drew.cons (r:=⟨x,t,w,false,v,w⟩) (hs:=hs) (ls:=ls) (.look hw (.inl hk) hq) (by
        have:=ih _ _ _ _ _ hkd' (sD h);dsimp only;rw [hk];exact this)
       exact this
     · cases h
   · rename_i hk;split at h
     · rename_i v hq
       have:=Drew.cons (r:=⟨x,t,w,false,v,w⟩) (hs:=hs) (ls:=ls) (k:=k) (.look hw (.inr hk) hq) (by
        have:=ih _ _ _ _ _ hkd' (sD h);dsimp only;rw [hk];cases hlh:Nat.beq x.low x.high <;> rw[hlh]at this <;> exact this)
       exact this
     · cases h
   · rename_i hk;obtain⟨v,ob,h1,h2⟩:=new_ok hP (by rw[← hx,hk]) h;have:=ih _ _ _ _ _ hkd' (sD h2)
     exact Drew.cons (r:=⟨x,t,w,false,v w.n,W.mk w.d w.u (w.h.set .dead ob w.n) (w.n+1)⟩) (.made hw hk h1) (by
      dsimp only;rw [hk];exact this)
   · rename_i hk0 hk1 hk2;obtain⟨out,w2,h1,h2⟩:=eff_ok hP hS h
     have hk3:x.kd=3:=by
      have h9:wW x.o.op≤3:=by unfold wW;split <;> (try split) <;> omega
      have a0:x.kd≠0:=hk0;have a1:x.kd≠1:=hk1;have a2:x.kd≠2:=hk2;omega
     cases out with
     | ret v =>
      have h1':cond (Nat.ble w.n w2.n) (putT t x.o.dst v fun t'=>xdraw P lo cx all L t' w2 (w2::hs) ls k) false=true:=h1
      cases hnn:Nat.ble w.n w2.n with
      | false=>rw [hnn]at h1';cases h1'
      | true=>
      rw[hnn]at h1';dsimp only[cond]at h1';have:=ih _ _ _ _ _ hkd' (sD h1')
      exact Drew.cons (r:=⟨x,t,w,false,v,w2⟩) (.act hw ⟨hk0,hk1,hk2⟩ h2 (uN hnn)) (by
       dsimp only;rw [hk3];exact this)
     | panic c =>
      have h1':cond (x.solo && sF P hs.length hs ls) (k (.panic c) t w2) false=true:=h1
      cases hc:(x.solo && sF P hs.length hs ls) with
      | false=>rw [hc]at h1';cases h1'
      | true=>
       rw[hc]at h1';obtain⟨c1,c2⟩:=Bool.and_eq_true_iff.1 hc;exact .inr ⟨[],x,L,c,t,w,w2,rfl,.nil t w,hw,h2,c1,c2,h1'⟩
end
def Inj.cut(ρ : Inj)(m:Nat):Inj:=fun b=>if b<m then ρ b else none
theorem uU{ρ : Inj}{m b:Nat}(h:b<m):(ρ.cut m) b = ρ b:=by simp[Inj.cut,h]
theorem cut_ge{ρ : Inj}{m b:Nat}(h:m≤b):(ρ.cut m) b=none:=by simp[Inj.cut,Nat.not_lt.2 h]
theorem sZ{ρ : Inj}{m b:Nat}{B:Bl}(e:(ρ.cut m) b=some B):b<m∧ρ b=some B:=by
 rcases Nat.lt_or_ge b m with h1|h1
 · rw[uU h1]at e;exact⟨h1,e⟩
 · rw[cut_ge h1]at e;cases e
theorem cut_le{ρ : Inj}{m m':Nat}(h:m≤m'):(ρ.cut m).le (ρ.cut m'):=by
 intro b B e;obtain⟨h1,h2⟩:=sZ e;rw [uU (by omega)];exact h2
theorem cut_mono{ρ ρ':Inj}(h: ρ.le ρ')(m:Nat):(ρ.cut m).le (ρ'.cut m):=by
 intro b B e;obtain⟨h1,h2⟩:=sZ e;rw [uU h1];exact h _ _ h2
theorem glue(h1 h2:zH)(m:Nat):∀N,∃h:zH,(∀b,b<m→yG h b=yG h1 b)∧(∀b,m≤b→b<N→yG h b=yG h2 b):=by
 intro N
 induction N with
 | zero=>exact⟨h1,fun _ _=>rfl,fun _ _ h=>absurd h (Nat.not_lt_zero _)⟩
 | succ N ih=>
  obtain⟨h,e1,e2⟩:=ih;by_cases hm:m≤N
  · refine⟨h.set .dead (yG h2 N) N,fun b hb=>?_,fun b hb hN=>?_⟩
    · rw[zP,if_neg (by omega)];exact e1 b hb
    · rw[zP];by_cases hbn:N=b
      · subst hbn;rw [if_pos rfl]
      · rw[if_neg hbn];exact e2 b hb (by omega)
  · exact⟨h,e1,fun b hb hN=>absurd hb (by omega)⟩
section
variable {P:Program} {ng:Nat}
theorem HeapR.congr{ρ : Inj}{base:Nat}{w0:World}{h h':zH}{n:Nat}{wd:World}(r:HeapR P ng ρ base w0 h n wd)(e:∀b B,ρ b=some B→yG h' b=yG h b):HeapR P ng ρ base w0 h' n wd where
 dom:=r.dom
 obj b B hb hl:=by rw[e b B hb]at hl ⊢;exact r.obj b B hb hl
 inj a b A B ha hb la lb hab:=by rw[e a A ha]at la;rw [e b B hb]at lb;exact r.inj a b A B ha hb la lb hab
 below:=r.below
 size:=r.size
 glob:=r.glob
 ngn:=r.ngn
theorem Grow.congr{ρ0:Inj}{h0:zH}{n0:Nat}{wd0:World}{ρ : Inj}{h h':zH}{n:Nat}{wd:World}(g:Grow ρ0 h0 n0 wd0 ρ h n wd)(e:∀b,b<n0→yG h' b=yG h b):Grow ρ0 h0 n0 wd0 ρ h' n wd where
 nn:=g.nn
 old:=g.old
 new:=g.new
 keep:=g.keep
 size:=g.size
 dead b hb hd:=by rw[e b hb];exact g.dead b hb hd
 tape:=g.tape
theorem HeapR.push{ρ : Inj}{base:Nat}{w0:World}{h:zH}{n:Nat}{wd:World}(r:HeapR P ng ρ base w0 h n wd)(o':Obj):HeapR P ng ρ base w0 h n { wd with heap:=wd.heap.push o' } where
 dom:=r.dom
 obj b B hb hl:=by
  obtain⟨o,e1,e2⟩:=r.obj b B hb hl;refine⟨o,?_,e2⟩;have:=r.lt hb hl;show(wd.heap.push o')[B.b]? = _;rw [Array.getElem?_push,if_neg (by omega)];exact e1
 inj:=r.inj
 below:=r.below.trans ⟨rfl,rfl,rfl,by simp,fun k hk=>by
  have:=r.size;show(wd.heap.push o')[k]? = _;rw [Array.getElem?_push,if_neg (by omega)]⟩
 size:=by have:=r.size;simp;omega
 glob:=r.glob
 ngn:=r.ngn
theorem HeapR.add{ρ : Inj}{base:Nat}{w0:World}{h:zH}{n:Nat}{wd:World}(r:HeapR P ng ρ base w0 h n wd){x:Nat}(hx: ρ x=none)(hxn:x<n)(o:AObj)(o':Obj)(B:Bl)(hB:B.b=wd.heap.size)
(hr:ObjR P ng (ρ.put x B) base B o o'):HeapR P ng (ρ.put x B) base w0 (h.set .dead o x) n { wd with heap:=wd.heap.push o' }:=by
 have hle:=Inj.le_put B hx;have r2:=r.push o';refine⟨?_,?_,?_,r2.below,r2.size,?_,r2.ngn⟩
 · intro b hb;have:b≠x:=by omega
   simp[Inj.put,this];exact r.dom b (by omega)
 · intro b C e hl;by_cases hb:b=x
   · subst hb;simp [Inj.put]at e;subst e;refine⟨o',by simp[hB],?_⟩;rw [zP];simpa using hr
   · have e': ρ b=some C:=by simpa [Inj.put,hb] using e
     rw[zP,if_neg (fun x=>hb x.symm)]at hl ⊢;obtain⟨ob,h1,h2⟩:=r2.obj b C e' hl;exact⟨ob,h1,h2.mono hle⟩
 · intro a b A C ea eb ha hb hab
   have lt:∀y X,y≠x→(ρ.put x B) y=some X→yG (h.set .dead o x) y≠.dead→X.b<wd.heap.size:=by
    intro y X hy ex hlx;have ex': ρ y=some X:=by simpa [Inj.put,hy] using ex
    rw[zP,if_neg (fun z=>hy z.symm)]at hlx;exact r.lt ex' hlx
   by_cases h1:a=x
   · by_cases h2:b=x
     · rw[h1,h2]
     · have:=lt b C h2 eb hb;subst h1;simp [Inj.put]at ea;subst ea;omega
   · by_cases h2:b=x
     · have:=lt a A h1 ea ha;subst h2;simp [Inj.put]at eb;subst eb;omega
     · rw[zP,if_neg (fun y=>h1 y.symm)]at ha;rw [zP,if_neg (fun y=>h2 y.symm)]at hb;exact r.inj a b A C (by simpa [Inj.put,h1] using ea) (by simpa [Inj.put,h2] using eb) ha hb hab
 · intro g hg;obtain⟨G,e1,e2⟩:=r.glob g hg;exact⟨G,hle _ _ e1,e2⟩
theorem Grow.push{ρ0:Inj}{h0:zH}{n0:Nat}{wd0:World}{ρ : Inj}{h:zH}{n:Nat}{wd:World}(g:Grow ρ0 h0 n0 wd0 ρ h n wd)(o':Obj):Grow ρ0 h0 n0 wd0 ρ h n { wd with heap:=wd.heap.push o' } where
 nn:=g.nn
 old:=g.old
 new:=g.new
 keep c hc hn:=by
  have:=g.size;show(wd.heap.push o')[c]? = _;rw [Array.getElem?_push,if_neg (by omega)];exact g.keep c hc hn
 size:=by have:=g.size;simp;omega
 dead:=g.dead
 tape:=g.tape
theorem Grow.add{ρ0:Inj}{h0:zH}{n0:Nat}{wd0:World}{ρ : Inj}{h:zH}{n:Nat}{wd:World}(g:Grow ρ0 h0 n0 wd0 ρ h n wd){x:Nat}(hx0:n0≤x)(o:AObj)(o':Obj)(B:Bl)(hB:B.b=wd.heap.size) :
 Grow ρ0 h0 n0 wd0 (ρ.put x B) (h.set .dead o x) n { wd with heap:=wd.heap.push o' } where
 nn:=g.nn
 old b hb:=by
  have:b≠x:=by omega
  simp[Inj.put,this];exact g.old b hb
 new b C hb e:=by
  by_cases h1:b=x
  · subst h1;simp [Inj.put]at e;subst e;have:=g.size;exact .inl (by omega)
  · exact g.new b C hb (by simpa [Inj.put,h1] using e)
 keep:=(g.push o').keep
 size:=(g.push o').size
 dead b hb hd:=by rw[zP,if_neg (by omega)];exact g.dead b hb hd
 tape:=g.tape
theorem put_cut_ge{ρ : Inj}{x m:Nat}(B:Bl)(h:m≤x):(ρ.put x B).cut m = ρ.cut m:=by
 funext b
 by_cases hb:b<m
 · rw[uU hb,uU hb];have:b≠x:=by omega
   simp[Inj.put,this]
 · rw[cut_ge (by omega),cut_ge (by omega)]
theorem put_cut_lt{ρ : Inj}{x m:Nat}(B:Bl)(h:x<m):(ρ.put x B).cut m=(ρ.cut m).put x B:=by
 funext b
 by_cases hx:b=x
 · subst hx;rw [uU h];simp [Inj.put]
 · by_cases hb:b<m
   · rw[uU hb];simp [Inj.put,hx,uU hb]
   · rw[cut_ge (by omega)];simp [Inj.put,hx,cut_ge (Nat.le_of_not_lt hb)]
theorem put_cut_succ{ρ : Inj}{x:Nat}(B:Bl):(ρ.put x B).cut (x+1)=(ρ.cut x).put x B:=by
 funext b
 by_cases hx:b=x
 · subst hx;rw [uU (by omega)];simp [Inj.put]
 · by_cases hb:b<x
   · rw[uU (by omega)];simp [Inj.put,hx,uU hb]
   · rw[cut_ge (by omega)];simp [Inj.put,hx,cut_ge (Nat.le_of_not_lt hb)]
theorem early{ρ ρ':Inj}{base:Nat}{w0:World}{H hq h2:zH}{nq n2:Nat}{wd wd':World}
(hp:∀m,nq≤m→HeapR P ng (ρ.cut m) base w0 H m wd)(hn:nq≤n2)(none':∀b,nq≤b→b<n2→ρ b=none)
(hH:∀b B,b<nq→ρ b=some B→yG hq b=yG H b)
(h2':HeapR P ng ρ' base w0 h2 n2 wd')(g:Grow (ρ.cut nq) hq nq wd ρ' h2 n2 wd')
{ρ1:Inj}(r1:∀b,b<n2→ρ1 b = ρ' b)(r2:∀b,n2≤b→ρ1 b = ρ b){H1:zH}(e1:∀b,b<n2→yG H1 b=yG h2 b)(e2:∀b B,n2≤b→ρ b=some B→yG H1 b=yG H b) :
 ρ.le ρ1∧∀m,n2≤m→HeapR P ng (ρ1.cut m) base w0 H1 m wd':=by
 have hle: ρ.le ρ1:=by
  intro b B e;rcases Nat.lt_or_ge b n2 with h|h
  · rcases Nat.lt_or_ge b nq with h'|h'
    · rw[r1 b h,g.old b h',uU h'];exact e
    · rw[none' b h' h]at e;cases e
  · rw[r2 b h];exact e
 have c1: ρ1.cut n2 = ρ':=by
  funext b
  rcases Nat.lt_or_ge b n2 with h|h
  · rw[uU h,r1 b h]
  · rw[cut_ge h,h2'.dom b h]
 refine⟨hle,fun m hm=>?_⟩;have hpm:=hp m (by omega)
 have old:∀b B,n2≤b→b<m→ρ b=some B→yG H b≠.dead→∃o,wd'.heap[B.b]? = some o∧wd.heap[B.b]? = some o∧B.b<wd.heap.size∧ObjR P ng (ρ.cut m) base B (yG H b) o:=by
  intro b B hb hbm e hl;have ec:(ρ.cut m) b=some B:=by rw[uU hbm];exact e
  obtain⟨o,q1,q2⟩:=hpm.obj b B ec hl;have hlt:=hpm.lt ec hl;refine⟨o,?_,q1,hlt,q2⟩;rw [g.keep B.b hlt ?_,q1];intro b' B' e' hl' hbb;obtain⟨l1,e''⟩:=sZ e';rw [hH b' B' l1 e'']at hl';have:=hpm.inj b' b B' B (by rw[uU (by omega)];exact e'') ec hl' hl hbb;omega
 have mixed:∀a b A B,a<n2→n2≤b→b<m→ρ' a=some A→yG h2 a≠.dead→ρ b=some B→yG H b≠.dead→A.b≠B.b:=by
  intro a b A B ha hb hbm ea la eb lb hab;obtain⟨_,_,_,hlt,_⟩:=old b B hb hbm eb lb;have ec:(ρ.cut m) b=some B:=by rw[uU hbm];exact eb
  rcases Nat.lt_or_ge a nq with h|h
  · rw[g.old a h,uU h]at ea;have la':yG H a≠.dead:=fun hd=>la (g.dead a h (by rw[hH a A h ea];exact hd));have:=hpm.inj a b A B (by rw[uU (by omega)];exact ea) ec la' lb hab;omega
  · rcases g.new a A h ea with h4|⟨a',A',ha',ea',hab',la'⟩
    · omega
    · obtain⟨_,ea''⟩:=sZ ea';rw [hH a' A' ha' ea'']at la';have:=hpm.inj a' b A' B (by rw[uU (by omega)];exact ea'') ec la' lb (hab'.trans hab);omega
 refine⟨fun b hb=>cut_ge hb,?_,?_,h2'.below,h2'.size,?_,by have:=h2'.ngn;omega⟩
 · intro b B e hl;obtain⟨hbm,e⟩:=sZ e;rcases Nat.lt_or_ge b n2 with h|h
   · rw[r1 b h]at e;rw [e1 b h]at hl ⊢;obtain⟨o,q1,q2⟩:=h2'.obj b B e hl;refine⟨o,q1,q2.mono ?_⟩;rw [← c1];exact cut_le hm
   · rw[r2 b h]at e;rw [e2 b B h e]at hl ⊢;obtain⟨o,q1,_,_,q2⟩:=old b B h hbm e hl;exact⟨o,q1,q2.mono (cut_mono hle m)⟩
 · intro a b A B ea eb la lb hab;obtain⟨ham,ea⟩:=sZ ea;obtain⟨hbm,eb⟩:=sZ eb;rcases Nat.lt_or_ge a n2 with h|h
   · rw[r1 a h]at ea;rw [e1 a h]at la;rcases Nat.lt_or_ge b n2 with h'|h'
     · rw[r1 b h']at eb;rw [e1 b h']at lb;exact h2'.inj a b A B ea eb la lb hab
     · rw[r2 b h']at eb;rw [e2 b B h' eb]at lb;exact absurd hab (mixed a b A B h h' hbm ea la eb lb)
   · rw[r2 a h]at ea;rw [e2 a A h ea]at la;rcases Nat.lt_or_ge b n2 with h'|h'
     · rw[r1 b h']at eb;rw [e1 b h']at lb;exact absurd hab.symm (mixed b a B A h' h ham eb lb ea la)
     · rw[r2 b h']at eb;rw [e2 b B h' eb]at lb;exact hpm.inj a b A B (by rw[uU ham];exact ea) (by rw[uU hbm];exact eb) la lb hab
 · intro g' hg;obtain⟨G,q1,q2⟩:=h2'.glob g' hg;have hgn:g'<n2:=by have:=h2'.ngn;omega
   exact⟨G,by rw[uU (by omega),r1 g' hgn];exact q1,q2⟩
theorem Grow.early{ρ0:Inj}{h0:zH}{n0:Nat}{wd0:World}{ρ ρ':Inj}{H hq h2:zH}{nq n2:Nat}{wd wd':World}(hn0:n0≤nq)
(gr:∀m,nq≤m→Grow ρ0 h0 n0 wd0 (ρ.cut m) H m wd)(hn:nq≤n2)
(hH:∀b,b<n0→yG hq b=yG H b)(g:Grow (ρ.cut nq) hq nq wd ρ' h2 n2 wd')
{ρ1:Inj}(r1:∀b,b<n2→ρ1 b = ρ' b)(r2:∀b,n2≤b→ρ1 b = ρ b){H1:zH}(e1:∀b,b<n2→yG H1 b=yG h2 b) :
 ∀m,n2≤m→Grow ρ0 h0 n0 wd0 (ρ1.cut m) H1 m wd':=by
 intro m hm;have t:Grow ρ0 h0 n0 wd0 ρ' h2 n2 wd':=((gr nq (Nat.le_refl _)).congr hH).trans g;refine⟨by omega,fun b hb=>?_,fun b B hb e=>?_,t.keep,t.size,fun b hb hd=>?_,t.tape⟩
 · rw[uU (by omega),r1 b (by omega)];exact t.old b hb
 · obtain⟨hbm,e⟩:=sZ e;rcases Nat.lt_or_ge b n2 with h|h
   · rw[r1 b h]at e;exact t.new b B hb e
   · rw[r2 b h]at e;exact(gr m (by omega)).new b B hb (by rw[uU hbm];exact e)
 · rw[e1 b (by omega)];exact t.dead b hb hd
end
section
variable {P:Program} {ng:Nat} {all:Array Oper} {cx:Cx}
theorem qQ:∀{A B:List Rec} {t t':Fr} {w w':W},RecsOK P ng all cx (A++B) t w t' w'→∃t1 w1,RecsOK P ng all cx A t w t1 w1∧RecsOK P ng all cx B t1 w1 t' w':=by
 intro A
 induction A with
 | nil=>intro B t t' w w' h;exact⟨t,w,.nil t w,h⟩
 | cons r A ih =>
  intro B t t' w w' h
  cases h with
  | cons h hr=>
   obtain⟨t1,w1,h1,h2⟩:=ih hr;exact⟨t1,w1,.cons h h1,h2⟩
theorem recs_app:∀{A B:List Rec} {t t1 t':Fr} {w w1 w':W},RecsOK P ng all cx A t w t1 w1→RecsOK P ng all cx B t1 w1 t' w'→RecsOK P ng all cx (A++B) t w t' w':=by
 intro A
 induction A with
 | nil=>intro B t t1 t' w w1 w' h h';cases h;exact h'
 | cons r A ih=>
  intro B t t1 t' w w1 w' h h'
  cases h with
  | cons h hr=>exact .cons h (ih hr h')
theorem recs_end:∀{A:List Rec} {t t1 t2:Fr} {w w1 w2:W},RecsOK P ng all cx A t w t1 w1→RecsOK P ng all cx A t w t2 w2→w1=w2:=by
 intro A
 induction A with
 | nil=>intro t t1 t2 w w1 w2 h h';cases h;cases h';rfl
 | cons r A ih =>
  intro t t1 t2 w w1 w2 h h'
  cases h with
  | cons h hr=>cases h' with
   | cons h' hr'=>exact ih hr hr'
theorem rec_n{r:Rec}(h:RecOK P ng all cx r):r.w.n≤r.w2.n:=by
 cases h with
 | skip=>exact Nat.le_refl _
 | look=>exact Nat.le_refl _
 | made=>exact Nat.le_succ _
 | act _ _ _ hn=>exact hn
theorem sN:∀{R:List Rec} {t t':Fr} {w w':W},RecsOK P ng all cx R t w t' w'→w.n≤w'.n∧∀r∈R,RecOK P ng all cx r∧w.n≤r.w.n∧r.w2.n≤w'.n:=by
 intro R
 induction R with
 | nil=>intro t t' w w' h;cases h;exact⟨Nat.le_refl _,fun r hr=>by simp at hr⟩
 | cons r R ih =>
  intro t t' w w' h
  cases h with
  | cons h hr=>
   obtain⟨h1,h2⟩:=ih hr;have h3:=rec_n h;refine⟨by omega,fun r' hr'=>?_⟩;rcases List.mem_cons.1 hr' with rfl|hr'
   · exact⟨h,Nat.le_refl _,h1⟩
   · obtain⟨h4,h5,h6⟩:=h2 r' hr';exact⟨h4,by omega,h6⟩
theorem fget_putF(t:Fr)(dst:Option Tmp)(v:Value)(d:Nat):zA (putF t dst v) d=if dst=some d then v else zA t d:=by
 cases dst with
 | none=>rfl
 | some e=>
  unfold putF zA;dsimp only;rw [Tr.get_set_if];by_cases h:e=d
  · subst h;simp
  · rw[if_neg h,if_neg (fun e2=>h (by injection e2))]
theorem recs_slot{d:Nat}:∀{R:List Rec} {t t':Fr} {w w':W},RecsOK P ng all cx R t w t' w'→(∀r∈R,r.x.o.dst≠some d)→zA t' d=zA t d:=by
 intro R
 induction R with
 | nil=>intro t t' w w' h _;cases h;rfl
 | cons r R ih =>
  intro t t' w w' h hd
  cases h with
  | cons h hr=>
   rw[ih hr (fun r' hr'=>hd r' (by simp[hr'])),fget_putF,if_neg (hd r (by simp))]
theorem recs_write{d:Nat}{A B:List Rec}{r:Rec}{t t':Fr}{w w':W}(h:RecsOK P ng all cx (A++r::B) t w t' w')(hr:r.x.o.dst=some d)(hB:∀y∈B,y.x.o.dst≠some d):zA t' d=r.v:=by
 obtain⟨t1,w1,_,h2⟩:=qQ h
 cases h2 with
 | cons h hr'=>rw [recs_slot hr' hB,fget_putF,if_pos hr]
end
def Sees(all:Array Oper)(o:Oper)(d:Nat):Prop:=.tmp d∈o.op.operands.toList∨∃g b,o.guard=some (g,b)∧dstOf all g=some d
structure RecPlan (all:Array Oper) (M:Nat→Nat) (D:List DOp):Prop where
 at':∀x∈D,all[x.i]? = some x.o
 kd:∀x∈D,x.kd=wW x.o.op
 bits:∀x∈D,∀b,wS (M x.i) b=true→∃e∈x.o.after.toList,sM e=true∧(b=e.on∨wS (M e.on) b=true)
 ahead:∀A x B,D=A++x::B→(∀b,wS (M x.i) b=true→∃y∈A,y.i=b)∧(∀y∈A,y.i≠x.i)
 next:∀A S x B,D=A++(S++x::B)→x.kd=3→(∀y∈S,y.kd≠3)→∀y∈S,wS (M x.i) y.i=true
 pair:∀x∈D,∀y∈D,∀d,x.o.dst=some d→(Sees all y.o d∨y.o.dst=some d)→x.i=y.i∨(y.o.dst≠some d∧(wS (M y.i) x.i=true∨wS (M x.i) y.i=true))
 act:∀x∈D,∀y∈D,x.kd=3→y.kd=3→x.i=y.i∨wS (M y.i) x.i=true∨wS (M x.i) y.i=true
 low:∀x∈D,x.low=D.countP fun c=>Nat.beq c.kd 3 && wS (M x.i) c.i
 high:∀x∈D,x.high=D.countP fun c=>Nat.beq c.kd 3 && (!wS (M c.i) x.i && !Nat.beq c.i x.i)
section
variable {all:Array Oper} {M:Nat→Nat} {D:List DOp}
theorem RecPlan.later(K:RecPlan all M D){A B C:List DOp}{x y:DOp}(h:D=A++x::(B++y::C)):wS (M x.i) y.i=false∧x.i≠y.i:=by
 obtain⟨h1,h2⟩:=K.ahead A x _ h;obtain⟨_,h4⟩:=K.ahead (A++x::B) y C (by rw[h];simp);refine⟨?_,h4 x (by simp)⟩
 cases e:wS (M x.i) y.i with
 | false=>rfl
 | true=>
  obtain⟨z,hz,ez⟩:=h1 _ e;exact absurd ez (h4 z (by simp[hz]))
end
structure Cfg where
 t0:Fr
 W0:W
 a0:Act
 wd0:World
 cs0:List Frame
 ρ0:Inj
 base:Nat
 w00:World
 b:Frame
 cx:Cx
 t1:Fr
 w1:W
section
variable (P:Program) (ng:Nat) (all:Array Oper) (M:Nat→Nat) (D E:List DOp) (C:Cfg)
structure Inv (pre suf:List Rec) (ts:Fr) (ws:W) (lst:Nat→Prop) (ρ : Inj) (H:zH) (a:Act) (wd:World) (cs:List Frame):Prop where
 dd:D=(pre++suf).map (·.x)++E
 r1:RecsOK P ng all C.cx pre C.t0 C.W0 ts ws
 r2:RecsOK P ng all C.cx suf ts ws C.t1 C.w1
 last:pre=[]∨∃p r,pre=p++[r]∧r.x.kd=3
 pl:∀r∈pre,lst r.x.i
 sl:∀r∈suf,r.x.kd=3→¬lst r.x.i
 only:∀i,lst i→∃r∈pre++suf,r.x.i=i
 closed:∀i,lst i→∀j,wS (M i) j=true→lst j
 in0:In0 P ng (ρ.cut ws.n) C.base C.w00 C.b a wd cs C.cx ws
 hp:∀m,ws.n≤m→HeapR P ng (ρ.cut m) C.base C.w00 H m wd
 gr:∀m,ws.n≤m→Grow C.ρ0 C.W0.h C.W0.n C.wd0 (ρ.cut m) H m wd
 cst:CsTo C.cx.df C.cs0 cs
 hh:∀b,b<ws.n→yG H b=yG ws.h b
 mkd:∀r∈suf,r.x.kd=2→r.sk=false→lst r.x.i→yG H r.w.n=yG r.w2.h r.w.n
 ex:∀b B,ws.n≤b→ρ b=some B→∃r∈suf,r.x.kd=2∧r.sk=false∧lst r.x.i∧r.w.n=b
 val:∀r∈pre++suf,lst r.x.i→∀d,r.x.o.dst=some d→∃v',a.tmps[d]? = some v'∧RV (ρ.cut r.w2.n) r.v v'
 un:∀d,(∀r∈pre++suf,lst r.x.i→r.x.o.dst≠some d)→a.tmps[d]? = C.a0.tmps[d]?
 tm0:TmR (ρ.cut C.W0.n) (ntm P C.cx.fn) C.t0 C.a0.tmps
 sz:a.tmps.size=C.a0.tmps.size
variable {P ng all M D E C}
variable {pre suf:List Rec} {ts:Fr} {ws:W} {lst:Nat→Prop} {ρ : Inj} {H:zH} {a:Act} {wd:World} {cs:List Frame}
theorem Inv.slot(I:Inv P ng all M D E C pre suf ts ws lst ρ H a wd cs)(K:RecPlan all M D){A S:List Rec}{x:DOp}{rest:List DOp}{t:Fr}{w:W}(hs:suf=A++S)
(hD:D=(pre++A).map (·.x)++x::rest)(hA:RecsOK P ng all C.cx A ts ws t w)(hx:¬lst x.i)(hm:∀b,wS (M x.i) b=true→lst b){d:Nat}(hd:Sees all x.o d){v:Value}(hv:a.tmps[d]? = some v) :
 RV (ρ.cut w.n) (zA t d) v:=by
 have hall:RecsOK P ng all C.cx (pre++A) C.t0 C.W0 t w:=recs_app I.r1 hA
 have hrest:S.map (·.x)++E=x::rest:=by
  have e:=I.dd;rw [hs,hD,← List.append_assoc,List.map_append (l₁:=pre++A),List.append_assoc]at e;exact(List.append_cancel_left e).symm
 have hxD:x∈D:=by rw[hD];simp
 obtain⟨ha1,ha2⟩:=K.ahead _ x rest hD;by_cases hw:∃y∈pre++A,y.x.o.dst=some d
 · obtain⟨y,hy,hyd⟩:=hw;obtain⟨A1,A2,hsp⟩:=List.append_of_mem hy;have hDy:D=A1.map (·.x)++y.x::(A2.map (·.x)++x::rest):=by rw[hD,hsp];simp
   obtain⟨l1,l2⟩:=K.later hDy
   have hyl:lst y.x.i:=by
    rcases K.pair y.x (by rw[hDy];simp) x hxD d hyd (.inl hd) with h|⟨_,h|h⟩
    · exact absurd h l2
    · exact hm _ h
    · rw[l1]at h;cases h
   obtain⟨v',q1,q2⟩:=I.val y (by rw[hs,← List.append_assoc];exact List.mem_append_left _ hy) hyl d hyd;rw [hv]at q1;injection q1 with q1;subst q1
   rw[hsp]at hall
   have h2:zA t d=y.v:=recs_write hall hyd fun z hz e=>by
    obtain⟨B1,B2,hz2⟩:=List.append_of_mem hz;have hDz:D=A1.map (·.x)++y.x::(B1.map (·.x)++z.x::(B2.map (·.x)++x::rest)):=by rw[hDy,hz2];simp
    obtain⟨_,l4⟩:=K.later hDz;rcases K.pair y.x (by rw[hDz];simp) z.x (by rw[hDz];simp) d hyd (.inr e) with h|⟨h,_⟩
    · exact l4 h
    · exact h e
   rw[h2];have:=((sN hall).2 y (by simp)).2.2;exact q2.mono (cut_le this)
 · have hno:∀r∈pre++A,r.x.o.dst≠some d:=fun r hr e=>hw ⟨r,hr,e⟩;rw [recs_slot hall hno]
   have hun:a.tmps[d]? = C.a0.tmps[d]? :=I.un d fun r hr hl e=>by
    rw[hs,← List.append_assoc]at hr;rcases List.mem_append.1 hr with hr|hr
    · exact hno r hr e
    have hmem:r.x∈x::rest:=by rw[← hrest];exact List.mem_append_left _ (List.mem_map.2 ⟨r,hr,rfl⟩)
    rcases List.mem_cons.1 hmem with h|h
    · rw[h]at hl;exact hx hl
    · obtain⟨B1,B2,hz2⟩:=List.append_of_mem h;have hDz:D=(pre++A).map (·.x)++x::(B1++r.x::B2):=by rw[hD,hz2]
      obtain⟨l3,l4⟩:=K.later hDz;rcases K.pair r.x (by rw[hDz];simp) x hxD d e (.inl hd) with h|⟨_,h|h⟩
      · exact l4 h.symm
      · rw[l3]at h;cases h
      · exact hx (I.closed _ hl _ h)
   rw[hun]at hv;exact(I.tm0.tm d v hv).mono (cut_le (sN hall).1)
theorem ev_one{N m:Nat}{h:zH}(hH:HeapR P ng ρ C.base C.w00 h m wd){t:Fr}{x:Operand}(hx:opnOK ng N x=true)(hN:N≤a.tmps.size)(hs:∀d,x = .tmp d→∀v,a.tmps[d]? = some v→RV ρ (zA t d) v):RV ρ (ev t x) (a.eval x):=by
 cases x with
 | tmp i=>
  have hi:i<N:=vA hx;have hlt:i<a.tmps.size:=Nat.lt_of_lt_of_le hi hN;have h:=hs i rfl a.tmps[i] (Array.getElem?_eq_getElem hlt);show RV ρ (zA t i) (a.tmps.getD i undef);rw [Array.getD,dif_pos hlt];exact h
 | const v=>exact RV.plain hx ρ
 | global g=>
  obtain⟨B,e1,e2⟩:=hH.glob g (vA hx);have:=RV.ptr (o:=0) e1;rw [e2]at this;exact this
 | func f=>exact .func (by intro l;exact Fn.noConfusion) rfl rfl (by intro i v v' e;simp at e) (by intro i v v' e;simp at e)
theorem Inv.looks(I:Inv P ng all M D E C pre suf ts ws lst ρ H a wd cs)(K:RecPlan all M D)(hc:∀o∈all.toList,rV ng (ntm P C.cx.fn) o=true){A S:List Rec}{x:DOp}{rest:List DOp}{t:Fr}{w:W}(hs:suf=A++S)
(hD:D=(pre++A).map (·.x)++x::rest)(hA:RecsOK P ng all C.cx A ts ws t w)(hx:¬lst x.i)(hm:∀b,wS (M x.i) b=true→lst b) :
 OpsR (ρ.cut w.n) t a x.o∧Region.wanted x.o (yielded all a.tmps)=wanted all t x.o.guard:=by
 have hall:RecsOK P ng all C.cx (pre++A) C.t0 C.W0 t w:=recs_app I.r1 hA;have hwn:ws.n≤w.n:=(sN hA).1;have hxD:x∈D:=by rw[hD];simp
 have hmem:∀{g:Nat} {o:Oper},all[g]? = some o→o∈all.toList:=fun ho=>by rw[← Array.getElem?_toList]at ho;exact List.mem_iff_getElem?.2 ⟨_,ho⟩
 have hN:ntm P C.cx.fn≤a.tmps.size:=by rw[I.sz];exact I.tm0.le
 refine⟨fun y hy=>?_,wanted_ok fun g q hg d hd=>?_⟩
 · refine ev_one (I.hp w.n hwn) (List.all_eq_true.1 (Bool.and_eq_true_iff.1 (hc x.o (hmem (K.at' x hxD)))).1 y hy) hN fun d e v hv=>?_;subst e;exact I.slot K hs hD hA hx hm (.inl hy) hv
 · have hlt:d<ntm P C.cx.fn:=by
    unfold dstOf at hd
    cases ho:all[g]? with
    | none=>rw [ho]at hd;cases hd
    | some og=>
     rw[ho]at hd;have:=(Bool.and_eq_true_iff.1 (hc og (hmem ho))).2;dsimp only at hd;rw [hd]at this;exact vA this
   have hlt2:d<a.tmps.size:=Nat.lt_of_lt_of_le hlt hN;have e1:=Array.getElem?_eq_getElem hlt2;exact⟨a.tmps[d],e1,(I.slot K hs hD hA hx hm (.inr ⟨g,q,hg,hd⟩) e1).boolOf⟩
end
theorem quiet_free{o:Op}(hk:wW o=0)(P:Program)(t:Fr)(h h':zH):sP o P t h=sP o P t h':=by
 cases o with
 | call c=>
  obtain⟨callee,asz,ts⟩:=c
  cases callee with
  | builtin b=>cases b <;> cases hk
  | value f=>cases hk
  | invoke r m=>cases hk
 | load _ _=>cases hk
 | lookup _ _ _ _=>cases hk
 | slice _ _ _ _ _=>cases hk
 | _=>rfl
theorem blkLt_ptr{n:Nat}{a:Addr}(h:blkLt n (.pointer (some a))=true):a.block<n:=vA h
theorem blkLt_slice{n l c:Nat}{a:Addr}(h:blkLt n (.slice (some a) l c)=true):a.block<n:=vA h
theorem blkLt_map{n r:Nat}(h:blkLt n (.map (some r))=true):r<n:=vA h
theorem quiet_at{o:Op}(hk:wW o=1)(P:Program)(t:Fr){n:Nat}(hl:lookLt n o t=true){h h':zH}(e:∀b,b<n→yG h' b=yG h b):sP o P t h'=sP o P t h:=by
 cases o with
 | load ty x =>
  have hl:blkLt n (ev t x)=true:=hl;show onPtr (ev t x) _ none=onPtr (ev t x) _ none;generalize ev t x=v at hl
  cases v with
  | pointer a =>
   cases a with
   | none=>rfl
   | some a =>
    obtain⟨b,off,s⟩:=a
    cases s with
    | some s=>rfl
    | none=>
     have:=e b (blkLt_ptr hl);unfold yG at this;show onRows (yG h' b) _ _ none=onRows (yG h b) _ _ none;unfold yG;rw [this]
  | _=>rfl
 | lookup ty x key ok =>
  have hl:blkLt n (ev t x)=true:=hl;show aLookup P h' ty (ev t x) (ev t key) ok=aLookup P h ty (ev t x) (ev t key) ok;generalize ev t x=v at hl
  cases v with
  | map r =>
   cases r with
   | none=>rfl
   | some r=>
    have:=e r (blkLt_map hl);unfold aLookup;simp only[this]
  | _=>rfl
 | slice ty x lo hi mx =>
  have hl:blkLt n (ev t x)=true:=hl;show uJ P h' ty (ev t x) (lo.map (ev t)) (hi.map (ev t)) (mx.map (ev t))=uJ P h ty (ev t x) (lo.map (ev t)) (hi.map (ev t)) (mx.map (ev t));generalize ev t x=v at hl
  unfold uJ
  cases und P ty with
  | none=>rfl
  | some d =>
   cases v with
   | slice a l c =>
    cases a with
    | none=>cases d <;> rfl
    | some a =>
     have:=e a.block (blkLt_slice hl);obtain⟨b,off,s⟩:=a
     cases s with
     | some s=>cases d <;> rfl
     | none=>
      have this:yG h' b=yG h b:=this;cases d <;> simp only[this]
   | pointer a =>
    cases a with
    | none=>cases d <;> rfl
    | some a=>
     obtain⟨b,off,s⟩:=a;cases s <;> cases d <;> rfl
   | _=>cases d <;> rfl
 | call c =>
  obtain⟨callee,asz,ts⟩:=c
  cases callee with
  | value f=>cases hk
  | invoke r m=>cases hk
  | builtin b =>
   show zX P b ts.toList (asz.toList.map (ev t)) h'=zX P b ts.toList (asz.toList.map (ev t)) h;have hl:(match asz.toList with|x::_=>blkLt n (ev t x)|[]=>true)=true:=hl;generalize asz.toList=l at hl ⊢
   generalize ts.toList=tl
   cases b <;> first|rfl|skip
   cases l with
   | nil=>rfl
   | cons x l =>
    cases tl with
    | nil=>rfl
    | cons ty tl =>
     have hl:blkLt n (ev t x)=true:=hl;show aLen P h' ty (ev t x)=aLen P h ty (ev t x);generalize ev t x=v at hl
     unfold aLen
     cases und P ty with
     | none=>rfl
     | some d =>
      cases v with
      | map r =>
       cases r with
       | none=>cases d <;> rfl
       | some r=>
        have:=e r (blkLt_map hl);cases d <;> simp only[this]
      | _=>cases d <;> rfl
 | makeMap t r=>cases r <;> cases hk
 | _=>cases hk
theorem two_of{α : Type}{l:List α}{x y: α}(hx:x∈l)(hy:y∈l):x=y∨(∃A B C,l=A++x::(B++y::C))∨∃A B C,l=A++y::(B++x::C):=by
 obtain⟨A,B,rfl⟩:=List.append_of_mem hx;rcases List.mem_append.1 hy with h|h
 · obtain⟨A1,A2,rfl⟩:=List.append_of_mem h;exact .inr (.inr ⟨A1,A2,B,by simp⟩)
 · rcases List.mem_cons.1 h with h|h
   · exact .inl h.symm
   · obtain⟨B1,B2,rfl⟩:=List.append_of_mem h;exact .inr (.inl ⟨A,B1,B2,rfl⟩)
section
variable {P:Program} {ng:Nat} {all:Array Oper} {M:Nat→Nat} {D E:List DOp} {C:Cfg}
variable {pre suf:List Rec} {ts:Fr} {ws:W} {lst:Nat→Prop} {ρ : Inj} {H:zH} {a:Act} {wd:World} {cs:List Frame}
theorem Inv.uniq(I:Inv P ng all M D E C pre suf ts ws lst ρ H a wd cs)(K:RecPlan all M D){r r':Rec}(h:r∈pre++suf)(h':r'∈pre++suf)(e:r.x.i=r'.x.i):r=r':=by
 rcases two_of h h' with h1|⟨X,Y,Z,h1⟩|⟨X,Y,Z,h1⟩
 · exact h1
 · exact absurd e (K.later (A:=X.map (·.x)) (B:=Y.map (·.x)) (C:=Z.map (·.x)++E) (by rw[I.dd,h1];simp)).2
 · exact absurd e.symm (K.later (A:=X.map (·.x)) (B:=Y.map (·.x)) (C:=Z.map (·.x)++E) (by rw[I.dd,h1];simp)).2
theorem put_at{a:Act}{o:Option Tmp}{v:Value}{d:Nat}(h:o≠some d):(a.put o v).tmps[d]? = a.tmps[d]? :=by
 cases o with
 | none=>rfl
 | some e=>
  have:e≠d:=fun q=>h (by rw[q]);simp [Act.put,Array.getElem?_setIfInBounds_ne this]
theorem put_self_at{a:Act}{v:Value}{d:Nat}(h:d<a.tmps.size):(a.put (some d) v).tmps[d]? = some v:=by
 simp[Act.put,h]
theorem put_size{a:Act}{o:Option Tmp}{v:Value}:(a.put o v).tmps.size=a.tmps.size:=by
 cases o <;> simp[Act.put]
theorem Inv.note(I:Inv P ng all M D E C pre suf ts ws lst ρ H a wd cs)(K:RecPlan all M D)(hc:∀o∈all.toList,rV ng (ntm P C.cx.fn) o=true){r:Rec}(hr:r∈suf)(h3:r.x.kd≠3)
(hx:¬lst r.x.i)(hm:∀b,wS (M r.x.i) b=true→lst b){ρ1:Inj}{H1:zH}{wd1:World}{v':Value}(hle: ρ.le ρ1)(hv:RV (ρ1.cut r.w2.n) r.v v')
(in0:In0 P ng (ρ1.cut ws.n) C.base C.w00 C.b a wd1 cs C.cx ws)(hp:∀m,ws.n≤m→HeapR P ng (ρ1.cut m) C.base C.w00 H1 m wd1)(gr:∀m,ws.n≤m→Grow C.ρ0 C.W0.h C.W0.n C.wd0 (ρ1.cut m) H1 m wd1)
(hh:∀b,b<ws.n→yG H1 b=yG ws.h b)(mkd:∀q∈suf,q.x.kd=2→q.sk=false→(lst q.x.i∨q=r)→yG H1 q.w.n=yG q.w2.h q.w.n)
(ex:∀b B,ws.n≤b→ρ1 b=some B→∃q∈suf,q.x.kd=2∧q.sk=false∧(lst q.x.i∨q=r)∧q.w.n=b) :
 Inv P ng all M D E C pre suf ts ws (fun i=>lst i∨i=r.x.i) ρ1 H1 (a.put r.x.o.dst v') wd1 cs:=by
 have hrm:r∈pre++suf:=List.mem_append_right _ hr;have hrD:r.x∈D:=by rw[I.dd];exact List.mem_append_left _ (List.mem_map.2 ⟨r,hrm,rfl⟩)
 have hdst:∀q∈pre++suf,lst q.x.i→∀d,q.x.o.dst=some d→r.x.o.dst≠some d:=by
  intro q hq hl d e e2;have hqD:q.x∈D:=by rw[I.dd];exact List.mem_append_left _ (List.mem_map.2 ⟨q,hq,rfl⟩)
  rcases K.pair q.x hqD r.x hrD d e (.inr e2) with h|⟨h,_⟩
  · rw[h]at hl;exact hx hl
  · exact h e2
 have hlt:∀d,r.x.o.dst=some d→d<a.tmps.size:=by
  intro d e
  have hmem:r.x.o∈all.toList:=by
   have ho:=K.at' r.x hrD;rw [← Array.getElem?_toList]at ho;exact List.mem_iff_getElem?.2 ⟨_,ho⟩
  have:=(Bool.and_eq_true_iff.1 (hc r.x.o hmem)).2;rw [e]at this;have h1:d<ntm P C.cx.fn:=vA this;rw [I.sz];exact Nat.lt_of_lt_of_le h1 I.tm0.le
 refine⟨I.dd,I.r1,I.r2,I.last,fun q hq=>.inl (I.pl q hq),?_,?_,?_,in0.act (put_defers a _ _),hp,gr,I.cst,hh,?_,?_,?_,?_,I.tm0.mono (cut_mono hle _),put_size.trans I.sz⟩
 · intro q hq hk hl;rcases hl with hl|hl
   · exact I.sl q hq hk hl
   · have:=I.uniq K (List.mem_append_right _ hq) hrm hl;rw [this]at hk;exact h3 hk
 · intro i hi;rcases hi with hi|rfl
   · exact I.only i hi
   · exact⟨r,hrm,rfl⟩
 · intro i hi j hj;rcases hi with hi|rfl
   · exact .inl (I.closed i hi j hj)
   · exact .inl (hm j hj)
 · intro q hq h2 hsk hl;refine mkd q hq h2 hsk ?_;rcases hl with hl|hl
   · exact .inl hl
   · exact .inr (I.uniq K (List.mem_append_right _ hq) hrm hl)
 · intro b B hb e;obtain⟨q,q1,q2,q3,q4,q5⟩:=ex b B hb e;exact⟨q,q1,q2,q3,q4.imp id (fun e=>by rw[e]),q5⟩
 · intro q hq hl d hd;by_cases hql:lst q.x.i
   · obtain⟨v2,e1,e2⟩:=I.val q hq hql d hd;exact⟨v2,by rw[put_at (hdst q hq hql d hd)];exact e1,e2.mono (cut_mono hle _)⟩
   · have hqr:q=r:=I.uniq K hq hrm (hl.resolve_left hql);subst hqr;exact⟨v',by rw[hd];exact put_self_at (hlt d hd),hv⟩
 · intro d hd;rw [put_at (hd r hrm (.inr rfl))];exact I.un d fun q hq hl=>hd q hq (.inl hl)
theorem Inv.calm(I:Inv P ng all M D E C pre suf ts ws lst ρ H a wd cs)(K:RecPlan all M D)(hc:∀o∈all.toList,rV ng (ntm P C.cx.fn) o=true){r:Rec}(hr:r∈suf)(h3:r.x.kd≠3)(h2:r.x.kd≠2∨r.sk=true)
(hx:¬lst r.x.i)(hm:∀b,wS (M r.x.i) b=true→lst b){v':Value}(hv:RV (ρ.cut r.w2.n) r.v v') :
 Inv P ng all M D E C pre suf ts ws (fun i=>lst i∨i=r.x.i) ρ H (a.put r.x.o.dst v') wd cs:=
 I.note K hc hr h3 hx hm (Inj.le.refl ρ) hv I.in0 I.hp I.gr I.hh
  (fun q hq q2 q3 q4=>I.mkd q hq q2 q3 (q4.resolve_right fun e=>by
   subst e;rcases h2 with h2|h2
   · exact h2 q2
   · rw[h2]at q3;cases q3))
  (fun b B hb e=>let ⟨q,q1,q2,q3,q4,q5⟩:=I.ex b B hb e;⟨q,q1,q2,q3,.inl q4,q5⟩)
end
theorem hsOf_app:∀(A B:List Rec) (hs:List W),hsOf (A++B) hs=hsOf B (hsOf A hs):=by
 intro A
 induction A with
 | nil=>intro B hs;rfl
 | cons r A ih=>intro B hs;exact ih B _
theorem hsOf_ends:∀(R:List Rec) (hs:List W),∃X,hsOf R hs=X++hs:=by
 intro R
 induction R with
 | nil=>intro hs;exact⟨[],rfl⟩
 | cons r R ih=>
  intro hs;obtain⟨X,e⟩:=ih (cond (Nat.beq r.x.kd 3) (r.w2::hs) hs)
  cases h:Nat.beq r.x.kd 3 with
  | true=>exact⟨X++[r.w2],by rw[h]at e;show hsOf R (cond (Nat.beq r.x.kd 3) (r.w2::hs) hs)=_;rw [h,e];simp⟩
  | false=>exact⟨X,by rw[h]at e;show hsOf R (cond (Nat.beq r.x.kd 3) (r.w2::hs) hs)=_;rw [h,e];rfl⟩
theorem hsOf_len:∀(R:List Rec) (hs:List W),(hsOf R hs).length=(R.map (·.x)).countP (fun c=>Nat.beq c.kd 3)+hs.length:=by
 intro R
 induction R with
 | nil=>intro hs;simp [hsOf]
 | cons r R ih=>
  intro hs;show(hsOf R (cond (Nat.beq r.x.kd 3) (r.w2::hs) hs)).length=_;rw [ih];cases h:Nat.beq r.x.kd 3 <;> simp[h];omega
theorem lsOf_keep:∀(R:List Rec) (ls:List Look) (l:Look),l∈ls→l∈lsOf R ls:=by
 intro R
 induction R with
 | nil=>intro ls l h;exact h
 | cons r R ih=>
  intro ls l h;refine ih _ l ?_
  cases (!r.sk && (Nat.beq r.x.kd 1 && !Nat.beq r.x.low r.x.high)) with
  | true=>exact List.mem_cons_of_mem _ h
  | false=>exact h
theorem lsOf_mem:∀(R:List Rec) (ls:List Look) (r:Rec),r∈R→r.sk=false→r.x.kd=1→r.x.low≠r.x.high→(⟨r.x.o.op,r.t,r.v,r.x.low,r.x.high⟩:Look)∈lsOf R ls:=by
 intro R
 induction R with
 | nil=>intro ls r h;simp at h
 | cons q R ih=>
  intro ls r h h1 h2 h3;rcases List.mem_cons.1 h with rfl|h
  · refine lsOf_keep R _ _ ?_
    have e:Nat.beq r.x.low r.x.high=false:=by
     cases e:Nat.beq r.x.low r.x.high with
     | false=>rfl
     | true=>exact absurd (yL e) h3
    rw[h1,h2,e];exact List.mem_cons_self
  · exact ih _ r h h1 h2 h3
theorem looksOK_mem{P:Program}{k:Nat}{hs:List W}:∀{ls:List Look},sF P k hs ls=true→∀l∈ls,lookOK P l k hs=true:=by
 intro ls
 induction ls with
 | nil=>intro _ l h;simp at h
 | cons q ls ih=>
  intro h l hl;have h':(lookOK P q k hs && sF P k hs ls)=true:=h;obtain⟨h1,h2⟩:=Bool.and_eq_true_iff.1 h';rcases List.mem_cons.1 hl with rfl|hl
  · exact h1
  · exact ih h2 l hl
theorem le_ble{a b:Nat}(h:a≤b):Nat.ble a b=true:=by rw[Nat.ble_eq];exact h
theorem lookOK_at{P:Program}{l:Look}:∀{X:List W} {w:W} {Y:List W},lookOK P l (X++w::Y).length (X++w::Y)=true→l.low≤Y.length→Y.length≤l.high→
 lookLt w.n l.o l.t=true∧∃v,sP l.o P l.t w.h=some v∧qH v l.v=true:=by
 intro X
 induction X with
 | nil =>
  intro w Y h h1 h2
  have h':((cond (Nat.ble l.low Y.length && Nat.ble Y.length l.high) (lookLt w.n l.o l.t && (match sP l.o P l.t w.h with
   | some v=>qH v l.v
   | none=>false)) true) && lookOK P l Y.length Y)=true:=h
  obtain⟨h3,_⟩:=Bool.and_eq_true_iff.1 h';rw [le_ble h1,le_ble h2]at h3
  obtain⟨h4,h5⟩:=Bool.and_eq_true_iff.1 (show(lookLt w.n l.o l.t && (match sP l.o P l.t w.h with
   | some v=>qH v l.v
   | none=>false))=true from h3)
  refine⟨h4,?_⟩
  cases hq:sP l.o P l.t w.h with
  | none=>rw [hq]at h5;cases h5
  | some v=>rw [hq]at h5;exact⟨v,rfl,h5⟩
 | cons q X ih =>
  intro w Y h h1 h2
  have h':((cond (Nat.ble l.low (X++w::Y).length && Nat.ble (X++w::Y).length l.high) (lookLt q.n l.o l.t && (match sP l.o P l.t q.h with
   | some v=>qH v l.v
   | none=>false)) true) && lookOK P l (X++w::Y).length (X++w::Y))=true:=h
  exact ih (Bool.and_eq_true_iff.1 h').2 h1 h2
theorem scalB_eq{v v':Value}(h:scalB v v'=true):v=v':=by
 unfold scalB at h;split at h <;> try (first|rfl|(exact absurd h Bool.false_ne_true))
 · rename_i a b;cases a <;> cases b <;> first|rfl|cases h
 · obtain⟨h1,h2⟩:=Bool.and_eq_true_iff.1 h;rw [xZ]at h2;rw [rW h1,of_decide_eq_true h2]
 · rename_i a b;rw [tT]at h;have e:=eq_of_beq h;obtain⟨⟨a⟩⟩:=a;obtain⟨⟨b⟩⟩:=b;have e:a=b:=e;rw [e]
 · obtain⟨h1,h2⟩:=Bool.and_eq_true_iff.1 h;rw [yL h1,yL h2]
 · obtain⟨h1,h2⟩:=Bool.and_eq_true_iff.1 h;rw [yL h1,yL h2]
 · obtain⟨h1,h4⟩:=Bool.and_eq_true_iff.1 h;obtain⟨h1,h3⟩:=Bool.and_eq_true_iff.1 h1;obtain⟨h1,h2⟩:=Bool.and_eq_true_iff.1 h1;rw [yL h1,yL h2,yL h3,yL h4]
 · rw[yL h]
theorem scalsB_eq:∀{l l':List Value},scalsB l l'=true→l=l':=by
 intro l
 induction l with
 | nil=>intro l' h;cases l' with
  | nil=>rfl
  | cons b l'=>cases h
 | cons a l ih => intro l' h; cases l' with
  | nil=>cases h
  | cons b l'=>
   have h':(scalB a b && scalsB l l')=true:=h;obtain⟨h1,h2⟩:=Bool.and_eq_true_iff.1 h';rw [scalB_eq h1,ih h2]
theorem sameB_eq{v v':Value}(h:qH v v'=true):v=v':=by
 unfold qH at h;split at h
 · rename_i a b;have e:=scalsB_eq h;obtain⟨a⟩:=a;obtain⟨b⟩:=b;have e:a=b:=e;rw [e]
 · rename_i a b;have e:=scalsB_eq h;obtain⟨a⟩:=a;obtain⟨b⟩:=b;have e:a=b:=e;rw [e]
 · rename_i f a b g c d;obtain⟨h1,h2⟩:=Bool.and_eq_true_iff.1 h;obtain⟨h2,h3⟩:=Bool.and_eq_true_iff.1 h2;have e1:=scalsB_eq h2;have e2:=scalsB_eq h3;obtain⟨a⟩:=a;obtain⟨b⟩:=b;obtain⟨c⟩:=c;obtain⟨d⟩:=d;have e1:a=c:=e1;have e2:b=d:=e2;rw [yL h1,e1,e2]
 · exact scalB_eq h
theorem countP_lt{α : Type}{p q: α→Bool}{l:List α}(h:∀x∈l,p x=true→q x=true){c: α}(hc:c∈l)(hp:p c=false)(hq:q c=true):l.countP p<l.countP q:=by
 obtain⟨A,B,rfl⟩:=List.append_of_mem hc;have h1:A.countP p≤A.countP q:=List.countP_mono_left fun x hx=>h x (by simp[hx]);have h2:B.countP p≤B.countP q:=List.countP_mono_left fun x hx=>h x (by simp[hx]);simp only[List.countP_append,List.countP_cons,hp,hq];simp;omega
section
variable {P:Program} {ng:Nat} {all:Array Oper} {M:Nat→Nat} {D E:List DOp} {C:Cfg}
variable {pre suf:List Rec} {ts:Fr} {ws:W} {lst:Nat→Prop} {ρ : Inj} {H:zH} {a:Act} {wd:World} {cs:List Frame}
theorem seg_ok{cx:Cx}:∀{A:List Rec} {t t':Fr} {w w':W},RecsOK P ng all cx A t w t' w'→(∀r∈A,r.x.kd≠3∧r.x.kd=wW r.x.o.op)→
 w'.d=w.d∧w'.u=w.u∧(∀b,b<w.n→yG w'.h b=yG w.h b)∧∀r∈A,r.x.kd=2→r.sk=false→yG w'.h r.w.n=yG r.w2.h r.w.n:=by
 intro A
 induction A with
 | nil=>intro t t' w w' h _;cases h;exact⟨rfl,rfl,fun _ _=>rfl,fun r hr=>by simp at hr⟩
 | cons r A ih =>
  intro t t' w w' h hk;have hk':∀r∈A,r.x.kd≠3∧r.x.kd=wW r.x.o.op:=fun q hq=>hk q (by simp[hq]);obtain⟨k3,kk⟩:=hk r (by simp)
  cases h with
  | cons hr hrs =>
   obtain⟨i1,i2,i3,i4⟩:=ih hrs hk'
   have key:r.w2.d=r.w.d∧r.w2.u=r.w.u∧(∀b,b<r.w.n→yG r.w2.h b=yG r.w.h b)∧(r.x.kd=2→r.sk=false→r.w.n<r.w2.n):=by
    cases hr with
    | skip=>exact⟨rfl,rfl,fun _ _=>rfl,fun _ h=>by cases h⟩
    | look hw hkk=>exact⟨rfl,rfl,fun _ _=>rfl,fun h=>by dsimp only at h;omega⟩
    | made hw hkk hn=>exact⟨rfl,rfl,fun b hb=>by dsimp only at hb ⊢;rw [zP,if_neg (by omega)],fun _ _=>Nat.lt_succ_self _⟩
    | act hw hkk ho hn=>
     exfalso
     rename_i x t w w2 v;have h9:wW x.o.op≤3:=by unfold wW;split <;> (try split) <;> omega
     dsimp only at k3 kk;omega
   obtain⟨k1,k2,k4,k5⟩:=key;have hn:=rec_n hr;refine⟨i1.trans k1,i2.trans k2,fun b hb=>(i3 b (by omega)).trans (k4 b hb),fun q hq h2 hsk=>?_⟩;rcases List.mem_cons.1 hq with rfl|hq
   · exact i3 _ (k5 h2 hsk)
   · exact i4 q hq h2 hsk
theorem maker_uniq{cx:Cx}{R:List Rec}{t t':Fr}{w w':W}(h:RecsOK P ng all cx R t w t' w'){r r':Rec}(hr:r∈R)(hr':r'∈R)(k:r.x.kd=2)(k':r'.x.kd=2)(s:r.sk=false)(s':r'.sk=false)(e:r.w.n=r'.w.n):r=r':=by
 have grow:∀{r:Rec},RecOK P ng all cx r→r.x.kd=2→r.sk=false→r.w.n<r.w2.n:=by
  intro r h k s
  cases h with
  | skip=>cases s
  | look hw hkk=>dsimp only at k;omega
  | made=>exact Nat.lt_succ_self _
  | act hw hkk=>exact absurd k hkk.2.2
 have key:∀{r r':Rec} {X Y Z:List Rec},r.x.kd=2→r.sk=false→R=X++r::(Y++r'::Z)→r.w.n<r'.w.n:=by
  intro r r' X Y Z k s hR;rw [hR]at h;obtain⟨t1,w1,_,h2⟩:=qQ h
  cases h2 with
  | cons h3 h4=>
   have h5:=grow h3 k s;have h6:=((sN h4).2 r' (by simp)).2.1;omega
 rcases two_of hr hr' with h1|⟨X,Y,Z,h1⟩|⟨X,Y,Z,h1⟩
 · exact h1
 · have:=key k s h1;omega
 · have:=key k' s' h1;omega
theorem Inv.seg(I:Inv P ng all M D E C pre suf ts ws lst ρ H a wd cs)(K:RecPlan all M D){A S:List Rec}{t:Fr}{w:W}(hs:suf=A++S)(hA:RecsOK P ng all C.cx A ts ws t w)(h3:∀r∈A,r.x.kd≠3) :
 w.d=ws.d∧w.u=ws.u∧∀b B,b<w.n→ρ b=some B→yG w.h b=yG H b:=by
 have hD:∀r∈A,r.x∈D:=fun r hr=>by rw[I.dd];exact List.mem_append_left _ (List.mem_map.2 ⟨r,by rw[hs];simp [hr],rfl⟩)
 obtain⟨s1,s2,s3,s4⟩:=seg_ok hA fun r hr=>⟨h3 r hr,K.kd _ (hD r hr)⟩;refine⟨s1,s2,fun b B hb e=>?_⟩;rcases Nat.lt_or_ge b ws.n with h|h
 · rw[s3 b h,I.hh b h]
 · obtain⟨q,q1,q2,q3,q4,q5⟩:=I.ex b B h e;have hr2:=I.r2;rw [hs]at hr2;obtain⟨t1,w1,x1,x2⟩:=qQ hr2
   have hqA:q∈A:=by
    rw[hs]at q1;rcases List.mem_append.1 q1 with h|h
    · exact h
    · exfalso
      have h6:=((sN x2).2 q h).2.1;have e1:=recs_end hA x1;rw [← e1]at h6;omega
   subst q5;rw [s4 q hqA q2 q3,I.mkd q q1 q2 q3 q4]
end
section
variable {P:Program} {ng:Nat} {all:Array Oper} {M:Nat→Nat} {D E:List DOp} {C:Cfg}
variable {pre suf:List Rec} {ts:Fr} {ws:W} {lst:Nat→Prop} {ρ : Inj} {H:zH} {a:Act} {wd:World} {cs:List Frame}
theorem Inv.mem(I:Inv P ng all M D E C pre suf ts ws lst ρ H a wd cs){r:Rec}(h:r∈pre++suf):r.x∈D:=by
 rw[I.dd];exact List.mem_append_left _ (List.mem_map.2 ⟨r,h,rfl⟩)
theorem Inv.head(I:Inv P ng all M D E C pre suf ts ws lst ρ H a wd cs):∃Y,hsOf pre [C.W0]=ws::Y∧Y.length=(pre.map (·.x)).countP (fun c=>Nat.beq c.kd 3):=by
 rcases I.last with h|⟨p,r,h,h3⟩
 · subst h;have:=I.r1;cases this
   exact⟨[],rfl,rfl⟩
 · have h1:=I.r1;rw [h]at h1;obtain⟨t1,w1,_,h2⟩:=qQ h1
   cases h2 with
   | cons h3' h4=>
    cases h4
    refine⟨hsOf p [C.W0],?_,?_⟩
    · rw[h,hsOf_app];show cond (Nat.beq r.x.kd 3) (r.w2::hsOf p [C.W0]) (hsOf p [C.W0])=_;rw [h3];rfl
    · rw[h,hsOf_len];simp [h3]
theorem Inv.look(hP:xV ng P=true)(I:Inv P ng all M D E C pre suf ts ws lst ρ H a wd cs)(K:RecPlan all M D)
(hL:sF P (hsOf (pre++suf) [C.W0]).length (hsOf (pre++suf) [C.W0]) (lsOf (pre++suf) [])=true)
{A B:List Rec}{r:Rec}(hs:suf=A++r::B)(hA:RecsOK P ng all C.cx A ts ws r.t r.w)(hsk:r.sk=false)(hk:r.x.kd=0∨r.x.kd=1)(hq:sP r.x.o.op P r.t r.w.h=some r.v)
(hx:¬lst r.x.i)(hm:∀b,wS (M r.x.i) b=true→lst b)(hO:OpsR (ρ.cut r.w.n) r.t a r.x.o) :
 ∃v',(execOp a.eval r.x.o).run P wd = .ok (.value v') wd∧RV (ρ.cut r.w.n) r.v v':=by
 have hwn:ws.n≤r.w.n:=(sN hA).1;have hrm:r∈pre++suf:=by rw[hs];simp
 have hrD:=I.mem hrm;have hkd:=K.kd _ hrD;have hDr:D=(pre++A).map (·.x)++r.x::(B.map (·.x)++E):=by rw[I.dd,hs];simp
 rcases hk with hk|hk
 · rw[quiet_free (hkd.symm.trans hk) P r.t r.w.h H]at hq;exact quiet_ok hP (I.hp _ hwn) hO hq
 by_cases hlh:r.x.low=r.x.high
 ·
  have hno:∀q∈A,q.x.kd≠3:=by
   intro q hqA h3;have hql:¬lst q.x.i:=I.sl q (by rw[hs];simp [hqA]) h3;obtain⟨A1,A2,hA2⟩:=List.append_of_mem hqA;have hDq:D=(pre++A1).map (·.x)++q.x::(A2.map (·.x)++r.x::(B.map (·.x)++E)):=by rw[hDr,hA2];simp
   obtain⟨l1,l2⟩:=K.later hDq
   have hlt:=countP_lt (l:=D) (p:=fun c=>Nat.beq c.kd 3 && wS (M r.x.i) c.i) (q:=fun c=>Nat.beq c.kd 3 && (!wS (M c.i) r.x.i && !Nat.beq c.i r.x.i)) (c:=q.x)
    (fun c hc hp=>by
     obtain⟨p1,p2⟩:=Bool.and_eq_true_iff.1 hp
     have b1:wS (M c.i) r.x.i=false∧c.i≠r.x.i:=by
      rcases two_of hc hrD with e|⟨X,Y,Z,e⟩|⟨X,Y,Z,e⟩
      · exfalso
        rw[e,hk]at p1;cases p1
      · exact K.later e
      · rw[(K.later e).1]at p2;cases p2
     have b2:Nat.beq c.i r.x.i=false:=by
      cases e:Nat.beq c.i r.x.i with
      | false=>rfl
      | true=>exact absurd (yL e) b1.2
     simp only[p1,b1.1,b2];rfl)
    (by rw[hDq];simp)
    (by
     have:wS (M r.x.i) q.x.i=false:=by
      cases e:wS (M r.x.i) q.x.i with
      | false=>rfl
      | true=>exact absurd (hm _ e) hql
     simp only[this,Bool.and_false])
    (by
     have b2:Nat.beq q.x.i r.x.i=false:=by
      cases e:Nat.beq q.x.i r.x.i with
      | false=>rfl
      | true=>exact absurd (yL e) l2
     simp only[h3,l1,b2];rfl)
   rw[← K.low _ hrD,← K.high _ hrD]at hlt;omega
  obtain⟨_,_,s3⟩:=I.seg K hs hA hno;exact quiet_ok hP ((I.hp _ hwn).congr fun b B e=>let ⟨h1,h2⟩:=sZ e;s3 b B h1 h2) hO hq
 ·
  have hmem:=lsOf_mem (pre++suf) [] r hrm hsk hk hlh;have hl:=looksOK_mem hL _ hmem;obtain⟨Y,hY1,hY2⟩:=I.head;obtain⟨X,hX⟩:=hsOf_ends suf (hsOf pre [C.W0]);rw [hsOf_app,hX,hY1]at hl
  have split:∀p:DOp→Bool,D.countP p=(pre.map (·.x)).countP p+((suf.map (·.x))++E).countP p:=by
   intro p;rw [I.dd,List.map_append,List.append_assoc,List.countP_append]
  have hlow:r.x.low≤Y.length:=by
   rw[K.low _ hrD,split,hY2]
   have z:((suf.map (·.x))++E).countP (fun c=>Nat.beq c.kd 3 && wS (M r.x.i) c.i)=0:=by
    rw[List.countP_eq_zero];intro c hc hp;obtain⟨p1,p2⟩:=Bool.and_eq_true_iff.1 hp;have hl':=hm _ p2;rcases List.mem_append.1 hc with hc|hc
    · obtain⟨q,hq1,rfl⟩:=List.mem_map.1 hc;exact I.sl q hq1 (yL p1) hl'
    · obtain⟨E1,E2,hE⟩:=List.append_of_mem hc;rw [(K.later (x:=r.x) (y:=c) (A:=(pre++A).map (·.x)) (B:=B.map (·.x)++E1) (C:=E2) (by rw[hDr,hE];simp)).1]at p2;cases p2
   rw[z];exact Nat.le_trans (Nat.le_of_eq (Nat.add_zero _)) (List.countP_mono_left fun c _ hp=>(Bool.and_eq_true_iff.1 hp).1)
  have hhigh:Y.length≤r.x.high:=by
   rw[K.high _ hrD,split,hY2];refine Nat.le_trans (List.countP_mono_left fun c hc hp=>?_) (Nat.le_add_right _ _);obtain⟨q,hq1,rfl⟩:=List.mem_map.1 hc;have hql:=I.pl q hq1
   have b1:wS (M q.x.i) r.x.i=false:=by
    cases e:wS (M q.x.i) r.x.i with
    | false=>rfl
    | true=>exact absurd (I.closed _ hql _ e) hx
   have b2:Nat.beq q.x.i r.x.i=false:=by
    cases e:Nat.beq q.x.i r.x.i with
    | false=>rfl
    | true=>rw [yL e]at hql;exact absurd hql hx
   simp only[hp,b1,b2];rfl
  obtain⟨k1,v,k2,k3⟩:=lookOK_at hl hlow hhigh;have hv:v=r.v:=sameB_eq k3;subst hv;have k2:sP r.x.o.op P r.t ws.h=some r.v:=k2;rw [← quiet_at (h':=H) (hkd.symm.trans hk) P r.t k1 I.hh]at k2;exact quiet_ok hP (I.hp _ hwn) hO k2
theorem Inv.made(I:Inv P ng all M D E C pre suf ts ws lst ρ H a wd cs)(K:RecPlan all M D)(hc:∀o∈all.toList,rV ng (ntm P C.cx.fn) o=true)
{A B:List Rec}{r:Rec}{v:Nat→Value}{ob:AObj}(hs:suf=A++r::B)(hA:RecsOK P ng all C.cx A ts ws r.t r.w)(hk:r.x.kd=2)(hsk:r.sk=false)(hn:NewVal P ng r.x.o r.t v ob)
(hv:r.v=v r.w.n)(hw2:r.w2=W.mk r.w.d r.w.u (r.w.h.set .dead ob r.w.n) (r.w.n+1))
(hx:¬lst r.x.i)(hm:∀b,wS (M r.x.i) b=true→lst b)(hO:OpsR (ρ.cut r.w.n) r.t a r.x.o) :
 ∃v' wd' ρ1 H1,(execOp a.eval r.x.o).run P wd = .ok (.value v') wd'∧
  Inv P ng all M D E C pre suf ts ws (fun i=>lst i∨i=r.x.i) ρ1 H1 (a.put r.x.o.dst v') wd' cs:=by
 have hwn:ws.n≤r.w.n:=(sN hA).1;have hW0:C.W0.n≤ws.n:=(sN I.r1).1;have hr:r∈suf:=by rw[hs];simp
 obtain⟨Bl,o',v',b1,b2,b3,b4⟩:=hn (ρ.cut r.w.n) C.base C.w00 a wd H r.w.n hO (I.hp _ hwn)
 have hnone: ρ r.w.n=none:=by
  cases e: ρ r.w.n with
  | none=>rfl
  | some B=>
   obtain⟨q,q1,q2,q3,q4,q5⟩:=I.ex _ B hwn e;have:=maker_uniq I.r2 q1 hr q2 hk q3 hsk q5;rw [this]at q4;exact absurd q4 hx
 have hle:=Inj.le_put Bl hnone
 have hv':RV ((ρ.put r.w.n Bl).cut r.w2.n) r.v v':=by
  rw[hw2];show RV ((ρ.put r.w.n Bl).cut (r.w.n+1)) r.v v';rw [put_cut_succ,hv];exact b3
 refine⟨v',_,ρ.put r.w.n Bl,H.set .dead ob r.w.n,b2,I.note K hc hr (by omega) hx hm hle hv' ?_ ?_ ?_ ?_ ?_ ?_⟩
 · rw[put_cut_ge Bl hwn];exact⟨I.in0.fn,I.in0.kind,I.in0.rd,I.in0.rdf,I.in0.hp.push o',I.in0.dr,I.in0.ur,I.in0.fnd⟩
 · intro m hm';rcases Nat.lt_or_ge r.w.n m with h|h
   · rw[put_cut_lt Bl h];refine(I.hp m hm').add (by rw[uU h];exact hnone) h ob o' Bl b1 (b4.mono ?_);intro b B e;by_cases hb:b=r.w.n
     · simpa [Inj.put,hb] using e
     · simp[Inj.put,hb]at e ⊢;exact cut_le (Nat.le_of_lt h) _ _ e
   · rw[put_cut_ge Bl h]
     exact((I.hp m hm').push o').congr fun b B e=>by
      have:=(sZ e).1;rw [zP,if_neg (by omega)]
 · intro m hm';rcases Nat.lt_or_ge r.w.n m with h|h
   · rw[put_cut_lt Bl h];exact(I.gr m hm').add (by omega) ob o' Bl b1
   · rw[put_cut_ge Bl h];exact((I.gr m hm').push o').congr fun b e=>by rw[zP,if_neg (by omega)]
 · intro b hb;rw [zP,if_neg (by omega)];exact I.hh b hb
 · intro q hq q2 q3 q4;rw [zP];by_cases h:r.w.n=q.w.n
   · have:=maker_uniq I.r2 hr hq hk q2 hsk q3 h;subst this;rw [if_pos rfl,hw2];show ob=yG (r.w.h.set .dead ob r.w.n) r.w.n;rw [zP,if_pos rfl]
   · rw[if_neg h];rcases q4 with q4|q4
     · exact I.mkd q hq q2 q3 q4
     · subst q4;exact absurd rfl h
 · intro b B hb e;by_cases h:b=r.w.n
   · exact⟨r,hr,hk,hsk,.inr rfl,h.symm⟩
   · obtain⟨q,q1,q2,q3,q4,q5⟩:=I.ex b B hb (by simpa [Inj.put,h] using e);exact⟨q,q1,q2,q3,.inl q4,q5⟩
end
section
variable {P:Program} {ng:Nat} {all:Array Oper} {M:Nat→Nat} {D E:List DOp} {C:Cfg}
variable {pre suf:List Rec} {ts:Fr} {ws:W} {lst:Nat→Prop} {ρ : Inj} {H:zH} {a:Act} {wd:World} {cs:List Frame}
theorem maker_grows{cx:Cx}{r:Rec}(h:RecOK P ng all cx r)(k:r.x.kd=2)(s:r.sk=false):r.w.n<r.w2.n:=by
 cases h with
 | skip=>cases s
 | look hw hkk=>dsimp only at k;omega
 | made=>exact Nat.lt_succ_self _
 | act hw hkk=>exact absurd k hkk.2.2
theorem Inv.at_act(I:Inv P ng all M D E C pre suf ts ws lst ρ H a wd cs)(K:RecPlan all M D){A S:List Rec}{t:Fr}{w:W}(hs:suf=A++S)(hA:RecsOK P ng all C.cx A ts ws t w)(hno:∀q∈A,q.x.kd≠3) :
 In0 P ng (ρ.cut w.n) C.base C.w00 C.b a wd cs C.cx w:=by
 have hwn:ws.n≤w.n:=(sN hA).1;obtain⟨s1,s2,s3⟩:=I.seg K hs hA hno;have hle:=cut_le (ρ := ρ) hwn;exact⟨I.in0.fn,I.in0.kind,I.in0.rd.mono hle,I.in0.rdf,(I.hp _ hwn).congr fun b B e=>let ⟨h1,h2⟩:=sZ e;s3 b B h1 h2,by rw[s1];exact I.in0.dr.mono hle,by rw[s2];exact I.in0.ur.mono hle,I.in0.fnd⟩
theorem Inv.no_act(I:Inv P ng all M D E C pre suf ts ws lst ρ H a wd cs)(K:RecPlan all M D){A:List Rec}{S:List Rec}{x:DOp}{rest:List DOp}(hs:suf=A++S)(hD:D=(pre++A).map (·.x)++x::rest)(hk:x.kd=3)(hm:∀b,wS (M x.i) b=true→lst b) :
 (∀q∈A,q.x.kd≠3)∧∀q∈A,lst q.x.i:=by
 have hno:∀q∈A,q.x.kd≠3:=by
  intro q hq h3;have hql:¬lst q.x.i:=I.sl q (by rw[hs];simp [hq]) h3;obtain⟨A1,A2,hA2⟩:=List.append_of_mem hq;have hDq:D=(pre++A1).map (·.x)++q.x::(A2.map (·.x)++x::rest):=by rw[hD,hA2];simp
  obtain⟨l1,l2⟩:=K.later hDq;rcases K.act q.x (by rw[hDq];simp) x (by rw[hD];simp) h3 hk with h|h|h
  · exact l2 h
  · exact hql (hm _ h)
  · rw[l1]at h;cases h
 refine⟨hno,fun q hq=>hm _ ?_⟩;refine K.next (pre.map (·.x)) (A.map (·.x)) x rest (by rw[hD];simp) hk (fun y hy=>?_) q.x (List.mem_map.2 ⟨q,hq,rfl⟩);obtain⟨q',hq',rfl⟩:=List.mem_map.1 hy;exact hno q' hq'
theorem Inv.acted(I:Inv P ng all M D E C pre suf ts ws lst ρ H a wd cs)(K:RecPlan all M D)(hc:∀o∈all.toList,rV ng (ntm P C.cx.fn) o=true)
{A B:List Rec}{r:Rec}(hs:suf=A++r::B)(hA:RecsOK P ng all C.cx A ts ws r.t r.w)(hk:r.x.kd=3)
(hx:¬lst r.x.i)(hm:∀b,wS (M r.x.i) b=true→lst b){ρ':Inj}{a':Act}{wd':World}{cs':List Frame}{v':Value}
(in0:In0 P ng ρ' C.base C.w00 C.b a' wd' cs' C.cx r.w2)(ha:a'.tmps=a.tmps)(g:Grow (ρ.cut r.w.n) r.w.h r.w.n wd ρ' r.w2.h r.w2.n wd')(hcs:CsTo C.cx.df cs cs')(hv:RV ρ' r.v v') :
 ∃ρ1 H1,Inv P ng all M D E C (pre++A++[r]) B (putF r.t r.x.o.dst r.v) r.w2 (fun i=>lst i∨i=r.x.i) ρ1 H1 (a'.put r.x.o.dst v') wd' cs':=by
 have hwn:ws.n≤r.w.n:=(sN hA).1;have hW0:C.W0.n≤ws.n:=(sN I.r1).1;have hDr:D=(pre++A).map (·.x)++r.x::(B.map (·.x)++E):=by rw[I.dd,hs];simp
 have hrm:r∈pre++suf:=by rw[hs];simp
 have hrD:=I.mem hrm;obtain⟨hno,hAl⟩:=I.no_act K hs hDr hk hm;obtain⟨s1,s2,s3⟩:=I.seg K hs hA hno;have hkA:∀q∈A,q.x.kd≠3∧q.x.kd=wW q.x.o.op:=fun q hq=>⟨hno q hq,K.kd _ (I.mem (by rw[hs];simp [hq]))⟩;obtain⟨_,_,s4,_⟩:=seg_ok hA hkA;have hr2:=I.r2;rw [hs]at hr2;obtain⟨t1,w1,x1,x2⟩:=qQ hr2;have ew:r.w=w1:=recs_end hA x1;subst ew
 have hB:RecsOK P ng all C.cx B (putF r.t r.x.o.dst r.v) r.w2 C.t1 C.w1∧RecOK P ng all C.cx r∧r.t=t1:=by
  cases x2 with
  | cons h1 h2=>exact⟨h2,h1,rfl⟩
 obtain⟨hB,hrok,et⟩:=hB;have hn:=rec_n hrok
 have inB:∀b Bk,r.w.n≤b→ρ b=some Bk→∃q∈B,q.x.kd=2∧q.sk=false∧lst q.x.i∧q.w.n=b:=by
  intro b Bk hb e;obtain⟨q,q1,q2,q3,q4,q5⟩:=I.ex b Bk (by omega) e;rw [hs]at q1;rcases List.mem_append.1 q1 with h|h
  · obtain⟨y1,y2,y3⟩:=(sN hA).2 q h;have:=maker_grows y1 q2 q3;omega
  · rcases List.mem_cons.1 h with h|h
    · rw[h,hk]at q2;cases q2
    · exact⟨q,h,q2,q3,q4,q5⟩
 obtain⟨H1,e1,e2⟩:=glue r.w2.h H r.w2.n (C.w1.n+1)
 have none':∀b,r.w.n≤b→b<r.w2.n→ρ b=none:=by
  intro b h1 h2
  cases e: ρ b with
  | none=>rfl
  | some Bk=>
   obtain⟨q,q1,q2,q3,q4,q5⟩:=inB b Bk h1 e;have:=((sN hB).2 q q1).2.1;omega
 have r1:∀b,b<r.w2.n→(fun b=>if b<r.w2.n then ρ' b else ρ b:Inj) b = ρ' b:=fun b h=>if_pos h;have r2:∀b,r.w2.n≤b→(fun b=>if b<r.w2.n then ρ' b else ρ b:Inj) b = ρ b:=fun b h=>if_neg (by omega);obtain⟨ρ1,r1,r2⟩:∃ρ1:Inj,(∀b,b<r.w2.n→ρ1 b = ρ' b)∧∀b,r.w2.n≤b→ρ1 b = ρ b:=⟨_,r1,r2⟩
 have c1: ρ1.cut r.w2.n = ρ':=by
  funext b
  rcases Nat.lt_or_ge b r.w2.n with h|h
  · rw[uU h,r1 b h]
  · rw[cut_ge h,in0.hp.dom b h]
 obtain⟨hle,hp⟩:=early (fun m hm=>I.hp m (by omega)) hn none' (fun b Bk hb e=>s3 b Bk hb e) in0.hp g r1 r2 e1 (fun b Bk hb e=>by
  obtain⟨q,q1,q2,q3,q4,q5⟩:=inB b Bk (by omega) e;have:=((sN hB).2 q q1).2.2;have:=rec_n ((sN hB).2 q q1).1;exact e2 b hb (by omega))
 have gr:=Grow.early (n0:=C.W0.n) (by omega) (fun m hm=>I.gr m (by omega)) hn (fun b hb=>by rw[s4 b (by omega),I.hh b (by omega)]) g r1 r2 e1
 have hdst:∀q∈pre++suf,lst q.x.i→∀d,q.x.o.dst=some d→r.x.o.dst≠some d:=by
  intro q hq hl d e e2;rcases K.pair q.x (I.mem hq) r.x hrD d e (.inr e2) with h|⟨h,_⟩
  · rw[h]at hl;exact hx hl
  · exact h e2
 have hlt:∀d,r.x.o.dst=some d→d<a'.tmps.size:=by
  intro d e
  have hmem:r.x.o∈all.toList:=by
   have ho:=K.at' r.x hrD;rw [← Array.getElem?_toList]at ho;exact List.mem_iff_getElem?.2 ⟨_,ho⟩
  have:=(Bool.and_eq_true_iff.1 (hc r.x.o hmem)).2;rw [e]at this;have h1:d<ntm P C.cx.fn:=vA this;rw [ha,I.sz];exact Nat.lt_of_lt_of_le h1 I.tm0.le
 have hall:pre++A++[r]++B=pre++suf:=by rw[hs];simp
 refine⟨ρ1,H1,?_,?_,hB,.inr ⟨_,r,rfl,hk⟩,?_,?_,?_,?_,?_,hp,gr,I.cst.trans hcs,e1,?_,?_,?_,?_,I.tm0.mono (cut_mono hle _),(put_size.trans (by rw[ha])).trans I.sz⟩
 · rw[hall];exact I.dd
 · refine recs_app (recs_app I.r1 hA) (.cons hrok (.nil _ _))
 · intro q hq;rcases List.mem_append.1 hq with hq|hq
   · rcases List.mem_append.1 hq with hq|hq
     · exact .inl (I.pl q hq)
     · exact .inl (hAl q hq)
   · simp at hq;subst hq;exact .inr rfl
 · intro q hq h3 hl;rcases hl with hl|hl
   · exact I.sl q (by rw[hs];simp [hq]) h3 hl
   · obtain⟨B1,B2,hB2⟩:=List.append_of_mem hq;exact(K.later (x:=r.x) (y:=q.x) (A:=(pre++A).map (·.x)) (B:=B1.map (·.x)) (C:=B2.map (·.x)++E) (by rw[hDr,hB2];simp)).2 hl.symm
 · intro i hi;rw [hall];rcases hi with hi|rfl
   · exact I.only i hi
   · exact⟨r,hrm,rfl⟩
 · intro i hi j hj;rcases hi with hi|rfl
   · exact .inl (I.closed i hi j hj)
   · exact .inl (hm j hj)
 · rw[c1];exact in0.act (put_defers a' _ _)
 · intro q hq q2 q3 q4;obtain⟨y1,y2,y3⟩:=(sN hB).2 q hq;have:=maker_grows y1 q2 q3;rw [e2 _ y2 (by omega)];refine I.mkd q (by rw[hs];simp [hq]) q2 q3 (q4.resolve_right fun e=>?_);obtain⟨B1,B2,hB2⟩:=List.append_of_mem hq;exact(K.later (x:=r.x) (y:=q.x) (A:=(pre++A).map (·.x)) (B:=B1.map (·.x)) (C:=B2.map (·.x)++E) (by rw[hDr,hB2];simp)).2 e.symm
 · intro b Bk hb e;rw [r2 b hb]at e;obtain⟨q,q1,q2,q3,q4,q5⟩:=inB b Bk (by omega) e;exact⟨q,q1,q2,q3,.inl q4,q5⟩
 · intro q hq hl d hd;rw [hall]at hq;by_cases hql:lst q.x.i
   · obtain⟨v2,y1,y2⟩:=I.val q hq hql d hd;exact⟨v2,by rw[put_at (hdst q hq hql d hd),ha];exact y1,y2.mono (cut_mono hle _)⟩
   · have hqr:q=r:=I.uniq K hq hrm (hl.resolve_left hql);subst hqr;exact⟨v',by rw[hd];exact put_self_at (hlt d hd),by rw[c1];exact hv⟩
 · intro d hd;rw [hall]at hd;rw [put_at (hd r hrm (.inr rfl)),ha];exact I.un d fun q hq hl=>hd q hq (.inl hl)
theorem rec_cases{cx:Cx}{r:Rec}(h:RecOK P ng all cx r) :
 (r.sk=true∧wanted all r.t r.x.o.guard=false∧r.v=undef∧r.w2=r.w)∨
 (r.sk=false∧wanted all r.t r.x.o.guard=true∧(r.x.kd=0∨r.x.kd=1)∧sP r.x.o.op P r.t r.w.h=some r.v∧r.w2=r.w)∨
 (r.sk=false∧wanted all r.t r.x.o.guard=true∧r.x.kd=2∧∃v ob,NewVal P ng r.x.o r.t v ob∧r.v=v r.w.n∧r.w2=W.mk r.w.d r.w.u (r.w.h.set .dead ob r.w.n) (r.w.n+1))∨
 (r.sk=false∧wanted all r.t r.x.o.guard=true∧(r.x.kd≠0∧r.x.kd≠1∧r.x.kd≠2)∧OpTo P ng r.x.o cx r.t r.w (.ret r.v) r.w2):=by
 cases h with
 | skip hw=>exact .inl ⟨rfl,hw,rfl,rfl⟩
 | look hw hk hq=>exact .inr (.inl ⟨rfl,hw,hk,hq,rfl⟩)
 | made hw hk hn=>exact .inr (.inr (.inl ⟨rfl,hw,hk,_,_,hn,rfl,rfl⟩))
 | act hw hk ho hn=>exact .inr (.inr (.inr ⟨rfl,hw,hk,ho⟩))
theorem Inv.step(hP:xV ng P=true)(I:Inv P ng all M D E C pre suf ts ws lst ρ H a wd cs)(K:RecPlan all M D)(hc:∀o∈all.toList,rV ng (ntm P C.cx.fn) o=true)
(hL:sF P (hsOf (pre++suf) [C.W0]).length (hsOf (pre++suf) [C.W0]) (lsOf (pre++suf) [])=true)
{r:Rec}(hr:r∈pre++suf)(hx:¬lst r.x.i)(hm:∀b,wS (M r.x.i) b=true→lst b)(is:List Nat)(kk:List Item) :
 ∃pre' suf' ts' ws' ρ1 H1 a1 wd1 cs1,Inv P ng all M D E C pre' suf' ts' ws' (fun i=>lst i∨i=r.x.i) ρ1 H1 a1 wd1 cs1∧pre'++suf'=pre++suf∧
  Steps P (lone (C.b.atR a (.inRegion all (r.x.i::is)::kk)) cs wd) (lone (C.b.atR a1 (.inRegion all is::kk)) cs1 wd1):=by
 have hrs:r∈suf:=(List.mem_append.1 hr).resolve_left fun h=>hx (I.pl r h);obtain⟨A,B,hs⟩:=List.append_of_mem hrs;have hrD:=I.mem hr;have hat:=K.at' _ hrD;have hDr:D=(pre++A).map (·.x)++r.x::(B.map (·.x)++E):=by rw[I.dd,hs];simp
 have hr2:=I.r2;rw [hs]at hr2;obtain⟨t1,w1,hA,x2⟩:=qQ hr2
 have hB:RecOK P ng all C.cx r∧r.t=t1∧r.w=w1:=by
  cases x2 with
  | cons h1 h2=>exact⟨h1,rfl,rfl⟩
 obtain⟨hrok,et,ew⟩:=hB;subst et ew;obtain⟨hO,hW⟩:=I.looks K hc hs hDr hA hx hm;have hnd:r.x.kd≠3→∀c,r.x.o.op≠.defer c:=fun h3 c e=>h3 (by rw[K.kd _ hrD,e];rfl);have h9:r.x.kd≤3:=by rw[K.kd _ hrD];unfold wW;split <;> (try split) <;> omega
 rcases rec_cases hrok with⟨hsk,hw,hv,hw2⟩|⟨hsk,hw,hk,hq,hw2⟩|⟨hsk,hw,hk,v,ob,hn,hv,hw2⟩|⟨hsk,hw,hk,ho⟩
 · have hstep:Steps P (lone (C.b.atR a (.inRegion all (r.x.i::is)::kk)) cs wd) (lone (C.b.atR (a.put r.x.o.dst undef) (.inRegion all is::kk)) cs wd):=.one (skip_put hat (hW.trans hw));by_cases h3:r.x.kd=3
   · have hno:=(I.no_act K hs hDr h3 hm).1;have hi:=I.at_act K hs hA hno;obtain⟨ρ1,H1,hI⟩:=I.acted K hc hs hA h3 hx hm (v':=undef) (by rw[hw2];exact hi) rfl (by rw[hw2];exact Grow.refl _ _ _ _ hi.hp.dom) (CsTo.refl _ _) (by rw[hv];exact RV.undef _);exact⟨_,_,_,_,ρ1,H1,_,_,_,hI,by rw[hs];simp,hstep⟩
   · have hI:=I.calm K hc hrs h3 (.inr hsk) hx hm (v':=undef) (by rw[hv];exact RV.undef _);exact⟨_,_,_,_,ρ,H,_,_,_,hI,rfl,hstep⟩
 · obtain⟨v',y1,y2⟩:=I.look hP K hL hs hA hsk hk hq hx hm hO;have hI:=I.calm K hc hrs (by omega) (.inl (by omega)) hx hm (v':=v') (by rw[hw2];exact y2);exact⟨_,_,_,_,ρ,H,_,_,_,hI,rfl,.one (step_res (hnd (by omega)) hat (hW.trans hw) (.inl y1))⟩
 · obtain⟨v',wd',ρ1,H1,y1,hI⟩:=I.made K hc hs hA hk hsk hn hv hw2 hx hm hO;exact⟨_,_,_,_,ρ1,H1,_,_,_,hI,rfl,.one (step_res (hnd (by omega)) hat (hW.trans hw) (.inl y1))⟩
 · have h3:r.x.kd=3:=by omega
   have hno:=(I.no_act K hs hDr h3 hm).1;have hi:=I.at_act K hs hA hno;obtain⟨ρ',a',wd',cs',i1,i2,i3,i4,v',i5,i6⟩:=ho _ _ _ _ _ _ _ hi hO all r.x.i is kk hat (hW.trans hw);obtain⟨ρ1,H1,hI⟩:=I.acted K hc hs hA h3 hx hm i1 i2 i3 i4 i5;exact⟨_,_,_,_,ρ1,H1,_,_,_,hI,by rw[hs];simp,i6⟩
end
theorem map_split{α β : Type}{f: α→β}{l:List α}{A:List β}{x: β}{B:List β}(h:l.map f=A++x::B):∃A' x' B',l=A'++x'::B'∧A=A'.map f∧x=f x'∧B=B'.map f:=by
 obtain⟨A',r,e1,e2,e3⟩:=List.map_eq_append_iff.1 h;obtain⟨x',B',e4,e5,e6⟩:=List.map_eq_cons_iff.1 e3;exact⟨A',x',B',by rw[e1,e4],e2.symm,e5.symm,e6.symm⟩
theorem sees_bit{all:Array Oper}{M:Nat→Nat}{x:XOp}(h:XOK all M x){d:Nat}(hd:Sees all x.o d):wS x.lk d=true:=by
 rcases hd with hd|⟨g,b,h1,h2⟩
 · exact h.lk d hd
 · exact h.glk g b d h1 h2
theorem count_map{S:List XOp}{f:XOp→DOp}(hf:∀x,(f x).i=x.i∧(f x).kd=x.kd)(p:Nat→Bool):((S.filter fun x=>Nat.beq x.kd 3).filter fun c=>p c.i).length=(S.map f).countP fun c=>Nat.beq c.kd 3 && p c.i:=by
 rw[List.filter_filter,← List.countP_eq_length_filter,List.countP_map];congr 1
 funext c
 simp only[Function.comp,(hf c).1,(hf c).2];exact Bool.and_comm _ _
theorem PlanOK.recPlan{ops:Array Oper}{M:Nat→Nat}{xl S:List XOp}(h:PlanOK ops M xl S):RecPlan ops M (S.map (dopOf xl (S.filter fun x=>Nat.beq x.kd 3))):=by
 have hf:∀x,(dopOf xl (S.filter fun x=>Nat.beq x.kd 3) x).i=x.i∧(dopOf xl (S.filter fun x=>Nat.beq x.kd 3) x).kd=x.kd:=fun x=>⟨rfl,rfl⟩;have hm:∀x∈xl,x.m=M x.i:=fun x hx=>(h.ok x hx).m;refine⟨?_,?_,?_,?_,?_,?_,?_,?_,?_⟩
 · intro x hx;obtain⟨y,hy,rfl⟩:=List.mem_map.1 hx;exact h.at' y (h.sub y hy)
 · intro x hx;obtain⟨y,hy,rfl⟩:=List.mem_map.1 hx;exact(h.ok y (h.sub y hy)).kd
 · intro x hx b hb;obtain⟨y,hy,rfl⟩:=List.mem_map.1 hx;exact(h.ok y (h.sub y hy)).bits b (by rw[hm y (h.sub y hy)];exact hb)
 · intro A x B e;obtain⟨A',x',B',e1,rfl,rfl,rfl⟩:=map_split e;have hs:=h.sig;rw [e1]at hs;obtain⟨o1,o2⟩:=sig_ord hs;refine⟨fun b hb=>?_,fun y hy=>?_⟩
   · obtain⟨y,hy,e2⟩:=o1 b (by rw[hm x' (h.sub x' (by rw[e1];simp))];exact hb);exact⟨_,List.mem_map.2 ⟨y,hy,rfl⟩,e2⟩
   · obtain⟨y',hy',rfl⟩:=List.mem_map.1 hy;exact o2 y' hy'
 · intro A T x B e hk hT y hy;obtain⟨A',r,e1,e2,e3⟩:=List.map_eq_append_iff.1 e;obtain⟨T',x',B',e4,rfl,rfl,rfl⟩:=map_split e3;have hs:=h.sig;rw [e1,e4]at hs;obtain⟨y',hy',rfl⟩:=List.mem_map.1 hy;have:=sig_next hs hk (fun z hz=>hT _ (List.mem_map.2 ⟨z,hz,rfl⟩)) y' hy';rw [hm x' (h.sub x' (by rw[e1,e4];simp))]at this;exact this
 · intro x hx y hy d hd hs;obtain⟨x',hx',rfl⟩:=List.mem_map.1 hx;obtain⟨y',hy',rfl⟩:=List.mem_map.1 hy;have:=h.pair x' (h.sub x' hx') y' (h.sub y' hy') d hd (hs.imp (fun q=>sees_bit (h.ok y' (h.sub y' hy')) q) id);rw [hm x' (h.sub x' hx'),hm y' (h.sub y' hy')]at this;exact this
 · intro x hx y hy kx ky;obtain⟨x',hx',rfl⟩:=List.mem_map.1 hx;obtain⟨y',hy',rfl⟩:=List.mem_map.1 hy;have:=h.act x' (h.sub x' hx') y' (h.sub y' hy') kx ky;rw [hm x' (h.sub x' hx'),hm y' (h.sub y' hy')]at this;exact this
 · intro x hx;obtain⟨x',hx',rfl⟩:=List.mem_map.1 hx;rw [← count_map hf (fun i=>wS (M (dopOf xl (S.filter fun x=>Nat.beq x.kd 3) x').i) i)];show((S.filter fun x=>Nat.beq x.kd 3).filter fun c=>wS x'.m c.i).length=_;rw [hm x' (h.sub x' hx')];rfl
 · intro x hx;obtain⟨x',hx',rfl⟩:=List.mem_map.1 hx;have e:=count_map hf (S:=S) (fun i=> !wS (M i) x'.i && !Nat.beq i x'.i);show((S.filter fun x=>Nat.beq x.kd 3).filter fun c=> !wS c.m x'.i && !Nat.beq c.i x'.i).length=_;refine Eq.trans (congrArg List.length (List.filter_congr fun c hc=>?_)) e;rw [hm c (h.sub c (List.mem_filter.1 hc).1)]
theorem PlanOK.solo{ops:Array Oper}{M:Nat→Nat}{xl S:List XOp}(h:PlanOK ops M xl S){x:DOp}(hx:x∈S.map (dopOf xl (S.filter fun x=>Nat.beq x.kd 3)))(hs:x.solo=true){i:Nat}(hi:i<ops.size) :
 x.i=i∨wS (M x.i) i=true∨wS (M i) x.i=true:=by
 obtain⟨x',hx',rfl⟩:=List.mem_map.1 hx;obtain⟨y,hy,rfl⟩:=h.cov i hi;have hs:(xl.all fun y=>Nat.beq x'.i y.i || wS x'.m y.i || wS y.m x'.i)=true:=hs;have:=List.all_eq_true.1 hs y hy;rw [(h.ok x' (h.sub x' hx')).m,(h.ok y hy).m]at this;simp only[Bool.or_eq_true]at this;rcases this with(e|e)|e
 · exact .inl (yL e)
 · exact .inr (.inl e)
 · exact .inr (.inr e)
theorem nodup_len:∀{l m:List Nat},l.Nodup→(∀x∈l,x∈m)→l.length≤m.length:=by
 intro l
 induction l with
 | nil=>intro m _ _;exact Nat.zero_le _
 | cons x l ih=>
  intro m hn hs;obtain⟨h1,h2⟩:=List.nodup_cons.1 hn;have hx:=hs x (by simp);have:=ih (m:=m.erase x) h2 fun y hy=>(List.mem_erase_of_ne (fun e=>h1 (by rw[← e];exact hy))).2 (hs y (by simp[hy]));rw [List.length_erase_of_mem hx]at this;have:0<m.length:=List.length_pos_of_mem hx;simp only[List.length_cons];omega
theorem PlanOK.all{ops:Array Oper}{M:Nat→Nat}{xl S:List XOp}(h:PlanOK ops M xl S){i:Nat}(hi:i<ops.size):∃x∈S.map (dopOf xl (S.filter fun x=>Nat.beq x.kd 3)),x.i=i:=by
 have K:=h.recPlan;generalize hD:S.map (dopOf xl (S.filter fun x=>Nat.beq x.kd 3))=D at K
 have hlen:D.length=ops.size:=by rw[← hD,List.length_map];exact h.len
 have hnd:(D.map (·.i)).Nodup:=by
  unfold List.Nodup;rw [List.pairwise_map]
  have key:∀(X Y:List DOp),D=X++Y→Y.Pairwise fun a b=>a.i≠b.i:=by
   intro X Y
   induction Y generalizing X with
   | nil=>intro _;exact .nil
   | cons y Y ih=>
    intro e;refine .cons (fun z hz=>?_) (ih (X++[y]) (by rw[e];simp));obtain⟨Y1,Y2,rfl⟩:=List.append_of_mem hz;exact(K.later e).2
  exact key [] D rfl
 refine Classical.byContradiction fun hno=>?_
 have hsub:∀x∈i::D.map (·.i),x∈List.range ops.size:=by
  intro x hx;rcases List.mem_cons.1 hx with rfl|hx
  · exact List.mem_range.2 hi
  · obtain⟨y,hy,rfl⟩:=List.mem_map.1 hx;have:=K.at' y hy;rcases Nat.lt_or_ge y.i ops.size with h1|h1
    · exact List.mem_range.2 h1
    · rw[Array.getElem?_eq_none h1]at this;cases this
 have:=nodup_len (List.nodup_cons.2 ⟨fun hx=>hno (let ⟨y,hy,e⟩:=List.mem_map.1 hx;⟨y,hy,e⟩),hnd⟩) hsub;simp at this;omega
theorem ready_mem{ops:Array Oper}{listed:Array Bool}{i:Nat}(h:i∈Region.ready .any ops listed) :
 i<ops.size∧listed.getD i true=false∧∃o,ops[i]? = some o∧∀e∈o.after.toList,sM e=true→listed.getD e.on false=true:=by
 unfold Region.ready at h;obtain⟨h1,h2⟩:=List.mem_filter.1 h;obtain⟨h3,h4⟩:=Bool.and_eq_true_iff.1 h2;refine⟨List.mem_range.1 h1,by simpa using h3,?_⟩
 cases ho:ops[i]? with
 | none=>rw [ho]at h4;cases h4
 | some o=>
  rw[ho]at h4;refine⟨o,rfl,fun e he ha=>?_⟩;have h5:(o.after.all fun e=> !Region.binds .any e || listed.getD e.on false)=true:=h4;rw [Array.all_eq_true_iff_forall_mem]at h5;have:=h5 e (Array.mem_toList_iff.1 he);unfold sM at ha;rw [ha]at this;simpa using this
theorem ready_mk{ops:Array Oper}{listed:Array Bool}{i:Nat}{o:Oper}(hi:ops[i]? = some o)(h:listed.getD i true=false)(he:∀e∈o.after.toList,sM e=true→listed.getD e.on false=true):i∈Region.ready .any ops listed:=by
 have hlt:i<ops.size:=by
  rcases Nat.lt_or_ge i ops.size with h1|h1
  · exact h1
  · rw[Array.getElem?_eq_none h1]at hi;cases hi
 unfold Region.ready;refine List.mem_filter.2 ⟨List.mem_range.2 hlt,?_⟩;rw [h,hi];show(o.after.all fun e=> !Region.binds .any e || listed.getD e.on false)=true;rw [Array.all_eq_true_iff_forall_mem];intro e hm
 cases ha:Region.binds .any e with
 | false=>rfl
 | true=>simpa using he e (Array.mem_toList_iff.2 hm) ha
theorem ready_nil{ops:Array Oper}{listed:Array Bool}(hs:listed.size=ops.size)(hedge:∀i o,ops[i]? = some o→∀e∈o.after.toList,sM e=true→e.on<i)(h:Region.ready .any ops listed=[]) :
 ∀n i,i<n→i<ops.size→listed.getD i false=true:=by
 intro n
 induction n with
 | zero=>intro i hi;omega
 | succ n ih=>
  intro i hi hlt;rcases Nat.lt_or_ge i n with h1|h1
  · exact ih i h1 hlt
  · have:i=n:=by omega
    subst this;have hlt':i<listed.size:=by omega
    have g1:listed.getD i true=listed[i]:=by simp[hlt']
    have g2:listed.getD i false=listed[i]:=by simp[hlt']
    cases e:listed.getD i true with
    | true=>rw [g2,← g1];exact e
    | false =>
     have hm:=ready_mk (ops:=ops) (Array.getElem?_eq_getElem hlt) e fun ed hed ha=>by
      have:=hedge i _ (Array.getElem?_eq_getElem hlt) ed hed ha;exact ih ed.on this (by omega)
     rw[h]at hm;simp at hm
def unlisted(n:Nat)(listed:Array Bool):Nat:=(List.range n).countP fun i=> !listed.getD i true
section
variable {P:Program} {ng:Nat} {all:Array Oper} {M:Nat→Nat} {D E:List DOp} {C:Cfg}
theorem Inv.lst_congr{pre suf:List Rec}{ts:Fr}{ws:W}{lst lst':Nat→Prop}{ρ : Inj}{H:zH}{a:Act}{wd:World}{cs:List Frame}(I:Inv P ng all M D E C pre suf ts ws lst ρ H a wd cs)(h:∀i,lst i↔lst' i) :
 Inv P ng all M D E C pre suf ts ws lst' ρ H a wd cs:=by
 have:lst=lst':=funext fun i=>propext (h i);rw [← this];exact I
theorem draw_go{Goal:Machine→List Item→Prop}(hG:∀m m1 kk,Steps P m m1→Goal m1 kk→Goal m kk)(hP:xV ng P=true)(K:RecPlan all M D)(hc:∀o∈all.toList,rV ng (ntm P C.cx.fn) o=true)
(hedge:∀i o,all[i]? = some o→∀e∈o.after.toList,sM e=true→e.on<i)
(hbits:∀i o,all[i]? = some o→∀b,wS (M i) b=true→∃e∈o.after.toList,sM e=true∧(b=e.on∨wS (M e.on) b=true))
{R:List Rec}(hL:sF P (hsOf R [C.W0]).length (hsOf R [C.W0]) (lsOf R [])=true)
(hnext:∀pre suf ts ws lst ρ H a wd cs,pre++suf=R→Inv P ng all M D E C pre suf ts ws lst ρ H a wd cs→∀i,i<all.size→¬lst i→(∀b,wS (M i) b=true→lst b)→
  (∃r∈R,r.x.i=i)∨∀is kk,Goal (lone (C.b.atR a (.inRegion all (i::is)::kk)) cs wd) kk)
(hend:∀pre suf ts ws lst ρ H a wd cs,pre++suf=R→Inv P ng all M D E C pre suf ts ws lst ρ H a wd cs→(∀i,i<all.size→lst i)→∀kk,Goal (lone (C.b.atR a (.inRegion all []::kk)) cs wd) kk) :
 ∀(fuel t:Nat) (listed:Array Bool) (pre suf:List Rec) (ts:Fr) (ws:W) (ρ : Inj) (H:zH) (a:Act) (wd:World) (cs:List Frame),pre++suf=R→listed.size=all.size→
  Inv P ng all M D E C pre suf ts ws (fun i=>listed.getD i false=true) ρ H a wd cs→unlisted all.size listed≤fuel→
  ∀kk,Goal (lone (C.b.atR a (.inRegion all (Region.linearise.go .any all fuel t listed [])::kk)) cs wd) kk:=by
 have swap:∀{listed:Array Bool} {i:Nat},i<listed.size→listed.getD i true=listed.getD i false:=by
  intro listed i h;simp [h]
 have finish:∀{listed:Array Bool} {pre suf:List Rec} {ts:Fr} {ws:W} {ρ : Inj} {H:zH} {a:Act} {wd:World} {cs:List Frame},pre++suf=R→listed.size=all.size→
  Inv P ng all M D E C pre suf ts ws (fun i=>listed.getD i false=true) ρ H a wd cs→(∀i,i<all.size→listed.getD i false=true)→∀kk,Goal (lone (C.b.atR a (.inRegion all []::kk)) cs wd) kk:=
  fun hR hs I hl kk=>hend _ _ _ _ _ _ _ _ _ _ hR I hl kk
 intro fuel
 induction fuel with
 | zero=>
  intro t listed pre suf ts ws ρ H a wd cs hR hs I hu kk;refine finish hR hs I (fun i hi=>?_) kk;have h0:unlisted all.size listed=0:=by omega
  have:=List.countP_eq_zero.1 h0 i (List.mem_range.2 hi);rw [← swap (by omega)];simpa using this
 | succ fuel ih =>
  intro t listed pre suf ts ws ρ H a wd cs hR hs I hu kk;simp only[Region.linearise.go]
  change Goal (lone (C.b.atR a (.inRegion all (match (Region.ready .any all listed)[t % (Region.ready .any all listed).length]? with
   | some i=>Region.linearise.go .any all fuel (t / (Region.ready .any all listed).length) (listed.setIfInBounds i true) [i]
   | none=>[].reverse)::kk)) cs wd) kk
  cases hi:(Region.ready .any all listed)[t % (Region.ready .any all listed).length]? with
  | none =>
   have hnil:Region.ready .any all listed=[]:=by
    cases hr:Region.ready .any all listed with
    | nil=>rfl
    | cons x xs=>
     rw[hr]at hi;have hlt:t % (x::xs).length<(x::xs).length:=Nat.mod_lt _ (by simp);simp at hi;simp at hlt;omega
   exact finish hR hs I (fun i h=>ready_nil hs hedge hnil (i+1) i (by omega) h) kk
  | some i =>
   simp only[];rw [linearise_go_acc,List.reverse_singleton,List.singleton_append];obtain⟨r1,r2,o,r3,r4⟩:=ready_mem (List.mem_of_getElem? hi)
   have hnl:¬listed.getD i false=true:=by
    rw[← swap (by omega),r2];exact Bool.false_ne_true
   have hm:∀b,wS (M i) b=true→listed.getD b false=true:=by
    intro b hb;obtain⟨e,e1,e2,e3⟩:=hbits i o r3 b hb;have h1:=r4 e e1 e2;rcases e3 with rfl|e3
    · exact h1
    · exact I.closed _ h1 _ e3
   rcases hnext _ _ _ _ _ _ _ _ _ _ hR I i r1 hnl hm with⟨r,hr,rfl⟩|hg
   · obtain⟨pre',suf',ts',ws',ρ1,H1,a1,wd1,cs1,I1,hR1,hst⟩:=I.step hP K hc (by rw[hR];exact hL) (by rw[hR];exact hr) hnl hm
      (Region.linearise.go .any all fuel (t / (Region.ready .any all listed).length) (listed.setIfInBounds r.x.i true) []) kk
     have hs1:(listed.setIfInBounds r.x.i true).size=all.size:=by simpa using hs
     have yG:∀j d,(listed.setIfInBounds r.x.i true).getD j d=if r.x.i=j then true else listed.getD j d:=by
      intro j d;by_cases hj:j<listed.size
      · have hj':j<(listed.setIfInBounds r.x.i true).size:=by simpa using hj
        simp[hj,Array.getElem_setIfInBounds]
      · have hne:r.x.i≠j:=by omega
        simp[hj,hne]
     refine hG _ _ _ hst (ih _ _ pre' suf' ts' ws' ρ1 H1 a1 wd1 cs1 (hR1.trans hR) hs1 (I1.lst_congr fun j=>?_) ?_ kk)
     · rw[yG];by_cases hj:r.x.i=j
       · simp[hj]
       · rw[if_neg hj];exact⟨fun h=>h.resolve_right fun e=>hj e.symm,.inl⟩
     · have:unlisted all.size (listed.setIfInBounds r.x.i true)<unlisted all.size listed:=
        countP_lt (fun j _ h=>by
         rw[yG]at h;by_cases hj:r.x.i=j
         · rw[if_pos hj]at h;cases h
         · rw[if_neg hj]at h;exact h) (List.mem_range.2 r1) (by rw[yG,if_pos rfl];rfl) (by rw[r2];rfl)
       omega
   · exact hg _ kk
end
section
variable {P:Program} {ng:Nat} {all:Array Oper} {M:Nat→Nat} {D E:List DOp} {C:Cfg}
variable {pre suf:List Rec} {ts:Fr} {ws:W} {lst:Nat→Prop} {ρ : Inj} {H:zH} {a:Act} {wd:World} {cs:List Frame}
theorem Inv.all_done(I:Inv P ng all M D E C pre suf ts ws lst ρ H a wd cs)(K:RecPlan all M D)(hl:∀r∈pre++suf,lst r.x.i) :
 In P ng (ρ.cut C.w1.n) C.base C.w00 C.b a wd cs C.cx C.t1 C.w1∧Grow C.ρ0 C.W0.h C.W0.n C.wd0 (ρ.cut C.w1.n) C.w1.h C.w1.n wd:=by
 have hno:∀q∈suf,q.x.kd≠3:=fun q hq h3=>I.sl q hq h3 (hl q (List.mem_append_right _ hq));have hs:suf=suf++[]:=by simp
 have h0:=I.at_act K hs I.r2 hno;have hall:=recs_app I.r1 I.r2;have hW0:C.W0.n≤ws.n:=(sN I.r1).1;have hkA:∀q∈suf,q.x.kd≠3∧q.x.kd=wW q.x.o.op:=fun q hq=>⟨hno q hq,K.kd _ (I.mem (List.mem_append_right _ hq))⟩;obtain⟨_,_,s4,_⟩:=seg_ok I.r2 hkA;refine⟨h0.toIn ⟨by rw[I.sz];exact I.tm0.sz,fun d v hv=>?_⟩,(I.gr _ (sN I.r2).1).congr fun b hb=>by rw[s4 b (by omega),I.hh b (by omega)]⟩;by_cases hw:∃y∈pre++suf,y.x.o.dst=some d
 · obtain⟨y,hy,hyd⟩:=hw;obtain⟨A1,A2,hsp⟩:=List.append_of_mem hy;have hDy:D=A1.map (·.x)++y.x::(A2.map (·.x)++E):=by rw[I.dd,hsp];simp
   obtain⟨v',q1,q2⟩:=I.val y hy (hl y hy) d hyd;rw [hv]at q1;injection q1 with q1;subst q1
   have hb:=((sN hall).2 y hy).2.2;rw [hsp]at hall
   have h2:zA C.t1 d=y.v:=recs_write hall hyd fun z hz e=>by
    obtain⟨B1,B2,hz2⟩:=List.append_of_mem hz;have hDz:D=A1.map (·.x)++y.x::(B1.map (·.x)++z.x::(B2.map (·.x)++E)):=by rw[hDy,hz2];simp
    obtain⟨_,l4⟩:=K.later hDz;rcases K.pair y.x (by rw[hDz];simp) z.x (by rw[hDz];simp) d hyd (.inr e) with h|⟨h,_⟩
    · exact l4 h
    · exact h e
   rw[h2];exact q2.mono (cut_le hb)
 · have hno':∀r∈pre++suf,r.x.o.dst≠some d:=fun r hr e=>hw ⟨r,hr,e⟩;rw [recs_slot hall hno'];rw [I.un d fun r hr _=>hno' r hr]at hv;exact(I.tm0.tm d v hv).mono (cut_le (sN hall).1)
theorem HeapR.later{base:Nat}{w0:World}{h:zH}{n m:Nat}(r:HeapR P ng ρ base w0 h n wd)(hm:n≤m):HeapR P ng ρ base w0 h m wd:=
 ⟨fun b hb=>r.dom b (by omega),r.obj,r.inj,r.below,r.size,r.glob,by have:=r.ngn;omega⟩
theorem cut_dom{n m:Nat}(h:∀b,n≤b→ρ b=none)(hm:n≤m): ρ.cut m = ρ :=by
 funext b
 rcases Nat.lt_or_ge b m with h1|h1
 · exact uU h1
 · rw[cut_ge h1,h b (by omega)]
theorem drew_ok(hP:xV ng P=true)(hmix:P.follows .mixedOrders=true){ops:Array Oper}{L:List DOp}(hpl:plan ops=some L){cx:Cx}{t:Fr}{w:W}{k:KX}(hD:Drew P ng ops cx L t w [w] [] k)(id:Nat) :
 ∃x t' w',k x t' w'=true∧CodeTo P ng (.region id ops true) cx t w x t' w':=by
 obtain⟨M,xl,S,hp,hL⟩:=plan_ok hpl;have K:RecPlan ops M L:=by rw[hL];exact hp.recPlan
 have hsolo:∀x∈L,x.solo=true→∀i,i<ops.size→x.i=i∨wS (M x.i) i=true∨wS (M i) x.i=true:=by
  intro x hx hs i hi;rw [hL]at hx;exact hp.solo hx hs hi
 have hcov:∀i,i<ops.size→∃x∈L,x.i=i:=by
  intro i hi;rw [hL];exact hp.all hi
 have hxl:∀i o,ops[i]? = some o→∃x,x.i=i∧x.o=o∧XOK ops M x:=by
  intro i o ho
  have hlt:i<ops.size:=by
   rcases Nat.lt_or_ge i ops.size with h1|h1
   · exact h1
   · rw[Array.getElem?_eq_none h1]at ho;cases ho
  obtain⟨x,h1,h2⟩:=hp.cov i hlt;have h3:=hp.at' x h1;rw [h2,ho]at h3;exact⟨x,h2,by injection h3 with h3;exact h3.symm,hp.ok x h1⟩
 have hedge:∀i o,ops[i]? = some o→∀e∈o.after.toList,sM e=true→e.on<i:=by
  intro i o ho e he ha;obtain⟨x,h1,h2,h3⟩:=hxl i o ho;rw [← h1];exact h3.on e (by rw[h2];exact he) ha
 have hbits:∀i o,ops[i]? = some o→∀b,wS (M i) b=true→∃e∈o.after.toList,sM e=true∧(b=e.on∨wS (M e.on) b=true):=by
  intro i o ho b hb;obtain⟨x,h1,h2,h3⟩:=hxl i o ho;have:=h3.bits b (by rw[h3.m,h1];exact hb);rw [h2]at this;exact this
 have start:∀{R:List Rec} {E:List DOp} {t1:Fr} {w1:W},R.map (·.x)++E=L→RecsOK P ng ops cx R t w t1 w1→∀{ρ : Inj} {base:Nat} {w0:World} {b:Frame} {a:Act} {wd:World} {cs:List Frame},In P ng ρ base w0 b a wd cs cx t w→
  Inv P ng ops M L E ⟨t,w,a,wd,cs,ρ,base,w0,b,cx,t1,w1⟩ [] R t w (fun i=>(Array.replicate ops.size false).getD i false=true) ρ w.h a { wd with drawn:=wd.drawn+1 } cs:=by
  intro R E t1 w1 hR hrecs ρ base w0 b a wd cs hI
  have hf:∀i,¬(Array.replicate ops.size false).getD i false=true:=by
   intro i;by_cases h:i<ops.size <;> simp[h]
  refine⟨hR.symm,.nil t w,hrecs,.inl rfl,fun r hr=>by simp at hr,fun r _ _ h=>hf _ h,fun i h=>absurd h (hf i),fun i h=>absurd h (hf i),?_,?_,?_,CsTo.refl _ _,fun _ _=>rfl,fun r _ _ _ h=>absurd h (hf _),?_,fun r _ h=>absurd h (hf _),fun _ _=>rfl,?_,rfl⟩
  · dsimp only;rw [cut_dom hI.hp.dom (Nat.le_refl _)];exact⟨hI.fn,hI.kind,hI.rd,hI.rdf,hI.hp.drawn _,hI.dr,hI.ur,hI.fnd⟩
  · intro m hm;rw [cut_dom hI.hp.dom hm];exact(hI.hp.later hm).drawn _
  · intro m hm;rw [cut_dom hI.hp.dom hm];exact⟨hm,fun _ _=>rfl,fun b B hb e=>(by rw[hI.hp.dom b hb]at e;cases e),fun _ _ _=>rfl,Nat.le_refl _,fun _ _ e=>e,rfl⟩
  · intro b B hb e;rw [hI.hp.dom b hb]at e;cases e
  · dsimp only;rw [cut_dom hI.hp.dom (Nat.le_refl _)];exact hI.tm
 have unl:unlisted ops.size (Array.replicate ops.size false)≤ops.size:=by
  unfold unlisted;exact Nat.le_trans List.countP_le_length (by simp)
 rcases hD with⟨R,t',w',h1,h2,h3,h4⟩|⟨R,d,rest,c,t1,w1,w2,h1,h2,h3,h4,h5,h6,h7⟩
 · refine⟨.normal,t',w',h3,fun hc b kk ρ base w0 a wd cs hI=>?_⟩;have hc':∀o∈ops.toList,rV ng (ntm P cx.fn) o=true:=List.all_eq_true.1 hc;have I0:=start (E:=[]) (by simpa using h1) h2 hI
   have go:=draw_go (C:=⟨t,w,a,wd,cs,ρ,base,w0,b,cx,t',w'⟩) (E:=[]) (R:=R)
    (Goal:=fun m kk=>∃ρ' a' wd' cs',In P ng ρ' base w0 b a' wd' cs' cx t' w'∧Grow ρ w.h w.n wd ρ' w'.h w'.n wd'∧CsTo cx.df cs cs'∧Arr P m b kk cs' ρ' a' wd' .normal)
    (fun m m1 kk hst ⟨ρ',a',wd',cs',g1,g2,g3,g4⟩=>⟨ρ',a',wd',cs',g1,g2,g3,g4.of_steps hst⟩) hP K hc' hedge hbits h4 ?_ ?_
    ops.size (wd.tape wd.drawn (.order b.fn id)) _ [] R t w ρ w.h a _ cs rfl (by simp) I0 unl kk
   · have hst:step P (lone (b.atR a (.code (.region id ops true)::kk)) cs wd) = .next (lone (b.atR a (.inRegion ops (Region.schedule (P.follows .mixedOrders) ops (wd.tape wd.drawn (.order b.fn id)))::kk)) cs { wd with drawn:=wd.drawn+1 }):=stepR_region_draw
     have hsch:∀tt,Region.schedule (P.follows .mixedOrders) ops tt=Region.linearise.go .any ops ops.size tt (Array.replicate ops.size false) []:=by
      intro tt;simp only[Region.schedule,hmix,Bool.true_or,if_true];rfl
     rw[hsch]at hst;obtain⟨ρ',a',wd',cs',g1,g2,g3,g4⟩:=go;exact⟨ρ',a',wd',cs',g1,g2,g3,g4.of_steps (.one hst)⟩
   · intro pre suf ts ws lst ρ1 H a1 wd1 cs1 hR I i hi _ _;obtain⟨x,hx1,hx2⟩:=hcov i hi;rw [← h1]at hx1;obtain⟨r,hr,rfl⟩:=List.mem_map.1 hx1;exact .inl ⟨r,hr,hx2⟩
   · intro pre suf ts ws lst ρ1 H a1 wd1 cs1 hR I hall kk
     obtain⟨g1,g2⟩:=I.all_done K fun r hr=>hall _ (by
      have:=K.at' _ (I.mem hr);rcases Nat.lt_or_ge r.x.i ops.size with h1|h1
      · exact h1
      · rw[Array.getElem?_eq_none h1]at this;cases this)
     exact⟨_,a1,wd1,cs1,g1,g2,I.cst,.one stepR_region_end⟩
 · refine⟨.panic c,t1,w2,h7,fun hc b kk ρ base w0 a wd cs hI=>?_⟩;have hc':∀o∈ops.toList,rV ng (ntm P cx.fn) o=true:=List.all_eq_true.1 hc;have I0:=start (E:=d::rest) h1.symm h2 hI;have hdL:d∈L:=by rw[h1];simp
   have hdi:d.i<ops.size:=by
    have:=K.at' _ hdL;rcases Nat.lt_or_ge d.i ops.size with h1|h1
    · exact h1
    · rw[Array.getElem?_eq_none h1]at this;cases this
   have hdR:∀r∈R,r.x.i≠d.i∧wS (M r.x.i) d.i=false:=by
    intro r hr;obtain⟨A,B,hAB⟩:=List.append_of_mem hr;obtain⟨l1,l2⟩:=K.later (x:=r.x) (y:=d) (A:=A.map (·.x)) (B:=B.map (·.x)) (C:=rest) (by rw[h1,hAB];simp);exact⟨l2,l1⟩
   have go:=draw_go (C:=⟨t,w,a,wd,cs,ρ,base,w0,b,cx,t1,w1⟩) (E:=d::rest) (R:=R)
    (Goal:=fun m kk=>∃ρ' a' wd' cs',In P ng ρ' base w0 b a' wd' cs' cx t1 w2∧Grow ρ w.h w.n wd ρ' w2.h w2.n wd'∧CsTo cx.df cs cs'∧Arr P m b kk cs' ρ' a' wd' (.panic c))
    (fun m m1 kk hst ⟨ρ',a',wd',cs',g1,g2,g3,g4⟩=>⟨ρ',a',wd',cs',g1,g2,g3,g4.of_steps hst⟩) hP K hc' hedge hbits h6 ?_ ?_
    ops.size (wd.tape wd.drawn (.order b.fn id)) _ [] R t w ρ w.h a _ cs rfl (by simp) I0 unl kk
   · have hst:step P (lone (b.atR a (.code (.region id ops true)::kk)) cs wd) = .next (lone (b.atR a (.inRegion ops (Region.schedule (P.follows .mixedOrders) ops (wd.tape wd.drawn (.order b.fn id)))::kk)) cs { wd with drawn:=wd.drawn+1 }):=stepR_region_draw
     have hsch:∀tt,Region.schedule (P.follows .mixedOrders) ops tt=Region.linearise.go .any ops ops.size tt (Array.replicate ops.size false) []:=by
      intro tt;simp only[Region.schedule,hmix,Bool.true_or,if_true];rfl
     rw[hsch]at hst;obtain⟨ρ',a',wd',cs',g1,g2,g3,g4⟩:=go;exact⟨ρ',a',wd',cs',g1,g2,g3,g4.of_steps (.one hst)⟩
   · intro pre suf ts ws lst ρ1 H a1 wd1 cs1 hR I i hi hnl hm
     have hdn:¬lst d.i:=fun h=>by
      obtain⟨r,hr,e⟩:=I.only _ h;rw [hR]at hr;exact(hdR r hr).1 e
     rcases hsolo d hdL h5 i hi with e|e|e
     · right
       subst e;intro is kk
       have hlR:∀r∈pre++suf,lst r.x.i:=by
        intro r hr
        have hri:r.x.i<ops.size:=by
         have:=K.at' _ (I.mem hr);rcases Nat.lt_or_ge r.x.i ops.size with h1|h1
         · exact h1
         · rw[Array.getElem?_eq_none h1]at this;cases this
        rw[hR]at hr;obtain⟨n1,n2⟩:=hdR r hr;rcases hsolo d hdL h5 _ hri with e|e|e
        · exact absurd e.symm n1
        · exact hm _ e
        · rw[n2]at e;cases e
       obtain⟨g1,g2⟩:=I.all_done K hlR;obtain⟨hO,hW⟩:=I.looks K hc' (A:=suf) (S:=[]) (by simp) I.dd I.r2 hdn hm;obtain⟨ρ',a',wd',cs',i1,i2,i3,i4,c',i5,i6⟩:=h4 _ _ _ _ _ _ _ g1.in0 hO ops d.i is kk (K.at' _ hdL) (hW.trans h3);exact⟨ρ',a',wd',cs',i1.toIn (by rw[i2];exact g1.tm.mono (i3.le g1.hp.dom)),g2.trans i3,I.cst.trans i4,_,c',i5,i6⟩
     · left
       obtain⟨y,hy,e2⟩:=(K.ahead (R.map (·.x)) d rest h1).1 _ e;obtain⟨r,hr,rfl⟩:=List.mem_map.1 hy;exact⟨r,hr,e2⟩
     · exact absurd (hm _ e) hdn
   · intro pre suf ts ws lst ρ1 H a1 wd1 cs1 hR I hall kk;exfalso
     obtain⟨r,hr,e⟩:=I.only _ (hall d.i hdi);rw [hR]at hr;exact(hdR r hr).1 e
theorem plan_kd{ops:Array Oper}{L:List DOp}(h:plan ops=some L):∀d∈L,d.kd=wW d.o.op:=by
 obtain⟨M,xl,S,hp,hL⟩:=plan_ok h;rw [hL];exact hp.recPlan.kd
theorem draw_ok(hP:xV ng P=true)(hmix:P.follows .mixedOrders=true):DrawOK P ng:=by
 intro lo hS id ops cx t w k hx
 have hx':(match plan ops with
  | some l=>xdraw P lo cx ops l t w [w] [] k
  | none=>false)=true:=hx
 cases hpl:plan ops with
 | none=>rw [hpl]at hx';cases hx'
 | some L=>
  rw[hpl]at hx';exact drew_ok hP hmix hpl (xdraw_ok hP hS L t w [w] [] k (plan_kd hpl) hx') id
end
section
variable {P:Program} {ng:Nat}
theorem HeapR.stay{ρ : Inj}{base:Nat}{w0:World}{h:zH}{n:Nat}{wd wd':World}(r:HeapR P ng ρ base w0 h n wd)(hb:Go.RowKit.Below wd.heap.size wd wd'):HeapR P ng ρ base w0 h n wd'∧Grow ρ h n wd ρ h n wd':=by
 have hlt:∀{c:Nat} {o:Obj},wd.heap[c]? = some o→c<wd.heap.size:=by
  intro c o e;rcases Nat.lt_or_ge c wd.heap.size with h3|h3
  · exact h3
  · rw[Array.getElem?_eq_none h3]at e;cases e
 refine⟨⟨r.dom,fun b B e hl=>?_,r.inj,r.below.trans ⟨hb.os,hb.tape,hb.output,hb.size,fun k hk=>hb.block k (by have:=r.size;omega)⟩,by have:=hb.size;have:=r.size;omega,r.glob,r.ngn⟩,⟨Nat.le_refl _,fun _ _=>rfl,fun b B h1 e=>(by rw[r.dom b h1]at e;cases e),fun c hc _=>hb.block c hc,hb.size,fun _ _ e=>e,hb.tape⟩⟩;obtain⟨o,q1,q2⟩:=r.obj b B e hl;exact⟨o,by rw[hb.block _ (hlt q1)];exact q1,q2⟩
noncomputable def finV(v:Value):KO:=fun o _ _ _=>Out.rec (fun x=>scalB x v) (fun _=>false) o
theorem finV_ret{v:Value}{o:Out}{u:Option yF}{h:zH}{n:Nat}(hf:finV v o u h n=true):o = .ret v:=by
 cases o with
 | ret x=>rw [scalB_eq (v:=x) (v':=v) hf]
 | panic c=>cases hf
def oF(w:World)(tabs:List (Nat×List Value)):Prop:=∀p∈tabs,∃el fr,w.heap[p.1]? = some (.cells ⟨p.2⟩ el fr)
end
section
variable {P:Program} {ng:Nat}
end
structure Rsl where
 v:Value
 h:zH
 n:Nat
structure Once where
 f:FuncId
 args:List Value
 h:zH
 n:Nat
 r:Rsl
inductive Ty where
 | any
 | val
 | int (k:IntKind)
 | bool
noncomputable def tyOf(P:Program)(t:TypeId):Ty:=
 match und P t with
 | some (.int k)=>.int k
 | some .bool=>.bool
 | _=>.any
noncomputable def fi(x:Int)(K:Int→Bool):Bool:=Int.rec (fun m=>K (.ofNat m)) (fun m=>K (.negSucc m)) x
noncomputable def fb(x:Bool)(K:Bool→Bool):Bool:=Bool.rec (K false) (K true) x
noncomputable def fn(x:Nat)(K:Nat→Bool):Bool:=Nat.rec (K 0) (fun m _=>K (Nat.succ m)) x
noncomputable def opt{α : Type}(x:Option α)(K: α→Bool):Bool:=Option.rec false K x
noncomputable abbrev yPut(t:Fr)(i:Nat)(v:Value)(k:Fr→Bool):Bool:=
 Tr.Pa.rec (motive:=fun _=>Fr→(Fr→Bool)→Bool)
  (fun t k=>Tr.rec (k (.nD .lF v .lF)) (fun l _ r _ _=>k (.nD l v r)) t)
  (fun _ ih t k=>Tr.rec (ih .lF fun l=>k (.nD l undef .lF)) (fun l w r _ _=>ih l fun l=>k (.nD l w r)) t)
  (fun _ ih t k=>Tr.rec (ih .lF fun r=>k (.nD .lF undef r)) (fun l w r _ _=>ih r fun r=>k (.nD l w r)) t) (Tr.pa (Nat.succ i) i) t k
noncomputable abbrev yPutO(t:Fr)(dst:Option Tmp)(v:Value)(k:Fr→Bool):Bool:=Option.rec (k t) (fun i=>yPut t i v k) dst
noncomputable def gt(b:Bool)(x:Bool):Bool:=Bool.rec false x b
noncomputable def rtI(kd:IntKind)(v:Value)(K:Int→Bool):Bool:=onInt v (fun k a=>Bool.rec false (K a) (uI k kd)) false
noncomputable def rtB(v:Value)(K:Bool→Bool):Bool:=wV v K false
noncomputable abbrev rtS(T:Ty)(v:Value)(K:Value→Bool):Bool:=
 Ty.rec (motive:=fun _=>Value→(Value→Bool)→Bool) (fun v K=>K v) (fun v K=>zL v K) (fun kd v K=>rtI kd v fun a=>K (.int kd a)) (fun v K=>rtB v fun b=>K (.bool b)) T v K
abbrev KH:=zH→Nat→Value→Bool
abbrev KC:=yF→zH→Nat→Bool
noncomputable def qBin(P:Program)(op:BinOp)(ty:TypeId)(q:Bool)(x y:Value):Option Value:=
 aBin P op ty (Bool.rec (.func 0) (.const undef) q) (.func 0) x y
noncomputable def xY(f:Int→Int→Int)(P:Program)(op:BinOp)(ty:TypeId)(q:Bool)(x y:Value)(K:Value→Bool):Bool:=
 onInt x (fun k1 a=>onInt y (fun k2 b=>Bool.rec false (fi (wH k1 (f a b)) fun c=>K (.int k1 c)) (uI k1 k2)) (opt (qBin P op ty q x y) K)) (opt (qBin P op ty q x y) K)
noncomputable def yB(f:Int→Int→Bool)(P:Program)(op:BinOp)(ty:TypeId)(q:Bool)(x y:Value)(K:Bool→Bool):Bool:=
 onInt x (fun k1 a=>onInt y (fun k2 b=>Bool.rec false (fb (f a b) fun c=>K c) (uI k1 k2)) (opt (qBin P op ty q x y) fun v=>rtB v fun c=>K c)) (opt (qBin P op ty q x y) fun v=>rtB v fun c=>K c)
noncomputable abbrev yCmp(f:Int→Int→Bool)(P:Program)(op:BinOp)(ty:TypeId)(q:Bool)(x y:Value)(K:Value→Bool):Bool:=yB f P op ty q x y fun c=>K (.bool c)
noncomputable def yOther(P:Program)(op:BinOp)(ty:TypeId)(q:Bool)(x y:Value)(K:Value→Bool):Bool:=
 onInt x (fun k1 _=>opt (qBin P op ty q x y) fun v=>rtI k1 v fun c=>K (.int k1 c)) (opt (qBin P op ty q x y) K)
noncomputable abbrev yBin(P:Program)(op:BinOp)(ty:TypeId)(q:Bool)(x y:Value)(K:Value→Bool):Bool:=
 BinOp.rec (motive:=fun _=>Program→TypeId→Bool→Value→Value→(Value→Bool)→Bool)
  (fun P ty q x y K=>xY uF P .add ty q x y K)
  (fun P ty q x y K=>xY isub P .sub ty q x y K)
  (fun P ty q x y K=>xY Int.mul P .mul ty q x y K)
  (fun P ty q x y K=>yOther P .quo ty q x y K)
  (fun P ty q x y K=>yOther P .rem ty q x y K)
  (fun P ty q x y K=>yOther P .and ty q x y K)
  (fun P ty q x y K=>yOther P .or ty q x y K)
  (fun P ty q x y K=>yOther P .xor ty q x y K)
  (fun P ty q x y K=>yOther P .shl ty q x y K)
  (fun P ty q x y K=>yOther P .shr ty q x y K)
  (fun P ty q x y K=>yOther P .andNot ty q x y K)
  (fun P ty q x y K=>yCmp xN P .eql ty q x y K)
  (fun P ty q x y K=>yCmp (fun a b=>Bool.rec true false (xN a b)) P .neq ty q x y K)
  (fun P ty q x y K=>yCmp wB P .lss ty q x y K)
  (fun P ty q x y K=>yCmp sQ P .leq ty q x y K)
  (fun P ty q x y K=>yCmp (fun a b=>wB b a) P .gtr ty q x y K)
  (fun P ty q x y K=>yCmp (fun a b=>sQ b a) P .geq ty q x y K) op P ty q x y K
noncomputable def zE(P:Program)(ty:TypeId)(h:zH)(v:Value):Option Value:=
 onPtr v (fun b off=>onRows (yG h b) (fun c kn=>
  Sh.rec none (Bool.rec none (zL (Tr.get undef c off) some) (Nat.blt off kn))
   (fun sz=>Bool.rec none (some (.agg ⟨c.toListFrom undef off sz⟩)) (Nat.ble (Nat.add off sz) kn)) (yJ P ty)) (fun c kn=>
  Sh.rec none (Bool.rec none (pX (Tr.get undef c off)) (Nat.blt off kn))
   (fun sz=>Bool.rec none (pY (c.toListFrom undef off sz)) (Nat.ble (Nat.add off sz) kn)) (yJ P ty)) none) none
noncomputable abbrev yLoad(P:Program)(ty:TypeId)(T:Ty)(h:zH)(v:Value)(K:Value→Bool):Bool:=opt (zE P ty h v) fun x=>rtS T x K
def qY(v:Value):Option Value:=
 match v with
 | .pointer (some p)=>some (.pointer (some p))
 | .func (.func f) fs cs=>some (.func (.func f) fs cs)
 | .func (.yield f) fs cs=>some (.func (.yield f) fs cs)
 | .map r=>some (.map r)
 | .slice p i c=>some (.slice p i c)
 | _=>none
noncomputable def zB(P:Program)(ty:TypeId)(f:Nat)(v:Value):Option Value:=
 onPtr v (fun b off=>Option.rec none (fun o=>some (.pointer (some ⟨b,Nat.add off o,none⟩))) (offOf P ty f)) none
noncomputable def zR(P:Program)(ty:TypeId)(v ix:Value):Option Value:=
 onInt ix (fun _ i=>Int.rec (fun i=>Ix.rec none
  (fun sz=>onSlice v (fun b off len _=>Bool.rec none (some (.pointer (some ⟨b,Nat.add off (Nat.mul i sz),none⟩))) (Nat.blt i len)) none)
  (fun len sz=>onPtr v (fun b off=>Bool.rec none (some (.pointer (some ⟨b,Nat.add off (Nat.mul i sz),none⟩))) (Nat.blt i len)) none) (ixOf P ty)) (fun _=>none) i) none
noncomputable def qMakeIface(P:Program)(ty:TypeId)(v:Value):Option Value:=
 match und P ty with
 | some (.interface _)=>none
 | some _=>zL v fun v=>some (.iface ty v)
 | none=>none
noncomputable def xO(i:Nat)(v:Value):Option Value:=
 match v with
 | .tuple vs=>Option.rec none (fun v=>zL v some) (vs.toList[i]?)
 | _=>none
noncomputable def qConvert(P:Program)(src dst:TypeId)(v:Value):Option Value:=
 match und P src with
 | some _=>aConvert P dst v
 | none=>none
noncomputable def tZ(P:Program)(el:TypeId)(h:zH)(n:Nat)(K:KH):Bool:=
 opt (wU P el) fun z=>xB h n (uG (cellsOf z) el) fun h' n'=>K h' n' (.pointer (some ⟨n,0,none⟩))
noncomputable def eBox(v:Value)(h:zH)(n:Nat)(K:KH):Bool:=
 uP .lF 0 (cellsOf v) fun c=>xB h n (.cells c (cellsOf v).length 0 0) fun h' n'=>K h' n' (.pointer (some ⟨n,0,none⟩))
noncomputable def zS(P:Program)(ty:TypeId)(len:Nat)(parts:List (Nat×Value))(h:zH)(n:Nat)(K:KH):Bool:=
 opt (xP P ty len parts) fun ob=>xB h n ob fun h' n'=>K h' n' (.slice (some ⟨n,0,none⟩) len len)
noncomputable def zW(P:Program)(ty:TypeId)(p v:Value)(h:zH)(n:Nat)(K:KH):Bool:=
 onPtr p (fun b off=>Sh.rec false
  (Bool.rec false (storeAt h b off (cellsOf v) fun h'=>K h' n undef) (Nat.beq (cellsOf v).length 1))
  (fun sz=>Bool.rec false (storeAt h b off (cellsOf v) fun h'=>K h' n undef) (Nat.beq (cellsOf v).length sz)) (yJ P ty)) false
noncomputable def eMakeMap(h:zH)(n:Nat)(K:KH):Bool:=xB h n (.map [] 0) fun h' n'=>K h' n' (.map (some n))
noncomputable def eMakeSlice(P:Program)(ty:TypeId)(l c:Value)(h:zH)(n:Nat)(K:KH):Bool:=
 opt (rI P ty l c) fun p=>xB h n p.1 fun h' n'=>K h' n' (.slice (some ⟨n,0,none⟩) p.2.1 p.2.2)
noncomputable def eMapSet(P:Program)(ty:TypeId)(m key v:Value)(h:zH)(n:Nat)(K:KH):Bool:=sK P ty m key v h fun h=>K h n undef
noncomputable def wD(P:Program)(tys:List TypeId)(args:List Value)(h:zH)(n:Nat)(K:KH):Bool:=pQ P tys args h n fun v h n=>K h n v
noncomputable def eClear(P:Program)(tys:List TypeId)(args:List Value)(h:zH)(n:Nat)(K:KH):Bool:=xclear P tys args h fun h=>K h n (.tuple #[])
noncomputable abbrev eCall(lo:Lo)(T:Ty)(g:FuncId)(args:List Value)(h:zH)(n:Nat)(K:KH)(Kp:KC):Bool:=
 lo.call g args false none h n fun o _ h n=>Out.rec (fun v=>rtS T v (K h n)) (fun c=>Kp c h n) o
noncomputable abbrev eInvoke(lo:Lo)(T:Ty)(f:Value)(args:List Value)(h:zH)(n:Nat)(K:KH)(Kp:KC):Bool:=
 qW lo f args h n (fun v h n=>rtS T v (K h n)) (fun c h n=>Kp c h n)
noncomputable def ePanic(v:Value)(h:zH)(n:Nat)(Kp:KC):Bool:=
 match v with
 | .iface ty v=>Kp [⟨.iface ty v,false,false⟩] h n
 | _=>false
noncomputable abbrev yFn(f:Fn)(K:FuncId→Bool):Bool:=
 match f with
 | .func f=>K f
 | _=>false
noncomputable abbrev yBuiltin(b:Builtin)(T:Ty)(P:Program)(tys:List TypeId)(args:List Value)(h:zH)(n:Nat)(K:KH):Bool:=
 match b with
 | .append=>wD P tys args h n K
 | .clear=>eClear P tys args h n K
 | .len=>opt (zX P .len tys args h) fun v=>rtS T v (K h n)
 | .cap=>opt (zX P .cap tys args h) fun v=>rtS T v (K h n)
 | .max=>opt (zX P .max tys args h) fun v=>rtS T v (K h n)
 | .min=>opt (zX P .min tys args h) fun v=>rtS T v (K h n)
 | _=>false
noncomputable abbrev yOp(o:Op)(T:Ty)(P:Program)(lo:Lo)(t:Fr)(h:zH)(n:Nat)(K:KH)(Kp:KC):Bool:=
 Op.rec (motive:=fun _=>Ty→Program→Lo→Fr→zH→Nat→KH→KC→Bool)
  (fun x _ _ _ t h n K _=>K h n (ev t x))
  (fun x _ _ _ t h n K _=>K h n (ev t x))
  (fun c x y T _ _ t h n K _=>wV (ev t c) (fun b=>rtS T (Bool.rec (ev t y) (ev t x) b) (K h n)) false)
  (fun el _ P _ _ h n K _=>tZ P el h n K)
  (fun _ x _ _ _ t h n K _=>eBox (ev t x) h n K)
  (fun ty parts _ P _ t h n K _=>opt (uZ P ty (parts.toList.map fun p=>(p.1,ev t p.2))) (K h n))
  (fun ty len parts _ P _ t h n K _=>zS P ty len (parts.toList.map fun p=>(p.1,ev t p.2)) h n K)
  (fun ty m key v _ P _ t h n K _=>eMapSet P ty (ev t m) (ev t key) (ev t v) h n K)
  (fun ty x T P _ t h n K _=>yLoad P ty T h (ev t x) (K h n))
  (fun ty x v _ P _ t h n K _=>zW P ty (ev t x) (ev t v) h n K)
  (fun _ _ _ _ _ _ _ _ _=>false) (fun _ _ _ _ _ _ _ _ _=>false)
  (fun x _ _ _ t h n K _=>opt (qY (ev t x)) (K h n))
  (fun op ty x y _ _ P _ t h n K _=>yBin P op ty (wX x || wX y) (ev t x) (ev t y) (K h n))
  (fun op _ x T _ _ t h n K _=>opt (aUn op (ev t x)) fun v=>rtS T v (K h n))
  (fun src dst x T P _ t h n K _=>opt (qConvert P src dst (ev t x)) fun v=>rtS T v (K h n))
  (fun _ _ _ _ _ _ _ _ _ _=>false)
  (fun ty x _ P _ t h n K _=>opt (qMakeIface P ty (ev t x)) (K h n))
  (fun f first cap _ _ _ t h n K _=>yFn f (fun f=>K h n (.func (.func f) ⟨first.toList.map (ev t)⟩ ⟨cap.toList.map (ev t)⟩)))
  (fun _ r _ _ _ _ h n K _=>Option.rec (eMakeMap h n K) (fun _=>false) r)
  (fun _ _ _ _ _ _ _ _ _ _=>false)
  (fun ty l c _ P _ t h n K _=>eMakeSlice P ty (ev t l) (ev t c) h n K)
  (fun ty x lo hi mx _ P _ t h n K _=>opt (uJ P h ty (ev t x) (lo.map (ev t)) (hi.map (ev t)) (mx.map (ev t))) (K h n))
  (fun ty x f _ P _ t h n K _=>opt (zB P ty f (ev t x)) (K h n))
  (fun ty x f T P _ t h n K _=>opt (aField P ty (ev t x) f) fun v=>rtS T v (K h n))
  (fun ty x ix _ P _ t h n K _=>opt (zR P ty (ev t x) (ev t ix)) (K h n))
  (fun ty x ix T P _ t h n K _=>opt (rF P ty (ev t x) (ev t ix)) fun v=>rtS T v (K h n))
  (fun ty x key ok T P _ t h n K _=>opt (aLookup P h ty (ev t x) (ev t key) ok) fun v=>rtS T v (K h n))
  (fun ty m key v _ P _ t h n K _=>eMapSet P ty (ev t m) (ev t key) (ev t v) h n K)
  (fun _ _ _ _ _ _ _ _ _ _ _=>false) (fun _ _ _ _ _ _ _ _ _ _ _ _=>false) (fun _ _ _ _ _ _ _ _ _ _=>false) (fun _ _ _ _ _ _ _ _ _ _=>false) (fun _ _ _ _ _ _ _ _ _=>false)
  (fun x _ asserted ok _ P _ t h n K _=>opt (qV P (ev t x) asserted ok) (K h n))
  (fun x i T _ _ t h n K _=>opt (xO i (ev t x)) fun v=>rtS T v (K h n))
  (fun c T P lo t h n K Kp=>Call.rec (fun callee args tys=>Callee.rec
   (fun f=>Operand.rec (fun i=>eInvoke lo T (zA t i) (args.toList.map (ev t)) h n K Kp) (fun v=>eInvoke lo T v (args.toList.map (ev t)) h n K Kp) (fun _=>false)
    (fun g=>eCall lo T g (args.toList.map (ev t)) h n K Kp) f)
   (fun _ _=>false)
   (fun b=>yBuiltin b T P tys.toList (args.toList.map (ev t)) h n K) callee) c)
  (fun _ _ _ _ _ _ _ _ _=>false) (fun _ _ _ _ _ _ _ _ _=>false)
  (fun x _ _ _ t h n _ Kp=>ePanic (ev t x) h n Kp)
  (fun _ _ _ _ _ _ _ _ _ _=>false) (fun _ _ _ _ _ _ _ _ _ _ _=>false) (fun _ _ _ _ _ _ _ _ _ _=>false) o T P lo t h n K Kp
noncomputable def full(F:Nat):(Nat→Value)→Nat→Fr:=
 Nat.rec (motive:=fun _=>(Nat→Value)→Nat→Fr) (fun _ _=>.lF)
  (fun _ ih f n=>Nat.rec .lF (fun m _=>.nD (ih (fun i=>f (Nat.succ (Nat.add i i))) (Nat.div (Nat.succ m) 2)) (f 0) (ih (fun i=>f (Nat.succ (Nat.succ (Nat.add i i)))) (Nat.div m 2))) n) F
noncomputable abbrev rtGo(l:List Ty)(i:Nat)(t t':Fr)(K:Fr→Bool):Bool:=
 List.rec (motive:=fun _=>Nat→Fr→Fr→(Fr→Bool)→Bool) (fun _ _ t' K=>K t')
  (fun T _ ih i t t' K=>Ty.rec (motive:=fun _=>Bool) (ih (Nat.succ i) t t' K) (zL (zA t i) fun v=>yPut t' i v fun t'=>ih (Nat.succ i) t t' K)
   (fun kd=>rtI kd (zA t i) fun a=>yPut t' i (.int kd a) fun t'=>ih (Nat.succ i) t t' K)
   (rtB (zA t i) fun b=>yPut t' i (.bool b) fun t'=>ih (Nat.succ i) t t' K) T) l i t t' K
noncomputable abbrev rt(N:Nat)(l:List Ty)(t:Fr)(K:Fr→Bool):Bool:=rtGo l 0 t (full N (zA t) N) K
noncomputable abbrev onW(w:W)(f:List Deferred→Option yF→zH→Nat→Bool):Bool:=W.rec f w
abbrev rD:=Nat→FuncId→Nat→List Ty
abbrev KN:=Fr→W→Bool
noncomputable def ntmX(P:Program)(f:FuncId):Nat:=Option.rec 0 (fun fn=>fn.ntmps) (Tr.get none (fnT P) f)
noncomputable abbrev meet(P:Program)(hint:rD)(kind:Nat)(f:FuncId)(id:Nat)(kn:KN):KN:=
 fun t w=>rt (ntmX P f) (hint kind f id) t fun t=>onW w fun d u h n=>kn t ⟨d,u,h,n⟩
noncomputable def pR(c:Code):Nat:=
 Option.rec 0 (fun x=>x) (Code.rec (motive:=fun _=>Option Nat) none (fun id _ _=>some id) (fun _ _ a b=>Option.rec b some a) (fun _ _ _ a b=>Option.rec b some a) (fun _ _ a=>a) (fun _ a=>Option.rec none (fun x=>some (Nat.add x 1000000)) a)
  (fun _ _ _ _ a b=>Option.rec b some a) (fun _=>none) (fun _ a=>a) (fun _=>none) (fun _=>none) none (fun _=>none) c)
noncomputable def endsB(c:Code):Bool:=
 Code.rec (motive:=fun _=>Bool) true (fun _ _ _=>true) (fun _ _ a b=>Bool.rec false b a) (fun _ _ _ a b=>Bool.rec b true a) (fun _ _ _=>true) (fun _ _=>false)
  (fun _ _ _ _ _ _=>true) (fun _=>false) (fun _ a=>a) (fun _=>true) (fun _=>false) false (fun _=>false) c
noncomputable def plainC(c:Code):Bool:=
 Code.rec (motive:=fun _=>Bool) true (fun _ _ _=>true) (fun _ _ a b=>Bool.rec false b a) (fun _ ca cb a b=>Bool.rec false (Bool.rec false (Bool.rec true (Bool.rec true false (endsB cb)) (endsB ca)) b) a) (fun _ _ _=>false) (fun _ _=>false)
  (fun _ _ _ _ _ _=>false) (fun _=>true) (fun _ _=>false) (fun _=>true) (fun _=>true) true (fun _=>true) c
noncomputable def vC(c:Code):Bool:=
 Code.rec (motive:=fun _=>Bool) false (fun _ _ _=>false) (fun _ _ _ _=>false) (fun _ _ _ _ _=>false) (fun _ _ _=>false) (fun _ _=>true)
  (fun _ _ _ _ _ _=>false) (fun _=>false) (fun _ _=>false) (fun _=>false) (fun _=>false) false (fun _=>false) c
noncomputable def br(z:Bool)(a b:Bool):Bool:=Bool.rec b a z
noncomputable def brJ(z:Bool)(A B:KN→Bool)(kn:KN):Bool:=Bool.rec (B kn) (A kn) z
noncomputable def pM(A:KN→Bool)(kn:KN):Bool:=A kn
noncomputable def pI(id:Nat)(kn:KN)(ka:KX):KX:=
 fun x t w=>AX.rec (kn t w) (fun i=>Bool.rec (ka (.exit i) t w) (kn t w) (Nat.beq i id)) (fun i=>ka (.goto i) t w) (ka .ret t w) (fun c=>ka (.panic c) t w) x
noncomputable def pH(kn:KN)(ka:KX):KX:=
 fun x t w=>AX.rec (kn t w) (fun i=>ka (.exit i) t w) (fun i=>ka (.goto i) t w) (ka .ret t w) (fun c=>ka (.panic c) t w) x
noncomputable def scpA(ka:KX):KX:=
 fun x t w=>AX.rec (ka .normal t w) (fun i=>ka (.exit i) t w) (fun _=>false) (ka .ret t w) (fun c=>ka (.panic c) t w) x
noncomputable def noK:KN:=fun _ _=>false
abbrev LP:=Nat→Cx→Fr→W→KX→Bool
noncomputable def grd(b:Bool)(dop:KH→Bool)(kv:KH)(h:zH)(n:Nat):Bool:=Bool.rec (kv h n undef) (dop kv) b
noncomputable def nt(b:Bool):Bool:=Bool.rec true false b
noncomputable def gv(v:Value):Bool:=wV v (fun z=>z) false
noncomputable def gnv(v:Value):Bool:=wV v nt false
noncomputable abbrev wnt(all:Array Oper)(t:Fr)(g:Nat)(b:Bool):Bool:=
 Option.rec false (fun d=>Bool.rec (gnv (zA t d)) (gv (zA t d)) b) (dstOf all g)
noncomputable abbrev yOps(P:Program)(lo:Lo)(all:Array Oper)(l:List Oper)(t:Fr)(d:List Deferred)(u:Option yF)(h:zH)(n:Nat)(kn:KN)(ka:KX):Bool:=
 List.rec (motive:=fun _=>Program→Lo→Array Oper→Fr→List Deferred→Option yF→zH→Nat→KN→KX→Bool)
  (fun _ _ _ t d u h n kn _=>kn t ⟨d,u,h,n⟩)
  (fun o _ ih P lo all t d u h n kn ka=>
   Option.rec
    (yOp o.op (tyOf P o.type) P lo t h n (fun h n v=>yPutO t o.dst v fun t=>ih P lo all t d u h n kn ka) fun c h n=>ka (.panic c) t ⟨d,u,h,n⟩)
    (fun g=>grd (wnt all t g.1 g.2) (fun kv=>yOp o.op (tyOf P o.type) P lo t h n kv fun c h n=>ka (.panic c) t ⟨d,u,h,n⟩)
     (fun h n v=>yPutO t o.dst v fun t=>ih P lo all t d u h n kn ka) h n) o.guard) l P lo all t d u h n kn ka
structure Lk where
 g:Bool
 f:W→Bool
 low:Nat
 high:Nat
noncomputable def sameO(v:Value)(o:Option Value):Bool:=opt o fun x=>qH x v
noncomputable def lkQ(q:zH→Option Value)(p v:Value)(w:W):Bool:=gt (blkLt w.n p) (sameO v (q w.h))
noncomputable def lkHd(l:List Value):Value:=List.rec undef (fun v _ _=>v) l
noncomputable abbrev lkOf(o:Op)(P:Program)(t:Fr)(v:Value):W→Bool:=
 match o with
 | .load ty x=>lkQ (fun h=>zE P ty h (ev t x)) (ev t x) v
 | .lookup ty x key ok=>lkQ (fun h=>aLookup P h ty (ev t x) (ev t key) ok) (ev t x) v
 | .slice ty x lo hi mx=>lkQ (fun h=>uJ P h ty (ev t x) (lo.map (ev t)) (hi.map (ev t)) (mx.map (ev t))) (ev t x) v
 | .call ⟨.builtin b,args,tys⟩=>lkQ (fun h=>zX P b tys.toList (args.toList.map (ev t)) h) (lkHd (args.toList.map (ev t))) v
 | _=>fun _=>false
noncomputable def lkOne(l:Lk)(k:Nat)(hs:List W):Bool:=
 List.rec (motive:=fun _=>Nat→Bool) (fun _=>true)
  (fun w _ ih k=>gt (Bool.rec true (gt (l.f w) true) (Nat.ble l.low (Nat.pred k) && Nat.ble (Nat.pred k) l.high)) (ih (Nat.pred k))) hs k
noncomputable def lks(hs:List W)(ls:List Lk):Bool:=
 List.rec (motive:=fun _=>Bool) true (fun l _ ih=>gt (Bool.rec true (lkOne l hs.length hs) l.g) ih) ls
noncomputable abbrev gOf(all:Array Oper)(t:Fr)(g:Option (Nat×Bool)):Bool:=Option.rec true (fun g=>wnt all t g.1 g.2) g
noncomputable abbrev yDraw(P:Program)(lo:Lo)(all:Array Oper)(l:List DOp)(t:Fr)(d:List Deferred)(u:Option yF)(h:zH)(n:Nat)(hs:List W)(ls:List Lk)(kn:KN)(ka:KX):Bool:=
 List.rec (motive:=fun _=>Program→Lo→Array Oper→Fr→List Deferred→Option yF→zH→Nat→List W→List Lk→KN→KX→Bool)
  (fun _ _ _ t d u h n hs ls kn _=>gt (lks hs ls) (kn t ⟨d,u,h,n⟩))
  (fun x _ ih P lo all t d u h n hs ls kn ka=>
   (fun(kv:KH) (kp:KC)=>Option.rec (yOp x.o.op (tyOf P x.o.type) P lo t h n kv kp)
    (fun g=>grd (wnt all t g.1 g.2) (fun kv=>yOp x.o.op (tyOf P x.o.type) P lo t h n kv kp) kv h n) x.o.guard)
    (Bool.rec
     (fun h n v=>yPutO t x.o.dst v fun t'=>ih P lo all t' d u h n hs
      (Bool.rec ls (Bool.rec (⟨gOf all t x.o.guard,lkOf x.o.op P t v,x.low,x.high⟩::ls) ls (Nat.beq x.low x.high)) (Nat.beq x.kd 1)) kn ka)
     (fun h' n' v=>gt (Nat.ble n n') (yPutO t x.o.dst v fun t'=>ih P lo all t' d u h' n' (⟨d,u,h',n'⟩::hs) ls kn ka)) (Nat.beq x.kd 3))
    (fun c h n=>Bool.rec false (gt (lks hs ls) (ka (.panic c) t ⟨d,u,h,n⟩)) (Nat.beq x.kd 3 && x.solo))) l P lo all t d u h n hs ls kn ka
noncomputable abbrev yDrawn(P:Program)(lo:Lo)(ops:Array Oper)(t:Fr)(d:List Deferred)(u:Option yF)(h:zH)(n:Nat)(kn:KN)(ka:KX):Bool:=
 Option.rec false (fun l=>yDraw P lo ops l t d u h n [⟨d,u,h,n⟩] [] kn ka) (plan ops)
noncomputable def yRange(lo:Lo)(f:Value)(params:Array Tmp)(assign body:Code)(cx:Cx)(t:Fr)(d:List Deferred)(u:Option yF)(h:zH)(n:Nat)(k:KX):Bool:=
 match cx.round with
 | none=>xB h n (.deferred true) fun h' n'=>xrange lo (.const f) params assign body cx t ({ target:=.collected n,args:= #[] }::d) u h' n' n k
 | some l=>match yG h l with
  | .loop ll _=>xrange lo (.const f) params assign body cx t d u h n ll.defers k
  | _=>false
noncomputable abbrev yCode(P:Program)(hint:rD)(lo:Lo)(lp:LP)(c:Code):Cx→Fr→W→KN→KX→Bool:=
 Code.rec (motive:=fun _=>Program→rD→Lo→LP→Cx→Fr→W→KN→KX→Bool)
  (fun _ _ _ _ _ t w kn _=>kn t w)
  (fun _ ops draw P _ lo _ _ t w kn ka=>onW w fun d u h n=>Bool.rec (yOps P lo ops ops.toList t d u h n kn ka) (yDrawn P lo ops t d u h n kn ka) draw)
  (fun _ _ iha ihb P hint lo lp cx t w kn ka=>iha P hint lo lp cx t w (fun t w=>ihb P hint lo lp cx t w kn ka) ka)
  (fun c a b iha ihb P hint lo lp cx t w kn ka=>wV (ev t c) (fun z=>
   Bool.rec (brJ z (fun kk=>iha P hint lo lp cx t w kk ka) (fun kk=>ihb P hint lo lp cx t w kk ka) (meet P hint 2 cx.fn (pR (.seq a b)) kn))
    (br z (iha P hint lo lp cx t w kn ka) (ihb P hint lo lp cx t w kn ka))
    (plainC a && plainC b && nt (endsB a && endsB b))) false)
  (fun id b ih P hint lo lp cx t w kn ka=>
   Bool.rec (pM (fun kk=>ih P hint lo lp cx t w kk (pI id kk ka)) (meet P hint 1 cx.fn id kn)) (ih P hint lo lp cx t w (meet P hint 1 cx.fn id kn) (pI id (meet P hint 1 cx.fn id kn) ka)) (vC b))
  (fun b _ _ _ _ lp cx t w _ ka=>lp (pR (.loop b)) cx t w (pH noK ka))
  (fun f params assign body _ _ P hint lo _ cx t w kn ka=>onW w fun d u h n=>yRange lo (ev t f) params assign body cx t d u h n (pH (meet P hint 3 cx.fn (pR body) kn) ka))
  (fun id _ _ _ _ _ t w _ ka=>ka (.exit id) t w)
  (fun _ ih P hint lo lp cx t w kn ka=>ih P hint lo lp cx t w kn (scpA ka))
  (fun _ _ _ _ _ _ t w kn _=>kn t w)
  (fun l _ _ _ _ _ t w _ ka=>ka (.goto l) t w)
  (fun _ _ _ _ _ t w _ ka=>ka .ret t w)
  (fun _ _ _ _ _ _ _ _ _ _=>false)
  c P hint lo lp
noncomputable abbrev yLoop(P:Program)(hint:rD)(lo:Lo)(lp:LP)(b:Code)(cx:Cx)(t:Fr)(w:W)(ka:KX):Bool:=
 rt (ntmX P cx.fn) (hint 0 cx.fn (pR (.loop b))) t fun t=>onW w fun d u h n=>yCode P hint lo lp b cx t ⟨d,u,h,n⟩ (fun t w=>lp (pR (.loop b)) cx t w ka) ka
noncomputable def zJ(P:Program)(lo:Lo)(f:FuncId)(k:KO):KX:=
 fun x t w=>opt (rU P f) fun fb=>AX.rec (sC P lo fb.1 none t w k) (fun _=>false) (fun _=>false) (sC P lo fb.1 none t w k) (fun c=>sC P lo fb.1 (some c) t w k) x
noncomputable abbrev argsGo(l:List Ty)(args:List Value)(i:Nat)(t:Fr)(K:Fr→Bool):Bool:=
 List.rec (motive:=fun _=>List Ty→Nat→Fr→(Fr→Bool)→Bool) (fun _ _ t K=>K t)
  (fun v _ ih l i t K=>List.rec (yPut t i v fun t=>ih [] (Nat.succ i) t K) (fun T r _=>rtS T v fun v=>yPut t i v fun t=>ih r (Nat.succ i) t K) l) args l i t K
noncomputable abbrev yCall(P:Program)(hint:rD)(lo:Lo)(lp:LP)(f:FuncId)(args:List Value)(df:Bool)(u:Option yF)(h:zH)(n:Nat)(k:KO):Bool:=
 opt (rU P f) fun fb=>Bool.rec false (argsGo (hint 4 f 0) args 0 (full (ntmX P f) (fun _=>undef) (ntmX P f)) fun t=>
  yCode P hint lo lp fb.2 ⟨f,none,df⟩ t ⟨[],u,h,n⟩ (fun t w=>zJ P lo f k .ret t w) (zJ P lo f k)) (Nat.ble args.length (ntmX P f))
noncomputable def vQ(c:Code):List Code:=
 Code.rec (motive:=fun _=>List Code) [] (fun _ _ _=>[]) (fun _ _ a b=>a++b) (fun _ _ _ a b=>a++b) (fun _ _ a=>a) (fun b a=>.loop b::a)
  (fun _ _ _ _ a b=>a++b) (fun _=>[]) (fun _ a=>a) (fun _=>[]) (fun _=>[]) [] (fun _=>[]) c
noncomputable def findC(i:Nat)(l:List Code):Code:=List.rec .skip (fun c _ ih=>Bool.rec ih c (Nat.beq (pR c) i)) l
noncomputable def yZ(P:Program)(f:FuncId)(i:Nat):Code:=Option.rec .skip (fun fb=>findC i (vQ fb.2)) (rU P f)
theorem fi_eq(x:Int)(K:Int→Bool):fi x K=K x:=by cases x <;> rfl
theorem fb_eq(x:Bool)(K:Bool→Bool):fb x K=K x:=by cases x <;> rfl
theorem wE{α : Type}{x:Option α}{K: α→Bool}(h:opt x K=true):∃v,x=some v∧K v=true:=by
 cases x with
 | none=>cases h
 | some v=>exact⟨v,rfl,h⟩
theorem gt_true{b x:Bool}(h:gt b x=true):b=true∧x=true:=by
 cases b with
 | false=>cases h
 | true=>exact⟨rfl,h⟩
theorem rtI_true{kd:IntKind}{v:Value}{K:Int→Bool}(h:rtI kd v K=true):∃a,v = .int kd a∧K a=true:=by
 unfold rtI at h
 cases v with
 | int k a =>
  have h':(Bool.rec false (K a) (uI k kd):Bool)=true:=h
  cases e:uI k kd with
  | false=>rw [e]at h';cases h'
  | true=>
   rw[e]at h';obtain rfl:=rW e;exact⟨a,rfl,h'⟩
 | _=>cases h
theorem rtB_true{v:Value}{K:Bool→Bool}(h:rtB v K=true):∃b,v = .bool b∧K b=true:=by
 unfold rtB at h
 cases v with
 | bool b=>exact⟨b,rfl,h⟩
 | _=>cases h
theorem tO{T:Ty}{v:Value}{K:Value→Bool}(h:rtS T v K=true):K v=true:=by
 cases T with
 | any=>exact h
 | val=>have h':zL v K=true:=h;rwa [wY]at h'
 | int kd=>obtain⟨a,rfl,h2⟩:=rtI_true (K:=fun a=>K (.int kd a)) h;exact h2
 | bool=>obtain⟨a,rfl,h2⟩:=rtB_true (K:=fun b=>K (.bool b)) h;exact h2
theorem asksFirst_q{ox oy ox' oy':Operand}(h:(wX ox || wX oy)=(wX ox' || wX oy'))(x y:Value):sS ox oy x y=sS ox' oy' x y:=by
 unfold sS;split
 · exact h
 · rfl
 · rfl
theorem aBin_q{P:Program}{op:BinOp}{ty:TypeId}{ox oy ox' oy':Operand}(h:(wX ox || wX oy)=(wX ox' || wX oy'))(x y:Value):aBin P op ty ox oy x y=aBin P op ty ox' oy' x y:=by
 unfold aBin;split
 all_goals first
  | rfl
  | (split <;> first|rfl|rw [asksFirst_q h])
theorem qBin_eq(P:Program)(op:BinOp)(ty:TypeId)(ox oy:Operand)(x y:Value):qBin P op ty (wX ox || wX oy) x y=aBin P op ty ox oy x y:=by
 unfold qBin;refine aBin_q ?_ x y;cases h:(wX ox || wX oy) <;> rfl
theorem binV_other{P:Program}{op:BinOp}{ty:TypeId}{ox oy:Operand}{x y:Value}(h:∀a b,¬(∃k1 k2,x = .int k1 a∧y = .int k2 b)):binV P op ty ox oy x y=aBin P op ty ox oy x y:=by
 unfold binV
 cases x with
 | int k1 a=>cases y with
  | int k2 b=>exact absurd ⟨k1,k2,rfl,rfl⟩ (h a b)
  | _=>rfl
 | _=>rfl
theorem binV_ints{P:Program}{op:BinOp}{ty:TypeId}{ox oy:Operand}{k1 k2:IntKind}{a b:Int}:binV P op ty ox oy (.int k1 a) (.int k2 b) =
 (Bool.rec (aBin P op ty ox oy (.int k1 a) (.int k2 b)) (intOp op k1 a b (aBin P op ty ox oy (.int k1 a) (.int k2 b))) (uI k1 k2):Option Value):=rfl
theorem arith_some(kd:IntKind)(c:Int):(Int.rec (fun m=>some (.int kd (.ofNat m))) (fun m=>some (.int kd (.negSucc m))) c:Option Value)=some (.int kd c):=by cases c <;> rfl
theorem yArith_ok{P:Program}{f:Int→Int→Int}{op:BinOp}{ty:TypeId}{ox oy:Operand}{x y:Value}{K:Value→Bool}(hop:∀k a b s,intOp op k a b s=some (.int k (wH k (f a b)))∨(intOp op k a b s=s∧∀ox oy,aBin P op ty ox oy (.int k a) (.int k b)=some (.int k (wH k (f a b)))))
(h:xY f P op ty (wX ox || wX oy) x y K=true):∃v,binV P op ty ox oy x y=some v∧K v=true:=by
 unfold xY at h
 cases x with
 | int k1 a => cases y with
  | int k2 b =>
   have h':(Bool.rec false (fi (wH k1 (f a b)) fun c=>K (.int k1 c)) (uI k1 k2):Bool)=true:=h
   cases e:uI k1 k2 with
   | false=>rw [e]at h';cases h'
   | true=>
    rw[e]at h';have h':(fi (wH k1 (f a b)) fun c=>K (.int k1 c))=true:=h';rw [fi_eq]at h';refine⟨_,?_,h'⟩;rw [binV_ints,e];obtain rfl:=rW e;rcases hop k1 a b (aBin P op ty ox oy (.int k1 a) (.int k1 b)) with h1|⟨h1,h2⟩
    · exact h1
    · exact h1.trans (h2 ox oy)
  | _=>
   obtain⟨v,h1,h2⟩:=wE (show opt _ K=true from h);rw [qBin_eq]at h1;exact⟨v,(binV_other fun a b ⟨k1,k2,e1,e2⟩=>by cases e2).trans h1,h2⟩
 | _=>
  obtain⟨v,h1,h2⟩:=wE (show opt _ K=true from h);rw [qBin_eq]at h1;exact⟨v,(binV_other fun a b ⟨k1,k2,e1,e2⟩=>by cases e1).trans h1,h2⟩
theorem yCmp_ok{P:Program}{f:Int→Int→Bool}{op:BinOp}{ty:TypeId}{ox oy:Operand}{x y:Value}{K:Value→Bool}(hop:∀k a b s,intOp op k a b s=some (.bool (f a b)))
(h:yCmp f P op ty (wX ox || wX oy) x y K=true):∃v,binV P op ty ox oy x y=some v∧K v=true:=by
 unfold yCmp at h
 have rest:∀{x y:Value},(opt (qBin P op ty (wX ox || wX oy) x y) fun v=>rtB v fun c=>K (.bool c))=true→(∀a b,¬(∃k1 k2,x = .int k1 a∧y = .int k2 b))→∃v,binV P op ty ox oy x y=some v∧K v=true:=by
  intro x y h hn;obtain⟨v,h1,h2⟩:=wE h;obtain⟨b,rfl,h3⟩:=rtB_true h2;rw [qBin_eq]at h1;exact⟨_,(binV_other hn).trans h1,h3⟩
 cases x with
 | int k1 a => cases y with
  | int k2 b =>
   have h':(Bool.rec false (fb (f a b) fun c=>K (.bool c)) (uI k1 k2):Bool)=true:=h
   cases e:uI k1 k2 with
   | false=>rw [e]at h';cases h'
   | true=>
    rw[e]at h';have h':(fb (f a b) fun c=>K (.bool c))=true:=h';rw [fb_eq]at h';refine⟨_,?_,h'⟩;rw [binV_ints,e];exact hop _ _ _ _
  | _=>exact rest h fun a b ⟨k1,k2,e1,e2⟩=>by cases e2
 | _=>exact rest h fun a b ⟨k1,k2,e1,e2⟩=>by cases e1
theorem rX{P:Program}{op:BinOp}{ty:TypeId}{ox oy:Operand}{x y:Value}{K:Value→Bool}(hop:∀k a b s,intOp op k a b s=s)
(h:yOther P op ty (wX ox || wX oy) x y K=true):∃v,binV P op ty ox oy x y=some v∧K v=true:=by
 have key:∀v,aBin P op ty ox oy x y=some v→binV P op ty ox oy x y=some v:=by
  intro v hv;by_cases hi:∃k1 a k2 b,x = .int k1 a∧y = .int k2 b
  · obtain⟨k1,a,k2,b,rfl,rfl⟩:=hi;rw [binV_ints]
    cases uI k1 k2 with
    | false=>exact hv
    | true=>exact(hop _ _ _ _).trans hv
  · exact(binV_other fun a b ⟨k1,k2,e1,e2⟩=>hi ⟨k1,a,k2,b,e1,e2⟩).trans hv
 unfold yOther at h
 cases x with
 | int k1 a=>
  have h':(opt (qBin P op ty (wX ox || wX oy) (.int k1 a) y) fun v=>rtI k1 v fun c=>K (.int k1 c))=true:=h;obtain⟨v,h1,h2⟩:=wE h';obtain⟨c,rfl,h3⟩:=rtI_true h2;rw [qBin_eq]at h1;exact⟨_,key _ h1,h3⟩
 | _=>
  obtain⟨v,h1,h2⟩:=wE (show opt _ K=true from h);rw [qBin_eq]at h1;exact⟨v,key _ h1,h2⟩
theorem yBin_ok{P:Program}{op:BinOp}{ty:TypeId}{ox oy:Operand}{x y:Value}{K:Value→Bool}(h:yBin P op ty (wX ox || wX oy) x y K=true):∃v,binV P op ty ox oy x y=some v∧K v=true:=by
 cases op with
 | add=>exact yArith_ok (f:=uF) (fun k a b s=>.inl (arith_some k _)) h
 | sub=>exact yArith_ok (f:=isub) (fun k a b s=>.inl (arith_some k _)) h
 | mul=>exact yArith_ok (f:=Int.mul) (fun k a b s=>.inr ⟨rfl,fun ox oy=>by
  show(cond (uI k k) (aArith .mul k a b) none:Option Value)=_;have:uI k k=true:=by cases k <;> rfl
  rw[this];rfl⟩) h
 | quo=>exact rX (fun _ _ _ _=>rfl) h
 | rem=>exact rX (fun _ _ _ _=>rfl) h
 | and=>exact rX (fun _ _ _ _=>rfl) h
 | or=>exact rX (fun _ _ _ _=>rfl) h
 | xor=>exact rX (fun _ _ _ _=>rfl) h
 | shl=>exact rX (fun _ _ _ _=>rfl) h
 | shr=>exact rX (fun _ _ _ _=>rfl) h
 | andNot=>exact rX (fun _ _ _ _=>rfl) h
 | eql=>exact yCmp_ok (fun _ _ _ _=>rfl) h
 | neq=>exact yCmp_ok (fun _ _ _ _=>rfl) h
 | lss=>exact yCmp_ok (fun _ _ _ _=>rfl) h
 | leq=>exact yCmp_ok (fun _ _ _ _=>rfl) h
 | gtr=>exact yCmp_ok (fun _ _ _ _=>rfl) h
 | geq=>exact yCmp_ok (fun _ _ _ _=>rfl) h
noncomputable def same(d:List Deferred)(u:Option yF)(w:W):Bool:=@decide (w.d=d∧w.u=u) (Classical.propDecidable _)
theorem same_mk(d:List Deferred)(u:Option yF)(h:zH)(n:Nat):same d u ⟨d,u,h,n⟩=true:=by simp[same]
theorem same_true{d:List Deferred}{u:Option yF}{w:W}(h:same d u w=true):w.d=d∧w.u=u:=by simpa [same] using h
section
variable {P:Program} {ng:Nat}
theorem yOp_ok{lo:Lo}(hP:xV ng P=true)(hS:Sound P ng lo){o:Oper}{T:Ty}{t:Fr}{d:List Deferred}{u:Option yF}{h:zH}{n:Nat}{K:KH}{Kp:KC}{cx:Cx}(hx:yOp o.op T P lo t h n K Kp=true) :
 ∃out w',w'.d=d∧w'.u=u∧(Out.rec (motive:=fun _=>Bool) (fun v=>K w'.h w'.n v) (fun c=>Kp c w'.h w'.n) out)=true∧OpTo P ng o cx t ⟨d,u,h,n⟩ out w'∧
  (wW o.op=0∨wW o.op=1→∃v,out = .ret v∧w'=⟨d,u,h,n⟩∧sP o.op P t h=some v):=by
 have Q:∀{v:Value},sP o.op P t h=some v→K h n v=true→∃out w',w'.d=d∧w'.u=u∧(Out.rec (motive:=fun _=>Bool) (fun v=>K w'.h w'.n v) (fun c=>Kp c w'.h w'.n) out)=true∧OpTo P ng o cx t ⟨d,u,h,n⟩ out w'∧
  (wW o.op=0∨wW o.op=1→∃v,out = .ret v∧w'=⟨d,u,h,n⟩∧sP o.op P t h=some v):=by
  intro v hq hk;refine⟨.ret v,⟨d,u,h,n⟩,rfl,rfl,hk,oE ?_ (effVal_quiet hP hq),fun _=>⟨v,rfl,rfl,hq⟩⟩;intro c e;rw [e]at hq;cases hq
 have E:∀(kv:KV) (kp:KP),(wW o.op=2∨wW o.op=3)→eff o.op P lo cx t ⟨d,u,h,n⟩ kv kp=true→(∀w' v,kv w' v=true→same d u w'=true∧K w'.h w'.n v=true)→(∀c w',kp c w'=true→same d u w'=true∧Kp c w'.h w'.n=true)→
  ∃out w',w'.d=d∧w'.u=u∧(Out.rec (motive:=fun _=>Bool) (fun v=>K w'.h w'.n v) (fun c=>Kp c w'.h w'.n) out)=true∧OpTo P ng o cx t ⟨d,u,h,n⟩ out w'∧
  (wW o.op=0∨wW o.op=1→∃v,out = .ret v∧w'=⟨d,u,h,n⟩∧sP o.op P t h=some v):=by
  intro kv kp hk he h1 h2;obtain⟨out,w',g1,g2⟩:=eff_ok hP hS he
  cases out with
  | ret v=>obtain⟨s1,s2⟩:=h1 w' v g1;obtain⟨s3,s4⟩:=same_true s1;exact⟨_,w',s3,s4,s2,g2,fun e=>by omega⟩
  | panic c=>obtain⟨s1,s2⟩:=h2 c w' g1;obtain⟨s3,s4⟩:=same_true s1;exact⟨_,w',s3,s4,s2,g2,fun e=>by omega⟩
 let kv:KV:=fun w' v=>K w'.h w'.n v && same d u w'
 have hkv:∀h' n' v,kv ⟨d,u,h',n'⟩ v=K h' n' v:=fun h' n' v=>by simp[kv,same_mk]
 have E1:(wW o.op=2∨wW o.op=3)→eff o.op P lo cx t ⟨d,u,h,n⟩ kv (fun _ _=>false)=true→_:=fun hk he=>E kv (fun _ _=>false) hk he (fun w' v e=>by
  simp only[kv,Bool.and_eq_true]at e;exact⟨e.2,e.1⟩) (fun c w' e=>Bool.noConfusion e)
 cases hop:o.op with
 | move x=>rw [hop]at hx Q;exact Q (v:=ev t x) (by show zL (ev t x) some=_;rw [wY]) hx
 | assign x=>rw [hop]at hx Q;exact Q (v:=ev t x) (by show zL (ev t x) some=_;rw [wY]) hx
 | pick c x y=>
  rw[hop]at hx Q;have hx:wV (ev t c) (fun b=>rtS T (Bool.rec (ev t y) (ev t x) b) (K h n)) false=true:=hx;rcases onBool_some hx with⟨b,e1,e2⟩|e2
  case inr=>cases e2
  refine Q (v:=Bool.rec (ev t y) (ev t x) b) ?_ (tO e2);show wV (ev t c) (fun b=>zL (Bool.rec (ev t y) (ev t x) b) some) none=_;rw [e1];exact wY _ _
 | alloc el=>
  rw[hop]at hx E1;refine E1 (.inl rfl) ?_;show(Option.rec false (fun z=>xB h n (uG (cellsOf z) el) fun h' n'=>kv ⟨d,u,h',n'⟩ (.pointer (some ⟨n,0,none⟩))) (wU P el):Bool)=true;simp only[hkv];exact hx
 | box el x=>
  rw[hop]at hx E1;refine E1 (.inl rfl) ?_;show(uP .lF 0 (cellsOf (ev t x)) fun c=>xB h n (.cells c (cellsOf (ev t x)).length 0 0) fun h' n'=>kv ⟨d,u,h',n'⟩ (.pointer (some ⟨n,0,none⟩)))=true;simp only[hkv];exact hx
 | build ty parts=>rw [hop]at hx Q;obtain⟨v,h1,h2⟩:=wE hx;exact Q (v:=v) h1 h2
 | buildSlice ty len parts=>
  rw[hop]at hx E1;refine E1 (.inl rfl) ?_;show(Option.rec false (fun ob=>xB h n ob fun h' n'=>kv ⟨d,u,h',n'⟩ (.slice (some ⟨n,0,none⟩) len len)) (xP P ty len (parts.toList.map fun p=>(p.1,ev t p.2))):Bool)=true;simp only[hkv];exact hx
 | insert ty m key v=>
  rw[hop]at hx E1;refine E1 (.inr rfl) ?_;show sK P ty (ev t m) (ev t key) (ev t v) h (fun h=>kv ⟨d,u,h,n⟩ undef)=true;simp only[hkv];exact hx
 | load ty x=>rw [hop]at hx Q;obtain⟨v,h1,h2⟩:=wE hx;exact Q (v:=v) h1 (tO h2)
 | store ty x v =>
  rw[hop]at hx E1;refine E1 (.inr rfl) ?_
  show onPtr (ev t x) (fun b off=>Sh.rec false
   (Bool.rec false (storeAt h b off (cellsOf (ev t v)) fun h'=>kv ⟨d,u,h',n⟩ undef) (Nat.beq (cellsOf (ev t v)).length 1))
   (fun sz=>Bool.rec false (storeAt h b off (cellsOf (ev t v)) fun h'=>kv ⟨d,u,h',n⟩ undef) (Nat.beq (cellsOf (ev t v)).length sz)) (yJ P ty)) false=true
  simp only[hkv];exact hx
 | ready g=>rw [hop]at hx;cases hx
 | waits g=>rw [hop]at hx;cases hx
 | nilCheck x=>rw [hop]at hx Q;obtain⟨v,h1,h2⟩:=wE hx;exact Q (v:=v) h1 h2
 | binOp op ty x y yt=>rw [hop]at hx Q;obtain⟨v,h1,h2⟩:=yBin_ok hx;exact Q (v:=v) h1 h2
 | unOp op ty x=>rw [hop]at hx Q;obtain⟨v,h1,h2⟩:=wE hx;exact Q (v:=v) h1 (tO h2)
 | convert src dst x=>rw [hop]at hx Q;obtain⟨v,h1,h2⟩:=wE hx;exact Q (v:=v) h1 (tO h2)
 | sliceToArrayPointer _ _=>rw [hop]at hx;cases hx
 | makeInterface ty x=>rw [hop]at hx Q;obtain⟨v,h1,h2⟩:=wE hx;exact Q (v:=v) h1 h2
 | makeFunc f first cap=>
  rw[hop]at hx Q
  cases f with
  | func f=>exact Q (v:=.func (.func f) ⟨first.toList.map (ev t)⟩ ⟨cap.toList.map (ev t)⟩) rfl hx
  | _=>cases hx
 | makeMap ty r =>
  rw[hop]at hx E1
  cases r with
  | some _=>cases hx
  | none=>
   refine E1 (.inl rfl) ?_;show(xB h n (.map [] 0) fun h' n'=>kv ⟨d,u,h',n'⟩ (.map (some n)))=true;simp only[hkv];exact hx
 | makeChan _ _=>rw [hop]at hx;cases hx
 | makeSlice ty l c =>
  rw[hop]at hx E1;refine E1 (.inl rfl) ?_;obtain⟨p,h1,h2⟩:=wE hx;obtain⟨ob,i,m⟩:=p
  show(match rI P ty (ev t l) (ev t c) with
   | some (ob,i,m)=>xB h n ob fun h' n'=>kv ⟨d,u,h',n'⟩ (.slice (some ⟨n,0,none⟩) i m)
   | none=>false)=true
  rw[h1];simp only[hkv];exact h2
 | slice ty x lo hi mx=>rw [hop]at hx Q;obtain⟨v,h1,h2⟩:=wE hx;exact Q (v:=v) h1 h2
 | fieldAddr ty x f=>rw [hop]at hx Q;obtain⟨v,h1,h2⟩:=wE hx;exact Q (v:=v) h1 h2
 | field ty x f=>rw [hop]at hx Q;obtain⟨v,h1,h2⟩:=wE hx;exact Q (v:=v) h1 (tO h2)
 | indexAddr ty x i=>rw [hop]at hx Q;obtain⟨v,h1,h2⟩:=wE hx;exact Q (v:=v) h1 h2
 | index ty x i=>rw [hop]at hx Q;obtain⟨v,h1,h2⟩:=wE hx;exact Q (v:=v) h1 (tO h2)
 | lookup ty x key ok=>rw [hop]at hx Q;obtain⟨v,h1,h2⟩:=wE hx;exact Q (v:=v) h1 (tO h2)
 | mapUpdate ty m key v=>
  rw[hop]at hx E1;refine E1 (.inr rfl) ?_;show sK P ty (ev t m) (ev t key) (ev t v) h (fun h=>kv ⟨d,u,h,n⟩ undef)=true;simp only[hkv];exact hx
 | mapEntry _ _ _=>rw [hop]at hx;cases hx
 | entryStore _ _ _ _=>rw [hop]at hx;cases hx
 | range _ _=>rw [hop]at hx;cases hx
 | next _ _=>rw [hop]at hx;cases hx
 | entry _=>rw [hop]at hx;cases hx
 | typeAssert x ty a ok=>rw [hop]at hx Q;obtain⟨v,h1,h2⟩:=wE hx;exact Q (v:=v) h1 h2
 | extract x i=>rw [hop]at hx Q;obtain⟨v,h1,h2⟩:=wE hx;exact Q (v:=v) h1 (tO h2)
 | go _=>rw [hop]at hx;cases hx
 | defer _=>rw [hop]at hx;cases hx
 | panic x =>
  rw[hop]at hx E;have hx:ePanic (ev t x) h n Kp=true:=hx
  refine E (fun _ _=>false) (fun c w'=>Kp c w'.h w'.n && same d u w') (.inr rfl) ?_ (fun w' v e=>Bool.noConfusion e) (fun c w' e=>by
   simp only[Bool.and_eq_true]at e;exact⟨e.2,e.1⟩)
  show(match ev t x with
   | .iface ty v=>(Kp [⟨.iface ty v,false,false⟩] h n && same d u ⟨d,u,h,n⟩)
   | _=>false)=true
  unfold ePanic at hx;split at hx
  · rename_i ty v e;try rw[e]
    simp[same_mk,hx]
  · cases hx
 | send _ _=>rw [hop]at hx;cases hx
 | recv _ _ _=>rw [hop]at hx;cases hx
 | select _ _=>rw [hop]at hx;cases hx
 | call c =>
  obtain⟨callee,args,tys⟩:=c;rw [hop]at hx Q E E1
  have inv:∀f:Operand,callee = .value f→eInvoke lo T (ev t f) (args.toList.map (ev t)) h n K Kp=true→_:=fun f e he=>E
   (fun w' v=>rtS T v (K w'.h w'.n) && same d u w') (fun c w'=>Kp c w'.h w'.n && same d u w') (.inr (by rw[e];rfl)) (by
    rw[e];show qW lo (ev t f) (args.toList.map (ev t)) h n (fun v h n=>rtS T v (K h n) && same d u ⟨d,u,h,n⟩) (fun c h n=>Kp c h n && same d u ⟨d,u,h,n⟩)=true;simp only[same_mk,Bool.and_true];exact he) (fun w' v e=>by
    simp only[Bool.and_eq_true]at e;exact⟨e.2,tO e.1⟩) (fun c w' e=>by
    simp only[Bool.and_eq_true]at e;exact⟨e.2,e.1⟩)
  cases callee with
  | value f =>
   cases f with
   | tmp i=>exact inv _ rfl hx
   | const v=>exact inv _ rfl hx
   | global g=>cases hx
   | func g=>
    refine inv _ rfl ?_;have hx:eCall lo T g (args.toList.map (ev t)) h n K Kp=true:=hx;show lo.call g ([]++(args.toList.map (ev t)++[])) false none h n (fun o _ h n=>Out.rec (fun v=>rtS T v (K h n)) (fun c=>Kp c h n) o)=true;rw [List.append_nil,List.nil_append];exact hx
  | invoke r m=>cases hx
  | builtin b =>
   have hx:yBuiltin b T P tys.toList (args.toList.map (ev t)) h n K=true:=hx
   cases b with
   | append=>
    refine E1 (.inr rfl) ?_;show(pQ P tys.toList (args.toList.map (ev t)) h n fun v h n=>kv ⟨d,u,h,n⟩ v)=true;simp only[hkv];exact hx
   | clear=>
    refine E1 (.inr rfl) ?_;show(xclear P tys.toList (args.toList.map (ev t)) h fun h=>kv ⟨d,u,h,n⟩ (.tuple #[]))=true;simp only[hkv];exact hx
   | len=>obtain⟨v,h1,h2⟩:=wE hx;exact Q (v:=v) h1 (tO h2)
   | cap=>obtain⟨v,h1,h2⟩:=wE hx;exact Q (v:=v) h1 (tO h2)
   | max=>obtain⟨v,h1,h2⟩:=wE hx;exact Q (v:=v) h1 (tO h2)
   | min=>obtain⟨v,h1,h2⟩:=wE hx;exact Q (v:=v) h1 (tO h2)
   | _=>cases hx
end
theorem full_get:∀(F:Nat) (f:Nat→Value) (n i:Nat),n≤F→zA (full F f n) i=if i<n then f i else undef:=by
 intro F
 induction F with
 | zero=>intro f n i h;rw [if_neg (by omega)];exact Tr.get_leaf _ _
 | succ F ih =>
  intro f n i h
  cases n with
  | zero=>rw [if_neg (by omega)];exact Tr.get_leaf _ _
  | succ m =>
   show Tr.getP undef (Tr.pa (Nat.succ i) i) (.nD (full F (fun i=>f (Nat.succ (Nat.add i i))) (Nat.div (Nat.succ m) 2)) (f 0) (full F (fun i=>f (Nat.succ (Nat.succ (Nat.add i i)))) (Nat.div m 2)))=_
   cases i with
   | zero=>rw [if_pos (by omega)];rfl
   | succ j=>
    rw[Tr.pa_succ];have hd1:Nat.div (Nat.succ m) 2=(m+1) / 2:=rfl;have hd2:Nat.div m 2=m / 2:=rfl;by_cases hj:j % 2=0
    · rw[if_pos hj];show Tr.getP undef (Tr.pa (j+1) (j / 2)) (full F (fun i=>f (Nat.succ (Nat.add i i))) (Nat.div (Nat.succ m) 2))=_;rw [Tr.pa_fuel (j+1) (Nat.succ (j / 2)) (j / 2) (by omega) (by omega)];have:=ih (fun i=>f (Nat.succ (Nat.add i i))) (Nat.div (Nat.succ m) 2) (j / 2) (by rw[hd1];omega);refine Eq.trans this ?_;rw [hd1];by_cases h2:j / 2<(m+1) / 2
      · rw[if_pos h2,if_pos (by omega)];have:Nat.succ (Nat.add (j / 2) (j / 2))=j+1:=by show j / 2+j / 2+1=j+1;omega
        rw[this]
      · rw[if_neg h2,if_neg (by omega)]
    · rw[if_neg hj];show Tr.getP undef (Tr.pa (j+1) (j / 2)) (full F (fun i=>f (Nat.succ (Nat.succ (Nat.add i i)))) (Nat.div m 2))=_;rw [Tr.pa_fuel (j+1) (Nat.succ (j / 2)) (j / 2) (by omega) (by omega)];have:=ih (fun i=>f (Nat.succ (Nat.succ (Nat.add i i)))) (Nat.div m 2) (j / 2) (by rw[hd2];omega);refine Eq.trans this ?_;rw [hd2];by_cases h2:j / 2<m / 2
      · rw[if_pos h2,if_pos (by omega)];have:Nat.succ (Nat.succ (Nat.add (j / 2) (j / 2)))=j+1:=by show j / 2+j / 2+1+1=j+1;omega
        rw[this]
      · rw[if_neg h2,if_neg (by omega)]
def SameF(N:Nat)(t t2:Fr):Prop:=∀i,i<N→zA t2 i=zA t i
theorem SameF.refl(N:Nat)(t:Fr):SameF N t t:=fun _ _=>rfl
theorem SameF.trans{N:Nat}{a b c:Fr}(h:SameF N a b)(k:SameF N b c):SameF N a c:=fun i hi=>(k i hi).trans (h i hi)
theorem TmR.same{ρ : Inj}{N:Nat}{t t2:Fr}{ts:Array Value}(h:SameF N t t2)(r:TmR ρ N t ts):TmR ρ N t2 ts:=
 ⟨r.sz,fun i v e=>by
  have hi:i<N:=by
   rw[← r.sz];rcases Nat.lt_or_ge i ts.size with h1|h1
   · exact h1
   · rw[Array.getElem?_eq_none h1]at e;cases e
  rw[h i hi];exact r.tm i v e⟩
theorem fget_set(t:Fr)(v:Value)(i j:Nat):zA (Tr.set undef v t i) j=if i=j then v else zA t j:=Tr.get_set_if _ _ _ _ _
theorem oG{t:Fr}{i:Nat}{v:Value}{K:Fr→Bool}(h:fsetK t i v K=true):K (Tr.set undef v t i)=true:=by
 unfold fsetK at h
 rwa [Tr.setK_eq]at h
theorem rtGo_true{N:Nat}:∀{l:List Ty} {i:Nat} {t t':Fr} {K:Fr→Bool},SameF N t t'→rtGo l i t t' K=true→∃t2,SameF N t t2∧K t2=true:=by
 intro l
 induction l with
 | nil=>intro i t t' K hs h;exact⟨t',hs,h⟩
 | cons T l ih =>
  intro i t t' K hs h
  have put:∀{v:Value},zA t i=v→SameF N t (Tr.set undef v t' i):=by
   intro v hv j hj;rw [fget_set];by_cases e:i=j
   · subst e;rw [if_pos rfl,hv]
   · rw[if_neg e];exact hs j hj
  cases T with
  | any=>exact ih (i:=Nat.succ i) (t':=t') hs h
  | val=>
   have h':(zL (zA t i) fun v=>fsetK t' i v fun t'=>rtGo l (Nat.succ i) t t' K)=true:=h;rw [wY]at h';exact ih (put rfl) (oG h')
  | int kd=>
   obtain⟨a,e,h'⟩:=rtI_true (K:=fun a=>fsetK t' i (.int kd a) fun t'=>rtGo l (Nat.succ i) t t' K) h;exact ih (put e) (oG h')
  | bool=>
   obtain⟨a,e,h'⟩:=rtB_true (K:=fun b=>fsetK t' i (.bool b) fun t'=>rtGo l (Nat.succ i) t t' K) h;exact ih (put e) (oG h')
theorem rt_true{N:Nat}{l:List Ty}{t:Fr}{K:Fr→Bool}(h:rt N l t K=true):∃t2,SameF N t t2∧K t2=true:=
 rtGo_true (fun i hi=>by rw[full_get N (zA t) N i (Nat.le_refl _),if_pos hi]) h
theorem onW_eq(w:W)(f:List Deferred→Option yF→zH→Nat→Bool):onW w f=f w.d w.u w.h w.n:=by cases w;rfl
theorem meet_true{P:Program}{hint:rD}{kind:Nat}{f:FuncId}{id:Nat}{kn:KN}{t:Fr}{w:W}(h:meet P hint kind f id kn t w=true):∃t2,SameF (ntmX P f) t t2∧kn t2 w=true:=by
 unfold meet at h;obtain⟨t2,h1,h2⟩:=rt_true h;rw [onW_eq]at h2;exact⟨t2,h1,h2⟩
section
variable {P:Program} {ng:Nat}
theorem In.same{ρ : Inj}{base:Nat}{w0:World}{b:Frame}{a:Act}{wd:World}{cs:List Frame}{cx:Cx}{t t2:Fr}{w:W}(h:SameF (ntm P cx.fn) t t2)(I:In P ng ρ base w0 b a wd cs cx t w):In P ng ρ base w0 b a wd cs cx t2 w:=
 ⟨I.fn,I.kind,I.rd,I.rdf,I.tm.same h,I.hp,I.dr,I.ur,I.fnd⟩
theorem Leads.pre{b:Frame}{k0 k:List Item}{cx:Cx}{t t2 t':Fr}{w w':W}{x:AX}(h:SameF (ntm P cx.fn) t t2)(r:Leads P ng b k0 k cx t2 w x t' w'):Leads P ng b k0 k cx t w x t' w':=
 fun ρ base w0 a wd cs hI=>r ρ base w0 a wd cs (hI.same h)
theorem Leads.post{b:Frame}{k0 k:List Item}{cx:Cx}{t t' t2:Fr}{w w':W}{x:AX}(h:SameF (ntm P cx.fn) t' t2)(r:Leads P ng b k0 k cx t w x t' w'):Leads P ng b k0 k cx t w x t2 w':=by
 intro ρ base w0 a wd cs hI;obtain⟨ρ',a',wd',cs',h1,h2,h3,h4⟩:=r ρ base w0 a wd cs hI;exact⟨ρ',a',wd',cs',h1.same h,h2,h3,h4⟩
theorem CodeTo.pre{c:Code}{cx:Cx}{t t2 t':Fr}{w w':W}{x:AX}(h:SameF (ntm P cx.fn) t t2)(r:CodeTo P ng c cx t2 w x t' w'):CodeTo P ng c cx t w x t' w':=fun hc b k=>(r hc b k).pre h
theorem CodeTo.post{c:Code}{cx:Cx}{t t' t2:Fr}{w w':W}{x:AX}(h:SameF (ntm P cx.fn) t' t2)(r:CodeTo P ng c cx t w x t' w'):CodeTo P ng c cx t w x t2 w':=fun hc b k=>(r hc b k).post h
theorem wnt_eq(all:Array Oper)(t:Fr)(g:Nat)(b:Bool):wnt all t g b=wanted all t (some (g,b)):=by
 show(Option.rec false (fun d=>Bool.rec (gnv (zA t d)) (gv (zA t d)) b) (dstOf all g):Bool)=(Option.rec false (fun d=>wV (zA t d) (fun z=>Bool.rec (Bool.rec true false b) b z) false) (dstOf all g):Bool)
 cases dstOf all g with
 | none=>rfl
 | some d =>
  show(Bool.rec (gnv (zA t d)) (gv (zA t d)) b:Bool)=wV (zA t d) (fun z=>Bool.rec (Bool.rec true false b) b z) false
  cases b <;> cases zA t d with
   | bool z=>cases z <;> rfl
   | _=>rfl
theorem op_done(hP:xV ng P=true){all:Array Oper}{o:Oper}{cx:Cx}{t:Fr}{w w':W}{out:Out}(hm:o∈all.toList)
(h:(wanted all t o.guard=false∧out = .ret undef∧w'=w)∨(wanted all t o.guard=true∧OpTo P ng o cx t w out w')) :
  ∀(_:∀o∈all.toList,rV ng (ntm P cx.fn) o=true) (ρ : Inj) (base:Nat) (w0:World) (b:Frame) (a:Act) (wd:World) (cs:List Frame),In P ng ρ base w0 b a wd cs cx t w→∀(i:Nat) (rest:List Nat) (k:List Item),all[i]? = some o→
   ∃ρ' a' wd' cs',In0 P ng ρ' base w0 b a' wd' cs' cx w'∧a'.tmps=a.tmps∧Grow ρ w.h w.n wd ρ' w'.h w'.n wd'∧CsTo cx.df cs cs'∧
    Done P (lone (b.atR a (.inRegion all (i::rest)::k)) cs wd) b a' cs' wd' ρ' o all i rest k out:=by
 have _:=hP;intro hc ρ base w0 b a wd cs hI i rest k ho
 have hops:OpsR ρ t a o:=by
  intro x hx;exact ev_rv hI.hp hI.tm (List.all_eq_true.1 (Bool.and_eq_true_iff.1 (hc o hm)).1 x hx)
 have hwant:Region.wanted o (yielded all a.tmps)=wanted all t o.guard:=by
  refine wanted_ok fun g q _ d hd=>?_
  have hlt:d<ntm P cx.fn:=by
   unfold dstOf at hd
   cases ho:all[g]? with
   | none=>rw [ho]at hd;cases hd
   | some og=>
    rw[ho]at hd;have hmem:og∈all.toList:=by rw[← Array.getElem?_toList]at ho;exact List.mem_iff_getElem?.2 ⟨g,ho⟩
    have:=(Bool.and_eq_true_iff.1 (hc og hmem)).2;dsimp only at hd;rw [hd]at this;exact vA this
  have hlt2:d<a.tmps.size:=Nat.lt_of_lt_of_le hlt hI.tm.le;exact⟨a.tmps[d],Array.getElem?_eq_getElem hlt2,(hI.tm.tm d _ (Array.getElem?_eq_getElem hlt2)).boolOf⟩
 rcases h with⟨hw,rfl,rfl⟩|⟨hw,h⟩
 · exact⟨ρ,a,wd,cs,hI.in0,rfl,Grow.refl _ _ _ _ hI.hp.dom,CsTo.refl _ _,undef,RV.undef ρ,.one (skip_put ho (hwant.trans hw))⟩
 · exact h ρ base w0 b a wd cs hI.in0 hops all i rest k ho (hwant.trans hw)
theorem yOne{lo:Lo}(hP:xV ng P=true)(hS:Sound P ng lo){all:Array Oper}{o:Oper}{T:Ty}{t:Fr}{d:List Deferred}{u:Option yF}{h:zH}{n:Nat}{K:KH}{Kp:KC}(cx:Cx)
(hx:(Option.rec (yOp o.op T P lo t h n K Kp) (fun g=>grd (wnt all t g.1 g.2) (fun kv=>yOp o.op T P lo t h n kv Kp) K h n) o.guard:Bool)=true) :
 ∃out w',w'.d=d∧w'.u=u∧(Out.rec (motive:=fun _=>Bool) (fun v=>K w'.h w'.n v) (fun c=>Kp c w'.h w'.n) out)=true∧
  ((wanted all t o.guard=false∧out = .ret undef∧w'=⟨d,u,h,n⟩)∨(wanted all t o.guard=true∧OpTo P ng o cx t ⟨d,u,h,n⟩ out w'∧yOp o.op T P lo t h n K Kp=true∧
   (wW o.op=0∨wW o.op=1→∃v,out = .ret v∧w'=⟨d,u,h,n⟩∧sP o.op P t h=some v))):=by
 cases hg:o.guard with
 | none=>
  rw[hg]at hx;have hx:yOp o.op T P lo t h n K Kp=true:=hx;obtain⟨out,w',h1,h2,h3,h4,h5⟩:=yOp_ok (d:=d) (u:=u) (cx:=cx) hP hS hx;exact⟨out,w',h1,h2,h3,.inr ⟨rfl,h4,hx,h5⟩⟩
 | some g =>
  rw[hg]at hx;have hx:grd (wnt all t g.1 g.2) (fun kv=>yOp o.op T P lo t h n kv Kp) K h n=true:=hx;have hw:=wnt_eq all t g.1 g.2
  cases hb:wnt all t g.1 g.2 with
  | true=>
   rw[hb]at hx hw;have hx:yOp o.op T P lo t h n K Kp=true:=hx;obtain⟨out,w',h1,h2,h3,h4,h5⟩:=yOp_ok (d:=d) (u:=u) (cx:=cx) hP hS hx;exact⟨out,w',h1,h2,h3,.inr ⟨hw.symm,h4,hx,h5⟩⟩
  | false=>
   rw[hb]at hx hw;exact⟨.ret undef,⟨d,u,h,n⟩,rfl,rfl,hx,.inl ⟨hw.symm,rfl,rfl⟩⟩
theorem W.eta{w:W}{d:List Deferred}{u:Option yF}(h1:w.d=d)(h2:w.u=u):w=⟨d,u,w.h,w.n⟩:=by cases w;cases h1;cases h2;rfl
theorem yOps_ok{lo:Lo}(hP:xV ng P=true)(hS:Sound P ng lo){all:Array Oper}{cx:Cx}:∀(l:List Oper) (t:Fr) (d:List Deferred) (u:Option yF) (h:zH) (n:Nat) (kn:KN) (ka:KX),(∀o∈l,o∈all.toList)→yOps P lo all l t d u h n kn ka=true→
 ∃x t' w',pH kn ka x t' w'=true∧((∀o∈all.toList,rV ng (ntm P cx.fn) o=true)→∀(is:List Nat),is.length=l.length→(∀(j i:Nat),is[j]? = some i→all[i]? = l[j]?)→∀(b:Frame) (kk:List Item),
  Leads P ng b (.inRegion all is::kk) kk cx t ⟨d,u,h,n⟩ x t' w'):=by
 intro l
 induction l with
 | nil=>
  intro t d u h n kn ka _ hx;refine⟨.normal,t,⟨d,u,h,n⟩,hx,fun _ is hl _ b kk=>?_⟩;have:is=[]:=List.length_eq_zero_iff.1 hl;subst this;exact yN (fun _ _ _=>stepR_region_end) (tK b kk cx t ⟨d,u,h,n⟩)
 | cons o l ih =>
  intro t d u h n kn ka hmem hx;obtain⟨out,w1,e1,e2,hk,h0⟩:=yOne (o:=o) (all:=all) (T:=tyOf P o.type) (t:=t) (d:=d) (u:=u) (h:=h) (n:=n) (K:=fun h n v=>putT t o.dst v fun t=>yOps P lo all l t d u h n kn ka) (Kp:=fun c h n=>ka (.panic c) t ⟨d,u,h,n⟩) hP hS cx hx;have h1:=op_done hP (hmem o (by simp)) (h0.imp id fun q=>⟨q.1,q.2.1⟩);have ew:=W.eta e1 e2
  have head:∀{is:List Nat},is.length=(o::l).length→(∀(j i:Nat),is[j]? = some i→all[i]? = (o::l)[j]?)→∃i is',is=i::is'∧all[i]? = some o∧is'.length=l.length∧(∀(j i:Nat),is'[j]? = some i→all[i]? = l[j]?):=by
   intro is hl hi
   cases is with
   | nil=>simp at hl
   | cons i is'=>exact⟨i,is',rfl,by simpa using hi 0 i rfl,by simpa using hl,fun j i2 h=>by simpa using hi (j+1) i2 (by simpa using h)⟩
  cases out with
  | panic c=>
   refine⟨.panic c,t,w1,by rw[ew];exact hk,fun hc is hl hi b kk ρ base w0 a wd cs hI=>?_⟩;obtain⟨i,is',rfl,ho,_,_⟩:=head hl hi;obtain⟨ρ',a',wd',cs',i1,i2,i3,i4,c',i5,i6⟩:=h1 hc ρ base w0 b a wd cs hI i is' kk ho;exact⟨ρ',a',wd',cs',i1.toIn (by rw[i2];exact hI.tm.mono (i3.le hI.hp.dom)),i3,i4,_,c',i5,i6⟩
  | ret v=>
   have hk':=sD hk;obtain⟨x,t',w',hk2,h2⟩:=ih (putF t o.dst v) d u w1.h w1.n kn ka (fun q hq=>hmem q (by simp[hq])) hk';rw [← ew]at h2;refine⟨x,t',w',hk2,fun hc is hl hi b kk ρ base w0 a wd cs hI=>?_⟩;obtain⟨i,is',rfl,ho,hl',hi'⟩:=head hl hi;obtain⟨ρ',a',wd',cs',i1,i2,i3,i4,v',i5,i6⟩:=h1 hc ρ base w0 b a wd cs hI i is' kk ho;have htm:TmR ρ' (ntm P cx.fn) t a'.tmps:=by rw[i2];exact hI.tm.mono (i3.le hI.hp.dom)
   obtain⟨ρ2,a2,wd2,cs2,g1,g2,g3,g4⟩:=h2 hc is' hl' hi' b kk ρ' base w0 (a'.put o.dst v') wd' cs' ((i1.act (put_defers a' o.dst v')).toIn (htm.putF i5 o.dst));exact⟨ρ2,a2,wd2,cs2,g1,i3.trans g2,i4.trans g3,g4.of_steps i6⟩
end
theorem looksOK_mk{P:Program}{k:Nat}{hs:List W}:∀{ls:List Look},(∀l∈ls,lookOK P l k hs=true)→sF P k hs ls=true:=by
 intro ls
 induction ls with
 | nil=>intro _;rfl
 | cons l ls ih=>
  intro h;show(lookOK P l k hs && sF P k hs ls)=true;rw [h l (by simp),ih fun q hq=>h q (by simp[hq])];rfl
theorem lks_mem{hs:List W}:∀{ls:List Lk},lks hs ls=true→∀e∈ls,e.g=true→lkOne e hs.length hs=true:=by
 intro ls
 induction ls with
 | nil=>intro _ e he;simp at he
 | cons l ls ih=>
  intro h e he hg;have h':gt (Bool.rec true (lkOne l hs.length hs) l.g) (lks hs ls)=true:=h;obtain⟨h1,h2⟩:=gt_true h';rcases List.mem_cons.1 he with rfl|he
  · rw[hg]at h1;exact h1
  · exact ih h2 e he hg
def LkR(P:Program)(l:Look)(e:Lk):Prop:=e.g=true∧e.low=l.low∧e.high=l.high∧∀w,e.f w=true→lookLt w.n l.o l.t=true∧∃v,sP l.o P l.t w.h=some v∧qH v l.v=true
theorem lkOne_ok{P:Program}{l:Look}{e:Lk}(hr:LkR P l e):∀{hs:List W} {k:Nat},lkOne e k hs=true→lookOK P l k hs=true:=by
 obtain⟨_,h1,h2,h3⟩:=hr;intro hs
 induction hs with
 | nil=>intro k _;rfl
 | cons w hs ih =>
  intro k h;have h':gt (Bool.rec true (gt (e.f w) true) (Nat.ble e.low (Nat.pred k) && Nat.ble (Nat.pred k) e.high)) (lkOne e (Nat.pred k) hs)=true:=h;obtain⟨g1,g2⟩:=gt_true h'
  show((cond (Nat.ble l.low (Nat.pred k) && Nat.ble (Nat.pred k) l.high) (lookLt w.n l.o l.t && (match sP l.o P l.t w.h with
   | some v=>qH v l.v
   | none=>false)) true) && lookOK P l (Nat.pred k) hs)=true
  rw[ih g2,Bool.and_true,← h1,← h2]
  cases hb:(Nat.ble e.low (Nat.pred k) && Nat.ble (Nat.pred k) e.high) with
  | false=>rfl
  | true =>
   rw[hb]at g1;obtain⟨g3,_⟩:=gt_true g1;obtain⟨q1,v,q2,q3⟩:=h3 w g3
   show(lookLt w.n l.o l.t && (match sP l.o P l.t w.h with
    | some v=>qH v l.v
    | none=>false))=true
   rw[q1,q2];exact q3
def LsR(P:Program)(ls:List Look)(es:List Lk):Prop:=∀l∈ls,∃e∈es,LkR P l e
theorem LsR.ok{P:Program}{ls:List Look}{es:List Lk}(h:LsR P ls es){hs:List W}(hl:lks hs es=true):sF P hs.length hs ls=true:=
 looksOK_mk fun l hm=>let ⟨_,he,hr⟩:=h l hm;lkOne_ok hr (lks_mem hl _ he hr.1)
theorem lkQ_true{q:zH→Option Value}{p v:Value}{w:W}(h:lkQ q p v w=true):blkLt w.n p=true∧∃x,q w.h=some x∧qH x v=true:=by
 unfold lkQ at h;obtain⟨h1,h2⟩:=gt_true h;exact⟨h1,wE h2⟩
theorem lkOf_ok{o:Op}(hk:wW o=1){P:Program}{t:Fr}{v:Value}{w:W}(h:lkOf o P t v w=true):lookLt w.n o t=true∧∃x,sP o P t w.h=some x∧qH x v=true:=by
 cases o with
 | load ty x=>exact lkQ_true h
 | lookup ty x key ok=>exact lkQ_true h
 | slice ty x lo hi mx=>exact lkQ_true h
 | call c =>
  obtain⟨callee,args,tys⟩:=c
  cases callee with
  | value f=>cases hk
  | invoke r m=>cases hk
  | builtin b=>
   obtain⟨h1,h2⟩:=lkQ_true h;refine⟨?_,h2⟩;show(match args.toList with|x::_=>blkLt w.n (ev t x)|[]=>true)=true;generalize args.toList=l at h1
   cases l with
   | nil=>rfl
   | cons x l=>exact h1
 | makeMap ty r=>cases r <;> cases hk
 | _=>cases hk
section
variable {P:Program} {ng:Nat}
theorem yOp_new{lo:Lo}(hP:xV ng P=true){o:Oper}{T:Ty}{t:Fr}{d:List Deferred}{u:Option yF}{h:zH}{n:Nat}{K:KH}{Kp:KC}(hk:wW o.op=2)(hx:yOp o.op T P lo t h n K Kp=true) :
 ∃v ob,NewVal P ng o t v ob∧K (h.set .dead ob n) (n+1) (v n)=true:=by
 have fin:eff o.op P lo ⟨0,none,false⟩ t ⟨d,u,h,n⟩ (fun w' v=>K w'.h w'.n v) (fun _ _=>false)=true→∃v ob,NewVal P ng o t v ob∧K (h.set .dead ob n) (n+1) (v n)=true:=fun he=>new_ok hP hk he
 cases hop:o.op with
 | alloc el=>rw [hop]at hx fin;exact fin hx
 | box el x=>rw [hop]at hx fin;exact fin hx
 | buildSlice ty len parts=>rw [hop]at hx fin;exact fin hx
 | makeMap ty r=>
  rw[hop]at hx fin
  cases r with
  | none=>exact fin hx
  | some _=>cases hx
 | makeSlice ty l c =>
  rw[hop]at hx fin;refine fin ?_;obtain⟨p,h1,h2⟩:=wE hx;obtain⟨ob,i,m⟩:=p
  show(match rI P ty (ev t l) (ev t c) with
   | some (ob,i,m)=>xB h n ob fun h' n'=>K h' n' (.slice (some ⟨n,0,none⟩) i m)
   | none=>false)=true
  rw[h1];exact h2
 | insert _ _ _ _=>rw [hop]at hk;cases hk
 | store _ _ _=>rw [hop]at hk;cases hk
 | mapUpdate _ _ _ _=>rw [hop]at hk;cases hk
 | defer _=>rw [hop]at hk;cases hk
 | panic _=>rw [hop]at hk;cases hk
 | call c=>
  rw[hop]at hk;obtain⟨callee,asz,ts⟩:=c
  cases callee with
  | builtin b=>cases b <;> cases hk
  | value f=>cases hk
  | invoke r m=>cases hk
 | _=>rw [hop]at hk hx;first|(cases hk;done)|cases hx
theorem yDraw_ok{lo:Lo}(hP:xV ng P=true)(hS:Sound P ng lo){all:Array Oper}{cx:Cx}:∀(L:List DOp) (t:Fr) (d:List Deferred) (u:Option yF) (h:zH) (n:Nat) (hs:List W) (es:List Lk) (ls:List Look) (kn:KN) (ka:KX),(∀x∈L,x.kd=wW x.o.op)→LsR P ls es→
 yDraw P lo all L t d u h n hs es kn ka=true→Drew P ng all cx L t ⟨d,u,h,n⟩ hs ls (pH kn ka):=by
 intro L
 induction L with
 | nil=>
  intro t d u h n hs es ls kn ka _ hls hx;have hx:gt (lks hs es) (kn t ⟨d,u,h,n⟩)=true:=hx;obtain⟨h1,h2⟩:=gt_true hx;exact .inl ⟨[],t,⟨d,u,h,n⟩,rfl,.nil t _,h2,hls.ok h1⟩
 | cons x L ih =>
  intro t d u h n hs es ls kn ka hkd hls hx;have hkd':∀y∈L,y.kd=wW y.o.op:=fun y hy=>hkd y (by simp[hy]);have hkx:=hkd x (by simp);have h9:wW x.o.op≤3:=by unfold wW;split <;> (try split) <;> omega
  by_cases h3:x.kd=3
  ·
   have hb:Nat.beq x.kd 3=true:=by rw[h3];rfl
   have hx1:(Option.rec (yOp x.o.op (tyOf P x.o.type) P lo t h n (fun h' n' v=>gt (Nat.ble n n') (putT t x.o.dst v fun t'=>yDraw P lo all L t' d u h' n' (⟨d,u,h',n'⟩::hs) es kn ka))
    (fun c h n=>Bool.rec false (gt (lks hs es) (ka (.panic c) t ⟨d,u,h,n⟩)) x.solo))
    (fun g=>grd (wnt all t g.1 g.2) (fun kv=>yOp x.o.op (tyOf P x.o.type) P lo t h n kv (fun c h n=>Bool.rec false (gt (lks hs es) (ka (.panic c) t ⟨d,u,h,n⟩)) x.solo))
     (fun h' n' v=>gt (Nat.ble n n') (putT t x.o.dst v fun t'=>yDraw P lo all L t' d u h' n' (⟨d,u,h',n'⟩::hs) es kn ka)) h n) x.o.guard:Bool)=true:=by
    have hx':=hx;unfold yDraw at hx';dsimp only at hx';rw [hb]at hx';exact hx'
   obtain⟨out,w1,e1,e2,hk,h0⟩:=yOne (d:=d) (u:=u) hP hS cx hx1;have ew:=W.eta e1 e2
   cases out with
   | panic c =>
    have hk:(Bool.rec false (gt (lks hs es) (ka (.panic c) t ⟨d,u,w1.h,w1.n⟩)) x.solo:Bool)=true:=hk
    cases hso:x.solo with
    | false=>rw [hso]at hk;cases hk
    | true=>
     rw[hso]at hk;obtain⟨k1,k2⟩:=gt_true hk;rcases h0 with⟨_,q,_⟩|⟨q1,q2,_,_⟩
     · cases q
     · exact .inr ⟨[],x,L,c,t,⟨d,u,h,n⟩,w1,rfl,.nil t _,q1,q2,hso,hls.ok k1,by rw[ew];exact k2⟩
   | ret v=>
    have hk:gt (Nat.ble n w1.n) (putT t x.o.dst v fun t'=>yDraw P lo all L t' d u w1.h w1.n (⟨d,u,w1.h,w1.n⟩::hs) es kn ka)=true:=hk;obtain⟨k1,k2⟩:=gt_true hk;have k3:=sD k2;rw [← ew]at k3;have hrest:=ih _ _ _ _ _ _ _ _ _ _ hkd' hls k3;rw [← ew]at hrest;rcases h0 with⟨q1,q2,q3⟩|⟨q1,q2,_,_⟩
    · injection q2 with q2
      subst q2 q3;exact Drew.cons (r:=⟨x,t,⟨d,u,h,n⟩,true,undef,⟨d,u,h,n⟩⟩) (.skip q1) (by dsimp only;rw [hb];exact hrest)
    · exact Drew.cons (r:=⟨x,t,⟨d,u,h,n⟩,false,v,w1⟩) (.act q1 (by omega) q2 (uN k1)) (by
       dsimp only;rw [hb];have:Nat.beq x.kd 1=false:=by rw[h3];rfl
       rw[this];exact hrest)
  ·
   have hb:Nat.beq x.kd 3=false:=by
    cases e:Nat.beq x.kd 3 with
    | false=>rfl
    | true=>exact absurd (yL e) h3
   let ext:Value→List Lk:=fun v=>Bool.rec es (Bool.rec (⟨gOf all t x.o.guard,lkOf x.o.op P t v,x.low,x.high⟩::es) es (Nat.beq x.low x.high)) (Nat.beq x.kd 1)
   have hx1:(Option.rec (yOp x.o.op (tyOf P x.o.type) P lo t h n (fun h n v=>putT t x.o.dst v fun t'=>yDraw P lo all L t' d u h n hs (ext v) kn ka) (fun _ _ _=>false))
    (fun g=>grd (wnt all t g.1 g.2) (fun kv=>yOp x.o.op (tyOf P x.o.type) P lo t h n kv (fun _ _ _=>false))
     (fun h n v=>putT t x.o.dst v fun t'=>yDraw P lo all L t' d u h n hs (ext v) kn ka) h n) x.o.guard:Bool)=true:=by
    have hx':=hx;unfold yDraw at hx';dsimp only at hx';rw [hb]at hx';exact hx'
   have hsub:∀v,LsR P ls (ext v):=by
    intro v l hl;obtain⟨e,he,hr⟩:=hls l hl;refine⟨e,?_,hr⟩;show e∈(Bool.rec es (Bool.rec (⟨gOf all t x.o.guard,lkOf x.o.op P t v,x.low,x.high⟩::es) es (Nat.beq x.low x.high)) (Nat.beq x.kd 1):List Lk)
    cases Nat.beq x.kd 1 with
    | false=>exact he
    | true=>cases Nat.beq x.low x.high with
     | true=>exact he
     | false=>exact List.mem_cons_of_mem _ he
   obtain⟨out,w1,e1,e2,hk,h0⟩:=yOne (d:=d) (u:=u) hP hS cx hx1;have ew:=W.eta e1 e2
   cases out with
   | panic c=>cases hk
   | ret v=>
    have k3:=sD hk;rcases h0 with⟨q1,q2,q3⟩|⟨q1,q2,q4,q5⟩
    · injection q2 with q2
      subst q2 q3;have hrest:=ih _ _ _ _ _ _ _ _ _ _ hkd' (hsub undef) k3;exact Drew.cons (r:=⟨x,t,⟨d,u,h,n⟩,true,undef,⟨d,u,h,n⟩⟩) (.skip q1) (by dsimp only;rw [hb];exact hrest)
    · by_cases h2:x.kd=2
      · obtain⟨v2,ob,n1,n2⟩:=yOp_new (ng:=ng) (d:=d) (u:=u) hP (hkx.symm.trans h2) q4;have hrest:=ih _ _ _ _ _ _ _ _ _ _ hkd' (hsub (v2 n)) (sD n2)
        exact Drew.cons (r:=⟨x,t,⟨d,u,h,n⟩,false,v2 n,W.mk d u (h.set .dead ob n) (n+1)⟩) (.made q1 h2 n1) (by
         dsimp only;rw [hb];have:Nat.beq x.kd 1=false:=by rw[h2];rfl
         rw[this];exact hrest)
      · have h01:wW x.o.op=0∨wW x.o.op=1:=by omega
        obtain⟨v2,r1,r2,r3⟩:=q5 h01;injection r1 with r1
        subst r1 r2
        have hnew:LsR P (cond (!false && (Nat.beq x.kd 1 && !Nat.beq x.low x.high)) (⟨x.o.op,t,v,x.low,x.high⟩::ls) ls) (ext v):=by
         cases k1:Nat.beq x.kd 1 with
         | false=>exact hsub v
         | true =>
          cases k2:Nat.beq x.low x.high with
          | true=>exact hsub v
          | false=>
           intro l hl;rcases List.mem_cons.1 (show l∈(⟨x.o.op,t,v,x.low,x.high⟩:Look)::ls from hl) with rfl|hl
           · refine⟨⟨gOf all t x.o.guard,lkOf x.o.op P t v,x.low,x.high⟩,?_,?_,rfl,rfl,fun w hw=>lkOf_ok (hkx.symm.trans (yL k1)) hw⟩
             · show _∈(Bool.rec es (Bool.rec (⟨gOf all t x.o.guard,lkOf x.o.op P t v,x.low,x.high⟩::es) es (Nat.beq x.low x.high)) (Nat.beq x.kd 1):List Lk);rw [k1,k2];exact List.mem_cons_self
             · show(Option.rec true (fun g=>wnt all t g.1 g.2) x.o.guard:Bool)=true
               cases hg:x.o.guard with
               | none=>rfl
               | some g=>rw [hg]at q1;exact(wnt_eq all t g.1 g.2).trans q1
           · exact hsub v l hl
        have hrest:=ih _ _ _ _ _ _ _ _ _ _ hkd' hnew k3
        exact Drew.cons (r:=⟨x,t,⟨d,u,h,n⟩,false,v,⟨d,u,h,n⟩⟩) (.look q1 (by omega) r3) (by
         dsimp only;rw [hb];exact hrest)
theorem yDrawn_ok{lo:Lo}(hP:xV ng P=true)(hmix:P.follows .mixedOrders=true)(hS:Sound P ng lo){ops:Array Oper}{cx:Cx}{t:Fr}{d:List Deferred}{u:Option yF}{h:zH}{n:Nat}{kn:KN}{ka:KX}(id:Nat)
(hx:yDrawn P lo ops t d u h n kn ka=true):∃x t' w',pH kn ka x t' w'=true∧CodeTo P ng (.region id ops true) cx t ⟨d,u,h,n⟩ x t' w':=by
 obtain⟨L,hpl,h1⟩:=wE hx;exact drew_ok hP hmix hpl (yDraw_ok hP hS L t d u h n _ [] [] kn ka (plan_kd hpl) (fun l hl=>by simp at hl) h1) id
end
section
variable {P:Program} {ng:Nat}
theorem yRange_eq(lo:Lo)(f:Operand)(params:Array Tmp)(assign body:Code)(cx:Cx)(t:Fr)(d:List Deferred)(u:Option yF)(h:zH)(n:Nat)(k:KX) :
 yRange lo (ev t f) params assign body cx t d u h n k=xcode P lo (.rangeFunc f params assign body) cx t ⟨d,u,h,n⟩ k:=by
 unfold yRange;obtain⟨fn,rd,df⟩:=cx
 cases rd with
 | none=>rfl
 | some l=>rfl
theorem ntmX_all(P:Program)(f:FuncId)(hf:∃fn,P.funcs[f]? = some fn):ntmX P f=ntm P f:=by
 obtain⟨fn,hf⟩:=hf;unfold ntmX ntm;rw [hf]
 have:Tr.get none (fnT P) f=some fn:=by
  unfold fnT;have h2:P.funcs.toList[f]? = some fn:=by rw[Array.getElem?_toList];exact hf
  have key:∀(l:List Func) (t:Tr (Option Func)) (i j:Nat) (x:Func),l[j]? = some x→Tr.get none (qB t i l) (i+j)=some x:=by
   intro l
   induction l with
   | nil=>intro t i j x h;simp at h
   | cons y l ih =>
    intro t i j x h
    cases j with
    | zero =>
     simp at h;subst h
     have keep:∀(l:List Func) (t:Tr (Option Func)) (i j:Nat),j<i→Tr.get none (qB t i l) j=Tr.get none t j:=by
      intro l
      induction l with
      | nil=>intro t i j _;rfl
      | cons z l ih2=>
       intro t i j hj;show Tr.get none (qB (t.set none (some z) i) (i+1) l) j=_;rw [ih2 _ _ _ (by omega),Tr.get_set_if,if_neg (by omega)]
     show Tr.get none (qB (t.set none (some y) i) (i+1) l) i=some y;rw [keep _ _ _ _ (by omega),Tr.get_set_if,if_pos rfl]
    | succ j=>
     have:=ih (t.set none (some y) i) (i+1) j x (by simpa using h);rw [← this];show Tr.get none (qB (t.set none (some y) i) (i+1) l) (i+(j+1))=_;congr 1;omega
  have:=key P.funcs.toList .lF 0 f fn h2
  rwa [Nat.zero_add]at this
 rw[this];rfl
theorem SameF.of_X{f:FuncId}{t t2:Fr}(hf:∃fn,P.funcs[f]? = some fn)(h:SameF (ntmX P f) t t2):SameF (ntm P f) t t2:=by
 rw[← ntmX_all P f hf];exact h
theorem CodeTo.none{c:Code}{cx:Cx}{t t':Fr}{w w':W}{x:AX}(hf:¬∃fn,P.funcs[cx.fn]? = some fn):CodeTo P ng c cx t w x t' w':=by
 intro _ b k ρ base w0 a wd cs hI;exact absurd (by obtain⟨fn,h⟩:=hI.fnd;exact⟨fn,by rw[← hI.fn];exact h⟩) hf
theorem codeTo_post{c:Code}{cx:Cx}{t t' t2:Fr}{w w':W}{x:AX}(h:SameF (ntmX P cx.fn) t' t2)(r:CodeTo P ng c cx t w x t' w'):CodeTo P ng c cx t w x t2 w':=by
 by_cases hf:∃fn,P.funcs[cx.fn]? = some fn
 · exact r.post (SameF.of_X hf h)
 · exact CodeTo.none hf
theorem qR{c:Code}{cx:Cx}{t t' t2:Fr}{w w':W}{x:AX}(h:SameF (ntmX P cx.fn) t t2)(r:CodeTo P ng c cx t2 w x t' w'):CodeTo P ng c cx t w x t' w':=by
 by_cases hf:∃fn,P.funcs[cx.fn]? = some fn
 · exact r.pre (SameF.of_X hf h)
 · exact CodeTo.none hf
def LpOK(P:Program)(ng:Nat)(lp:LP):Prop:=∀i cx t w k,lp i cx t w k=true→∃x t' w',k x t' w'=true∧CodeTo P ng (yZ P cx.fn i) cx t w x t' w'
def Loops(P:Program)(f:FuncId)(c:Code):Prop:=∀l∈vQ c,yZ P f (pR l)=l
theorem Loops.left{f:FuncId}{a b:List Code}(h:∀l∈a++b,yZ P f (pR l)=l):∀l∈a,yZ P f (pR l)=l:=fun l hl=>h l (List.mem_append.2 (.inl hl))
theorem Loops.right{f:FuncId}{a b:List Code}(h:∀l∈a++b,yZ P f (pR l)=l):∀l∈b,yZ P f (pR l)=l:=fun l hl=>h l (List.mem_append.2 (.inr hl))
theorem yCode_ok{lo:Lo}{lp:LP}(hP:xV ng P=true)(hmix:P.follows .mixedOrders=true)(hS:Sound P ng lo)(hL:LpOK P ng lp)(hint:rD) :
 ∀c cx t w kn ka,Loops P cx.fn c→yCode P hint lo lp c cx t w kn ka=true→∃x t' w',pH kn ka x t' w'=true∧CodeTo P ng c cx t w x t' w':=by
 intro c
 induction c with
 | skip=>exact fun cx t w kn ka _ h=>⟨.normal,t,w,h,fun _ b k=>yN (fun _ _ _=>stepR_skip) (tK b k cx t w)⟩
 | label l=>exact fun cx t w kn ka _ h=>⟨.normal,t,w,h,fun _ b k=>yN (fun _ _ _=>stepR_label) (tK b k cx t w)⟩
 | region id ops draw =>
  intro cx t w kn ka hl h;have h':(onW w fun d u h n=>Bool.rec (yOps P lo ops ops.toList t d u h n kn ka) (yDrawn P lo ops t d u h n kn ka) draw)=true:=h;rw [onW_eq]at h';obtain⟨d,u,hh,n⟩:=w
  cases draw with
  | true=>exact yDrawn_ok hP hmix hS id h'
  | false=>
   obtain⟨x,t',w',hk,h1⟩:=yOps_ok hP hS (cx:=cx) ops.toList t d u hh n kn ka (fun _ h=>h) h';refine⟨x,t',w',hk,fun hc b kk=>yN (fun _ _ _=>stepR_region) (h1 ?_ (List.range ops.size) (by simp) ?_ b kk)⟩
   · exact List.all_eq_true.1 hc
   · intro j i hj
     have:i=j:=by
      by_cases h9:j<ops.size
      · rw[List.getElem?_range h9]at hj;injection hj with hj;exact hj.symm
      · rw[List.getElem?_eq_none (by simpa using h9)]at hj;cases hj
     subst this;rw [Array.getElem?_toList]
 | rangeFunc f params asg body _ _ =>
  intro cx t w kn ka hl h;obtain⟨d,u,hh,n⟩:=w;have h':yRange lo (ev t f) params asg body cx t d u hh n (pH (meet P hint 3 cx.fn (pR body) kn) ka)=true:=h;rw [yRange_eq (P:=P)]at h';obtain⟨x,t',w',hk,h1⟩:=xrangeFunc_ok hS f params asg body cx t _ _ h'
  cases x with
  | normal=>
   obtain⟨t2,s1,s2⟩:=meet_true (show meet P hint 3 cx.fn (pR body) kn t' w'=true from hk);exact⟨.normal,t2,w',s2,codeTo_post s1 h1⟩
  | exit i=>exact⟨.exit i,t',w',hk,h1⟩
  | goto i=>exact⟨.goto i,t',w',hk,h1⟩
  | ret=>exact⟨.ret,t',w',hk,h1⟩
  | panic c=>exact⟨.panic c,t',w',hk,h1⟩
 | exit id=>exact fun cx t w kn ka _ h=>⟨.exit id,t,w,h,fun _ b k ρ _ _ a wd cs hI=>⟨ρ,a,wd,cs,hI,Grow.refl _ _ _ _ hI.hp.dom,CsTo.refl _ _,k,rfl,Steps.refl _ _⟩⟩
 | goto l=>exact fun cx t w kn ka _ h=>⟨.goto l,t,w,h,fun _ b k ρ _ _ a wd cs hI=>⟨ρ,a,wd,cs,hI,Grow.refl _ _ _ _ hI.hp.dom,CsTo.refl _ _,k,rfl,Steps.refl _ _⟩⟩
 | ret=>exact fun cx t w kn ka _ h=>⟨.ret,t,w,h,fun _ b k ρ _ _ a wd cs hI=>⟨ρ,a,wd,cs,hI,Grow.refl _ _ _ _ hI.hp.dom,CsTo.refl _ _,k,Steps.refl _ _⟩⟩
 | refuse why=>exact fun cx t w kn ka _ h=>(Bool.false_ne_true h).elim
 | seq a b iha ihb =>
  intro cx t w kn ka hl h;obtain⟨x,t1,w1,hk,h1⟩:=iha cx t w _ _ (Loops.left hl) h;have ok:∀{N},vY ng N (.seq a b)=true→vY ng N a=true∧vY ng N b=true:=fun h=>Bool.and_eq_true_iff.1 h
  have pass:x≠.normal→CodeTo P ng (.seq a b) cx t w x t1 w1:=fun hx hc fr k=>
   yN (fun _ _ _=>stepR_seq) ((h1 (ok hc).1 fr (.code b::k)).pass hx (fun _ _=>rfl) (fun _ _=>rfl))
  cases x with
  | normal=>
   obtain⟨x2,t2,w2,hk2,h2⟩:=ihb cx t1 w1 kn ka (Loops.right hl) hk;exact⟨x2,t2,w2,hk2,fun hc fr k=>yN (fun _ _ _=>stepR_seq) ((h1 (ok hc).1 fr (.code b::k)).trans (h2 (ok hc).2 fr k))⟩
  | exit i=>exact⟨.exit i,t1,w1,hk,pass AX.noConfusion⟩
  | goto i=>exact⟨.goto i,t1,w1,hk,pass AX.noConfusion⟩
  | ret=>exact⟨.ret,t1,w1,hk,pass AX.noConfusion⟩
  | panic c=>exact⟨.panic c,t1,w1,hk,pass AX.noConfusion⟩
 | cond c a b iha ihb =>
  intro cx t w kn ka hl h
  have h':wV (ev t c) (fun z=>
   Bool.rec (brJ z (fun kk=>yCode P hint lo lp a cx t w kk ka) (fun kk=>yCode P hint lo lp b cx t w kk ka) (meet P hint 2 cx.fn (pR (.seq a b)) kn))
    (br z (yCode P hint lo lp a cx t w kn ka) (yCode P hint lo lp b cx t w kn ka))
    (plainC a && plainC b && nt (endsB a && endsB b))) false=true:=h
  rcases onBool_some h' with⟨q,hq,h2⟩|h2
  case inr=>cases h2
  have fin:∀{x t' w'},CodeTo P ng (if q then a else b) cx t w x t' w'→CodeTo P ng (.cond c a b) cx t w x t' w':=by
   intro x t' w' hc hok fr k ρ base w0 ac wd cs hI;obtain⟨o1,o2⟩:=Bool.and_eq_true_iff.1 hok;obtain⟨o2,o3⟩:=Bool.and_eq_true_iff.1 o2;have hr:=ev_rv hI.hp hI.tm o1;rw [hq]at hr;have hr:=hr.of_bool;obtain⟨ρ',a',wd',cs',h1,h2,h3,h4⟩:=hc (by cases q <;> assumption) fr k ρ base w0 ac wd cs hI;exact⟨ρ',a',wd',cs',h1,h2,h3,h4.of_steps (.one (stepR_cond hr))⟩
  cases hfl:(plainC a && plainC b && nt (endsB a && endsB b)) with
  | true=>
   rw[hfl]at h2
   cases q with
   | true=>obtain⟨x,t',w',hk,h3⟩:=iha cx t w kn ka (Loops.left hl) h2;exact⟨x,t',w',hk,fin h3⟩
   | false=>obtain⟨x,t',w',hk,h3⟩:=ihb cx t w kn ka (Loops.right hl) h2;exact⟨x,t',w',hk,fin h3⟩
  | false =>
   rw[hfl]at h2
   have join:∀{x t' w'},pH (meet P hint 2 cx.fn (pR (.seq a b)) kn) ka x t' w'=true→CodeTo P ng (if q then a else b) cx t w x t' w'→∃x t' w',pH kn ka x t' w'=true∧CodeTo P ng (.cond c a b) cx t w x t' w':=by
    intro x t' w' hk h3
    cases x with
    | normal=>
     obtain⟨t2,s1,s2⟩:=meet_true (show meet P hint 2 cx.fn (pR (.seq a b)) kn t' w'=true from hk);exact⟨.normal,t2,w',s2,fin (codeTo_post s1 h3)⟩
    | exit i=>exact⟨.exit i,t',w',hk,fin h3⟩
    | goto i=>exact⟨.goto i,t',w',hk,fin h3⟩
    | ret=>exact⟨.ret,t',w',hk,fin h3⟩
    | panic c=>exact⟨.panic c,t',w',hk,fin h3⟩
   cases q with
   | true=>obtain⟨x,t',w',hk,h3⟩:=iha cx t w _ ka (Loops.left hl) h2;exact join hk h3
   | false=>obtain⟨x,t',w',hk,h3⟩:=ihb cx t w _ ka (Loops.right hl) h2;exact join hk h3
 | block id b ih =>
  intro cx t w kn ka hl h
  have h1:∃x t1 w1,pH (meet P hint 1 cx.fn id kn) (pI id (meet P hint 1 cx.fn id kn) ka) x t1 w1=true∧CodeTo P ng b cx t w x t1 w1:=by
   have h':(Bool.rec (pM (fun kk=>yCode P hint lo lp b cx t w kk (pI id kk ka)) (meet P hint 1 cx.fn id kn)) (yCode P hint lo lp b cx t w (meet P hint 1 cx.fn id kn) (pI id (meet P hint 1 cx.fn id kn) ka)) (vC b):Bool)=true:=h
   cases hb:vC b with
   | true=>rw [hb]at h';exact ih cx t w _ _ hl h'
   | false=>rw [hb]at h';exact ih cx t w _ _ hl h'
  obtain⟨x,t1,w1,hk,h1⟩:=h1;have ok:∀{N},vY ng N (.block id b)=true→vY ng N b=true:=fun h=>h
  have pass:x≠.normal→(∀i,x = .exit i→i≠id)→CodeTo P ng (.block id b) cx t w x t1 w1:=fun hx hi hc fr k=>
   yN (fun _ _ _=>stepR_block) ((h1 (ok hc) fr (.inBlock id::k)).pass hx (fun i e=>by
    have:(id == i)=false:=by simpa using fun e2=>hi i e e2.symm
    simp[exitTo,this]) (fun _ _=>rfl))
  cases x with
  | normal=>
   obtain⟨t2,s1,s2⟩:=meet_true (show meet P hint 1 cx.fn id kn t1 w1=true from hk);have hb:CodeTo P ng (.block id b) cx t w .normal t1 w1:=fun hc fr k=>yN (fun _ _ _=>stepR_block) ((h1 (ok hc) fr (.inBlock id::k)).trans (yN (fun _ _ _=>stepR_inBlock) (tK fr k cx t1 w1)));exact⟨.normal,t2,w1,s2,codeTo_post s1 hb⟩
  | exit i =>
   have hk':(Bool.rec (ka (.exit i) t1 w1) (meet P hint 1 cx.fn id kn t1 w1) (Nat.beq i id):Bool)=true:=hk
   cases hi:Nat.beq i id with
   | true=>
    rw[hi]at hk';obtain rfl:=yL hi;obtain⟨t2,s1,s2⟩:=meet_true hk';have hb:CodeTo P ng (.block i b) cx t w .normal t1 w1:=fun hc fr k=>yN (fun _ _ _=>stepR_block) (leads_block (h1 (ok hc) fr (.inBlock i::k)));exact⟨.normal,t2,w1,s2,codeTo_post s1 hb⟩
   | false =>
    rw[hi]at hk'
    exact⟨.exit i,t1,w1,hk',pass AX.noConfusion fun j e e2=>by
     injection e with e
     subst e e2;rw [Nat.beq_refl]at hi;cases hi⟩
  | goto i=>exact⟨.goto i,t1,w1,hk,pass AX.noConfusion fun _ e=>by cases e⟩
  | ret=>exact⟨.ret,t1,w1,hk,pass AX.noConfusion fun _ e=>by cases e⟩
  | panic c=>exact⟨.panic c,t1,w1,hk,pass AX.noConfusion fun _ e=>by cases e⟩
 | loop b _=>
  intro cx t w kn ka hl h;obtain⟨x,t',w',hk,h1⟩:=hL _ _ _ _ _ (show lp (pR (.loop b)) cx t w (pH noK ka)=true from h);have hc:yZ P cx.fn (pR (.loop b)) = .loop b:=hl _ (List.mem_cons_self ..);rw [hc]at h1;refine⟨x,t',w',?_,h1⟩
  cases x with
  | normal=>cases hk
  | _=>exact hk
 | scope b ih =>
  intro cx t w kn ka hl h;obtain⟨x,t1,w1,hk,h1⟩:=ih cx t w _ _ hl (show yCode P hint lo lp b cx t w kn (scpA ka)=true from h)
  have pass:x≠.normal→(∀l,x≠.goto l)→CodeTo P ng (.scope b) cx t w x t1 w1:=fun hx hg hc fr k=>
   yN (fun _ _ _=>stepR_scope) ((h1 hc fr (.inScope b::k)).pass hx (fun _ _=>rfl) (fun l e=>absurd e (hg l)))
  cases x with
  | normal=>exact⟨.normal,t1,w1,hk,fun hc fr k=>yN (fun _ _ _=>stepR_scope) ((h1 hc fr (.inScope b::k)).trans (yN (fun _ _ _=>stepR_inScope) (tK fr k cx t1 w1)))⟩
  | exit i=>exact⟨.exit i,t1,w1,hk,pass AX.noConfusion fun _=>AX.noConfusion⟩
  | goto i=>exact(Bool.false_ne_true hk).elim
  | ret=>exact⟨.ret,t1,w1,hk,pass AX.noConfusion fun _=>AX.noConfusion⟩
  | panic c=>exact⟨.panic c,t1,w1,hk,pass AX.noConfusion fun _=>AX.noConfusion⟩
theorem yLoop_ok{lo:Lo}{lp:LP}(hP:xV ng P=true)(hmix:P.follows .mixedOrders=true)(hS:Sound P ng lo)(hL:LpOK P ng lp)(hint:rD){b:Code}{cx:Cx}{t:Fr}{w:W}{ka:KX}
(hl:Loops P cx.fn (.loop b))(h:yLoop P hint lo lp b cx t w ka=true):∃x t' w',ka x t' w'=true∧CodeTo P ng (.loop b) cx t w x t' w':=by
 unfold yLoop at h;obtain⟨t0,s1,h2⟩:=rt_true h;rw [onW_eq]at h2;obtain⟨x,t1,w1,hk,h1⟩:=yCode_ok hP hmix hS hL hint b cx t0 w _ _ (fun l h=>hl l (List.mem_cons_of_mem _ h)) h2
 have pass:x≠.normal→CodeTo P ng (.loop b) cx t0 w x t1 w1:=fun hx hc fr k=>
  yN (fun _ _ _=>stepR_loop) ((h1 hc fr (.inLoop b::k)).pass hx (fun _ _=>rfl) (fun _ _=>rfl))
 cases x with
 | normal =>
  obtain⟨x2,t2,w2,hk2,h2⟩:=hL _ _ _ _ _ (show lp (pR (.loop b)) cx t1 w1 ka=true from hk);rw [show yZ P cx.fn (pR (.loop b)) = .loop b from hl _ (List.mem_cons_self ..)]at h2
  exact⟨x2,t2,w2,hk2,qR s1 fun hc fr k=>yN (fun _ _ _=>stepR_loop)
   ((h1 hc fr (.inLoop b::k)).trans (yN (fun _ _ _=>stepR_inLoop) (leads_unloop (h2 hc fr k))))⟩
 | exit i=>exact⟨.exit i,t1,w1,hk,qR s1 (pass AX.noConfusion)⟩
 | goto i=>exact⟨.goto i,t1,w1,hk,qR s1 (pass AX.noConfusion)⟩
 | ret=>exact⟨.ret,t1,w1,hk,qR s1 (pass AX.noConfusion)⟩
 | panic c=>exact⟨.panic c,t1,w1,hk,qR s1 (pass AX.noConfusion)⟩
end
section
variable {P:Program} {ng:Nat}
noncomputable def isSo(p:Prop):Bool:=@decide p (Classical.propDecidable p)
theorem isSo_iff{p:Prop}:isSo p=true↔p:=@decide_eq_true_iff p (Classical.propDecidable p)
theorem args0_eq{t:Fr}{i:Nat}{l:List Value}{k:Fr→Bool}:args0 t i l k=k (Tr.ofListFrom undef t i l):=by
 induction l generalizing t i with
 | nil=>rfl
 | cons v r ih=>
  show(zL v fun v=>fsetK t i v fun t=>args0 t (Nat.succ i) r k)=_;rw [wY];unfold fsetK;rw [Tr.setK_eq,ih];rfl
noncomputable def loS(P:Program)(ng:Nat):Lo where
 code c cx t w k:=isSo (∃x t' w',k x t' w'=true∧CodeTo P ng c cx t w x t' w')
 call f args df u h n k:=isSo (∃o u' h' n',k o u' h' n'=true∧CallTo P ng f args df u h n o u' h' n')
 round l args h n k:=isSo (∃o h' n',k o h' n'=true∧RoundTo P ng l args h n o h' n')
 leave fn mode t w k:=isSo (∃o u' h' n',k o u' h' n'=true∧LeaveTo P ng fn mode t w o u' h' n')
theorem loS_code{c:Code}{cx:Cx}{t:Fr}{w:W}{k:KX}:(loS P ng).code c cx t w k=true↔∃x t' w',k x t' w'=true∧CodeTo P ng c cx t w x t' w':=by
 unfold loS;exact isSo_iff
theorem loS_call{f:FuncId}{args:List Value}{df:Bool}{u:Option yF}{h:zH}{n:Nat}{k:KO}:(loS P ng).call f args df u h n k=true↔∃o u' h' n',k o u' h' n'=true∧CallTo P ng f args df u h n o u' h' n':=by
 unfold loS;exact isSo_iff
theorem loS_round{l:Nat}{args:List Value}{h:zH}{n:Nat}{k:Out→zH→Nat→Bool}:(loS P ng).round l args h n k=true↔∃o h' n',k o h' n'=true∧RoundTo P ng l args h n o h' n':=by
 unfold loS;exact isSo_iff
theorem loS_leave{fn:Func}{mode:Option yF}{t:Fr}{w:W}{k:KO}:(loS P ng).leave fn mode t w k=true↔∃o u' h' n',k o u' h' n'=true∧LeaveTo P ng fn mode t w o u' h' n':=by
 unfold loS;exact isSo_iff
theorem qZ:Sound P ng (loS P ng) where
 code _ _ _ _ _ h:=loS_code.1 h
 call _ _ _ _ _ _ _ h:=loS_call.1 h
 round _ _ _ _ _ h:=loS_round.1 h
 leave _ _ _ _ _ h:=loS_leave.1 h
noncomputable def lpS(P:Program)(ng:Nat):LP:=fun i cx t w k=>isSo (∃x t' w',k x t' w'=true∧CodeTo P ng (yZ P cx.fn i) cx t w x t' w')
theorem lpS_iff{i:Nat}{cx:Cx}{t:Fr}{w:W}{k:KX}:lpS P ng i cx t w k=true↔∃x t' w',k x t' w'=true∧CodeTo P ng (yZ P cx.fn i) cx t w x t' w':=by
 unfold lpS;exact isSo_iff
theorem lpOK_lpS:LpOK P ng (lpS P ng):=fun _ _ _ _ _ h=>lpS_iff.1 h
theorem argsGo_true{N:Nat}:∀{args:List Value} {l:List Ty} {i:Nat} {t:Fr} {K:Fr→Bool} ,argsGo l args i t K=true→∃t',SameF N (Tr.ofListFrom undef t i args) t'∧K t'=true:=by
 intro args
 induction args with
 | nil=>intro l i t K h;exact⟨t,SameF.refl _ _,h⟩
 | cons v r ih =>
  intro l i t K h
  cases l with
  | nil=>
   have h':(fsetK t i v fun t=>argsGo [] r (Nat.succ i) t K)=true:=h;exact ih (oG h')
  | cons T l=>
   have h':(rtS T v fun v=>fsetK t i v fun t=>argsGo l r (Nat.succ i) t K)=true:=h;have:=tO h';exact ih (oG this)
theorem yCall_ok{lo:Lo}{lp:LP}(hP:xV ng P=true)(hmix:P.follows .mixedOrders=true)(hS:Sound P ng lo)(hL:LpOK P ng lp)(hint:rD)
{f:FuncId}(hlo:∀fb,rU P f=some fb→Loops P f fb.2){args:List Value}{df:Bool}{u:Option yF}{h:zH}{n:Nat}{k:KO}(hx:yCall P hint lo lp f args df u h n k=true) :
 ∃o u' h' n',k o u' h' n'=true∧CallTo P ng f args df u h n o u' h' n':=by
 refine xcall_ok hP qZ ?_;unfold yCall at hx;unfold xcall
 cases hb:rU P f with
 | none=>rw [hb]at hx;cases hx
 | some p =>
  obtain⟨fn,body⟩:=p;rw [hb]at hx
  have hx1:(Bool.rec false (argsGo (hint 4 f 0) args 0 (full (ntmX P f) (fun _=>undef) (ntmX P f)) fun t=>
   yCode P hint lo lp body ⟨f,none,df⟩ t ⟨[],u,h,n⟩ (fun t w=>zJ P lo f k .ret t w) (zJ P lo f k)) (Nat.ble args.length (ntmX P f)):Bool)=true:=hx
  have hn:ntmX P f=fn.ntmps:=by
   rw[ntmX_all P f ⟨fn,(bodyOf_some hb).1⟩,ntm_eq (bodyOf_some hb).1]
  rw[hn]at hx1
  have hlen:Nat.ble args.length fn.ntmps=true:=by
   cases e:Nat.ble args.length fn.ntmps with
   | true=>rfl
   | false=>rw [e]at hx1;cases hx1
  rw[hlen]at hx1
  show(Bool.rec false (args0 fr0 0 args fun t=>
   (loS P ng).code body ⟨f,none,df⟩ t ⟨[],u,h,n⟩ fun x t w=>AX.rec ((loS P ng).leave fn none t w k) (fun _=>false) (fun _=>false) ((loS P ng).leave fn none t w k) (fun c=>(loS P ng).leave fn (some c) t w k) x) (Nat.ble args.length fn.ntmps):Bool)=true
  rw[hlen]
  show(args0 fr0 0 args fun t=>
   (loS P ng).code body ⟨f,none,df⟩ t ⟨[],u,h,n⟩ fun x t w=>AX.rec ((loS P ng).leave fn none t w k) (fun _=>false) (fun _=>false) ((loS P ng).leave fn none t w k) (fun c=>(loS P ng).leave fn (some c) t w k) x)=true
  obtain⟨t0,s1,hx2⟩:=argsGo_true (N:=ntmX P f) hx1;obtain⟨x,t',w',hk,hc⟩:=yCode_ok hP hmix hS hL hint body _ _ _ _ _ (hlo _ hb) hx2
  have hfr:SameF (ntmX P f) (Tr.ofListFrom undef fr0 0 args) t0:=by
   refine SameF.trans ?_ s1;intro i hi;unfold zA;rw [Tr.get_ofListFrom,Tr.get_ofListFrom];have h1:=full_get fn.ntmps (fun _=>undef) fn.ntmps i (Nat.le_refl _);have h2:zA fr0 i=undef:=Tr.get_leaf _ _;unfold zA at h1 h2;rw [h1,h2];simp
  have hc2:=qR (cx:=⟨f,none,df⟩) hfr hc;rw [args0_eq];have lift:∀mode,sC P lo fn mode t' w' k=true→(loS P ng).leave fn mode t' w' k=true:=fun mode h=>loS_leave.2 (xleave_ok hP hS h);have hk':zJ P lo f k x t' w'=true:=by cases x <;> exact hk
  unfold zJ at hk';rw [hb]at hk';refine loS_code.2 ⟨x,t',w',?_,hc2⟩
  cases x with
  | normal=>exact lift _ hk'
  | exit i=>cases hk'
  | goto i=>cases hk'
  | ret=>exact lift _ hk'
  | panic c=>exact lift _ hk'
end
noncomputable def sel(b:Bool)(x y:Value):Value:=Bool.rec y x b
noncomputable def letV(v:Value)(K:Value→Bool):Bool:=K v
noncomputable def pW(a b:Int):Bool:=Bool.rec true false (xN a b)
noncomputable def igtB(a b:Int):Bool:=wB b a
noncomputable def igeB(a b:Int):Bool:=sQ b a
noncomputable def yO(lo:Lo)(g:FuncId)(args:List Value)(h:zH)(n:Nat)(Kp:KC)(K:Value→zH→Nat→Bool):Bool:=
 lo.call g args false none h n fun o _ h n=>Out.rec (fun v=>K v h n) (fun c=>Kp c h n) o
noncomputable def pJ(lo:Lo)(kd:IntKind)(g:FuncId)(args:List Value)(h:zH)(n:Nat)(Kp:KC)(K:Int→zH→Nat→Bool):Bool:=
 lo.call g args false none h n fun o _ h n=>Out.rec (fun v=>rtI kd v fun a=>K a h n) (fun c=>Kp c h n) o
noncomputable def uL(lo:Lo)(g:FuncId)(args:List Value)(h:zH)(n:Nat)(Kp:KC)(K:Bool→zH→Nat→Bool):Bool:=
 lo.call g args false none h n fun o _ h n=>Out.rec (fun v=>rtB v fun a=>K a h n) (fun c=>Kp c h n) o
noncomputable def vR(lo:Lo)(f:Value)(args:List Value)(h:zH)(n:Nat)(Kp:KC)(K:Value→zH→Nat→Bool):Bool:=
 qW lo f args h n (fun v h n=>K v h n) (fun c h n=>Kp c h n)
noncomputable def invokeI(lo:Lo)(kd:IntKind)(f:Value)(args:List Value)(h:zH)(n:Nat)(Kp:KC)(K:Int→zH→Nat→Bool):Bool:=
 qW lo f args h n (fun v h n=>rtI kd v fun a=>K a h n) (fun c h n=>Kp c h n)
noncomputable def invokeB(lo:Lo)(f:Value)(args:List Value)(h:zH)(n:Nat)(Kp:KC)(K:Bool→zH→Nat→Bool):Bool:=
 qW lo f args h n (fun v h n=>rtB v fun a=>K a h n) (fun c h n=>Kp c h n)
noncomputable def rfs(c:Code):List (Array Tmp×Code×Code):=
 Code.rec (motive:=fun _=>List (Array Tmp×Code×Code)) [] (fun _ _ _=>[]) (fun _ _ a b=>a++b) (fun _ _ _ a b=>a++b) (fun _ _ a=>a) (fun _ a=>a)
  (fun _ ps x y a b=>(ps,x,y)::(a++b)) (fun _=>[]) (fun _ a=>a) (fun _=>[]) (fun _=>[]) [] (fun _=>[]) c
noncomputable def rfOf(P:Program)(f:FuncId)(i:Nat):Array Tmp×Code×Code:=
 Option.rec (#[],.skip,.skip) (fun fb=>List.rec (#[],.skip,.skip) (fun p _ ih=>Bool.rec ih p (Nat.beq (pR p.2.2) i)) (rfs fb.2)) (rU P f)
noncomputable def rfP(P:Program)(f:FuncId)(i:Nat):Array Tmp:=(rfOf P f i).1
noncomputable def rfA(P:Program)(f:FuncId)(i:Nat):Code:=(rfOf P f i).2.1
noncomputable def rfB(P:Program)(f:FuncId)(i:Nat):Code:=(rfOf P f i).2.2
noncomputable def unL(c:Code):Code:=Code.rec (motive:=fun _=>Code) .skip (fun _ _ _=>.skip) (fun _ _ _ _=>.skip) (fun _ _ _ _ _=>.skip) (fun _ _ _=>.skip) (fun b _=>b)
 (fun _ _ _ _ _ _=>.skip) (fun _=>.skip) (fun _ _=>.skip) (fun _=>.skip) (fun _=>.skip) .skip (fun _=>.skip) c
noncomputable def notIn(i:Nat)(l:List Code):Bool:=List.rec true (fun c _ ih=>Bool.rec ih false (Nat.beq (pR c) i)) l
noncomputable def freshB(l:List Code):Bool:=List.rec true (fun c r ih=>Bool.rec false ih (notIn (pR c) r)) l
theorem findC_of{l:List Code}(h:freshB l=true):∀c∈l,findC (pR c) l=c:=by
 induction l with
 | nil=>intro c hc;simp at hc
 | cons x r ih =>
  intro c hc;have h':(Bool.rec false (freshB r) (notIn (pR x) r):Bool)=true:=h
  cases hn:notIn (pR x) r with
  | false=>rw [hn]at h';cases h'
  | true=>
   rw[hn]at h';show(Bool.rec (findC (pR c) r) x (Nat.beq (pR x) (pR c)):Code)=c;rcases List.mem_cons.1 hc with rfl|hc
   · rw[Nat.beq_refl]
   · have hne:Nat.beq (pR x) (pR c)=false:=by
      have:∀r:List Code,c∈r→notIn (pR x) r=true→Nat.beq (pR x) (pR c)=false:=by
       intro r
       induction r with
       | nil=>intro hc;simp at hc
       | cons y r ih2 =>
        intro hc hn;have hn':(Bool.rec (notIn (pR x) r) false (Nat.beq (pR y) (pR x)):Bool)=true:=hn
        cases hb:Nat.beq (pR y) (pR x) with
        | true=>rw [hb]at hn';cases hn'
        | false=>
         rw[hb]at hn';rcases List.mem_cons.1 hc with rfl|hc
         · cases h9:Nat.beq (pR x) (pR c) with
           | false=>rfl
           | true=>rw [yL h9,Nat.beq_refl]at hb;cases hb
         · exact ih2 hc hn'
      exact this r hc hn
     rw[hne];exact ih h' c hc
theorem loopsOf_sub{c b:Code}(hm:Code.loop b∈vQ c):∀l∈vQ b,l∈vQ c:=by
 induction c with
 | skip=>simp [vQ]at hm
 | region id ops draw=>simp [vQ]at hm
 | seq x y ihx ihy=>
  have e:vQ (.seq x y)=vQ x++vQ y:=rfl;rw [e]at hm ⊢;intro l hl;rcases List.mem_append.1 hm with h|h
  · exact List.mem_append.2 (.inl (ihx h l hl))
  · exact List.mem_append.2 (.inr (ihy h l hl))
 | cond z x y ihx ihy=>
  have e:vQ (.cond z x y)=vQ x++vQ y:=rfl;rw [e]at hm ⊢;intro l hl;rcases List.mem_append.1 hm with h|h
  · exact List.mem_append.2 (.inl (ihx h l hl))
  · exact List.mem_append.2 (.inr (ihy h l hl))
 | block id x ih=>exact ih hm
 | loop x ih=>
  have e:vQ (.loop x) = .loop x::vQ x:=rfl;rw [e]at hm ⊢;intro l hl;rcases List.mem_cons.1 hm with h|h
  · injection h with h;subst h;exact List.mem_cons_of_mem _ hl
  · exact List.mem_cons_of_mem _ (ih h l hl)
 | rangeFunc f ps x y ihx ihy=>
  have e:vQ (.rangeFunc f ps x y)=vQ x++vQ y:=rfl;rw [e]at hm ⊢;intro l hl;rcases List.mem_append.1 hm with h|h
  · exact List.mem_append.2 (.inl (ihx h l hl))
  · exact List.mem_append.2 (.inr (ihy h l hl))
 | exit id=>simp [vQ]at hm
 | scope x ih=>exact ih hm
 | label l=>simp [vQ]at hm
 | goto l=>simp [vQ]at hm
 | ret=>simp [vQ]at hm
 | refuse w=>simp [vQ]at hm
noncomputable def yU(P:Program)(f:FuncId):Bool:=Option.rec true (fun fb=>freshB (vQ fb.2)) (rU P f)
theorem loops_of{P:Program}{f:FuncId}(h:yU P f=true):∀fb,rU P f=some fb→Loops P f fb.2:=by
 intro fb hb l hl;unfold yU at h;rw [hb]at h;unfold yZ;rw [hb];exact findC_of h l hl
abbrev CF:=Lo→LP→List Value→Bool→Option yF→zH→Nat→KO→Bool
abbrev BF:=Lo→LP→Option Nat→Bool→Fr→W→KX→Bool
structure EntF (P:Program) (ng:Nat) where
 f:FuncId
 F:CF
 ok:∀lo lp,Sound P ng lo→LpOK P ng lp→∀args df u h n k,F lo lp args df u h n k=true→∃o u' h' n',k o u' h' n'=true∧CallTo P ng f args df u h n o u' h' n'
structure EntL (P:Program) (ng:Nat) where
 f:FuncId
 i:Nat
 B:BF
 ok:∀lo lp,Sound P ng lo→LpOK P ng lp→∀rd df t w k,B lo lp rd df t w k=true→∃x t' w',k x t' w'=true∧CodeTo P ng (yZ P f i) ⟨f,rd,df⟩ t w x t' w'
section
variable {P:Program} {ng:Nat}
structure Two where
 lo:Lo
 lp:LP
end
section
variable {P:Program} {ng:Nat}
theorem RV.back{ρ ρ':Inj}(ha:∀b B,ρ b=some B→ρ' b = ρ b){v x:Value}(r:RV ρ v x):∀{v'},RV ρ' v v'→RV ρ v v':=by
 induction r with
 | bool b=>intro v' h;cases h;exact .bool b
 | int k n=>intro v' h;cases h;exact .int k n
 | float k n=>intro v' h;cases h;exact .float k n
 | complex k n m=>intro v' h;cases h;exact .complex k n m
 | string s=>intro v' h;cases h;exact .string s
 | nilPtr=>intro v' h;cases h;exact .nilPtr
 | ptr e=>intro v' h;cases h with
  | ptr e'=>rw [ha _ _ e]at e';exact .ptr e'
 | nilSlice l c e=>intro v' h;cases h with
  | nilSlice _ _ e'=>exact .nilSlice l c e'
 | slice e hc hl ho=>intro v' h;cases h with
  | slice e' hc' hl' ho'=>rw [ha _ _ e]at e';exact .slice e' hc' hl' ho'
  | slice0 e' a'=>rw [ha _ _ e]at e';exact .slice0 e' a'
  | opened e' hl' ho'=>exact absurd rfl hc
 | slice0 e a=>intro v' h;cases h with
  | slice e' hc' hl' ho'=>exact .slice0 e _
  | slice0 e' a'=>exact .slice0 e a'
 | opened e hl ho=>intro v' h;cases h with
  | slice e' hc' hl' ho'=>exact absurd rfl hc'
  | opened e' hl' ho'=>rw [ha _ _ e]at e';exact .opened e' hl' ho'
 | nilMap=>intro v' h;cases h;exact .nilMap
 | map e=>intro v' h;cases h with
  | map e'=>rw [ha _ _ e]at e';exact .map e'
 | func hy hf hc f1 c1 f2 c2 => intro v' h; cases h with
  | func hy' hf' hc' f1' c1'=>
   refine .func hy' hf' hc' (fun i w w' a b=>?_) (fun i w w' a b=>?_)
   · obtain⟨w0,hw0⟩:∃w0,(_:List Value)[i]? = some w0:=⟨_,List.getElem?_eq_getElem (hf ▸ (List.getElem?_eq_some_iff.1 a).1)⟩;exact f2 i w w0 a hw0 (f1' i w w' a b)
   · obtain⟨w0,hw0⟩:∃w0,(_:List Value)[i]? = some w0:=⟨_,List.getElem?_eq_getElem (hc ▸ (List.getElem?_eq_some_iff.1 a).1)⟩;exact c2 i w w0 a hw0 (c1' i w w' a b)
  | yield e=>exact absurd rfl (hy _)
 | yield e=>intro v' h;cases h with
  | func hy' hf' hc' f1' c1'=>exact absurd rfl (hy' _)
  | yield e'=>rw [ha _ _ e]at e';exact .yield e'
 | nilFunc=>intro v' h;cases h;exact .nilFunc
 | iface r ih=>intro v' h;cases h with
  | iface r'=>exact .iface (ih r')
 | nilIface=>intro v' h;cases h;exact .nilIface
 | agg hc c1 ih => intro v' h; cases h with
  | agg hc' c1'=>
   refine .agg hc' fun i w w' a b=>?_;obtain⟨w0,hw0⟩:∃w0,(_:List Value)[i]? = some w0:=⟨_,List.getElem?_eq_getElem (hc ▸ (List.getElem?_eq_some_iff.1 a).1)⟩;exact ih i w w0 a hw0 (c1' i w w' a b)
 | tuple hc c1 ih => intro v' h; cases h with
  | tuple hc' c1'=>
   refine .tuple hc' fun i w w' a b=>?_;obtain⟨w0,hw0⟩:∃w0,(_:List Value)[i]? = some w0:=⟨_,List.getElem?_eq_getElem (hc ▸ (List.getElem?_eq_some_iff.1 a).1)⟩;exact ih i w w0 a hw0 (c1' i w w' a b)
theorem ObjR.back{ρ ρ':Inj}(ha:∀b B,ρ b=some B→ρ' b = ρ b){base:Nat}{B:Bl}{o:AObj}{o0 o':Obj}(r0:ObjR P ng ρ base B o o0)(r:ObjR P ng ρ' base B o o'):ObjR P ng ρ base B o o':=by
 cases r with
 | cells hn hs hk hz hv hb hf =>
  rename_i c n z kd c' el lo hi
  cases r0 with
  | cells hn0 hs0 hk0 hz0 hv0 hb0 hf0=>
   rename_i c0 el0 lo0 hi0;refine .cells hn hs hk hz (fun i v' hi2 e=>?_) hb hf;have hlt:i<c0.size:=by rw[hs0];omega
   exact(hv0 i _ hi2 (Array.getElem?_eq_getElem hlt)).back ha (hv i v' hi2 e)
 | map he hb =>
  cases r0 with
  | map he0 hb0=>
   rename_i es es' clock es0;refine .map ⟨he.1,fun i e e' a b=>?_⟩ hb;obtain⟨e0,hw0⟩:∃e0,es0[i]? = some e0:=⟨_,List.getElem?_eq_getElem (he0.1 ▸ (List.getElem?_eq_some_iff.1 a).1)⟩;obtain⟨k1,k2,k3⟩:=he.2 i e e' a b;obtain⟨q1,q2,q3⟩:=he0.2 i e e0 a hw0;exact⟨k1,q2.back ha k2,k3⟩
 | loop h1 h2 h3 h4 h5 h6 h7 h8 h9 h10 h11 h12 hb =>
  cases r0 with
  | loop g1 g2 g3 g4 g5 g6 g7 g8 g9 g10 g11 g12 gb =>
   rename_i l l' t l0;obtain⟨D,e1,e2⟩:=h7;obtain⟨D0,e3,e4⟩:=g7;rw [ha _ _ e3]at e1;refine .loop h1 h2 h3 h4 h5 h6 ⟨D,e1,e2⟩ ⟨h8.sz,fun i v e=>?_⟩ h9 h10 h11 h12 hb
   have hlt:i<l0.tmps.size:=by
    have:=g8.sz;have h8s:=h8.sz;have:i<l'.tmps.size:=(Array.getElem?_eq_some_iff.1 e).1;omega
   exact(g8.tm i _ (Array.getElem?_eq_getElem hlt)).back ha (h8.tm i v e)
 | ready hb=>exact .ready hb
 | taken hb=>exact .taken hb
 | rows hn hv =>
  rename_i c n c' el fr
  cases r0 with
  | rows hn0 hv0=>
   rename_i c0 el0 fr0;refine .rows hn (fun i v' e hu=>?_);have hlt:i<c0.size:=by have:=(Array.getElem?_eq_some_iff.1 e).1;omega
   exact(hv0 i _ (Array.getElem?_eq_getElem hlt) hu).back ha (hv i v' e hu)
def uV:Value→Bool
 | .int _ _ | .bool _ | .string _ | .nilIface | .nilFunc=>true
 | _=>false
theorem RV.scal{ρ ρ':Inj}{v v':Value}(hv:uV v=true)(r:RV ρ v v'):RV ρ' v v':=by
 cases r <;> first|(cases hv;done)|skip
 · exact .bool _
 · exact .int _ _
 · exact .string _
 · exact .nilFunc
 · exact .nilIface
theorem RV.scals{ρ ρ':Inj}{v v':Value}(hv:uV v=true∨∃l:List Value,v = .tuple ⟨l⟩∧l.all uV=true)(r:RV ρ v v'):RV ρ' v v':=by
 rcases hv with hv|⟨l,rfl,hl⟩
 · exact r.scal hv
 · cases r with
   | tuple hc c1=>exact .tuple hc fun i w w' a b=>(c1 i w w' a b).scal (List.all_eq_true.1 hl w (List.mem_iff_getElem?.2 ⟨i,a⟩))
def Rets(P:Program)(ng:Nat)(f:FuncId)(args:List Value)(h:zH)(n:Nat)(Q:Value→zH→Nat→Prop):Prop:=
 ∀(u:Option yF) (k:KO),(∀v h' n',Q v h' n'→k (.ret v) u h' n'=true)→(loS P ng).call f args false u h n k=true
abbrev pA(P:Program)(ng:Nat)(f:FuncId)(args:List Value)(h:zH)(n:Nat)(v:Value):Prop:=
 Rets P ng f args h n fun v' h' n'=>v'=v∧h'=h∧n'=n
theorem Rets.mono{f:FuncId}{args:List Value}{h:zH}{n:Nat}{Q Q':Value→zH→Nat→Prop}(r:Rets P ng f args h n Q)(hq:∀v h' n',Q v h' n'→Q' v h' n'):Rets P ng f args h n Q':=
 fun u k hk=>r u k fun v h' n' q=>hk v h' n' (hq v h' n' q)
theorem zZ(hP:xV ng P=true)(hmix:P.follows .mixedOrders=true){hint:rD}{f:FuncId}(hl:yU P f=true){args:List Value}{h:zH}{n:Nat}{Q:Value→zH→Nat→Prop}
(hF:∀u k,(∀v h' n',Q v h' n'→k (.ret v) u h' n'=true)→yCall P hint (loS P ng) (lpS P ng) f args false u h n k=true):Rets P ng f args h n Q:=
 fun u k hk=>loS_call.2 (yCall_ok hP hmix qZ lpOK_lpS hint (loops_of hl) (hF u k hk))
theorem Rets.does{f:FuncId}{args:List Value}{h:zH}{n:Nat}{Q:Value→zH→Nat→Prop}(r:Rets P ng f args h n Q)(u:Option yF):∃v h' n',Q v h' n'∧CallTo P ng f args false u h n (.ret v) u h' n':=by
 have:=r u (fun o u' h' n'=>isSo (∃v,o = .ret v∧u'=u∧Q v h' n')) (fun v h' n' q=>isSo_iff.2 ⟨v,rfl,rfl,q⟩);obtain⟨o,u',h',n',hk,hc⟩:=loS_call.1 this;obtain⟨v,rfl,rfl,q⟩:=isSo_iff.1 hk;exact⟨v,h',n',q,hc⟩
theorem uT{g:FuncId}{args:List Value}{h:zH}{n:Nat}{Q:Value→zH→Nat→Prop}{Kp:KC}{K:Value→zH→Nat→Bool}(r:Rets P ng g args h n Q)(hK:∀v h' n',Q v h' n'→K v h' n'=true) :
 yO (loS P ng) g args h n Kp K=true:=r none _ hK
theorem callI_ok{kd:IntKind}{g:FuncId}{args:List Value}{h:zH}{n:Nat}{Q:Value→zH→Nat→Prop}{Kp:KC}{K:Int→zH→Nat→Bool}(r:Rets P ng g args h n Q)(hK:∀v h' n',Q v h' n'→rtI kd v (fun a=>K a h' n')=true) :
 pJ (loS P ng) kd g args h n Kp K=true:=r none _ hK
theorem callB_ok{g:FuncId}{args:List Value}{h:zH}{n:Nat}{Q:Value→zH→Nat→Prop}{Kp:KC}{K:Bool→zH→Nat→Bool}(r:Rets P ng g args h n Q)(hK:∀v h' n',Q v h' n'→rtB v (fun a=>K a h' n')=true) :
 uL (loS P ng) g args h n Kp K=true:=r none _ hK
theorem yH{g:FuncId}{args:List Value}{h:zH}{n:Nat}{v:Value}{Kp:KC}{K:Value→zH→Nat→Bool}(r:pA P ng g args h n v)(hK:K v h n=true) :
 yO (loS P ng) g args h n Kp K=true:=uT r fun v' h' n' ⟨e1,e2,e3⟩=>by rw[e1,e2,e3];exact hK
theorem rL{kd:IntKind}{g:FuncId}{args:List Value}{h:zH}{n:Nat}{a:Int}{Kp:KC}{K:Int→zH→Nat→Bool}(r:pA P ng g args h n (.int kd a))(hK:K a h n=true) :
 pJ (loS P ng) kd g args h n Kp K=true:=callI_ok r fun v' h' n' ⟨e1,e2,e3⟩=>by
  rw[e1,e2,e3];cases kd <;> exact hK
theorem zU{g:FuncId}{args:List Value}{h:zH}{n:Nat}{b:Bool}{Kp:KC}{K:Bool→zH→Nat→Bool}(r:pA P ng g args h n (.bool b))(hK:K b h n=true) :
 uL (loS P ng) g args h n Kp K=true:=callB_ok r fun v' h' n' ⟨e1,e2,e3⟩=>by rw[e1,e2,e3];exact hK
theorem findC_mem{i:Nat}{l:List Code}{b:Code}(h:findC i l = .loop b):Code.loop b∈l:=by
 induction l with
 | nil=>cases h
 | cons c r ih=>
  have h':(Bool.rec (findC i r) c (Nat.beq (pR c) i):Code) = .loop b:=h
  cases e:Nat.beq (pR c) i with
  | true=>rw [e]at h';exact List.mem_cons.2 (.inl h'.symm)
  | false=>rw [e]at h';exact List.mem_cons_of_mem _ (ih h')
theorem unL_of{c:Code}(h:vC c=true):c = .loop (unL c):=by
 cases c <;> first|(cases h;done)|rfl
theorem yK(hP:xV ng P=true)(hmix:P.follows .mixedOrders=true){hint:rD}{f:FuncId}(hl:yU P f=true){i:Nat}(hi:vC (yZ P f i)=true){rd:Option Nat}{df:Bool}{t:Fr}{w:W}{ka:KX}
(hx:yLoop P hint (loS P ng) (lpS P ng) (unL (yZ P f i)) ⟨f,rd,df⟩ t w ka=true):lpS P ng i ⟨f,rd,df⟩ t w ka=true:=by
 refine lpS_iff.2 ?_;have hb:=unL_of hi
 cases hf:rU P f with
 | none=>
  unfold yZ at hi;rw [hf]at hi;cases hi
 | some fb =>
  have hm:Code.loop (unL (yZ P f i))∈vQ fb.2:=by
   unfold yZ at hb;rw [hf]at hb;have:=findC_mem hb;unfold yZ;rw [hf];exact this
  rw[hb];refine yLoop_ok hP hmix qZ lpOK_lpS hint (b:=unL (yZ P f i)) ?_ hx;have h9:=loops_of hl fb hf;intro l hl2;refine h9 l ?_;rcases List.mem_cons.1 hl2 with rfl|h3
  · exact hm
  · exact loopsOf_sub hm l h3
noncomputable def xW(P:Program)(f:FuncId):Option (List ResultVar):=(rU P f).map fun fb=>fb.1.results.toList
theorem leave_res{L:Lo}{f:FuncId}{rs:List ResultVar}(hr:xW P f=some rs){k:KO}{t:Fr}{u:Option yF}{h:zH}{n:Nat}{l:List Value}(hl:wI P t h rs=some l) :
 zJ P L f k .ret t ⟨[],u,h,n⟩=k (.ret (tupled l)) u h n:=by
 unfold xW at hr
 cases hb:rU P f with
 | none=>rw [hb]at hr;cases hr
 | some fb=>
  rw[hb]at hr;injection hr with hr
  unfold zJ;rw [hb];show sC P L fb.1 none t ⟨[],u,h,n⟩ k=_;unfold sC;dsimp only at hr ⊢;rw [hr,hl];dsimp only;rw [wY]
theorem zV{L:Lo}{f:FuncId}{i:Nat}(hr:xW P f=some [.tmp i]){k:KO}{t:Fr}{u:Option yF}{h:zH}{n:Nat}{v:Value}(hv:zA t i=v)(hk:k (.ret v) u h n=true) :
 zJ P L f k .ret t ⟨[],u,h,n⟩=true:=by
 subst hv;rw [leave_res hr (l:=[zA t i]) rfl];exact hk
theorem leave2{L:Lo}{f:FuncId}{i j:Nat}(hr:xW P f=some [.tmp i,.tmp j]){k:KO}{t:Fr}{u:Option yF}{h:zH}{n:Nat}{v w:Value}(hv:zA t i=v)(hw:zA t j=w)(hk:k (.ret (.tuple ⟨[v,w]⟩)) u h n=true) :
 zJ P L f k .ret t ⟨[],u,h,n⟩=true:=by
 subst hv hw;rw [leave_res hr (l:=[zA t i,zA t j]) rfl];exact hk
theorem pB{L:Lo}{f:FuncId}(hr:xW P f=some []){k:KO}{t:Fr}{u:Option yF}{h:zH}{n:Nat}(hk:k (.ret (.tuple ⟨[]⟩)) u h n=true) :
 zJ P L f k .ret t ⟨[],u,h,n⟩=true:=by
 rw[leave_res hr (l:=[]) rfl];exact hk
end
theorem zF{R:Type}(v:Value)(K:Value→R):zL v K=K v:=wY v K
theorem zY(x:Bool)(K:Bool→Bool):fb x K=K x:=fb_eq x K
theorem xK(v:Value)(K:Value→Bool):letV v K=K v:=rfl
theorem zC{α : Type}(x: α)(K: α→Bool):opt (some x) K=K x:=rfl
theorem zD(k:IntKind)(a:Int)(K:Int→Bool):rtI k (.int k a) K=K a:=by cases k <;> rfl
theorem zI(b:Bool)(K:Bool→Bool):rtB (.bool b) K=K b:=rfl
theorem zQ{R:Type}(b:Bool)(f:Bool→R)(d:R):wV (.bool b) f d=f b:=rfl
theorem xI(d:List Deferred)(u:Option yF)(h:zH)(n:Nat)(f:List Deferred→Option yF→zH→Nat→Bool):onW ⟨d,u,h,n⟩ f=f d u h n:=rfl
theorem yS(d:KH→Bool)(kv:KH)(h:zH)(n:Nat):grd true d kv h n=d kv:=rfl
theorem xJ(d:KH→Bool)(kv:KH)(h:zH)(n:Nat):grd false d kv h n=kv h n undef:=rfl
theorem wP(a b:Bool):br true a b=a:=rfl
theorem wT(a b:Bool):br false a b=b:=rfl
theorem uB(x:Bool):gt true x=x:=rfl
theorem rM:nt true=false:=rfl
theorem sR:nt false=true:=rfl
theorem yR(x y:Value):sel true x y=x:=rfl
theorem yV(x y:Value):sel false x y=y:=rfl
theorem xQ(hs:List W):lks hs []=true:=rfl
theorem xD(b:Bool):aUn .not (.bool b)=some (.bool (!b)):=rfl
theorem pS(a b:Int):pW a b = !decide (a=b):=by unfold pW;rw [xZ];cases decide (a=b) <;> rfl
theorem igtB_ap(a b:Int):igtB a b=decide (b<a):=zT b a
theorem cmpI(f:Int→Int→Bool)(P:Program)(op:BinOp)(ty:TypeId)(q:Bool)(k:IntKind)(a b:Int)(K:Bool→Bool):yB f P op ty q (.int k a) (.int k b) K=K (f a b):=by
 show(Bool.rec false (fb (f a b) fun c=>K c) (uI k k):Bool)=_;have:uI k k=true:=by cases k <;> rfl
 rw[this,fb_eq]
theorem cmpS_eq(f:Int→Int→Bool)(P:Program)(ty:TypeId)(q:Bool)(a b:ByteArray)(K:Bool→Bool):yB f P .eql ty q (.string a) (.string b) K=K (a.data.toList == b.data.toList):=by
 show rtB (.bool (qC a.data.toList b.data.toList)) (fun c=>K c)=_;rw [tT];rfl
theorem cmpS_ne(f:Int→Int→Bool)(P:Program)(ty:TypeId)(q:Bool)(a b:ByteArray)(K:Bool→Bool):yB f P .neq ty q (.string a) (.string b) K=K (!(a.data.toList == b.data.toList)):=by
 show rtB (.bool (!qC a.data.toList b.data.toList)) (fun c=>K c)=_;rw [tT];rfl
theorem len_str{P:Program}{ty:TypeId}(hu:und P ty=some .string)(s:ByteArray)(r:List Value)(h:zH):zX P .len [ty] (.string s::r) h=some (.int .i64 (.ofNat s.data.toList.length)):=by
 show aLen P h ty (.string s)=_;unfold aLen;rw [hu]
theorem len_sl{P:Program}{ty e:TypeId}(hu:und P ty=some (.slice e))(p:Option Addr)(n c:Nat)(r:List Value)(h:zH):zX P .len [ty] (.slice p n c::r) h=some (.int .i64 (.ofNat n)):=by
 show aLen P h ty (.slice p n c)=_;unfold aLen;rw [hu]
theorem index_str{P:Program}{ty:TypeId}(hu:und P ty=some .string)(s:ByteArray)(k:IntKind)(i:Nat)(b:UInt8)(hb:s.data.toList[i]? = some b):rF P ty (.string s) (.int k (.ofNat i))=some (.int .u8 (.ofNat b.toNat)):=by
 unfold rF;dsimp only;rw [hu];dsimp only;rw [hb]
theorem addI(a b:Int)(K:Int→Bool)(h: -9223372036854775808≤a+b∧a+b<9223372036854775808):fi (wH .i64 (uF a b)) K=K (a+b):=by
 rw[fi_eq,iadd_eq,tN]
 have:IntKind.i64.wrap (a+b)=a+b:=by
  unfold IntKind.wrap;simp [IntKind.bits,IntKind.signed];omega
 rw[this]
theorem fb_split{x:Bool}{K:Bool→Bool}(ht:x=true→K true=true)(hf:x=false→K false=true):fb x K=true:=by
 rw[fb_eq];cases x with
 | true=>exact ht rfl
 | false=>exact hf rfl
theorem le_t{a b:Int}(h:sQ a b=true):a≤b:=by rw[vW]at h;exact of_decide_eq_true h
theorem le_f{a b:Int}(h:sQ a b=false):b<a:=by rw[vW]at h;have:=of_decide_eq_false h;omega
theorem lt_t{a b:Int}(h:wB a b=true):a<b:=by rw[zT]at h;exact of_decide_eq_true h
theorem lt_f{a b:Int}(h:wB a b=false):b≤a:=by rw[zT]at h;have:=of_decide_eq_false h;omega
theorem eq_t{a b:Int}(h:xN a b=true):a=b:=by rw[xZ]at h;exact of_decide_eq_true h
theorem eq_f{a b:Int}(h:xN a b=false):a≠b:=by rw[xZ]at h;exact of_decide_eq_false h
theorem ne_t{a b:Int}(h:pW a b=true):a≠b:=by rw[pS]at h;simpa using h
theorem ne_f{a b:Int}(h:pW a b=false):a=b:=by rw[pS]at h;simpa using h
theorem vI{P:Program}{op:BinOp}{ty:TypeId}{q:Bool}{k:IntKind}{a b:Int}{K:Bool→Bool}(ht:a≤b→K true=true)(hf:b<a→K false=true):yB sQ P op ty q (.int k a) (.int k b) K=true:=by
 rw[cmpI];cases e:sQ a b with
 | true=>exact ht (le_t e)
 | false=>exact hf (le_f e)
theorem vJ{P:Program}{op:BinOp}{ty:TypeId}{q:Bool}{k:IntKind}{a b:Int}{K:Bool→Bool}(ht:a<b→K true=true)(hf:b≤a→K false=true):yB wB P op ty q (.int k a) (.int k b) K=true:=by
 rw[cmpI];cases e:wB a b with
 | true=>exact ht (lt_t e)
 | false=>exact hf (lt_f e)
theorem vD{P:Program}{op:BinOp}{ty:TypeId}{q:Bool}{k:IntKind}{a b:Int}{K:Bool→Bool}(ht:b<a→K true=true)(hf:a≤b→K false=true):yB igtB P op ty q (.int k a) (.int k b) K=true:=by
 rw[cmpI];cases e:igtB a b with
 | true=>exact ht (lt_t e)
 | false=>exact hf (lt_f e)
theorem vK{P:Program}{op:BinOp}{ty:TypeId}{q:Bool}{k:IntKind}{a b:Int}{K:Bool→Bool}(ht:b≤a→K true=true)(hf:a<b→K false=true):yB igeB P op ty q (.int k a) (.int k b) K=true:=by
 rw[cmpI];cases e:igeB a b with
 | true=>exact ht (le_t e)
 | false=>exact hf (le_f e)
theorem vL{P:Program}{op:BinOp}{ty:TypeId}{q:Bool}{k:IntKind}{a b:Int}{K:Bool→Bool}(ht:a=b→K true=true)(hf:a≠b→K false=true):yB xN P op ty q (.int k a) (.int k b) K=true:=by
 rw[cmpI];cases e:xN a b with
 | true=>exact ht (eq_t e)
 | false=>exact hf (eq_f e)
theorem vM{P:Program}{op:BinOp}{ty:TypeId}{q:Bool}{k:IntKind}{a b:Int}{K:Bool→Bool}(ht:a≠b→K true=true)(hf:a=b→K false=true):yB pW P op ty q (.int k a) (.int k b) K=true:=by
 rw[cmpI];cases e:pW a b with
 | true=>exact ht (ne_t e)
 | false=>exact hf (ne_f e)
theorem tV{a b:Int}{K:Bool→Bool}(ht:a≤b→K true=true)(hf:b<a→K false=true):fb (sQ a b) K=true:=fb_split (fun h=>ht (le_t h)) (fun h=>hf (le_f h))
theorem tW{a b:Int}{K:Bool→Bool}(ht:a<b→K true=true)(hf:b≤a→K false=true):fb (wB a b) K=true:=fb_split (fun h=>ht (lt_t h)) (fun h=>hf (lt_f h))
theorem vN{a b:Int}{K:Bool→Bool}(ht:a=b→K true=true)(hf:a≠b→K false=true):fb (xN a b) K=true:=fb_split (fun h=>ht (eq_t h)) (fun h=>hf (eq_f h))
theorem vO{a b:Int}{K:Bool→Bool}(ht:a≠b→K true=true)(hf:a=b→K false=true):fb (pW a b) K=true:=fb_split (fun h=>ht (ne_t h)) (fun h=>hf (ne_f h))
theorem wF(b:Bool):gv (.bool b)=b:=rfl
theorem yY(b:Bool):gnv (.bool b)=nt b:=rfl
theorem xM:gv undef=false:=rfl
theorem yP:gnv undef=false:=rfl
theorem yI(n:Nat):Int.ofNat n=(n:Int):=rfl
theorem xR(A:KN→Bool)(kn:KN):pM A kn=A kn:=rfl
theorem zM(kn:KN)(ka:KX)(i:Nat)(t:Fr)(w:W):pH kn ka (.exit i) t w=ka (.exit i) t w:=rfl
theorem yC(kn:KN)(ka:KX)(t:Fr)(w:W):pH kn ka .ret t w=ka .ret t w:=rfl
theorem zN(id:Nat)(kn:KN)(ka:KX)(t:Fr)(w:W):pI id kn ka (.exit id) t w=kn t w:=by
 show(Bool.rec (ka (.exit id) t w) (kn t w) (Nat.beq id id):Bool)=_;rw [Nat.beq_refl]
theorem yD(id:Nat)(kn:KN)(ka:KX)(t:Fr)(w:W):pI id kn ka .ret t w=ka .ret t w:=rfl
theorem vT{a b:Int}{K:Int→Bool}(h: -9223372036854775808≤a+b∧a+b<9223372036854775808)(hK:K (a+b)=true):fi (wH .i64 (uF a b)) K=true:=by rw[addI a b K h];exact hK
theorem fi_sub{a b:Int}{K:Int→Bool}(h: -9223372036854775808≤a - b∧a - b<9223372036854775808)(hK:K (a - b)=true):fi (wH .i64 (isub a b)) K=true:=by
 rw[fi_eq,isub_eq,tN]
 have:IntKind.i64.wrap (a - b)=a - b:=by
  unfold IntKind.wrap;simp [IntKind.bits,IntKind.signed];omega
 rw[this];exact hK
theorem yW(n:Nat):Int.ofNat (no_index (OfNat.ofNat n))=(OfNat.ofNat n:Int):=rfl
section
variable {v:Value}
theorem fg0{a0 b0:Fr}:zA (.nD a0 v b0) 0=v:=rfl
theorem fg1{a1 b1 b0:Fr}{w0:Value}:zA (.nD (.nD a1 v b1) w0 b0) 1=v:=rfl
theorem fg3{a2 b2 b1 b0:Fr}{w1 w0:Value}:zA (.nD (.nD (.nD a2 v b2) w1 b1) w0 b0) 3=v:=rfl
theorem fg5{a2 b2 a1 b0:Fr}{w1 w0:Value}:zA (.nD (.nD a1 w1 (.nD a2 v b2)) w0 b0) 5=v:=rfl
theorem fg6{a2 b2 a1 a0:Fr}{w1 w0:Value}:zA (.nD a0 w0 (.nD a1 w1 (.nD a2 v b2))) 6=v:=rfl
theorem fg7{a3 b3 b2 b1 b0:Fr}{w2 w1 w0:Value}:zA (.nD (.nD (.nD (.nD a3 v b3) w2 b2) w1 b1) w0 b0) 7=v:=rfl
theorem fg8{a3 b3 b2 b1 a0:Fr}{w2 w1 w0:Value}:zA (.nD a0 w0 (.nD (.nD (.nD a3 v b3) w2 b2) w1 b1)) 8=v:=rfl
theorem fg18{a4 b4 b3 b2 a1 a0:Fr}{w3 w2 w1 w0:Value}:zA (.nD a0 w0 (.nD a1 w1 (.nD (.nD (.nD a4 v b4) w3 b3) w2 b2))) 18=v:=rfl
theorem fg19{a4 b4 b3 a2 b1 b0:Fr}{w3 w2 w1 w0:Value}:zA (.nD (.nD (.nD a2 w2 (.nD (.nD a4 v b4) w3 b3)) w1 b1) w0 b0) 19=v:=rfl
theorem fg29{a4 b4 a3 a2 a1 b0:Fr}{w3 w2 w1 w0:Value}:zA (.nD (.nD a1 w1 (.nD a2 w2 (.nD a3 w3 (.nD a4 v b4)))) w0 b0) 29=v:=rfl
theorem fg30{a4 b4 a3 a2 a1 a0:Fr}{w3 w2 w1 w0:Value}:zA (.nD a0 w0 (.nD a1 w1 (.nD a2 w2 (.nD a3 w3 (.nD a4 v b4))))) 30=v:=rfl
theorem fg31{a5 b5 b4 b3 b2 b1 b0:Fr}{w4 w3 w2 w1 w0:Value}:zA (.nD (.nD (.nD (.nD (.nD (.nD a5 v b5) w4 b4) w3 b3) w2 b2) w1 b1) w0 b0) 31=v:=rfl
end
noncomputable def sA(o:AObj)(i:Nat):Option Value:=match o with
 | .cells c n _ _=>if i<n then some (Tr.get undef c i) else none
 | .rows c n=>if i<n∧isU (Tr.get undef c i)=false then some (Tr.get undef c i) else none
 | _=>none
def tH(o:AObj):Option (Nat×Nat×Nat):=match o with
 | .cells _ n z kd=>some (n,z,kd)
 | .rows _ n=>some (n,0,3)
 | _=>none
theorem kd_of{a b c a' b' c':Nat}(h:some (a,b,c)=some (a',b',c')):c=c':=by injection h with h;injection h with _ h;injection h with _ h
noncomputable def mkC(l:List Value)(z kd:Nat):AObj:=.cells (Tr.ofListFrom undef .lF 0 l) l.length z kd
noncomputable def stC(o:AObj)(off:Nat)(vs:List Value):AObj:=match o with
 | .cells c n z kd=>.cells (Tr.ofListFrom undef c off vs) n z kd
 | o=>o
theorem uW(l:List Value)(z kd i:Nat):sA (mkC l z kd) i=l[i]? :=by
 unfold sA mkC;dsimp only;by_cases h:i<l.length
 · rw[if_pos h,Tr.get_ofListFrom,if_pos (by omega)];simp [List.getElem?_eq_getElem h,List.getD_eq_getElem?_getD]
 · rw[if_neg h,List.getElem?_eq_none (by omega)]
theorem oH(l:List Value)(z kd:Nat):tH (mkC l z kd)=some (l.length,z,kd):=rfl
theorem oI(o:AObj)(off:Nat)(vs:List Value){n z kd:Nat}(hi:tH o=some (n,z,kd))(hl:off+vs.length≤n)(hk:kd≠3:=by decide)(i:Nat) :
 sA (stC o off vs) i=if off≤i∧i<off+vs.length then vs[i - off]? else sA o i:=by
 cases o <;> first|(cases hi;done)|(exact absurd (kd_of hi).symm hk)|skip
 rename_i c n' z' kd';injection hi with hi
 injection hi with h1 h2
 subst h1;unfold sA stC;dsimp only;by_cases h:off≤i∧i<off+vs.length
 · rw[if_pos h,if_pos (by omega),Tr.get_ofListFrom,if_pos h];simp [List.getElem?_eq_getElem (show i - off<vs.length by omega),List.getD_eq_getElem?_getD]
 · rw[if_neg h];by_cases h2:i<n'
   · rw[if_pos h2,if_pos h2,Tr.get_ofListFrom,if_neg h]
   · rw[if_neg h2,if_neg h2]
theorem oJ(o:AObj)(off:Nat)(vs:List Value):tH (stC o off vs)=tH o:=by cases o <;> rfl
noncomputable def xX(h:zH)(b i:Nat):Option Value:=sA (yG h b) i
def rowAt(h:zH)(b off:Nat)(vs:List Value):Prop:=∀j v,vs[j]? = some v→xX h b (off+j)=some v
theorem rowAt.nil(h:zH)(b off:Nat):rowAt h b off []:=fun j v e=>by simp at e
def Ext(h:zH)(n:Nat)(h':zH)(n':Nat):Prop:=n≤n'∧∀b,b<n→yG h' b=yG h b
theorem Ext.refl(h:zH)(n:Nat):Ext h n h n:=⟨Nat.le_refl _,fun _ _=>rfl⟩
theorem Ext.trans{h h1 h2:zH}{n n1 n2:Nat}(a:Ext h n h1 n1)(b:Ext h1 n1 h2 n2):Ext h n h2 n2:=
 ⟨Nat.le_trans a.1 b.1,fun x hx=>(b.2 x (Nat.lt_of_lt_of_le hx a.1)).trans (a.2 x hx)⟩
theorem Ext.set{h h1:zH}{n n1 m b:Nat}{o:AObj}(a:Ext h n h1 n1)(hb:n≤b)(hm:n1≤m):Ext h n (h1.set .dead o b) m:=
 ⟨Nat.le_trans a.1 hm,fun x hx=>by rw[zP,if_neg (by omega)];exact a.2 x hx⟩
theorem Ext.cell{h h':zH}{n n':Nat}(a:Ext h n h' n'){b i:Nat}(hb:b<n):xX h' b i=xX h b i:=by
 unfold xX;rw [a.2 b hb]
theorem Ext.row{h h':zH}{n n':Nat}(a:Ext h n h' n'){b off:Nat}{vs:List Value}(hb:b<n)(r:rowAt h b off vs):rowAt h' b off vs:=
 fun j v e=>by rw[a.cell hb];exact r j v e
section
variable {P:Program} {ng:Nat}
theorem CallTo.pureE{f:FuncId}{args:List Value}{u':Option yF}{h h':zH}{n n':Nat}{v:Value}(c:CallTo P ng f args false none h n (.ret v) u' h' n')(hs:Ext h n h' n')
(hv:uV v=true∨∃l:List Value,v = .tuple ⟨l⟩∧l.all uV=true)(u:Option yF):CallTo P ng f args false u h n (.ret v) u h n:=by
 refine⟨c.1,fun ρ base w0 wd args' cs hH ha hu=>?_⟩;obtain⟨ρ',wd',fr,cs',s1,s2,s3,s4,s5,s6,s7⟩:=c.2 ρ base w0 wd args' cs hH ha (fun e=>by cases e)
 have hcs:cs'=cs:=by
  rcases s4 with e|⟨e,_⟩
  · exact e
  · cases e
 subst hcs
 have hlt:∀{b B},ρ b=some B→b<n:=fun {b B} e=>by
  rcases Nat.lt_or_ge b n with h1|h1
  · exact h1
  · rw[hH.dom b h1]at e;cases e
 have hag:∀b B,ρ b=some B→ρ' b = ρ b:=fun b B e=>s3.old b (hlt e);refine⟨ρ,wd',fr,cs',s1,⟨hH.dom,fun b B e hl=>?_,hH.inj,s2.below,s2.size,hH.glob,hH.ngn⟩,⟨Nat.le_refl _,fun _ _=>rfl,fun b B h1 e=>(by rw[hH.dom b h1]at e;cases e),s3.keep,s3.size,fun _ _ e=>e,s3.tape⟩,CsTo.refl _ _,(fun e=>Bool.noConfusion e),s6,?_⟩
 · obtain⟨o0,q1,q2⟩:=hH.obj b B e hl;have live:=hs.2 b (hlt e);obtain⟨o,p1,p2⟩:=s2.obj b B (by rw[hag b B e];exact e) (by rw[live];exact hl);rw [live]at p2;exact⟨o,p1,q2.back hag p2⟩
 · obtain⟨v',y1,y2,y3,y4,y5⟩:=s7;exact⟨v',y1,y2,y3,y4,y5.scals hv⟩
theorem Rets.pureE{f:FuncId}{args:List Value}{h:zH}{n:Nat}{v:Value}(r:Rets P ng f args h n fun v' h' n'=>v'=v∧Ext h n h' n')
(hv:uV v=true∨∃l:List Value,v = .tuple ⟨l⟩∧l.all uV=true):pA P ng f args h n v:=by
 obtain⟨v',h',n',⟨rfl,hs⟩,hc⟩:=r.does none;exact fun u k hk=>loS_call.2 ⟨_,u,h,n,hk _ _ _ ⟨rfl,rfl,rfl⟩,hc.pureE hs hv u⟩
theorem pC{o:AObj}{i:Nat}{v:Value}(h:sA o i=some v):(∃c n z kd,o = .cells c n z kd∧i<n∧Tr.get undef c i=v)∨∃c n,o = .rows c n∧i<n∧Tr.get undef c i=v∧isU v=false:=by
 cases o <;> first|(cases h;done)|skip
 · rename_i c n z kd;unfold sA at h;dsimp only at h;by_cases hi:i<n
   · rw[if_pos hi]at h;injection h with h;exact .inl ⟨c,n,z,kd,rfl,hi,h⟩
   · rw[if_neg hi]at h;cases h
 · rename_i c n;unfold sA at h;dsimp only at h;by_cases hi:i<n∧isU (Tr.get undef c i)=false
   · rw[if_pos hi]at h;injection h with h;exact .inr ⟨c,n,rfl,hi.1,h,by rw[← h];exact hi.2⟩
   · rw[if_neg hi]at h;cases h
theorem rA{a b:Nat}(h:a<b):Nat.blt a b=true:=by rw[Nat.blt_eq];exact h
theorem vE{a b:Nat}(h:a≤b):Nat.ble a b=true:=Nat.ble_eq_true_of_le h
theorem load_scal{ty:TypeId}{h:zH}{b off:Nat}{v:Value}(hs:yJ P ty = .scal)(hc:xX h b off=some v):zE P ty h (.pointer (some ⟨b,off,none⟩))=some v:=by
 show onRows (yG h b) (fun c kn=>
  Sh.rec none (Bool.rec none (zL (Tr.get undef c off) some) (Nat.blt off kn))
   (fun sz=>Bool.rec none (some (.agg ⟨c.toListFrom undef off sz⟩)) (Nat.ble (Nat.add off sz) kn)) (yJ P ty)) (fun c kn=>
  Sh.rec none (Bool.rec none (pX (Tr.get undef c off)) (Nat.blt off kn))
   (fun sz=>Bool.rec none (pY (c.toListFrom undef off sz)) (Nat.ble (Nat.add off sz) kn)) (yJ P ty)) none=_
 rcases pC hc with⟨c,n,z,kd,e1,e2,e3⟩|⟨c,n,e1,e2,e3,e4⟩
 · rw[e1,hs];show(Bool.rec none (zL (Tr.get undef c off) some) (Nat.blt off n):Option Value)=_;rw [rA e2];show zL (Tr.get undef c off) some=_;rw [wY,e3]
 · rw[e1,hs];show(Bool.rec none (pX (Tr.get undef c off)) (Nat.blt off n):Option Value)=_;rw [rA e2];show pX (Tr.get undef c off)=_;rw [e3];exact known1_of e4
theorem row_list{o:AObj}{off:Nat}{vs:List Value}{c:Tr Value}(hc:∀(i:Nat) (v:Value),sA o i=some v→Tr.get undef c i=v)(hr:∀j v,vs[j]? = some v→sA o (off+j)=some v):c.toListFrom undef off vs.length=vs:=by
 apply List.ext_getElem?;intro j;rw [Tr.getElem?_toListFrom];by_cases hj:j<vs.length
 · rw[if_pos hj,List.getElem?_eq_getElem hj];exact congrArg some (hc _ _ (hr j _ (List.getElem?_eq_getElem hj)))
 · rw[if_neg hj,List.getElem?_eq_none (by omega)]
theorem cells_cell{c:Tr Value}{n z kd i:Nat}{v:Value}(h:sA (.cells c n z kd) i=some v):Tr.get undef c i=v:=by
 rcases pC h with⟨c',n',z',kd',e1,e2,e3⟩|⟨c',n',e1,_⟩
 · injection e1 with e1 _ _ _;subst e1;exact e3
 · cases e1
theorem rows_cell{c:Tr Value}{n i:Nat}{v:Value}(h:sA (.rows c n) i=some v):Tr.get undef c i=v∧isU v=false:=by
 rcases pC h with⟨c',n',z',kd',e1,_⟩|⟨c',n',e1,e2,e3,e4⟩
 · cases e1
 · injection e1 with e1 _;subst e1;exact⟨e3,e4⟩
theorem rows_known{c:Tr Value}{n off:Nat}{vs:List Value}(hr:∀j v,vs[j]? = some v→sA (.rows c n) (off+j)=some v):vs.any isU=false:=by
 rw[List.any_eq_false];intro x hx;obtain⟨j,hj⟩:=List.mem_iff_getElem?.1 hx;rw [(rows_cell (hr j x hj)).2];exact Bool.false_ne_true
theorem load_agg{ty:TypeId}{h:zH}{b off sz:Nat}{vs:List Value}(hs:yJ P ty = .agg sz)(hl:vs.length=sz)(h0:0<sz)(hr:rowAt h b off vs):zE P ty h (.pointer (some ⟨b,off,none⟩))=some (.agg ⟨vs⟩):=by
 have hlast:=hr (sz - 1) (vs[sz - 1]'(by omega)) (List.getElem?_eq_getElem _);unfold rowAt xX at hr
 show onRows (yG h b) (fun c kn=>
  Sh.rec none (Bool.rec none (zL (Tr.get undef c off) some) (Nat.blt off kn))
   (fun sz=>Bool.rec none (some (.agg ⟨c.toListFrom undef off sz⟩)) (Nat.ble (Nat.add off sz) kn)) (yJ P ty)) (fun c kn=>
  Sh.rec none (Bool.rec none (pX (Tr.get undef c off)) (Nat.blt off kn))
   (fun sz=>Bool.rec none (pY (c.toListFrom undef off sz)) (Nat.ble (Nat.add off sz) kn)) (yJ P ty)) none=_
 rcases pC hlast with⟨c,n,z,kd,e1,e2,e3⟩|⟨c,n,e1,e2,e3,e4⟩
 · rw[e1]at hr ⊢;rw [hs];show(Bool.rec none (some (.agg ⟨c.toListFrom undef off sz⟩)) (Nat.ble (Nat.add off sz) n):Option Value)=_;rw [vE (show Nat.add off sz≤n by show off+sz≤n;omega)];show some (Value.agg ⟨c.toListFrom undef off sz⟩)=_;rw [← hl,row_list (fun i v e=>cells_cell e) hr]
 · rw[e1]at hr ⊢;rw [hs];show(Bool.rec none (pY (c.toListFrom undef off sz)) (Nat.ble (Nat.add off sz) n):Option Value)=_;rw [vE (show Nat.add off sz≤n by show off+sz≤n;omega)];show pY (c.toListFrom undef off sz)=_;rw [← hl,row_list (fun i v e=>(rows_cell e).1) hr];exact knownN_of (rows_known hr)
theorem index_sl{ty:TypeId}{sz b off len cap i:Nat}{k:IntKind}(hx:ixOf P ty = .slice sz)(hi:i<len):zR P ty (.slice (some ⟨b,off,none⟩) len cap) (.int k (i:Nat))=some (.pointer (some ⟨b,off+i*sz,none⟩)):=by
 show(Ix.rec none
  (fun sz=>onSlice (.slice (some ⟨b,off,none⟩) len cap) (fun b off len _=>Bool.rec none (some (.pointer (some ⟨b,Nat.add off (Nat.mul i sz),none⟩))) (Nat.blt i len)) none)
  (fun len' sz=>onPtr (.slice (some ⟨b,off,none⟩) len cap) (fun b off=>Bool.rec none (some (.pointer (some ⟨b,Nat.add off (Nat.mul i sz),none⟩))) (Nat.blt i len')) none) (ixOf P ty):Option Value)=_
 rw[hx];show(Bool.rec none (some (.pointer (some ⟨b,Nat.add off (Nat.mul i sz),none⟩))) (Nat.blt i len):Option Value)=_;rw [rA hi];rfl
theorem yM{ty:TypeId}{f o b off:Nat}(ho:offOf P ty f=some o):zB P ty f (.pointer (some ⟨b,off,none⟩))=some (.pointer (some ⟨b,off+o,none⟩)):=by
 show(Option.rec none (fun o=>some (.pointer (some ⟨b,Nat.add off o,none⟩))) (offOf P ty f):Option Value)=_;rw [ho];rfl
theorem sO{c:Tr Value}{i:Nat}{l:List Value}{k:Tr Value→Bool}(h1:∀v∈l,v.oneCell'=true)(hk:k (Tr.ofListFrom undef c i l)=true):uP c i l k=true:=by
 induction l generalizing c i with
 | nil=>exact hk
 | cons v r ih =>
  show(forceOne v fun v=>c.setK undef v i fun c'=>uP c' (Nat.succ i) r k)=true
  have e:∀K:Value→Bool,forceOne v K=K v:=fun K=>by
   have:=h1 v (List.mem_cons_self ..);cases v <;> first|rfl|cases this
  rw[e,Tr.setK_eq];exact ih (fun x hx=>h1 x (List.mem_cons_of_mem _ hx)) hk
theorem eAlloc_ok{el:TypeId}{h:zH}{n:Nat}{K:KH}{z:Value}(hz:wU P el=some z)(hK:K (h.set .dead (mkC (cellsOf z) (el+1) 0) n) (n+1) (.pointer (some ⟨n,0,none⟩))=true):tZ P el h n K=true:=by
 unfold tZ;rw [hz];show xB h n (uG (cellsOf z) el) (fun h' n'=>K h' n' (.pointer (some ⟨n,0,none⟩)))=true;rw [xC];exact hK
theorem eBox_ok{v:Value}{h:zH}{n:Nat}{K:KH}(h1:∀x∈cellsOf v,x.oneCell'=true)(hK:K (h.set .dead (mkC (cellsOf v) 0 0) n) (n+1) (.pointer (some ⟨n,0,none⟩))=true):eBox v h n K=true:=by
 unfold eBox;refine sO h1 ?_;rw [xC];exact hK
theorem eStore_ok{ty:TypeId}{b off sz m z kd:Nat}{v:Value}{h:zH}{n:Nat}{K:KH}(hs:yJ P ty = .scal∧sz=1∨yJ P ty = .agg sz)(hl:(cellsOf v).length=sz)(h1:∀x∈cellsOf v,x.oneCell'=true)
(hi:tH (yG h b)=some (m,z,kd))(hk:kd≠2∧kd≠3)(hle:off+sz≤m)(hK:K (h.set .dead (stC (yG h b) off (cellsOf v)) b) n undef=true):zW P ty (.pointer (some ⟨b,off,none⟩)) v h n K=true:=by
 have main:storeAt h b off (cellsOf v) (fun h'=>K h' n undef)=true:=by
  cases ho:yG h b <;> rw[ho]at hi <;> first|(cases hi;done)|(exact absurd (kd_of hi).symm hk.2)|skip
  rename_i c n' z' kd';injection hi with hi
  injection hi with e1 hi
  injection hi with e2 e3
  subst e1 e2 e3;unfold storeAt;rw [ho];show(Bool.rec (Bool.rec false (uP c off (cellsOf v) fun c'=>h.setK .dead (.cells c' n' z' kd') b fun h'=>K h' n undef) (Nat.ble (Nat.add off (cellsOf v).length) n')) false (Nat.beq kd' 2):Bool)=true
  have e4:Nat.beq kd' 2=false:=by
   cases e:Nat.beq kd' 2 with
   | false=>rfl
   | true=>exact absurd (yL e) hk.1
  rw[e4];show(Bool.rec false (uP c off (cellsOf v) fun c'=>h.setK .dead (.cells c' n' z' kd') b fun h'=>K h' n undef) (Nat.ble (Nat.add off (cellsOf v).length) n'):Bool)=true;rw [vE (show Nat.add off (cellsOf v).length≤n' by show off+_≤_;omega)];refine sO h1 ?_;rw [Tr.setK_eq];rw [ho]at hK;exact hK
 unfold zW
 show(Sh.rec false
  (Bool.rec false (storeAt h b off (cellsOf v) fun h'=>K h' n undef) (Nat.beq (cellsOf v).length 1))
  (fun sz=>Bool.rec false (storeAt h b off (cellsOf v) fun h'=>K h' n undef) (Nat.beq (cellsOf v).length sz)) (yJ P ty):Bool)=true
 rcases hs with⟨hs,rfl⟩|hs
 · rw[hs,hl];exact main
 · rw[hs,hl];show(Bool.rec false (storeAt h b off (cellsOf v) fun h'=>K h' n undef) (Nat.beq sz sz):Bool)=true;rw [Nat.beq_refl];exact main
end
end Go.Ex
