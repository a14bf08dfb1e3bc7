/- What the law leans on, part 5 of 24. Conditions: those that each theorem states. -/
import Derived.Test.YtdiejolnllipnaaGreatDoorMachPrintsx4
import Derived.Orders

set_option linter.unusedVariables false
set_option linter.unusedSimpArgs false
namespace Go.Ex
section
section
variable {P:Program} {ng:Nat}
theorem TmR.put{ρ : Inj}{N:Nat}{t:Fr}{ts:Array Value}(h:TmR ρ N t ts){v v':Value}(hv:RV ρ v v')(i:Nat):TmR ρ N (Tr.set undef v t i) (ts.setIfInBounds i v'):=by
 refine⟨by simpa using h.sz,λj x hx=>?_⟩;unfold fget;rw [Tr.get_set_if];rw [bD]at hx;by_cases e:i=j
 . subst e;rw [if_pos rfl]at hx ⊢;split at hx
   . injection hx with hx;subst hx;exact hv
   . cases hx
 . rw[if_neg e]at hx ⊢;exact h.tm j x hx
theorem run_loop{wd:World}{r:Nat}{l:Loop}(h:wd.heap[r]? = some (.loop l)):(Instr.getLoop r).run P wd = .ok l wd:=by simp[Instr.getLoop,getObj,Sem.run,h]
theorem run_setLoop{wd:World}{r:Nat}{l l2:Loop}(h:wd.heap[r]? = some (.loop l)):(setObj r (.loop l2)).run P wd = .ok () { wd with heap:=wd.heap.setIfInBounds r (.loop l2) }:=by simp[setObj,Sem.run,h]
noncomputable def setP:Fr->List Tmp->List Value->Fr
 | t,i::is,v::vs=>setP (Tr.set undef v t i) is vs
 | t,_,_=>t
theorem setParams_true:∀{is:List Tmp} {vs:List Value} {t:Fr} {k:Fr->Bool},sE t is vs k=true->is.length=vs.length/\k (setP t is vs)=true:=by
 intro is
 induction is with
 | nil=>
  intro vs t k h
  cases vs with
  | nil=>exact⟨rfl,h⟩
  | cons v vs=>cases h
 | cons i is ih =>
  intro vs t k h
  cases vs with
  | nil=>cases h
  | cons v vs=>
   simp only[sE,yN,fsetK,Tr.setK_eq]at h;obtain⟨h1,h2⟩:=ih h;exact⟨by simp[h1],h2⟩
theorem setP_ok{ρ : Inj}{N:Nat}:∀{is:List Tmp} {vs vs':List Value} {t:Fr} {ts:Array Value},TmR ρ N t ts->RVs ρ vs vs'->
 TmR ρ N (setP t is vs) ((is.zip vs').foldl (λtmps (x:Tmp×Value)=>tmps.setIfInBounds x.1 x.2) ts):=by
 intro is
 induction is with
 | nil=>intro vs vs' t ts h _;cases vs <;> exact h
 | cons i is ih =>
  intro vs vs' t ts h hv
  cases vs with
  | nil=>obtain rfl:=hv.of_nil;exact h
  | cons v vs=>
   obtain⟨v',r',rfl,h1,h2⟩:=hv.of_cons;exact ih (h.put h1 i) h2
theorem HeapR.turnLoop{ρ : Inj}{base:Nat}{w0:World}{h:zB}{n:Nat}{wd:World}(r:HeapR P ng ρ base w0 h n wd){l:Nat}{B:Bl}(hb: ρ l=some B){l1:Loop}{t1:Fr}(hg:zG h l = .loop l1 t1)(s:LoopState)(p:Option Code)
(hp:∀j,p=some j->∀N,yZ ng N j=true) :
 ∃l1':Loop,wd.heap[B.b]? = some (.loop l1')/\l1'.state=l1.state/\l1'.pending=l1.pending/\
  HeapR P ng ρ base w0 (h.set .dead (.loop { l1 with state:=s,pending:=p } t1) l) n { wd with heap:=wd.heap.setIfInBounds B.b (.loop { l1' with state:=s,pending:=p }) }/\
  Grow ρ h n wd ρ (h.set .dead (.loop { l1 with state:=s,pending:=p } t1) l) n { wd with heap:=wd.heap.setIfInBounds B.b (.loop { l1' with state:=s,pending:=p }) }:=by
 have eZ:zG h l≠.dead:=by rw[hg];exact AObj.noConfusion
 obtain⟨ob,e1,e2⟩:=r.obj l B hb eZ;rw [hg]at e2
 cases e2 with
 | loop h1 h2 h3 h4 h5 h6 h7 h8 h9 fM h11 h12 fT =>
  rename_i l1';have eD:=r.lt hb eZ
  obtain⟨g1,g2⟩:=r.turn hb eZ (.loop { l1 with state:=s,pending:=p } t1) (.loop { l1' with state:=s,pending:=p }) { wd with heap:=wd.heap.setIfInBounds B.b (.loop { l1' with state:=s,pending:=p }) } fT
   (.loop rfl rfl h3 h4 h5 h6 h7 h8 h9 fM hp h12 fT) (by simp[eD]) qL  (λc hc=>by
    show(wd.heap.setIfInBounds B.b _)[c]? = _;rw [bD,if_neg (λe=>hc e.symm)]) rfl rfl rfl
  exact⟨l1',e1,h1,h2,g1,g2⟩
def jumpOK(j:Option Code):Prop:=∀c,j=some c->∀(ng N:Nat),yZ ng N c=true
theorem endRound_ok{l:Nat}{j:Option Code}(hj:jumpOK j){h:zB}{n:Nat}{k:Out->zB->Nat->Bool}(hx:endRound l j h n k=true) :
 ∃h',k (.ret (.bool j.isNone)) h' n=true/\∀(ρ : Inj) (base:Nat) (w0 wd:World) (B:Bl),HeapR P ng ρ base w0 h n wd->ρ l=some B->
  ∃wd',(Instr.endRound B.b j).run P wd = .ok (.bool j.isNone) wd'/\HeapR P ng ρ base w0 h' n wd'/\Grow ρ h n wd ρ h' n wd':=by
 unfold endRound at hx;split at hx
 case h_2=>cases hx
 rename_i l2 t2 hg;rw [Tr.setK_eq]at hx
 have key:∀(s:LoopState) (q:Bool),s=(if j.isNone then .ready else .done)->q=j.isNone->k (.ret (.bool q)) (h.set .dead (.loop { l2 with state:=s,pending:=j } t2) l) n=true->
  ∃h',k (.ret (.bool j.isNone)) h' n=true/\∀(ρ : Inj) (base:Nat) (w0 wd:World) (B:Bl),HeapR P ng ρ base w0 h n wd->ρ l=some B->
   ∃wd',(Instr.endRound B.b j).run P wd = .ok (.bool j.isNone) wd'/\HeapR P ng ρ base w0 h' n wd'/\Grow ρ h n wd ρ h' n wd':=by
  intro s q hs hq hk;subst hq;refine⟨_,hk,fun ρ base w0 wd B hH hb=>?_⟩;obtain⟨l1',e1,e2,e3,e4,e5⟩:=hH.turnLoop hb hg s j (λc hc N=>hj c hc ng N);refine⟨_,?_,e4,e5⟩;subst hs;simp [Instr.endRound,Instr.getLoop,getObj,setObj,Sem.run,e1]
 cases j with
 | none=>exact key _ _ rfl rfl hx
 | some c=>exact key _ _ rfl rfl hx
theorem xround_ok{lo:Lo}(_hP:xC ng P=true)(hS:Sound P ng lo){l:Nat}{args:List Value}{h:zB}{n:Nat}{k:Out->zB->Nat->Bool}(hx:xround lo l args h n k=true) :
 ∃o h' n',k o h' n'=true/\RoundTo P ng l args h n o h' n':=by
 unfold xround at hx;split at hx
 case h_2=>cases hx
 rename_i ll t0 hg;obtain⟨eN,hx⟩:=setParams_true hx;obtain⟨x,t1,w1,hk,hc⟩:=hS.code _ _ _ _ _ hx
 cases x with
 | normal =>
  obtain⟨d1,u1,h1,n1⟩:=w1;dsimp only at hk;split at hk
  case h_2=>cases hk
  rename_i l1 tt1 hg1;split at hk
  case h_2=>cases hk
  rename_i hst1;rw [Tr.setK_eq]at hk;obtain⟨x2,t2,w2,hk2,hc2⟩:=hS.code _ _ _ _ _ hk;obtain⟨d2,u2,h2,n2⟩:=w2
  have body:∀(ρ : Inj) (base:Nat) (w0 wd:World) (args':List Value) (B:Bl) (c:Frame) (cs:List Frame),HeapR P ng ρ base w0 h n wd->ρ l=some B->RVs ρ args args'->
   ∃f tmps asg body,(Instr.yield B.b ⟨args'⟩).run P wd = .ok (.round B.b f tmps asg body) wd/\
    ∃(b:Frame) (ρ2:Inj) (a2:Act) (wd2:World),b.roundOf=some B.b/\b.kind = .normal/\InE P ng (Lost x2 ⟨d2,u2,h2,n2⟩) ρ2 base w0 b a2 wd2 (c::cs) ⟨ll.fn,some l,false⟩ t2 ⟨d2,u2,h2,n2⟩/\Grow ρ h n wd ρ2 h2 n2 wd2/\ρ2 l=some B/\
     Arr P (lone (Frame.round B.b f tmps asg body .normal) (c::cs) wd) b [] (c::cs) ρ2 a2 wd2 x2:=by
   intro ρ base w0 wd args' B c cs hH hb ha;have eZ:zG h l≠.dead:=by rw[hg];exact AObj.noConfusion
   obtain⟨ob,e1,e2⟩:=hH.obj l B hb eZ;rw [hg]at e2
   cases e2 with
   | loop q1 q2 q3 q4 q5 q6 q7 q8 q9 q10 q11 q12 fT =>
    rename_i ll'
    have hsz:¬((⟨args'⟩:Array Value).size≠ll'.params.size):=by
     have:ll'.params.size=args.length:=by rw[q4];simpa using eN
     have h3:=ha.1;simp;omega
    have hy:(Instr.yield B.b ⟨args'⟩).run P wd = .ok (.round B.b ll.fn ((ll'.params.zip ⟨args'⟩).foldl (λtmps (x:Tmp×Value)=>tmps.setIfInBounds x.1 x.2) ll'.tmps) ll.assign ll.body) wd:=by
     simp only[Instr.yield,Sem.run_bind,run_loop e1,Result.andThen_ok,if_neg hsz,q3,q5,q6];rfl
    refine⟨_,_,_,_,hy,?_⟩
    have ff:Frame.round B.b ll.fn ((ll'.params.zip ⟨args'⟩).foldl (λtmps (x:Tmp×Value)=>tmps.setIfInBounds x.1 x.2) ll'.tmps) ll.assign ll.body .normal =
     ({ (default:Frame) with fn:=ll.fn,kind:=.normal,roundOf:=some B.b }:Frame).atR { tmps:=(ll'.params.zip ⟨args'⟩).foldl (λtmps (x:Tmp×Value)=>tmps.setIfInBounds x.1 x.2) ll'.tmps,defers:=[] } [.code ll.assign,.beginRound,.code ll.body]:=rfl
    rw[ff]
    have htm:TmR ρ (ntm P ll.fn) (setP t0 ll.params.toList args) ((ll'.params.zip ⟨args'⟩).foldl (λtmps (x:Tmp×Value)=>tmps.setIfInBounds x.1 x.2) ll'.tmps):=by
     have:=setP_ok (is:=ll.params.toList) q8 ha;rw [q4,<- Array.foldl_toList,Array.toList_zip];exact this
    have hI:In P ng ρ base w0 ({ (default:Frame) with fn:=ll.fn,kind:=.normal,roundOf:=some B.b }:Frame) { tmps:=(ll'.params.zip ⟨args'⟩).foldl (λtmps (x:Tmp×Value)=>tmps.setIfInBounds x.1 x.2) ll'.tmps,defers:=[] } wd (c::cs) ⟨ll.fn,some l,false⟩ (setP t0 ll.params.toList args) ⟨[],none,h,n⟩:=
     ⟨rfl,rfl,⟨B,hb,rfl⟩,λ_=>rfl,htm,hH,.nil,(λe=>by cases e),q12⟩
    obtain⟨ρ1,a1,wd1,cs1,i1,g1,c1,r1⟩:=hc q9 _ [.beginRound,.code ll.body] ρ base w0 _ wd (c::cs) hI
    have fI:cs1=c::cs:=by
     rcases c1 with e|⟨e,_⟩
     . exact e
     . cases e
    subst fI;have fP: ρ1 l=some B:=g1.le hH.dom _ _ hb
    obtain⟨l1',z1,z2,z3,z4,z5⟩:=i1.hp.turnLoop fP hg1 .busy l1.pending (by
     have gV:zG h1 l≠.dead:=by rw[hg1];exact AObj.noConfusion
     obtain⟨ob1,y1,y2⟩:=i1.hp.obj l B fP gV;dsimp only at y2;rw [hg1]at y2
     cases y2 with
     | loop _ _ _ _ _ _ _ _ _ _ q _ _=>exact q)
    have im:(Instr.beginRound B.b).run P wd1 = .ok () { wd1 with heap:=wd1.heap.setIfInBounds B.b (.loop { l1' with state:=.busy,pending:=l1.pending }) }:=by
     have e9:({ l1' with state:=.busy,pending:=l1.pending }:Loop) = { l1' with state:=.busy }:=by rw[<- z3]
     rw[e9];simp only[Instr.beginRound,Sem.run_bind,run_loop z1,Result.andThen_ok,z2,hst1,run_setLoop z1];rfl
    have st:=stepR_beginRound (P:=P) (b:=({ (default:Frame) with fn:=ll.fn,kind:=.normal,roundOf:=some B.b }:Frame)) (a:=a1) (k:=[.code ll.body]) (cs:=c::cs) (w:=wd1) rfl im
    have hI2:In P ng ρ1 base w0 ({ (default:Frame) with fn:=ll.fn,kind:=.normal,roundOf:=some B.b }:Frame) a1 _ (c::cs) ⟨ll.fn,some l,false⟩ t1 ⟨d1,u1,_,n1⟩:=
     ⟨i1.fn,i1.kind,i1.rd,i1.rdf,i1.tm.resolve_left λh=>h,z4,i1.dr,(λe=>by cases e),i1.fnd⟩
    obtain⟨ρ2,a2,wd2,fZ,i2,g2,c2,r2⟩:=hc2 q10 _ [] ρ1 base w0 a1 _ (c::cs) hI2
    have fI:fZ=c::cs:=by
     rcases c2 with e|⟨e,_⟩
     . exact e
     . cases e
    subst fI;exact⟨_,ρ2,a2,wd2,rfl,rfl,i2,(g1.trans z5).trans g2,g2.le z4.dom _ _ fP,r2.of_steps (Steps.trans r1 (.one st))⟩
  cases d2 with
  | cons _ _=>cases hk2
  | nil =>
   dsimp only at hk2
   have fin:∀(j:Option Code),jumpOK j->endRound l j h2 n2 k=true->(∀(b:Frame) (ρ : Inj) (a:Act) (wd wd':World) (m0:Machine) (c:Frame) (cs:List Frame) (L:Nat),b.roundOf=some L->b.kind = .normal->(Instr.endRound L j).run P wd = .ok (.bool j.isNone) wd'->
    Arr P m0 b [] (c::cs) ρ a wd x2->Steps P m0 (lone (c.finish (.bool j.isNone)) cs wd'))->∃o h' n',k o h' n'=true/\RoundTo P ng l args h n o h' n':=by
    intro j hj he hm;obtain⟨h3,k3,hend⟩:=endRound_ok (P:=P) (ng:=ng) hj he;refine⟨_,h3,n2,k3,fun ρ base w0 wd args' B c cs hH hb ha=>?_⟩;obtain⟨f,tmps,asg,bd,y1,b,ρ2,a2,wd2,y2,y3,y4,y5,y6,y7⟩:=body ρ base w0 wd args' B c cs hH hb ha;obtain⟨wd3,z1,z2,z3⟩:=hend ρ2 base w0 wd2 B y4.hp y6;exact⟨f,tmps,asg,bd,y1,ρ2,wd3,z2,y5.trans z3,.bool j.isNone,RV.bool _,hm b ρ2 a2 wd2 wd3 _ c cs B.b y2 y3 z1 y7⟩
   cases x2 with
   | normal =>
    exact fin none (λc e=>by cases e) hk2 λb ρ a wd wd' m0 c cs L hb fU he hr=>
     Steps.trans hr (.one (stepR_round_end hb fU he))
   | ret =>
    exact fin (some .ret) (λc e _ _=>by injection e with e;subst e;rfl) hk2 λb ρ a wd wd' m0 c cs L hb fU he hr=>by
     obtain⟨k2,s⟩:=hr;exact s.trans (.one (stepR_round_ret hb fU he))
   | exit id =>
    exact fin (some (.exit id)) (λc e _ _=>by injection e with e;subst e;rfl) hk2 λb ρ a wd wd' m0 c cs L hb fU he hr=>by
     obtain⟨k2,ex,s⟩:=hr;exact s.trans (.one (stepR_round_exit hb fU (by rw[ex];rfl) he))
   | goto id =>
    exact fin (some (.goto id)) (λc e _ _=>by injection e with e;subst e;rfl) hk2 λb ρ a wd wd' m0 c cs L hb fU he hr=>by
     obtain⟨k2,ex,s⟩:=hr;exact s.trans (.one (stepR_round_goto hb fU (by rw[ex];rfl) he))
   | panic ch=>
    refine⟨_,h2,n2,hk2,fun ρ base w0 wd args' B c cs hH hb ha=>?_⟩;obtain⟨f,tmps,asg,bd,y1,b,ρ2,a2,wd2,y2,y3,y4,y5,y6,k2,ch',y7,y8⟩:=body ρ base w0 wd args' B c cs hH hb ha;have hd:a2.defers=[]:=by have:=y4.dr;generalize a2.defers=z at this;cases this;rfl
    exact⟨f,tmps,asg,bd,y1,ρ2,wd2,y4.hp,y5,ch',y7,y8.trans (.one (step_leave_panicked ⟨rfl,hd,y4.fnd⟩))⟩
 | exit i=>cases hk
 | goto i=>cases hk
 | ret=>cases hk
 | panic c=>cases hk
end
end
section
section
variable {P:Program} {ng:Nat}
theorem step_range{b:Frame}{a:Act}{kk:List Item}{cs:List Frame}{wd wd1:World}{f:Operand}{params:Array Tmp}{asg body:Code}{l:Nat}{mark:List Deferred}{d:Deferred}{nx:Next}{fr:Frame}
(he:(Instr.enterLoop b.fn a.tmps params asg body b.roundOf).run P wd = .ok (l,mark) wd1)
(hd:(Deferred.ofValue (a.eval f) #[.func (.yield l) #[] #[]]).run P wd1 = .ok d wd1)(hi:(invoke d.target d.args).run P wd1 = .ok nx wd1)(hp:pushed P nx=some fr) :
 step P (lone (b.atR a (.code (.rangeFunc f params asg body)::kk)) cs wd) = .next (lone fr (b.atR { tmps:=a.tmps,defers:=mark++a.defers } (.inRangeFunc l::kk)::cs) wd1):=by
 refine step_lone_go ?_;have ev1:(b.atR { tmps:=a.tmps,defers:=mark++a.defers } (.inRangeFunc l::kk)).eval=a.eval:=Frame.eval_atR b _ _
 have hr:(resolve a.eval { callee:=.value f,args:= #[.const (.func (.yield l) #[] #[])],argTypes:= #[] } 0).run P wd1 = .ok d wd1:=by
  simpa [resolve,Act.eval] using hd
 simp only[Frame.atR]at ev1;cases nx <;> simp only[pushed]at hp <;> first|(cases hp;done)|skip
 all_goals
  injection hp with hp
  subst hp;simp [stepG,stepG.exec,stepG.apply,Frame.atR,he,ev1,hr,hi]
theorem step_endRange{b:Frame}{a:Act}{kk:List Item}{cs:List Frame}{wd wd1:World}{l:Nat}{j:Option Code}(he:(Instr.endLoop l).run P wd = .ok j wd1) :
 step P (lone (b.atR a (.endRangeFunc l::kk)) cs wd) = .next (lone (b.atR a ((j.map Item.code).toList++kk)) cs wd1):=
 step_lone_go (by simp[stepG,stepG.exec,Frame.atR,he])
theorem xrange_ok{lo:Lo}(hS:Sound P ng lo){f:Operand}{params:Array Tmp}{asg body:Code}{cx:Cx}{t:Fr}{d:List Deferred}{u:Option zK}{h:zB}{n blk:Nat}{k:KX}(hx:xrange lo f params asg body cx t d u h n blk k=true) :
 ∃x t' w',k x t' w'=true/\∀(_hok:yZ ng (ntm P cx.fn) (.rangeFunc f params asg body)=true) (ρ : Inj) (base:Nat) (w0:World) (b:Frame) (a:Act) (wd:World) (cs:List Frame) (D:Bl) (kk:List Item),In P ng ρ base w0 b a wd cs cx t ⟨d,u,h,n⟩->ρ blk=some D->
  ∃dd nx fr,(Deferred.ofValue (a.eval f) #[.func (.yield wd.heap.size) #[] #[]]).run P { wd with heap:=wd.heap.push (.loop { state:=.ready,pending:=none,fn:=b.fn,tmps:=a.tmps,params,assign:=asg,body,defers:=D.b }) } =
   .ok dd { wd with heap:=wd.heap.push (.loop { state:=.ready,pending:=none,fn:=b.fn,tmps:=a.tmps,params,assign:=asg,body,defers:=D.b }) }/\
   (invoke dd.target dd.args).run P { wd with heap:=wd.heap.push (.loop { state:=.ready,pending:=none,fn:=b.fn,tmps:=a.tmps,params,assign:=asg,body,defers:=D.b }) } =
    .ok nx { wd with heap:=wd.heap.push (.loop { state:=.ready,pending:=none,fn:=b.fn,tmps:=a.tmps,params,assign:=asg,body,defers:=D.b }) }/\pushed P nx=some fr/\
   ∃ρ' a' wd' cs',InE P ng (Lost x w') ρ' base w0 b a' wd' cs' cx t' w'/\Grow ρ h n wd ρ' w'.h w'.n wd'/\CsTo cx.df cs cs'/\
    Arr P (lone fr (b.atR a (.inRangeFunc wd.heap.size::kk)::cs) { wd with heap:=wd.heap.push (.loop { state:=.ready,pending:=none,fn:=b.fn,tmps:=a.tmps,params,assign:=asg,body,defers:=D.b }) }) b kk cs' ρ' a' wd' x:=by
 unfold xrange at hx;rw [yM]at hx;obtain⟨o,h2,n2,hk,hc⟩:=xinvoke_ok hS hx
 have call:∀(hok:yZ ng (ntm P cx.fn) (.rangeFunc f params asg body)=true) (ρ : Inj) (base:Nat) (w0:World) (b:Frame) (a:Act) (wd:World) (cs:List Frame) (D:Bl) (kk:List Item),In P ng ρ base w0 b a wd cs cx t ⟨d,u,h,n⟩->ρ blk=some D->
  ∃dd nx fr,(Deferred.ofValue (a.eval f) #[.func (.yield wd.heap.size) #[] #[]]).run P { wd with heap:=wd.heap.push (.loop { state:=.ready,pending:=none,fn:=b.fn,tmps:=a.tmps,params,assign:=asg,body,defers:=D.b }) } =
   .ok dd { wd with heap:=wd.heap.push (.loop { state:=.ready,pending:=none,fn:=b.fn,tmps:=a.tmps,params,assign:=asg,body,defers:=D.b }) }/\
   (invoke dd.target dd.args).run P { wd with heap:=wd.heap.push (.loop { state:=.ready,pending:=none,fn:=b.fn,tmps:=a.tmps,params,assign:=asg,body,defers:=D.b }) } =
    .ok nx { wd with heap:=wd.heap.push (.loop { state:=.ready,pending:=none,fn:=b.fn,tmps:=a.tmps,params,assign:=asg,body,defers:=D.b }) }/\pushed P nx=some fr/\
   ∃ρ2 wd2,In P ng ρ2 base w0 b a wd2 cs cx t ⟨d,u,h2,n2⟩/\Grow ρ h n wd ρ2 h2 n2 wd2/\ρ2 n=some ⟨wd.heap.size,0,0⟩/\
    Back P (lone fr (b.atR a (.inRangeFunc wd.heap.size::kk)::cs) { wd with heap:=wd.heap.push (.loop { state:=.ready,pending:=none,fn:=b.fn,tmps:=a.tmps,params,assign:=asg,body,defers:=D.b }) }) (b.atR a (.inRangeFunc wd.heap.size::kk)) cs wd2 ρ2 o:=by
  intro hok ρ base w0 b a wd cs D kk hI hD;obtain⟨o1,o2⟩:=ak.1 hok;obtain⟨o2,o3⟩:=ak.1 o2;have hle:=Inj.le_put (⟨wd.heap.size,0,0⟩:Bl) (hI.hp.dom n (ad _))
  obtain⟨a1,a2⟩:=hI.hp.alloc (.loop { state:=.ready,pending:=none,fn:=cx.fn,tmps:= #[],params,assign:=asg,body,defers:=blk } t)
   (.loop { state:=.ready,pending:=none,fn:=b.fn,tmps:=a.tmps,params,assign:=asg,body,defers:=D.b }) ⟨wd.heap.size,0,0⟩ rfl
   (.loop rfl rfl hI.fn rfl rfl rfl ⟨D,hle _ _ hD,rfl⟩ (hI.tm.mono hle) o2 o3 (λj e=>by cases e) (by have:=hI.fnd;rwa [hI.fn]at this) hI.hp.size)
  have hf:RV (ρ.put n ⟨wd.heap.size,0,0⟩) (ev t f) (a.eval f):=(ev_rv hI.hp hI.tm o1).mono hle;obtain⟨dd,nx,fr,r1,r2,r3,r4⟩:=hc _ base w0 _ (a.eval f) [.func (.yield wd.heap.size) #[] #[]] a1 hf (RVs.cons (RV.yield (B:=⟨wd.heap.size,0,0⟩) (xZ _ _ _)) (RVs.nil _));refine⟨dd,nx,fr,r1,r2,r3,?_⟩;obtain⟨ρ2,wd2,s1,s2,s3⟩:=r4 (b.atR a (.inRangeFunc wd.heap.size::kk)) cs;have ig:=hle.trans (s2.le a1.dom);exact⟨ρ2,wd2,⟨hI.fn,hI.kind,hI.rd.mono ig,hI.rdf,hI.tm.mono ig,s1,hI.dr.mono ig,hI.ur.mono ig,hI.fnd⟩,a2.trans s2,s2.le a1.dom _ _ (xZ _ _ _),s3⟩
 cases o with
 | panic c=>
  refine⟨_,_,_,hk,λhok ρ base w0 b a wd cs D kk hI hD=>?_⟩;obtain⟨dd,nx,fr,r1,r2,r3,ρ2,wd2,i2,g2,b2,ch',c1,c2⟩:=call hok ρ base w0 b a wd cs D kk hI hD;exact⟨dd,nx,fr,r1,r2,r3,ρ2,a,wd2,cs,i2.e,g2,CsTo.refl _ _,_,ch',c1,by rw[Frame.raise_atR]at c2;exact c2⟩
 | ret v =>
  have hk':(match zG h2 n with
   | .loop l t0 => match l.state with
    | .busy=>false
    | _=>h2.setK .dead (.loop { l with state:=.exhausted } t0) n λh3=>match l.pending with
     | none=>k .normal t ⟨d,u,h3,n2⟩
     | some j=>lo.code j cx t ⟨d,u,h3,n2⟩ k
   | _=>false)=true:=hk
  cases hg:zG h2 n with
  | loop l t0 =>
   rw[hg]at hk';dsimp only at hk'
   have jw:l.state≠.busy/\(h2.setK .dead (.loop { l with state:=.exhausted } t0) n λh3=>match l.pending with
    | none=>k .normal t ⟨d,u,h3,n2⟩
    | some j=>lo.code j cx t ⟨d,u,h3,n2⟩ k)=true:=by
    split at hk'
    . cases hk'
    . rename_i hb;exact⟨hb,hk'⟩
   obtain⟨hbusy,hk4⟩:=jw;rw [Tr.setK_eq]at hk4
   have ends:∀(hok:yZ ng (ntm P cx.fn) (.rangeFunc f params asg body)=true) (ρ : Inj) (base:Nat) (w0:World) (b:Frame) (a:Act) (wd:World) (cs:List Frame) (D:Bl) (kk:List Item),In P ng ρ base w0 b a wd cs cx t ⟨d,u,h,n⟩->ρ blk=some D->
    ∃dd nx fr,(Deferred.ofValue (a.eval f) #[.func (.yield wd.heap.size) #[] #[]]).run P { wd with heap:=wd.heap.push (.loop { state:=.ready,pending:=none,fn:=b.fn,tmps:=a.tmps,params,assign:=asg,body,defers:=D.b }) } =
     .ok dd { wd with heap:=wd.heap.push (.loop { state:=.ready,pending:=none,fn:=b.fn,tmps:=a.tmps,params,assign:=asg,body,defers:=D.b }) }/\
     (invoke dd.target dd.args).run P { wd with heap:=wd.heap.push (.loop { state:=.ready,pending:=none,fn:=b.fn,tmps:=a.tmps,params,assign:=asg,body,defers:=D.b }) } =
      .ok nx { wd with heap:=wd.heap.push (.loop { state:=.ready,pending:=none,fn:=b.fn,tmps:=a.tmps,params,assign:=asg,body,defers:=D.b }) }/\pushed P nx=some fr/\
     ∃ρ2 wd3,In P ng ρ2 base w0 b a wd3 cs cx t ⟨d,u,h2.set .dead (.loop { l with state:=.exhausted } t0) n,n2⟩/\Grow ρ h n wd ρ2 (h2.set .dead (.loop { l with state:=.exhausted } t0) n) n2 wd3/\(∀j,l.pending=some j->∀N,yZ ng N j=true)/\
      Steps P (lone fr (b.atR a (.inRangeFunc wd.heap.size::kk)::cs) { wd with heap:=wd.heap.push (.loop { state:=.ready,pending:=none,fn:=b.fn,tmps:=a.tmps,params,assign:=asg,body,defers:=D.b }) }) (lone (b.atR a ((l.pending.map Item.code).toList++kk)) cs wd3):=by
    intro hok ρ base w0 b a wd cs D kk hI hD;obtain⟨dd,nx,fr,r1,r2,r3,ρ2,wd2,i2,g2,b2,v',c1,c2⟩:=call hok ρ base w0 b a wd cs D kk hI hD;refine⟨dd,nx,fr,r1,r2,r3,ρ2,?_⟩;have gV:zG h2 n≠.dead:=by rw[hg];exact AObj.noConfusion
    have jP:∀j,l.pending=some j->∀N,yZ ng N j=true:=by
     obtain⟨ob1,y1,y2⟩:=i2.hp.obj n _ b2 gV;dsimp only at y2;rw [hg]at y2
     cases y2 with
     | loop _ _ _ _ _ _ _ _ _ _ q _ _=>exact q
    obtain⟨l1',z1,z2,z3,z4,z5⟩:=i2.hp.turnLoop b2 hg .exhausted l.pending jP
    have he:(Instr.endLoop wd.heap.size).run P wd2 = .ok l.pending { wd2 with heap:=wd2.heap.setIfInBounds wd.heap.size (.loop { l1' with state:=.exhausted,pending:=l.pending }) }:=by
     have mw:¬((l1'.state == LoopState.busy)=true):=by rw[z2];simpa using hbusy
     have e9:({ l1' with state:=.exhausted,pending:=l.pending }:Loop) = { l1' with state:=.exhausted }:=by rw[<- z3]
     rw[e9];simp only[Instr.endLoop,Sem.run_bind,run_loop z1,Result.andThen_ok,if_neg mw,run_setLoop z1,Sem.run_pure,z3]
    refine⟨_,⟨i2.fn,i2.kind,i2.rd,i2.rdf,i2.tm,z4,i2.dr,i2.ur,i2.fnd⟩,g2.trans z5,jP,c2.trans (.one ?_)⟩;exact step_endRange (b:=b) (a:=a) (kk:=kk) (cs:=cs) he
   cases hp:l.pending with
   | none=>
    rw[hp]at hk4;refine⟨_,_,_,hk4,λhok ρ base w0 b a wd cs D kk hI hD=>?_⟩;obtain⟨dd,nx,fr,r1,r2,r3,ρ2,wd3,i3,g3,_,s3⟩:=ends hok ρ base w0 b a wd cs D kk hI hD;rw [hp]at i3 g3 s3;exact⟨dd,nx,fr,r1,r2,r3,ρ2,a,wd3,cs,i3.e,g3,CsTo.refl _ _,s3⟩
   | some j=>
    rw[hp]at hk4;obtain⟨x,t',w',k5,hc5⟩:=hS.code _ _ _ _ _ hk4;refine⟨x,t',w',k5,λhok ρ base w0 b a wd cs D kk hI hD=>?_⟩;obtain⟨dd,nx,fr,r1,r2,r3,ρ2,wd3,i3,g3,hpe,s3⟩:=ends hok ρ base w0 b a wd cs D kk hI hD;have hpe':=hpe j hp;rw [hp]at i3 g3 s3;obtain⟨ρ4,a4,wd4,cs4,i4,g4,c4,r4⟩:=hc5 (hpe' _) b kk ρ2 base w0 a wd3 cs i3;exact⟨dd,nx,fr,r1,r2,r3,ρ4,a4,wd4,cs4,i4,g3.trans g4,c4,r4.of_steps s3⟩
  | dead=>rw [hg]at hk';cases hk'
  | cells _ _ _ _=>rw [hg]at hk';cases hk'
  | map _ _=>rw [hg]at hk';cases hk'
  | deferred _=>rw [hg]at hk';cases hk'
  | siter _ _ _ _=>rw [hg]at hk';cases hk'
  | rows _ _=>rw [hg]at hk';cases hk'
theorem xrangeFunc_ok{lo:Lo}(hS:Sound P ng lo)(f:Operand)(params:Array Tmp)(asg body:Code)(cx:Cx)(t:Fr)(w:W)(k:KX)(hx:xcode P lo (.rangeFunc f params asg body) cx t w k=true) :
 ∃x t' w',k x t' w'=true/\CodeTo P ng (.rangeFunc f params asg body) cx t w x t' w':=by
 obtain⟨d,u,h,n⟩:=w;obtain⟨fn,rd,df⟩:=cx
 cases rd with
 | none =>
  have eV:(yD h n (.deferred true) λh' n'=>xrange lo f params asg body ⟨fn,none,df⟩ t ({ target:=.collected n,args:= #[] }::d) u h' n' n k)=true:=hx;rw [yM]at eV;obtain⟨x,t',w',hk,hc⟩:=xrange_ok hS eV;refine⟨x,t',w',hk,λhok b kk ρ base w0 a wd cs hI=>?_⟩;have hle:=Inj.le_put (⟨wd.heap.size,0,0⟩:Bl) (hI.hp.dom n (ad _));obtain⟨a1,a2⟩:=hI.hp.alloc (.deferred true) (.deferred (some [])) ⟨wd.heap.size,0,0⟩ rfl (.ready hI.hp.size)
  have hI2:In P ng (ρ.put n ⟨wd.heap.size,0,0⟩) base w0 b { tmps:=a.tmps,defers:=⟨.collected wd.heap.size,#[]⟩::a.defers } { wd with heap:=wd.heap.push (.deferred (some [])) } cs ⟨fn,none,df⟩ t ⟨{ target:=.collected n,args:= #[] }::d,u,h.set .dead (.deferred true) n,n+1⟩:=
   ⟨hI.fn,hI.kind,hI.rd.mono hle,hI.rdf,hI.tm.mono hle,a1,.coll (B:=⟨wd.heap.size,0,0⟩) (xZ _ _ _) (hI.dr.mono hle),hI.ur.mono hle,hI.fnd⟩
  obtain⟨dd,nx,fr,r1,r2,r3,ρ2,a2',wd2,fZ,i2,g2,c2,s2⟩:=hc hok _ base w0 b _ _ cs ⟨wd.heap.size,0,0⟩ kk hI2 (xZ _ _ _);refine⟨ρ2,a2',wd2,fZ,i2,a2.trans g2,c2,s2.of_steps (.one ?_)⟩
  have hro:b.roundOf=none:=by
   have:=hI.rd
   cases hb:b.roundOf with
   | none=>rfl
   | some l=>rw [hb]at this;exact this.elim
  exact step_range (mark:=[⟨.collected wd.heap.size,#[]⟩]) (by rw[hro];simp [Instr.enterLoop];rfl) r1 r2 r3
 | some l =>
  have eV:(match zG h l with
   | .loop ll _=>xrange lo f params asg body ⟨fn,some l,df⟩ t d u h n ll.defers k
   | _=>false)=true:=hx
  cases hg:zG h l with
  | loop ll t0 =>
   rw[hg]at eV;dsimp only at eV;obtain⟨x,t',w',hk,hc⟩:=xrange_ok hS eV;refine⟨x,t',w',hk,λhok b kk ρ base w0 a wd cs hI=>?_⟩;have hro:=hI.rd
   cases hb:b.roundOf with
   | none=>rw [hb]at hro;exact hro.elim
   | some l' =>
    rw[hb]at hro;obtain⟨B,hB,hBl⟩:=hro;have gV:zG h l≠.dead:=by rw[hg];exact AObj.noConfusion
    obtain⟨ob1,y1,y2⟩:=hI.hp.obj l _ hB gV;dsimp only at y2;rw [hg]at y2
    cases y2 with
    | loop _ _ _ _ _ _ q7 _ _ _ _ _ _=>
     rename_i ll';obtain⟨D,hD,hDb⟩:=q7;obtain⟨dd,nx,fr,r1,r2,r3,ρ2,a2',wd2,fZ,i2,g2,c2,s2⟩:=hc hok ρ base w0 b a wd cs D kk hI hD;refine⟨ρ2,a2',wd2,fZ,i2,g2,c2,s2.of_steps (.one ?_)⟩;refine step_range (mark:=[]) ?_ r1 r2 r3;rw [hb,<- hBl];simp only[Instr.enterLoop,Sem.run_bind,run_loop y1,Result.andThen_ok,Sem.run_pure,hDb];simp [newObj,Sem.run]
  | dead=>rw [hg]at eV;cases eV
  | cells _ _ _ _=>rw [hg]at eV;cases eV
  | map _ _=>rw [hg]at eV;cases eV
  | deferred _=>rw [hg]at eV;cases eV
  | siter _ _ _ _=>rw [hg]at eV;cases eV
  | rows _ _=>rw [hg]at eV;cases eV
end
end
section
section
variable (P:Program) (ng:Nat)
structure In0 (ρ : Inj) (base:Nat) (w0:World) (b:Frame) (a:Act) (wd:World) (cs:List Frame) (cx:Cx) (w:W):Prop where
 fn:b.fn=cx.fn
 kind:b.kind=kindOfDf cx.df
 rd:RdR ρ cx.round b.roundOf
 rdf:cx.round.isSome=true->cx.df=false
 hp:HeapR P ng ρ base w0 w.h w.n wd
 dr:DRs ρ w.d a.defers
 ur:UR ρ cx.df w.u cs
 fnd:∃fn,P.funcs[b.fn]? = some fn
def Done(m:Machine)(b:Frame)(a':Act)(cs':List Frame)(wd':World)(ρ':Inj)(o:Oper)(ops:Array Oper)(i:Nat)(rest:List Nat)(k:List Item):Out->Prop
 | .ret v=>∃v',RV ρ' v v'/\Steps P m (lone (b.atR (a'.put o.dst v') (.inRegion ops rest::k)) cs' wd')
 | .panic c=>∃c',ChR ρ' c c'/\Steps P m (lone { b.atR a' (.inRegion ops (i::rest)::k) with mode:=.panicking c' } cs' wd')
def OpTo(o:Oper)(cx:Cx)(t:Fr)(w:W)(out:Out)(w':W):Prop:=
 ∀(ρ : Inj) (base:Nat) (w0:World) (b:Frame) (a:Act) (wd:World) (cs:List Frame),In0 P ng ρ base w0 b a wd cs cx w->OpsR ρ t a o->
  ∀(ops:Array Oper) (i:Nat) (rest:List Nat) (k:List Item),ops[i]? = some o->Region.wanted o (yielded ops a.tmps)=true->
   ∃ρ' a' wd' cs',In0 P ng ρ' base w0 b a' wd' cs' cx w'/\a'.tmps=a.tmps/\Grow ρ w.h w.n wd ρ' w'.h w'.n wd'/\CsTo cx.df cs cs'/\
    Done P (lone (b.atR a (.inRegion ops (i::rest)::k)) cs wd) b a' cs' wd' ρ' o ops i rest k out
end
section
variable {P:Program} {ng:Nat}
theorem In.in0{ρ : Inj}{base:Nat}{w0:World}{b:Frame}{a:Act}{wd:World}{cs:List Frame}{cx:Cx}{t:Fr}{w:W}(h:In P ng ρ base w0 b a wd cs cx t w):In0 P ng ρ base w0 b a wd cs cx w:=
 ⟨h.fn,h.kind,h.rd,h.rdf,h.hp,h.dr,h.ur,h.fnd⟩
theorem In0.next{ρ ρ':Inj}{base:Nat}{w0:World}{b:Frame}{a:Act}{wd wd':World}{cs:List Frame}{cx:Cx}{w w':W}(h:In0 P ng ρ base w0 b a wd cs cx w)(hd:w'.d=w.d)(hu:w'.u=w.u)
(hp:HeapR P ng ρ' base w0 w'.h w'.n wd')(hg:Grow ρ w.h w.n wd ρ' w'.h w'.n wd'):In0 P ng ρ' base w0 b a wd' cs cx w':=
 have hle:=hg.le h.hp.dom
 ⟨h.fn,h.kind,h.rd.mono hle,h.rdf,hp,by rw[hd];exact h.dr.mono hle,by rw[hu];exact h.ur.mono hle,h.fnd⟩
theorem step_res{b:Frame}{a:Act}{cs:List Frame}{wd wd':World}{o:Oper}{ops:Array Oper}{i:Nat}{rest:List Nat}{k:List Item}{v':Value}(fJ:∀c,o.op≠.defer c)(ho:ops[i]? = some o)
(hw:Region.wanted o (yielded ops a.tmps)=true)(hr:Res ((execOp a.eval o).run P wd) v' wd') :
 step P (lone (b.atR a (.inRegion ops (i::rest)::k)) cs wd) = .next (lone (b.atR (a.put o.dst v') (.inRegion ops rest::k)) cs wd'):=by
 refine step_lone_go ?_;rw [stepGR_op ho hw,Oper.semAt_eq _ _ _ fJ]
 have hf:(b.atR a (.inRegion ops (i::rest)::k)).finish v'=b.atR (a.put o.dst v') (.inRegion ops rest::k):=by
  rw[Frame.finish_atR,ho];rfl
 rcases hr with hr|⟨hr,rfl⟩
 . rw[<- hf];simp [stepG.apply,hr]
 . rw[<- hf];simp [stepG.apply,hr]
theorem effVal_op{o:Oper}{cx:Cx}{t:Fr}{w w':W}{v:Value}(fJ:∀c,o.op≠.defer c)(h:EffVal P ng o t w v w'):OpTo P ng o cx t w (.ret v) w':=by
 intro ρ base w0 b a wd cs hI hO ops i rest k ho hw;obtain⟨ρ',v',wd',h1,h2,h3,h4⟩:=h.2.2 ρ base w0 a wd hO hI.hp;exact⟨ρ',a,wd',cs,hI.next h.1 h.2.1 h3 h4,rfl,h4,CsTo.refl _ _,v',h2,.one (step_res fJ ho hw h1)⟩
theorem step_push{b:Frame}{a:Act}{cs:List Frame}{wd:World}{o:Oper}{ops:Array Oper}{i:Nat}{rest:List Nat}{k:List Item}{nx:Next}{fr:Frame}(fJ:∀c,o.op≠.defer c)(ho:ops[i]? = some o)
(hw:Region.wanted o (yielded ops a.tmps)=true)(hr:(execOp a.eval o).run P wd = .ok nx wd)(hp:pushed P nx=some fr) :
 step P (lone (b.atR a (.inRegion ops (i::rest)::k)) cs wd) = .next (lone fr (b.atR a (.inRegion ops (i::rest)::k)::cs) wd):=by
 refine step_lone_go ?_;rw [stepGR_op ho hw,Oper.semAt_eq _ _ _ fJ];cases nx <;> simp only[pushed]at hp <;> first|(cases hp;done)|skip
 all_goals
  injection hp with hp
  subst hp;simp [stepG.apply,hr,Frame.atR]
theorem step_recover{b:Frame}{a:Act}{cs:List Frame}{wd:World}{o:Oper}{ops:Array Oper}{i:Nat}{rest:List Nat}{k:List Item}(fJ:∀c,o.op≠.defer c)(ho:ops[i]? = some o)
(hw:Region.wanted o (yielded ops a.tmps)=true)(hro:b.roundOf=none)(hr:(execOp a.eval o).run P wd = .ok .recover wd) :
 (∀{v cs'},tryRecover (b.atR a (.inRegion ops (i::rest)::k)) cs=some (v,cs')->step P (lone (b.atR a (.inRegion ops (i::rest)::k)) cs wd) = .next (lone (b.atR (a.put o.dst v) (.inRegion ops rest::k)) cs' wd))/\
 (tryRecover (b.atR a (.inRegion ops (i::rest)::k)) cs=none->step P (lone (b.atR a (.inRegion ops (i::rest)::k)) cs wd) = .next (lone (b.atR (a.put o.dst .nilIface) (.inRegion ops rest::k)) cs wd)):=by
 have hf:∀v',(b.atR a (.inRegion ops (i::rest)::k)).finish v'=b.atR (a.put o.dst v') (.inRegion ops rest::k):=by
  intro v';rw [Frame.finish_atR,ho];rfl
 have jA:(b.atR a (.inRegion ops (i::rest)::k)).roundOf=none:=hro;refine⟨fun {v cs'} ht=>step_lone_go ?_,λht=>step_lone_go ?_⟩
 . rw[stepGR_op ho hw,Oper.semAt_eq _ _ _ fJ,<- hf];generalize b.atR a (.inRegion ops (i::rest)::k)=fr at ht jA ⊢
   simp only[stepG.apply,Sem.runT_eq,hr,if_true,GStep.bare_after,jA,ht,GStep.bare_go]
 . rw[stepGR_op ho hw,Oper.semAt_eq _ _ _ fJ,<- hf];generalize b.atR a (.inRegion ops (i::rest)::k)=fr at ht jA ⊢
   simp only[stepG.apply,Sem.runT_eq,hr,if_true,GStep.bare_after,jA,ht,GStep.bare_go]
theorem OpsR.list{ρ : Inj}{t:Fr}{a:Act}{o:Oper}(h:OpsR ρ t a o){l:List Operand}(hl:∀x∈l,x∈o.op.operands.toList):RVs ρ (l.map (ev t)) (l.map a.eval):=
 RVs.map (ρ := ρ) (ev t) a.eval l λx hx=>h x (hl x hx)
theorem eff_ok{lo:Lo}(hP:xC ng P=true)(hS:Sound P ng lo){o:Oper}{cx:Cx}{t:Fr}{w:W}{k:KV}{kp:KP}(hx:eff o.op P lo cx t w k kp=true) :
 ∃out w',(Out.rec (motive:=λ_=>Bool) (λv=>k w' v) (λc=>kp c w') out)=true/\OpTo P ng o cx t w out w':=by
 have nv:(∃v ob,NewVal P ng o t v ob/\k (W.mk w.d w.u (w.h.set .dead ob w.n) (w.n+1)) (v w.n)=true)->(∀c,o.op≠.defer c)->
  ∃out w',(Out.rec (motive:=λ_=>Bool) (λv=>k w' v) (λc=>kp c w') out)=true/\OpTo P ng o cx t w out w':=by
  rintro ⟨v,ob,h1,h2⟩ fJ
  exact⟨.ret (v w.n),_,h2,effVal_op fJ h1.eff⟩
 have evl:(∃w' v,EffVal P ng o t w v w'/\k w' v=true)->(∀c,o.op≠.defer c)->
  ∃out w',(Out.rec (motive:=λ_=>Bool) (λv=>k w' v) (λc=>kp c w') out)=true/\OpTo P ng o cx t w out w':=by
  rintro ⟨w',v,h1,h2⟩ fJ
  exact⟨.ret v,w',h2,effVal_op fJ h1⟩
 cases eT:o.op with
 | alloc el=>exact nv (alloc_ok hP eT hx) (by rw[eT];exact λ_=>Op.noConfusion)
 | box el x=>exact nv (box_ok eT hx) (by rw[eT];exact λ_=>Op.noConfusion)
 | buildSlice ty len parts=>exact nv (buildSlice_ok hP eT hx) (by rw[eT];exact λ_=>Op.noConfusion)
 | store ty x v=>exact evl (store_ok eT hx) (by rw[eT];exact λ_=>Op.noConfusion)
 | makeMap ty r=>exact nv (makeMap_ok eT hx) (by rw[eT];exact λ_=>Op.noConfusion)
 | mapUpdate ty m key v=>exact evl (mapUpdate_ok eT hx) (by rw[eT];exact λ_=>Op.noConfusion)
 | panic x =>
  rw[eT]at hx
  have eV:(match ev t x with
   | .iface ty v=>kp [⟨.iface ty v,false,false⟩] w
   | _=>false)=true:=hx
  split at eV
  case h_2=>cases eV
  rename_i ty v hv;refine⟨.panic _,w,eV,fun ρ base w0 b a wd cs hI hO ops i rest k ho hw=>?_⟩;have hr:=hO x (by rw[eT];simp [Op.operands]);rw [hv]at hr;generalize hz:a.eval x=x' at hr
  cases hr with
  | iface jl=>
   rename_i v';refine⟨ρ,a,wd,cs,hI,rfl,Grow.refl _ _ _ _ hI.hp.dom,CsTo.refl _ _,[⟨.iface ty v',false,false⟩],.cons (RV.iface jl) rfl rfl .nil,.one (step_lone_go ?_)⟩;rw [stepGR_op ho hw,Oper.semAt_eq _ _ _ (by rw[eT];exact λ_=>Op.noConfusion),<- Frame.raise_atR];have fw:(execOp a.eval o).run P wd = .halt (.panic (.iface ty v')) wd:=by simp[execOp,eT,hz,Instr.panic]
   simp[stepG.apply,fw]
 | defer c =>
  rw[eT]at hx;obtain⟨callee,args,tys⟩:=c;obtain⟨fn,rd,df⟩:=cx;obtain⟨d,u,h,n⟩:=w
  cases callee with
  | builtin _=>exact(aU hx).elim
  | invoke _ _=>exact(aU hx).elim
  | value f =>
   cases rd with
   | some _=>exact(aU hx).elim
   | none =>
    have eV:(match ev t f with
     | .func (.func g) first cap=>k ⟨{ target:=.fn (.func g) cap,args:=⟨first.toList++args.toList.map (ev t)⟩ }::d,u,h,n⟩ undef
     | _=>false)=true:=hx
    split at eV
    case h_2=>cases eV
    rename_i g first cap hv;refine⟨.ret undef,_,eV,fun ρ base w0 b a wd cs hI hO ops i rest k ho hw=>?_⟩;have hr:=hO f (by rw[eT];simp [Op.operands,Call.operands]);have eY:RVs ρ (args.toList.map (ev t)) (args.toList.map a.eval):=hO.list λx hx=>by rw[eT];simp [Op.operands,Call.operands,hx]
    rw[hv]at hr;generalize hz:a.eval f=f' at hr
    have hro:b.roundOf=none:=by
     have:=hI.rd
     cases hb:b.roundOf with
     | none=>rfl
     | some l=>rw [hb]at this;exact this.elim
    cases hr with
    | func hy lm eX f1 c1 =>
     rename_i first' cap'
     refine⟨ρ,{ tmps:=a.tmps,defers:=⟨.fn (.func g) cap',⟨first'.toList++args.toList.map a.eval⟩⟩::a.defers },wd,cs,
      ⟨hI.fn,hI.kind,hI.rd,hI.rdf,hI.hp,.fn ⟨eX,c1⟩ (RVs.append ⟨lm,f1⟩ eY) hI.dr,hI.ur,hI.fnd⟩,rfl,Grow.refl _ _ _ _ hI.hp.dom,CsTo.refl _ _,undef,RV.undef ρ,.one (step_lone_go ?_)⟩
     rw[stepGR_op ho hw,hro,Oper.semAt_none];have earr:(first'++args.map a.eval:Array Value)=⟨first'.toList++args.toList.map a.eval⟩:=by apply cJ.1;simp
     have fw:(execOp a.eval o).run P wd = .ok (.defer ⟨.fn (.func g) cap',⟨first'.toList++args.toList.map a.eval⟩⟩) wd:=by
      rw[<- earr];simp [execOp,eT,resolve,hz,Deferred.ofValue]
     have hf:({ b.atR a (.inRegion ops (i::rest)::k) with defers:=⟨.fn (.func g) cap',⟨first'.toList++args.toList.map a.eval⟩⟩::a.defers }:Frame).finish undef =
      b.atR (Act.put { tmps:=a.tmps,defers:=⟨.fn (.func g) cap',⟨first'.toList++args.toList.map a.eval⟩⟩::a.defers } o.dst undef) (.inRegion ops rest::k):=by
      have:=Frame.finish_atR b { tmps:=a.tmps,defers:=⟨.fn (.func g) cap',⟨first'.toList++args.toList.map a.eval⟩⟩::a.defers } ops i rest k undef;rw [ho]at this;exact this
     rw[<- hf];simp [stepG.apply,fw,Frame.atR]
 | call c =>
  have fJ:∀c,o.op≠.defer c:=by rw[eT];exact λ_=>Op.noConfusion
  rw[eT]at hx;obtain⟨callee,args,tys⟩:=c
  cases callee with
  | invoke _ _=>exact(aU hx).elim
  | value f =>
   have eV:(tK w λh n mk=>xinvoke lo (ev t f) (args.toList.map (ev t)) h n (λv h n=>k (mk h n) v) (λc h n=>kp c (mk h n)))=true:=hx;rw [uS]at eV;obtain⟨out,h',n',hk,hc⟩:=xinvoke_ok hS eV;refine⟨out,W.mk w.d w.u h' n',by cases out <;> exact hk,fun ρ base w0 b a wd cs hI hO ops i rest k ho hw=>?_⟩;have hr:=hO f (by rw[eT];simp [Op.operands,Call.operands]);have eY:RVs ρ (args.toList.map (ev t)) (args.toList.map a.eval):=hO.list λx hx=>by rw[eT];simp [Op.operands,Call.operands,hx]
   obtain⟨dd,nx,fr,r1,r2,r3,r4⟩:=hc ρ base w0 wd (a.eval f) (args.toList.map a.eval) hI.hp hr eY;obtain⟨ρ',wd',s1,s2,s3⟩:=r4 (b.atR a (.inRegion ops (i::rest)::k)) cs;have earr:(args.map a.eval:Array Value)=⟨args.toList.map a.eval⟩:=arr_map _ _
   have fw:(execOp a.eval o).run P wd = .ok nx wd:=by
    simp only[execOp,eT,resolve,Sem.run_bind,earr];rw [r1,Result.andThen_ok,r2]
   have st:=step_push (b:=b) (cs:=cs) (rest:=rest) (k:=k) fJ ho hw fw r3;refine⟨ρ',a,wd',cs,hI.next rfl rfl s1 s2,rfl,s2,CsTo.refl _ _,?_⟩
   cases out with
   | ret v =>
    obtain⟨v',y1,y2⟩:=s3;refine⟨v',y1,Steps.head st ?_⟩
    have hf:(b.atR a (.inRegion ops (i::rest)::k)).finish v'=b.atR (a.put o.dst v') (.inRegion ops rest::k):=by
     rw[Frame.finish_atR,ho];rfl
    rw[<- hf];exact y2
   | panic c=>
    obtain⟨c',y1,y2⟩:=s3;refine⟨c',y1,Steps.head st ?_⟩;rw [<- Frame.raise_atR];exact y2
  | builtin bi =>
   have eV:builtinK P cx bi tys.toList (args.toList.map (ev t)) w k=true:=hx;obtain⟨d,u,h,n⟩:=w
   have mF:∀(a:Act) (wd wd':World) (v':Value) (s:Sem Value),(∀q,builtin bi tys o.type q (args.map a.eval)=(do pure (Next.value (<- s))))->s.run P wd = .ok v' wd'->(execOp a.eval o).run P wd = .ok (.value v') wd':=by
    intro a wd wd' v' s e1 e2;simp only[execOp,eT,Sem.run_bind,sH,Result.andThen_ok,invoke];rw [e1,Sem.run_bind,e2];rfl
   have eY:∀{ρ : Inj} {a:Act},OpsR ρ t a o->RVs ρ (args.toList.map (ev t)) (args.toList.map a.eval):=λhO=>hO.list λx hx=>by rw[eT];simp [Op.operands,Call.operands,hx]
   have earr:∀a:Act,(args.map a.eval:Array Value)=⟨args.toList.map a.eval⟩:=λa=>arr_map _ _;unfold builtinK at eV;dsimp only at eV;split at eV
   ·
    obtain⟨v,h',n',hk,hc⟩:=xappend_ok (ng:=ng) (rt:=o.type) hP eV;refine⟨.ret v,_,hk,effVal_op fJ ⟨rfl,rfl,fun ρ base w0 a wd hO hH=>?_⟩⟩;obtain⟨ρ',v',wd',r1,r2,r3,r4⟩:=hc ρ base w0 wd _ hH (eY hO);exact⟨ρ',v',wd',.inl (mF a wd wd' v' _ (λq=>by rw[earr a];rfl) r1),r2,r3,r4⟩
   ·
    have fw:∀(a:Act) (wd:World),(execOp a.eval o).run P wd = .ok .recover wd:=by
     intro a wd;simp only[execOp,eT,Sem.run_bind,sH,Result.andThen_ok,invoke];rfl
    obtain⟨fn,rd,df⟩:=cx
    cases rd with
    | some _=>cases eV
    | none =>
     have hro:∀{b:Frame} {ρ : Inj},RdR ρ none b.roundOf->b.roundOf=none:=by
      intro b ρ h
      cases hb:b.roundOf with
      | none=>rfl
      | some l=>rw [hb]at h;exact h.elim
     cases df with
     | false=>
      refine⟨.ret .nilIface,_,eV,fun ρ base w0 b a wd cs hI hO ops i rest k ho hw=>?_⟩;refine⟨ρ,a,wd,cs,hI,rfl,Grow.refl _ _ _ _ hI.hp.dom,CsTo.refl _ _,.nilIface,RV.nilIface,.one ?_⟩;refine(step_recover fJ ho hw (hro hI.rd) (fw a wd)).2 ?_;have:(b.atR a (.inRegion ops (i::rest)::k)).kind = .normal:=hI.kind;unfold tryRecover;simp only[this]
     | true=>
      dsimp only[cond]at eV;split at eV
      . rename_i v older;refine⟨.ret v,_,eV,fun ρ base w0 b a wd cs hI hO ops i rest k ho hw=>?_⟩;obtain⟨c0,r,rfl,c',hm,hc⟩:=hI.ur rfl
        cases hc with
        | cons hv hrec hgo hl =>
         rename_i e' l';obtain⟨v',r',g'⟩:=e';dsimp only at hrec hgo hv;subst hrec hgo
         refine⟨ρ,a,wd,{ c0 with mode:=.panicking (⟨v',true,false⟩::l') }::r,⟨hI.fn,hI.kind,hI.rd,hI.rdf,hI.hp,hI.dr,λ_=>⟨_,_,rfl,_,rfl,.cons hv rfl rfl hl⟩,hI.fnd⟩,rfl,
          Grow.refl _ _ _ _ hI.hp.dom,.inr ⟨rfl,c0,r,_,rfl,rfl⟩,v',hv,.one ?_⟩
         refine(step_recover fJ ho hw (hro hI.rd) (fw a wd)).1 ?_;have:(b.atR a (.inRegion ops (i::rest)::k)).kind = .deferred:=hI.kind;unfold tryRecover;simp only[this,hm]
      . refine⟨.ret .nilIface,_,eV,fun ρ base w0 b a wd cs hI hO ops i rest k ho hw=>?_⟩;refine⟨ρ,a,wd,cs,hI,rfl,Grow.refl _ _ _ _ hI.hp.dom,CsTo.refl _ _,.nilIface,RV.nilIface,.one ?_⟩;refine(step_recover fJ ho hw (hro hI.rd) (fw a wd)).2 ?_;obtain⟨c0,r,rfl,hm⟩:=hI.ur rfl;have hm:c0.mode = .returning:=hm;have:(b.atR a (.inRegion ops (i::rest)::k)).kind = .deferred:=hI.kind;unfold tryRecover;simp only[this,hm]
      . cases eV
   . cases eV
 | _=>rw [eT]at hx;exact(aU hx).elim
end
end
section
section
variable {P:Program} {ng:Nat}
def boolOf:Value->Option Bool
 | .bool b=>some b
 | _=>none
theorem RV.boolOf{ρ : Inj}{v v':Value}(h:RV ρ v v'):boolOf v'=boolOf v:=by cases h <;> rfl
theorem wants_eq(ops:Array Oper)(t:Fr)(g:Nat)(b:Bool):wants ops t g b=((dstOf ops g).bind (λd=>boolOf (fget t d)) == some b):=by
 unfold wants
 cases dstOf ops g with
 | none=>rfl
 | some d=>
  show onBool (fget t d) (λz=>Bool.rec (Bool.rec true false b) b z) false=(boolOf (fget t d) == some b)
  cases fget t d with
  | bool z=>cases z <;> cases b <;> rfl
  | _=>rfl
theorem wanted_ok{ops:Array Oper}{t:Fr}{tmps:Array Value}{o:Oper}(h:∀g b,o.guard=some (g,b)->∀d,dstOf ops g=some d->∃v,tmps[d]? = some v/\boolOf v=boolOf (fget t d)) :
 Region.wanted o (yielded ops tmps)=wanted ops t o.guard:=by
 unfold Region.wanted wanted
 cases hg:o.guard with
 | none=>rfl
 | some p =>
  obtain⟨g,b⟩:=p;show(yielded ops tmps g == some b)=wants ops t g b;rw [wants_eq];unfold yielded dstOf at *
  cases ho:ops[g]? with
  | none=>rfl
  | some og =>
   cases hd:og.dst with
   | none=>simp [hd]
   | some d=>
    obtain⟨v,h1,h2⟩:=h g b hg d (by rw[ho];exact hd);simp only[Option.bind_some,hd,h1];rw [<- h2];cases v <;> rfl
noncomputable def putF(t:Fr)(dst:Option Tmp)(v:Value):Fr:=match dst with|some d=>Tr.set undef v t d|none=>t
theorem putT_true{t:Fr}{dst:Option Tmp}{v:Value}{k:Fr->Bool}(h:putT t dst v k=true):k (putF t dst v)=true:=by
 cases dst with
 | none=>exact h
 | some d=>
  have h':fsetK t d v k=true:=h;unfold fsetK at h';rw [Tr.setK_eq]at h';exact h'
theorem In0.act{ρ : Inj}{base:Nat}{w0:World}{b:Frame}{a a2:Act}{wd:World}{cs:List Frame}{cx:Cx}{w:W}(h:In0 P ng ρ base w0 b a wd cs cx w)(hd:a2.defers=a.defers):In0 P ng ρ base w0 b a2 wd cs cx w:=
 ⟨h.fn,h.kind,h.rd,h.rdf,h.hp,by rw[hd];exact h.dr,h.ur,h.fnd⟩
theorem put_defers(a:Act)(dst:Option Tmp)(v:Value):(a.put dst v).defers=a.defers:=by cases dst <;> rfl
theorem TmR.putF{ρ : Inj}{N:Nat}{t:Fr}{a:Act}(h:TmR ρ N t a.tmps){v v':Value}(hv:RV ρ v v')(dst:Option Tmp):TmR ρ N (putF t dst v) (a.put dst v').tmps:=by
 cases dst with
 | none=>exact h
 | some d=>exact h.put hv d
theorem In0.toIn{ρ : Inj}{base:Nat}{w0:World}{b:Frame}{a:Act}{wd:World}{cs:List Frame}{cx:Cx}{t:Fr}{w:W}(h:In0 P ng ρ base w0 b a wd cs cx w)(ht:TmR ρ (ntm P cx.fn) t a.tmps):In P ng ρ base w0 b a wd cs cx t w:=
 ⟨h.fn,h.kind,h.rd,h.rdf,ht,h.hp,h.dr,h.ur,h.fnd⟩
theorem skip_put{ops:Array Oper}{b:Frame}{a:Act}{cs:List Frame}{wd:World}{i:Nat}{rest:List Nat}{k:List Item}{o:Oper}(ho:ops[i]? = some o)(hw:Region.wanted o (yielded ops a.tmps)=false) :
 step P (lone (b.atR a (.inRegion ops (i::rest)::k)) cs wd) = .next (lone (b.atR (a.put o.dst undef) (.inRegion ops rest::k)) cs wd):=by
 have:=stepR_op_skip (P:=P) (b:=b) (a:=a) (k:=k) (cs:=cs) (w:=wd) (ops:=ops) (i:=i) (rest:=rest) (by simp[ho,hw]);rw [ho]at this;exact this
theorem one_ok{lo:Lo}(hP:xC ng P=true)(hS:Sound P ng lo){all:Array Oper}{o:Oper}{cx:Cx}{t:Fr}{w:W}{kv:KV}{kp:KP}(hm:o∈all.toList)
(hx:(Bool.rec (kv w undef) (Option.rec (eff o.op P lo cx t w kv kp) (kv w) (uF o.op P t w.h)) (wanted all t o.guard):Bool)=true) :
 ∃out w',(Out.rec (motive:=λ_=>Bool) (λv=>kv w' v) (λc=>kp c w') out)=true/\
  ∀(_hc:∀o∈all.toList,operOK ng (ntm P cx.fn) o=true) (ρ : Inj) (base:Nat) (w0:World) (b:Frame) (a:Act) (wd:World) (cs:List Frame),In P ng ρ base w0 b a wd cs cx t w->∀(i:Nat) (rest:List Nat) (k:List Item),all[i]? = some o->
   ∃ρ' a' wd' cs',In0 P ng ρ' base w0 b a' wd' cs' cx w'/\a'.tmps=a.tmps/\Grow ρ w.h w.n wd ρ' w'.h w'.n wd'/\CsTo cx.df cs cs'/\
    Done P (lone (b.atR a (.inRegion all (i::rest)::k)) cs wd) b a' cs' wd' ρ' o all i rest k out:=by
 have hops:∀(hc:∀o∈all.toList,operOK ng (ntm P cx.fn) o=true) {ρ : Inj} {base:Nat} {w0:World} {b:Frame} {a:Act} {wd:World} {cs:List Frame},In P ng ρ base w0 b a wd cs cx t w->OpsR ρ t a o:=by
  intro hc ρ base w0 b a wd cs hI x hx;exact ev_rv hI.hp hI.tm (aH.1 (ak.1 (hc o hm)).1 x hx)
 have jT:∀(hc:∀o∈all.toList,operOK ng (ntm P cx.fn) o=true) {ρ : Inj} {base:Nat} {w0:World} {b:Frame} {a:Act} {wd:World} {cs:List Frame},In P ng ρ base w0 b a wd cs cx t w->Region.wanted o (yielded all a.tmps)=wanted all t o.guard:=by
  intro hc ρ base w0 b a wd cs hI;refine wanted_ok λg q _ d hd=>?_
  have eD:d<ntm P cx.fn:=by
   unfold dstOf at hd
   cases ho:all[g]? with
   | none=>rw [ho]at hd;cases hd
   | some og=>
    rw[ho]at hd;have eQ:og∈all.toList:=by rw[<- aO]at ho;exact aj.2 ⟨g,ho⟩
    have:=(ak.1 (hc og eQ)).2;dsimp only at hd;rw [hd]at this;exact xJ this
  have eK:d<a.tmps.size:=aG eD hI.tm.le;exact⟨a.tmps[d],aF eK,(hI.tm.tm d _ (aF eK)).boolOf⟩
 cases hw:wanted all t o.guard with
 | false=>
  rw[hw]at hx;refine⟨.ret undef,w,hx,λhc ρ base w0 b a wd cs hI i rest k ho=>?_⟩;exact⟨ρ,a,wd,cs,hI.in0,rfl,Grow.refl _ _ _ _ hI.hp.dom,CsTo.refl _ _,undef,RV.undef ρ,.one (skip_put ho ((jT hc hI).trans hw))⟩
 | true =>
  rw[hw]at hx
  have fin:∀{out w'},OpTo P ng o cx t w out w'->∀(hc:∀o∈all.toList,operOK ng (ntm P cx.fn) o=true) (ρ : Inj) (base:Nat) (w0:World) (b:Frame) (a:Act) (wd:World) (cs:List Frame),In P ng ρ base w0 b a wd cs cx t w->∀(i:Nat) (rest:List Nat) (k:List Item),all[i]? = some o->
   ∃ρ' a' wd' cs',In0 P ng ρ' base w0 b a' wd' cs' cx w'/\a'.tmps=a.tmps/\Grow ρ w.h w.n wd ρ' w'.h w'.n wd'/\CsTo cx.df cs cs'/\
    Done P (lone (b.atR a (.inRegion all (i::rest)::k)) cs wd) b a' cs' wd' ρ' o all i rest k out:=
   λh hc ρ base w0 b a wd cs hI i rest k ho=>h ρ base w0 b a wd cs hI.in0 (hops hc hI) all i rest k ho ((jT hc hI).trans hw)
  cases hq:uF o.op P t w.h with
  | some v=>
   rw[hq]at hx;refine⟨.ret v,w,hx,fin (effVal_op ?_ (effVal_quiet hP hq))⟩;intro c e;rw [e]at hq;cases hq
  | none=>
   rw[hq]at hx;obtain⟨out,w',hk,ho⟩:=eff_ok hP hS hx;exact⟨out,w',hk,fin ho⟩
theorem xops_ok{lo:Lo}(hP:xC ng P=true)(hS:Sound P ng lo){all:Array Oper}{cx:Cx}:∀(l:List Oper) (t:Fr) (w:W) (k:KX),(∀o∈l,o∈all.toList)->xops P lo cx all l t w k=true->
 ∃x t' w',k x t' w'=true/\((∀o∈all.toList,operOK ng (ntm P cx.fn) o=true)->∀(is:List Nat),is.length=l.length->(∀(j i:Nat),is[j]? = some i->all[i]? = l[j]?)->∀(b:Frame) (kk:List Item),
  Leads P ng b (.inRegion all is::kk) kk cx t w x t' w'):=by
 intro l
 induction l with
 | nil=>
  intro t w k _ hx;refine⟨.normal,t,w,hx,λ_ is hl _ b kk=>?_⟩;have:is=[]:=aP.1 hl;subst this;exact zP (λ_ _ _=>stepR_region_end) (wV b kk cx t w)
 | cons o l ih =>
  intro t w k eQ hx;obtain⟨out,w1,hk,h1⟩:=one_ok (o:=o) (all:=all) (kv:=λw v=>putT t o.dst v λt=>xops P lo cx all l t w k) (kp:=λc w=>k (.panic c) t w) hP hS (eQ o qL) hx
  have head:∀{is:List Nat},is.length=(o::l).length->(∀(j i:Nat),is[j]? = some i->all[i]? = (o::l)[j]?)->∃i is',is=i::is'/\all[i]? = some o/\is'.length=l.length/\(∀(j i:Nat),is'[j]? = some i->all[i]? = l[j]?):=by
   intro is hl hi
   cases is with
   | nil=>simp at hl
   | cons i is'=>exact⟨i,is',rfl,by simpa using hi 0 i rfl,by simpa using hl,λj i2 h=>by simpa using hi (j+1) i2 (by simpa using h)⟩
  cases out with
  | panic c=>
   refine⟨.panic c,t,w1,hk,λhc is hl hi b kk ρ base w0 a wd cs hI=>?_⟩;obtain⟨i,is',rfl,ho,_,_⟩:=head hl hi;obtain⟨ρ',a',wd',cs',i1,i2,i3,i4,c',i5,i6⟩:=h1 hc ρ base w0 b a wd cs hI i is' kk ho;exact⟨ρ',a',wd',cs',(i1.toIn (by rw[i2];exact hI.tm.mono (i3.le hI.hp.dom))).e,i3,i4,_,c',i5,i6⟩
  | ret v=>
   have hk':=putT_true hk;obtain⟨x,t',w',hk2,h2⟩:=ih (putF t o.dst v) w1 k (λq hq=>eQ q (by simp[hq])) hk';refine⟨x,t',w',hk2,λhc is hl hi b kk ρ base w0 a wd cs hI=>?_⟩;obtain⟨i,is',rfl,ho,hl',fQ⟩:=head hl hi;obtain⟨ρ',a',wd',cs',i1,i2,i3,i4,v',i5,i6⟩:=h1 hc ρ base w0 b a wd cs hI i is' kk ho;have htm:TmR ρ' (ntm P cx.fn) t a'.tmps:=by rw[i2];exact hI.tm.mono (i3.le hI.hp.dom)
   obtain⟨ρ2,a2,wd2,fZ,g1,g2,g3,g4⟩:=h2 hc is' hl' fQ b kk ρ' base w0 (a'.put o.dst v') wd' cs' ((i1.act (put_defers a' o.dst v')).toIn (htm.putF i5 o.dst));exact⟨ρ2,a2,wd2,fZ,g1,i3.trans g2,i4.trans g3,g4.of_steps i6⟩
theorem region_ok{lo:Lo}(hP:xC ng P=true)(hS:Sound P ng lo)(id:Nat)(ops:Array Oper)(cx:Cx)(t:Fr)(w:W)(k:KX)(hx:xcode P lo (.region id ops false) cx t w k=true) :
 ∃x t' w',k x t' w'=true/\CodeTo P ng (.region id ops false) cx t w x t' w':=by
 have eV:xops P lo cx ops ops.toList t w k=true:=hx;obtain⟨x,t',w',hk,h⟩:=xops_ok hP hS ops.toList t w k (λ_ h=>h) eV;refine⟨x,t',w',hk,λhc b kk=>zP (λ_ _ _=>stepR_region) (h ?_ (List.range ops.size) qL  ?_ b kk)⟩
 . exact aH.1 hc
 . intro j i hj
   have:i=j:=by
    by_cases h9:j<ops.size
    . rw[cN h9]at hj;injection hj with hj;exact hj.symm
    . rw[aw (by simpa using h9)]at hj;cases hj
   subst this;rw [aO]
end
end
section
section
variable {P:Program} {ng:Nat}
theorem sound_next(hP:xC ng P=true){lo:Lo}(hS:Sound P ng lo):Sound P ng (Lo.next P lo) where
 code c cx t w k h:=xcode_ok hS (λid ops draw cx t w k h=>by
  cases draw with
  | true=>exact(aU h).elim
  | false=>exact region_ok hP hS id ops cx t w k h) (λf params asg body cx t w k h=>xrangeFunc_ok hS f params asg body cx t w k h) c cx t w k h
 call _ _ _ _ _ _ _ h:=xcall_ok hP hS h
 round _ _ _ _ _ h:=xround_ok hP hS h
 leave _ _ _ _ _ h:=xleave_ok hP hS h
def EndR(ρ : Inj):Out->Ending->Prop
 | .ret v,.returned v'=>RV ρ v v'
 | .panic c,.panicked c'=>ChR ρ c c'
 | _,_=>False
theorem calls_of{lo:Lo}(hS:Sound P ng lo){f:FuncId}{args:List Value}{h:zB}{n:Nat}{fin:KO}(hx:lo.call f args false none h n fin=true) :
 ∃o u' h' n',fin o u' h' n'=true/\∀(ρ : Inj) (base:Nat) (w0 w:World) (args':List Value),HeapR P ng ρ base w0 h n w->RVs ρ args args'->
  Calls P f ⟨args'⟩ w λe w'=>∃ρ',HeapR P ng ρ' base w0 h' n' w'/\Grow ρ h n w ρ' h' n' w'/\EndR ρ' o e:=by
 obtain⟨o,u',h',n',hk,_,hc⟩:=hS.call _ _ _ _ _ _ _ hx;refine⟨o,u',h',n',hk,fun ρ base w0 w args' hH ha cs=>?_⟩;obtain⟨ρ',wd',fr,cs',s1,s2,s3,s4,s5,s6,s7⟩:=hc ρ base w0 w args' cs hH ha (λe=>by cases e)
 have fI:cs'=cs:=by
  rcases s4 with e|⟨e,_⟩
  . exact e
  . cases e
 subst fI
 cases o with
 | ret v=>
  obtain⟨v',y1,y2,y3,y4,y5⟩:=s7;exact⟨.returned v',wd',fr,⟨ρ',s2,s3,y5⟩,s1,s6,y1,y2,y3,y4⟩
 | panic c=>
  obtain⟨c',y1,y2,y3,y4⟩:=s7;exact⟨.panicked c',wd',fr,⟨ρ',s2,s3,y4⟩,s1,s6,y1,y2,y3⟩
end
end
section
def dps(o:Oper):List Nat:=(o.after.toList.filter λe=>Region.binds .any e).map (·.on)
structure DOp where
 o:Oper
 i:Nat
 ac:Bool
 hi:Nat
 so:Bool
def cnt(l:List DOp):Nat:=l.countP (·.ac)
def Pd(x:DOp):Prop:=x.ac=false/\(xP x.o.op=1\/xP x.o.op=2)
instance {x:DOp}:Decidable (Pd x):=by unfold Pd;infer_instance
def sees(all:Array Oper)(o:Oper):List Nat:=
 (o.op.operands.toList.flatMap λx=>match x with
  | .tmp t=>[t]
  | _=>[])++match o.guard with
  | some (g,_)=>(dstOf all g).toList
  | none=>[]
def clo(all:Array Oper):Nat->List Nat->List Nat
 | 0,S=>S
 | j+1,S=>clo all j (bif S.any λs=>match all.toList[s]? with
  | some o=>(dps o).any (Nat.beq j)
  | none=>false then j::S else S)
theorem clo_ok{all:Array Oper}{lst:Nat->Prop}(hc:∀(s:Nat) o,all.toList[s]? = some o->lst s->∀d∈dps o,lst d):∀(j:Nat) (S:List Nat),(∀s∈S,lst s)->∀s∈clo all j S,lst s:=by
 intro j
 induction j with
 | zero=>intro S h;exact h
 | succ j ih =>
  intro S h;refine ih _ ?_
  cases e:(S.any λs=>match all.toList[s]? with
   | some o=>(dps o).any (Nat.beq j)
   | none=>false) with
  | false=>exact h
  | true=>
   intro s hs;rcases au.1 hs with rfl|hs
   . obtain⟨s',h1,h2⟩:=ap.1 e;split at h2
     . rename_i o ho;obtain⟨d,h3,h4⟩:=ap.1 h2;have:=hc s' o ho (h s' h1) d h3
       rwa [de h4]
     . cases h2
   . exact h s hs
def OneOK(all:Array Oper)(A:List DOp)(x:DOp)(B:List DOp):Prop:=
 (∀y∈A,y.i≠x.i/\∀d∈x.o.dst.toList,y.o.dst≠some d)/\
 (∀d∈dps x.o,∃y∈A,y.i=d)/\
 (∀d∈sees all x.o,(∀y∈A,y.o.dst=some d->y.i∈dps x.o)/\∀y∈B,y.o.dst=some d->x.i∈clo all y.i [y.i])/\
 (x.so=true->∀y∈A,y.i∈clo all x.i [x.i])/\
 (x.ac=true->(∀y∈B,∃d∈dps y.o,∀z∈A,z.i≠d)/\∀y∈A,Pd y->y.i∈clo all x.i [x.i]\/cnt A+1<=y.hi)/\
 (Pd x->cnt A<=x.hi)/\(xP x.o.op=3->x.ac=true)
instance {all:Array Oper} {A:List DOp} {x:DOp} {B:List DOp}:Decidable (OneOK all A x B):=by unfold OneOK;infer_instance
def RunOK(all:Array Oper):List DOp->List DOp->Prop
 | _,[]=>True
 | A,x::B=>OneOK all A x B/\RunOK all (x::A) B
instance runDec {all:Array Oper}:(B A:List DOp)->Decidable (RunOK all A B)
 | [],_=>.isTrue trivial
 | x::B,A=>by have:=runDec (all:=all) B (x::A);unfold RunOK;infer_instance
def Plan(all:Array Oper)(L:List DOp):Prop:=
 (∀i∈List.range all.size,(∃y∈L,y.i=i)/\∀o∈(all.toList[i]?).toList,∀d∈dps o,d<i)/\RunOK all [] L
instance {all:Array Oper} {L:List DOp}:Decidable (Plan all L):=by unfold Plan;infer_instance
theorem run_at{all:Array Oper}{x:DOp}{B:List DOp}:∀{L A:List DOp},RunOK all A (L++x::B)->OneOK all (L.reverse++A) x B:=by
 intro L
 induction L with
 | nil=>intro A h;exact h.1
 | cons y L ih=>intro A h;have:=ih h.2;simpa using this
theorem Plan.at{all:Array Oper}{L:List DOp}(h:Plan all L){B:List DOp}{x:DOp}{A:List DOp}(e:L.reverse=B++x::A):OneOK all A x B.reverse:=by
 have:L=A.reverse++x::B.reverse:=by rw[<- List.reverse_reverse L,e];simp
 have:=run_at (L:=A.reverse) (A:=[]) (this ▸ h.2);simpa using this
end
section
structure Rec where
 x:DOp
 t:Fr
 w:W
 v:Value
 w2:W
 nb:Bool
 ok:zB->Prop
section
variable (P:Program) (ng:Nat) (all:Array Oper) (cx:Cx) (t0:Fr) (W0:W)
inductive RecOK:Rec->Prop
 | skip {x:DOp} {t:Fr} {w:W} (hw:wanted all t x.o.guard=false):RecOK ⟨x,t,w,undef,w,false,λ_=>True⟩
 | look {x:DOp} {t:Fr} {w:W} {v:Value} {ok:zB->Prop} (hw:wanted all t x.o.guard=true) (hk:x.ac=false) (hq:∀h,ok h->uF x.o.op P t h=some v) (h0:ok w.h):RecOK ⟨x,t,w,v,w,false,ok⟩
 | made {x:DOp} {t:Fr} {w:W} {v:Nat->Value} {ob:AObj} (hw:wanted all t x.o.guard=true) (hk:x.ac=false/\xP x.o.op=2) (hn:NewVal P ng x.o t v ob) :
  RecOK ⟨x,t,w,v w.n,⟨w.d,w.u,w.h.set .dead ob w.n,w.n+1⟩,true,λh=>zG h w.n=ob⟩
 | act {x:DOp} {t:Fr} {w w2:W} {v:Value} (hw:wanted all t x.o.guard=true) (hk:x.ac=true) (ho:OpTo P ng x.o cx t w (.ret v) w2):RecOK ⟨x,t,w,v,w2,false,λ_=>True⟩
noncomputable def stT:List Rec->Fr
 | []=>t0
 | r::_=>putF r.t r.x.o.dst r.v
noncomputable def stW:List Rec->W
 | []=>W0
 | r::_=>r.w2
abbrev xs(R:List Rec):List DOp:=R.map (·.x)
def Past:List Rec->Prop
 | []=>True
 | r::R=>Past R/\RecOK P ng all cx r/\r.t=stT t0 R/\r.w=stW W0 R/\∀q∈R,Pd q.x->cnt (xs (r::R))<=q.x.hi->q.ok r.w2.h
end
section
variable {P:Program} {ng:Nat} {all:Array Oper} {cx:Cx} {t0:Fr} {W0:W} {R A B:List Rec}
theorem Past.drop:∀{B:List Rec},Past P ng all cx t0 W0 (B++A)->Past P ng all cx t0 W0 A
 | [],h=>h
 | _::B,h=>Past.drop (B:=B) h.1
theorem Past.ok{q:Rec}(h:Past P ng all cx t0 W0 R)(hq:q∈R)(hk:Pd q.x)(hc:cnt (xs R)<=q.x.hi):q.ok (stW W0 R).h:=by
 cases R with
 | nil=>cases hq
 | cons r R=>
  rcases au.1 hq with rfl|hq
  . cases h.2.1 with
    | look hw hk hq h0=>exact h0
    | made hw hk hn=>show zG (Tr.set _ _ _ _) _=_;rw [zN,if_pos rfl]
    | _=>trivial
  . exact h.2.2.2.2 q hq hk hc
theorem fget_putF(t:Fr)(dst:Option Tmp)(v:Value)(d:Nat):fget (putF t dst v) d=if dst=some d then v else fget t d:=by
 cases dst with
 | none=>rfl
 | some e=>
  unfold putF fget;dsimp only;rw [Tr.get_set_if];by_cases h:e=d
  . subst h;simp
  . rw[if_neg h,if_neg (λe2=>h (by injection e2))]
theorem slot_no{d:Nat}(h:Past P ng all cx t0 W0 R)(hd:∀r∈R,r.x.o.dst≠some d):fget (stT t0 R) d=fget t0 d:=by
 induction R with
 | nil=>rfl
 | cons r R ih=>
  show fget (putF r.t r.x.o.dst r.v) d=_;rw [fget_putF,if_neg (hd r qL),h.2.2.1,ih h.1 λq hq=>hd q (by simp[hq])]
theorem slot_at{d:Nat}{q:Rec}(h:Past P ng all cx t0 W0 (B++q::A))(hq:q.x.o.dst=some d)(hd:∀r∈B,r.x.o.dst≠some d):fget (stT t0 (B++q::A)) d=q.v:=by
 induction B with
 | nil=>
  show fget (putF q.t q.x.o.dst q.v) d=_;rw [fget_putF,if_pos hq]
 | cons r B ih=>
  show fget (putF r.t r.x.o.dst r.v) d=_;rw [fget_putF,if_neg (hd r qL),h.2.2.1];exact ih h.1 λq hq=>hd q (by simp[hq])
theorem HeapR.congr{ρ : Inj}{base:Nat}{w0:World}{h h':zB}{n:Nat}{wd:World}(r:HeapR P ng ρ base w0 h n wd)(e:∀b B,ρ b=some B->zG h' b=zG h b):HeapR P ng ρ base w0 h' n wd where
 dom:=r.dom
 obj b B hb hl:=by rw[e b B hb]at hl ⊢;exact r.obj b B hb hl
 inj a b A B ha hb la lb gk:=by rw[e a A ha]at la;rw [e b B hb]at lb;exact r.inj a b A B ha hb la lb gk
 below:=r.below
 size:=r.size
 glob:=r.glob
 ngn:=r.ngn
theorem HeapR.push{ρ : Inj}{base:Nat}{w0:World}{h:zB}{n:Nat}{wd:World}(r:HeapR P ng ρ base w0 h n wd)(o':Obj):HeapR P ng ρ base w0 h n { wd with heap:=wd.heap.push o' } where
 dom:=r.dom
 obj b B e hl:=by
  obtain⟨o,h1,h2⟩:=r.obj b B e hl;have:B.b<wd.heap.size:=r.lt e hl;exact⟨o,by rw[cD,if_neg qJ];exact h1,h2⟩
 inj:=r.inj
 below:=⟨r.below.os,r.below.tape,r.below.output,by have:=r.below.size;simp;omega,λb hb=>by
  have:=r.size;show(wd.heap.push o')[b]? = _;rw [cD,if_neg qJ];exact r.below.block b hb⟩
 size:=by have:=r.size;simp;omega
 glob:=r.glob
 ngn:=r.ngn
theorem HeapR.add{ρ : Inj}{base:Nat}{w0:World}{h:zB}{n:Nat}{wd:World}(r:HeapR P ng ρ base w0 h n wd){x:Nat}(hx: ρ x=none)(hxn:x<n)(o':Obj)(B:Bl)(hB:B.b=wd.heap.size)
(hr:ObjR P ng (ρ.put x B) base B (zG h x) o'):HeapR P ng (ρ.put x B) base w0 h n { wd with heap:=wd.heap.push o' }:=by
 have hle:=Inj.le_put B hx;have r2:=r.push o';have old:∀{b C},b≠x->(ρ.put x B) b=some C->ρ b=some C:=λhb e=>by simpa [Inj.put,hb] using e
 have new:∀{C},(ρ.put x B) x=some C->C=B:=λe=>by simpa [Inj.put] using e.symm
 refine⟨λb hb=>?_,λb C e hl=>?_,λa b A C ea eb ha hb gk=>?_,r2.below,r2.size,λg hg=>?_,r2.ngn⟩
 . have:b≠x:=by omega
   simp[Inj.put,this];exact r.dom b qJ 
 . by_cases hb:b=x
   . subst hb;obtain rfl:=new e;exact⟨o',by simp[hB],hr⟩
   . obtain⟨ob,h1,h2⟩:=r2.obj b C (old hb e) hl;exact⟨ob,h1,h2.mono hle⟩
 . by_cases h1:a=x
   . by_cases h2:b=x
     . rw[h1,h2]
     . have:=r.lt (old h2 eb) hb;subst h1;obtain rfl:=new ea;omega
   . by_cases h2:b=x
     . have:=r.lt (old h1 ea) ha;subst h2;obtain rfl:=new eb;omega
     . exact r.inj a b A C (old h1 ea) (old h2 eb) ha hb gk
 . obtain⟨G,e1,e2⟩:=r.glob g hg;exact⟨G,hle _ _ e1,e2⟩
theorem Grow.add{ρ0:Inj}{h0:zB}{n0:Nat}{wd0:World}{ρ : Inj}{h:zB}{n:Nat}{wd:World}(g:Grow ρ0 h0 n0 wd0 ρ h n wd){x:Nat}(hx0:n0<=x)(o':Obj)(B:Bl)(hB:B.b=wd.heap.size) :
 Grow ρ0 h0 n0 wd0 (ρ.put x B) h n { wd with heap:=wd.heap.push o' } where
 nn:=g.nn
 old b hb:=by
  have:b≠x:=by omega
  simp[Inj.put,this];exact g.old b hb
 new b C hb e:=by
  by_cases h1:b=x
  . subst h1;simp [Inj.put]at e;subst e;have:=g.size;exact .inl qJ 
  . exact g.new b C hb (by simpa [Inj.put,h1] using e)
 keep c hc hn:=by
  have:=g.size;show(wd.heap.push o')[c]? = _;rw [cD,if_neg qJ];exact g.keep c hc hn
 size:=by have:=g.size;simp;omega
 dead:=g.dead
 tape:=g.tape
theorem quiet_free{o:Op}(hk:xP o=0)(P:Program)(t:Fr)(h h':zB):uF o P t h=uF o P t h':=by
 cases o with
 | call c=>
  obtain⟨callee,asz,ts⟩:=c
  cases callee with
  | builtin b=>cases b <;> cases hk
  | value f=>cases hk
  | invoke r m=>cases hk
 | load _ _=>cases hk
 | lookup _ _ _ _=>cases hk
 | slice _ _ _ _ _=>cases hk
 | _=>rfl
end
section
variable (P:Program) (ng:Nat) (all:Array Oper) (cx:Cx) (t0:Fr) (W0:W) (ρ0:Inj) (base:Nat) (w0 wd0:World) (a0:Act) (cs0:List Frame) (b:Frame)
structure Inv (R:List Rec) (lst:Nat->Prop) (ρ : Inj) (a:Act) (wd:World) (cs:List Frame):Prop where
 past:Past P ng all cx t0 W0 R
 only:∀i,lst i->∃r∈R,r.x.i=i
 acts:∀r∈R,r.x.ac=true->lst r.x.i
 closed:∀(s:Nat) o,all.toList[s]? = some o->lst s->∀d∈dps o,lst d
 in0:In0 P ng ρ base w0 b a wd cs cx (stW W0 R)
 num:∀r∈R,r.nb=true->W0.n<=r.w.n/\r.w.n<(stW W0 R).n/\(¬lst r.x.i->ρ r.w.n=none)/\∀q∈R,q.nb=true->q.w.n=r.w.n->q.x.i=r.x.i
 gr:Grow ρ0 W0.h W0.n wd0 ρ (stW W0 R).h (stW W0 R).n wd
 cst:CsTo cx.df cs0 cs
 val:∀r∈R,lst r.x.i->∀d v',r.x.o.dst=some d->a.tmps[d]? = some v'->RV ρ r.v v'
 un:∀d,(∀r∈R,lst r.x.i->r.x.o.dst≠some d)->a.tmps[d]? = a0.tmps[d]?
 sz:a.tmps.size=a0.tmps.size
end
section
variable {P:Program} {ng:Nat} {all:Array Oper} {cx:Cx} {t0:Fr} {W0:W} {ρ0:Inj} {base:Nat} {w0 wd0:World} {a0:Act} {cs0:List Frame} {b:Frame}
variable {R A:List Rec} {lst:Nat->Prop} {ρ : Inj} {a:Act} {wd:World} {cs:List Frame} {L E B:List DOp} {x:DOp}
theorem rev_mem(hA:L.reverse=B++x::E){y:DOp}(hy:y∈L):y∈B\/y=x\/y∈E:=by
 have:=bP.2 hy;rw [hA]at this;rcases aA.1 this with h|h
 . exact .inl h
 . exact .inr (au.1 h)
theorem Inv.looks(I:Inv P ng all cx t0 W0 ρ0 base w0 wd0 a0 cs0 b R lst ρ a wd cs)(hd0:∀b,W0.n<=b->ρ0 b=none)(tm0:TmR ρ0 (ntm P cx.fn) t0 a0.tmps)(hK:Plan all L)(hR:L.reverse=E++xs R)
(hc:∀o∈all.toList,operOK ng (ntm P cx.fn) o=true)(hA:L.reverse=B++x::xs A)(hs:∀q∈A,q∈R)(hP:Past P ng all cx t0 W0 A)(hi:all[x.i]? = some x.o)(hx:¬lst x.i)(hd:∀d∈dps x.o,lst d) :
 OpsR ρ (stT t0 A) a x.o/\Region.wanted x.o (yielded all a.tmps)=wanted all (stT t0 A) x.o.guard:=by
 have eQ:∀{g:Nat} {o:Oper},all[g]? = some o->o∈all.toList:=λho=>by rw[<- aO]at ho;exact aj.2 ⟨_,ho⟩
 have hN:ntm P cx.fn<=a.tmps.size:=by rw[I.sz];exact tm0.le
 have see:∀{d},d∈sees all x.o->∀{v'},a.tmps[d]? = some v'->RV ρ (fget (stT t0 A) d) v':=by
  intro d hsee v' hv;obtain⟨k3,k4⟩:=(hK.at hA).2.2.1 d hsee;by_cases h:∃q∈A,q.x.o.dst=some d
  . obtain⟨q,hq,hqd⟩:=h;have hl:=hd _ (k3 q.x (aB.2 ⟨q,hq,rfl⟩) hqd);have:=I.val q (hs q hq) hl d v' hqd hv;obtain⟨A1,A2,rfl⟩:=bR hq;rw [slot_at hP hqd λy hy e=>?_]
    . exact this
    . obtain⟨C1,C2,rfl⟩:=bR hy;exact((hK.at (B:=B++x::xs C1) (x:=y.x) (A:=xs (C2++q::A2)) (by rw[hA];simp)).1 q.x qL).2 d (by rw[e];simp) hqd
  . have h:∀q∈A,q.x.o.dst≠some d:=λq hq e=>h ⟨q,hq,e⟩;rw [slot_no hP h]
    have:=I.un d λr hr hl e=>by
     rcases rev_mem hA (bP.1 (by rw[hR];exact bQ _ (aB.2 ⟨r,hr,rfl⟩)):r.x∈L) with hm|hm|hm
     . exact hx (clo_ok I.closed _ _ (λs hs=>by rw[aq.1 hs];exact hl) _ (k4 r.x (bP.2 hm) e))
     . exact hx (hm ▸ hl)
     . obtain⟨q,hq,hqx⟩:=aB.1 hm;exact h q hq (hqx ▸ e)
    rw[this]at hv;exact(tm0.tm d v' hv).mono (I.gr.le hd0)
 refine⟨λy hy=>?_,wanted_ok λg q hg d hdst=>?_⟩
 . have hok:=aH.1 (ak.1 (hc x.o (eQ hi))).1 y hy
   cases y with
   | tmp i=>
    have eD:i<a.tmps.size:=aG (xJ hok) hN;show RV ρ (fget _ i) (a.tmps.getD i undef);rw [Array.getD,dif_pos eD];exact see (cg _ (bE.2 ⟨_,hy,by simp⟩)) (aF eD)
   | const v=>exact RV.plain hok ρ
   | global g=>
    obtain⟨B,e1,e2⟩:=I.in0.hp.glob g (xJ hok);have:=RV.ptr (o:=0) e1;rw [e2]at this;exact this
   | func f=>exact .func (by intro l;exact Fn.noConfusion) rfl rfl (by intro i v v' e;simp at e) (by intro i v v' e;simp at e)
 . have eD:d<ntm P cx.fn:=by
    unfold dstOf at hdst
    cases ho:all[g]? with
    | none=>rw [ho]at hdst;cases hdst
    | some og=>
     rw[ho]at hdst;have:=(ak.1 (hc og (eQ ho))).2;dsimp only at hdst;rw [hdst]at this;exact xJ this
   have e1:=aF (aG eD hN);exact⟨_,e1,(see (bQ _ (by rw[hg];simp [hdst])) e1).boolOf⟩
theorem Inv.put(I:Inv P ng all cx t0 W0 ρ0 base w0 wd0 a0 cs0 b R lst ρ a wd cs)(hK:Plan all L){R':List Rec}{r:Rec}(hR:L.reverse=E++xs R')(hs:∀q∈R,q∈R')(hr:r∈R')(hs':∀q∈R',q∈R\/q=r)
(hP:Past P ng all cx t0 W0 R')(hi:all[r.x.i]? = some r.x.o)(hx:¬lst r.x.i)(hd:∀d∈dps r.x.o,lst d){ρ':Inj}{a':Act}{wd':World}{cs':List Frame}{v':Value}(hle: ρ.le ρ')(hv:RV ρ' r.v v')
(ha:a'.tmps=(a.put r.x.o.dst v').tmps)(in0:In0 P ng ρ' base w0 b a' wd' cs' cx (stW W0 R'))
(num:∀q∈R',q.nb=true->W0.n<=q.w.n/\q.w.n<(stW W0 R').n/\(¬(lst q.x.i\/q.x.i=r.x.i)->ρ' q.w.n=none)/\∀p∈R',p.nb=true->p.w.n=q.w.n->p.x.i=q.x.i)
(gr:Grow ρ0 W0.h W0.n wd0 ρ' (stW W0 R').h (stW W0 R').n wd')(cst:CsTo cx.df cs0 cs') :
 Inv P ng all cx t0 W0 ρ0 base w0 wd0 a0 cs0 b R' (λi=>lst i\/i=r.x.i) ρ' a' wd' cs':=by
 have iP:∀{d},r.x.o.dst≠some d->a'.tmps[d]? = a.tmps[d]? :=fun {d} h=>by
  rw[ha]
  cases e:r.x.o.dst with
  | none=>rfl
  | some k=>
   have:k≠d:=λe2=>h (by rw[e,e2]);show(a.tmps.setIfInBounds k v')[d]? = _;rw [bD,if_neg this]
 have two:∀q∈R',q=r\/q.x.i≠r.x.i/\∀d,q.x.o.dst=some d->r.x.o.dst≠some d:=by
  intro q hq;obtain⟨A,B,e⟩:=bR hr;rw [e]at hq;rcases aA.1 hq with h|h
  . obtain⟨C1,C2,rfl⟩:=bR h;obtain⟨k1,k2⟩:=(hK.at (B:=E++xs C1) (x:=q.x) (A:=xs (C2++r::B)) (by rw[hR,e];simp)).1 r.x qL;exact .inr ⟨λe=>k1 e.symm,λd e=>k2 d (by rw[e];simp)⟩
  . rcases au.1 h with rfl|h
    . exact .inl rfl
    . obtain⟨k1,k2⟩:=(hK.at (B:=E++xs A) (x:=r.x) (A:=xs B) (by rw[hR,e];simp)).1 q.x (aB.2 ⟨q,h,rfl⟩);exact .inr ⟨k1,λd e e2=>k2 d (by rw[e2];simp) e⟩
 refine⟨hP,?_,?_,?_,in0,num,gr,cst,?_,?_,?_⟩
 . rintro i (h|rfl)
   . obtain⟨q,h1,h2⟩:=I.only i h;exact⟨q,hs q h1,h2⟩
   . exact⟨r,hr,rfl⟩
 . intro q hq hk;rcases hs' q hq with h|rfl
   . exact .inl (I.acts q h hk)
   . exact .inr rfl
 . rintro s o ho (h|rfl) d hdd
   . exact .inl (I.closed s o ho h d hdd)
   . rw[aO,hi]at ho;injection ho with ho
     subst ho;exact .inl (hd d hdd)
 . intro q hq hl d u hqd hu;by_cases jR:r.x.o.dst=some d
   . rcases two q hq with rfl|⟨_,h2⟩
     . rw[ha,jR]at hu;have hu:(a.tmps.setIfInBounds d v')[d]? = some u:=hu;rw [bD,if_pos rfl]at hu;split at hu
       . injection hu with hu;exact hu ▸ hv
       . cases hu
     . exact absurd jR (h2 d hqd)
   . rw[iP jR]at hu;rcases hs' q hq with h|rfl
     . rcases hl with hl|hl
       . exact(I.val q h hl d u hqd hu).mono hle
       . rcases two q hq with rfl|⟨h2,_⟩
         . exact absurd hqd jR
         . exact absurd hl h2
     . exact absurd hqd jR
 . intro d h;rw [iP (h r hr (.inr rfl))];exact I.un d λq hq hl=>h q (hs q hq) (.inl hl)
 . rw[ha]
   cases r.x.o.dst with
   | none=>exact I.sz
   | some k=>show(a.tmps.setIfInBounds k v').size=_;rw [Array.size_setIfInBounds];exact I.sz
end
end
section
section
variable {P:Program} {ng:Nat} {all:Array Oper} {cx:Cx} {t0:Fr} {W0:W} {ρ0:Inj} {base:Nat} {w0 wd0:World} {a0:Act} {cs0:List Frame} {b:Frame}
variable {R A F:List Rec} {lst:Nat->Prop} {ρ : Inj} {a:Act} {wd:World} {cs:List Frame} {L E B:List DOp} {r:Rec}
theorem HeapR.hole{h:zB}{n:Nat}(H:HeapR P ng ρ base w0 h n wd)(ob:AObj):HeapR P ng ρ base w0 (h.set .dead ob n) (n+1) wd:=
 have H2:=H.congr (h':=h.set .dead ob n) λb B e=>by
  rw[zN,if_neg λe2=>by rw[<- e2,H.dom _ (ad _)]at e;cases e]
 ⟨λb hb=>H.dom b qJ,H2.obj,H2.inj,H2.below,H2.size,H2.glob,dA H.ngn⟩
theorem Grow.hole{h0 h:zB}{n0 n:Nat}(g:Grow ρ0 h0 n0 wd0 ρ h n wd)(ob:AObj):Grow ρ0 h0 n0 wd0 ρ (h.set .dead ob n) (n+1) wd:=
 ⟨dA g.nn,g.old,g.new,g.keep,g.size,λb hb e=>by have:=g.nn;rw [zN,if_neg qJ];exact g.dead b hb e,g.tape⟩
theorem Inv.adv(I:Inv P ng all cx t0 W0 ρ0 base w0 wd0 a0 cs0 b R lst ρ a wd cs)(hK:Plan all L)(hR:L.reverse=E++xs (r::R))(hP:Past P ng all cx t0 W0 (r::R))(hk:r.x.ac=false) :
 Inv P ng all cx t0 W0 ρ0 base w0 wd0 a0 cs0 b (r::R) lst ρ a wd cs:=by
 have gN:¬lst r.x.i:=λh=>by
  obtain⟨q,h1,h2⟩:=I.only _ h;exact((hK.at hR).1 q.x (aB.2 ⟨q,h1,rfl⟩)).1 h2
 have key:In0 P ng ρ base w0 b a wd cs cx r.w2/\Grow ρ0 W0.h W0.n wd0 ρ r.w2.h r.w2.n wd/\(stW W0 R).n<=r.w2.n/\(r.nb=true->r.w.n=(stW W0 R).n/\r.w2.n=r.w.n+1):=by
  obtain⟨_,h1,_,h2,_⟩:=hP;have i0:=I.in0;have g0:=I.gr;rw [<- h2]at i0 g0 ⊢
  cases h1 with
  | made hw hk hn=>exact⟨⟨i0.fn,i0.kind,i0.rd,i0.rdf,i0.hp.hole _,i0.dr,i0.ur,i0.fnd⟩,g0.hole _,cH _,λ_=>⟨rfl,rfl⟩⟩
  | act hw hk' ho=>exact absurd (hk'.symm.trans hk) qL 
  | _=>exact⟨i0,g0,ad _,λh=>by cases h⟩
 obtain⟨k1,k2,k3,k4⟩:=key;have sub:∀{p:Rec->Prop},(∀q∈R,p q)->p r->∀q∈r::R,p q:=λh1 h2 q hq=>(au.1 hq).elim (λe=>e ▸ h2) (h1 q);refine⟨hP,λi h=>?_,sub I.acts λh=>absurd (h.symm.trans hk) qL,I.closed,k1,?_,k2,I.cst,sub I.val λh=>absurd h gN,λd h=>I.un d λq hq=>h q (by simp[hq]),I.sz⟩
 . obtain⟨q,h1,h2⟩:=I.only i h;exact⟨q,by simp[h1],h2⟩
 . refine sub (λq hq hm=>?_) λhm=>?_
   . obtain⟨n1,n2,n3,n4⟩:=I.num q hq hm;refine⟨n1,aG n2 k3,n3,sub n4 λhr e=>?_⟩;have:=(k4 hr).1;omega
   . obtain⟨e1,e2⟩:=k4 hm;refine⟨by have:=I.gr.nn;omega,by show r.w.n<r.w2.n;omega,λ_=>by rw[e1];exact I.in0.hp.dom _ (ad _),sub (λp hp hq e=>?_) λ_ _=>rfl⟩;have:=(I.num p hp hq).2.1;omega
theorem Inv.advs(hK:Plan all L)(hR:L.reverse=E++xs F)(hF:Past P ng all cx t0 W0 F):∀(n:Nat) {S R:List Rec} {lst:Nat->Prop} {ρ : Inj} {a:Act} {wd:World} {cs:List Frame},S.length=n->F=S++R->
 Inv P ng all cx t0 W0 ρ0 base w0 wd0 a0 cs0 b R lst ρ a wd cs->∃S R,F=S++R/\(S=[]\/∃S' c,S=S'++[c]/\c.x.ac=true)/\Inv P ng all cx t0 W0 ρ0 base w0 wd0 a0 cs0 b R lst ρ a wd cs:=by
 intro n
 induction n with
 | zero=>intro S R _ _ _ _ _ hn h I;exact⟨S,R,h,.inl (aP.1 hn),I⟩
 | succ n ih=>
  intro S R _ _ _ _ _ hn h I;rcases dD S with rfl|⟨S',c,rfl⟩
  . cases hn
  . rw[dC]at h hn;by_cases hk:c.x.ac=true
    . exact⟨_,R,h,.inr ⟨S',c,rfl,hk⟩,I⟩
    . have h':F=S'++c::R:=by rw[h];simp
      exact ih (S:=S') (R:=c::R) (by simpa using hn) h' (I.adv hK (E:=E++xs S') (by rw[hR,h'];simp) (h' ▸ hF).drop (Bool.eq_false_iff.2 hk))
theorem Inv.tmr(I:Inv P ng all cx t0 W0 ρ0 base w0 wd0 a0 cs0 b R lst ρ a wd cs)(hd0:∀b,W0.n<=b->ρ0 b=none)(tm0:TmR ρ0 (ntm P cx.fn) t0 a0.tmps)(hK:Plan all L)(hR:L.reverse=E++xs R)(h:∀r∈R,lst r.x.i) :
 TmR ρ (ntm P cx.fn) (stT t0 R) a.tmps:=by
 refine⟨by rw[I.sz];exact tm0.sz,λd v hv=>?_⟩;by_cases hw:∃q∈R,q.x.o.dst=some d
 . obtain⟨q,hq,hqd⟩:=hw;have:=I.val q hq (h q hq) d v hqd hv;obtain⟨A1,A2,rfl⟩:=bR hq;rw [slot_at I.past hqd λy hy e=>?_]
   . exact this
   . obtain⟨C1,C2,rfl⟩:=bR hy;exact((hK.at (B:=E++xs C1) (x:=y.x) (A:=xs (C2++q::A2)) (by rw[hR];simp)).1 q.x qL).2 d (by rw[e];simp) hqd
 . have hw:∀q∈R,q.x.o.dst≠some d:=λq hq e=>hw ⟨q,hq,e⟩;rw [slot_no I.past hw];rw [I.un d λq hq _=>hw q hq]at hv;exact(tm0.tm d v hv).mono (I.gr.le hd0)
theorem Inv.late(hP:xC ng P=true)(I:Inv P ng all cx t0 W0 ρ0 base w0 wd0 a0 cs0 b R lst ρ a wd cs)(hd0:∀b,W0.n<=b->ρ0 b=none)(tm0:TmR ρ0 (ntm P cx.fn) t0 a0.tmps)(hK:Plan all L)(hR:L.reverse=E++xs R)
(hc:∀o∈all.toList,operOK ng (ntm P cx.fn) o=true)(hr:r∈R)(hi:all[r.x.i]? = some r.x.o)(hx:¬lst r.x.i)(hd:∀d∈dps r.x.o,lst d) :
 ∃ρ' a' wd',Inv P ng all cx t0 W0 ρ0 base w0 wd0 a0 cs0 b R (λi=>lst i\/i=r.x.i) ρ' a' wd' cs/\
  ∀is kk,step P (lone (b.atR a (.inRegion all (r.x.i::is)::kk)) cs wd) = .next (lone (b.atR a' (.inRegion all is::kk)) cs wd'):=by
 have jw:r.x.ac=false:=Bool.eq_false_iff.2 λh=>hx (I.acts r hr h);obtain⟨B,A,rfl⟩:=bR hr;have hA:L.reverse=(E++xs B)++r.x::xs A:=by rw[hR];simp
 obtain⟨p1,p2,p3,p4,p5⟩:=I.past.drop;obtain⟨hO,hW⟩:=I.looks hd0 tm0 hK hR hc hA (λq hq=>by simp[hq]) p1 hi hx hd;rw [<- p3]at hO hW
 have hok:Pd r.x->r.ok (stW W0 (B++r::A)).h:=λhk12=>by
  refine I.past.ok hr hk12 ?_
  have one:∀C,(∃D,B=D++C)->cnt (xs (C++r::A))<=r.x.hi:=by
   intro C
   induction C with
   | nil=>
    intro _;have:=(hK.at hA).2.2.2.2.2.1 hk12;show cnt (r.x::xs A)<=_;unfold cnt at this ⊢;rw [cQ,if_neg (by rw[jw];simp)];exact this
   | cons c C ih=>
    rintro ⟨D,hD⟩
    have h1:=ih ⟨D++[c],by rw[hD];simp⟩;show cnt (c.x::xs (C++r::A))<=_;by_cases hc3:c.x.ac=true
    . have eX:lst c.x.i:=I.acts c (by rw[hD];simp) hc3;rcases((hK.at (B:=E++xs D) (x:=c.x) (A:=xs (C++r::A)) (by rw[hR,hD];simp)).2.2.2.2.1 hc3).2 r.x qL  hk12 with h|h
      . exact absurd (clo_ok I.closed _ _ (λs hs=>by rw[aq.1 hs];exact eX) _ h) hx
      . unfold cnt at h ⊢;rw [cQ];split <;> omega
    . unfold cnt at h1 ⊢;rw [cQ,if_neg hc3];exact h1
  exact one B ⟨[],rfl⟩
 have mW:∀q∈B++r::A,q.nb=true->W0.n<=q.w.n/\q.w.n<(stW W0 (B++r::A)).n/\(¬(lst q.x.i\/q.x.i=r.x.i)->ρ q.w.n=none)/\∀p∈B++r::A,p.nb=true->p.w.n=q.w.n->p.x.i=q.x.i:=
  λq hq hm=>let ⟨n1,n2,n3,n4⟩:=I.num q hq hm;⟨n1,n2,λh=>n3 λh2=>h (.inl h2),n4⟩
 have fJ:∀c,r.x.o.op≠.defer c:=λc e=>by
  have:=(hK.at hA).2.2.2.2.2.2 (by rw[e];rfl);rw [jw]at this;cases this
 have same:∀{v'},RV ρ r.v v'->Inv P ng all cx t0 W0 ρ0 base w0 wd0 a0 cs0 b (B++r::A) (λi=>lst i\/i=r.x.i) ρ (a.put r.x.o.dst v') wd cs:=λhv=>
  I.put hK hR (λ_ h=>h) hr (λ_ h=>.inl h) I.past hi hx hd (λ_ _ e=>e) hv rfl (I.in0.act (put_defers _ _ _)) mW I.gr I.cst
 clear p3 p4 p5;obtain⟨x,t,w,v,w2,nb,ok⟩:=r
 cases p2 with
 | skip hw=>exact⟨ρ,_,wd,same (RV.undef ρ),λis kk=>skip_put hi (hW.trans hw)⟩
 | look hw hk hq h0 =>
  have kP:uF x.o.op P t (stW W0 (B++⟨x,t,w,v,w,false,ok⟩::A)).h=some v:=by
   by_cases h12:xP x.o.op=1\/xP x.o.op=2
   . exact hq _ (hok ⟨hk,h12⟩)
   . rw[quiet_free (h:=_) (h':=w.h)]
     . exact hq _ h0
     . have h9:xP x.o.op<=3:=by unfold xP;split <;> (try split) <;> omega
       have:xP x.o.op≠3:=λh=>by have:=(hK.at hA).2.2.2.2.2.2 h;rw [show x.ac=false from hk]at this;cases this
       omega
  obtain⟨v',e1,e2⟩:=quiet_ok hP I.in0.hp hO kP;exact⟨ρ,_,wd,same e2,λis kk=>step_res fJ hi (hW.trans hw) (.inl e1)⟩
 | made hw hk hn=>
  rename_i v ob;have gt:=I.num _ hr rfl;obtain⟨n1,n2,n3,n4⟩:=gt;have iL:=n3 hx;obtain⟨Bl,o',v',b1,b2,b3,b4⟩:=hn ρ base w0 a wd _ _ w.n hO I.in0.hp iL;have hob:zG (stW W0 (B++⟨x,t,w,v w.n,⟨w.d,w.u,w.h.set .dead ob w.n,w.n+1⟩,true,λh=>zG h w.n=ob⟩::A)).h w.n=ob:=hok ⟨hk.1,.inr hk.2⟩;have hle:=Inj.le_put Bl iL;have i0:=I.in0;refine⟨ρ.put w.n Bl,_,_,I.put hK hR (λ_ h=>h) hr (λ_ h=>.inl h) I.past hi hx hd hle b3 rfl ?_ ?_ (I.gr.add n1 o' Bl b1) I.cst,λis kk=>step_res fJ hi (hW.trans hw) (.inl b2)⟩
  . exact⟨i0.fn,i0.kind,i0.rd.mono hle,i0.rdf,i0.hp.add iL n2 o' Bl b1 (by rw[hob];exact b4),by rw[put_defers];exact i0.dr.mono hle,i0.ur.mono hle,i0.fnd⟩
  . intro q hq hm;obtain⟨m1,m2,m3,m4⟩:=mW q hq hm;refine⟨m1,m2,λh=>?_,m4⟩;have:q.w.n≠w.n:=λe=>h (.inr (n4 q hq hm e));show(ρ.put w.n Bl) q.w.n=none;simp only[Inj.put,if_neg this];exact m3 h
 | act hw hk ho=>exact absurd (hk.symm.trans jw) qL 
theorem Inv.more(I:Inv P ng all cx t0 W0 ρ0 base w0 wd0 a0 cs0 b R lst ρ a wd cs)(hd0:∀b,W0.n<=b->ρ0 b=none)(tm0:TmR ρ0 (ntm P cx.fn) t0 a0.tmps)(hK:Plan all L)(hR:L.reverse=E++xs (r::R))
(hc:∀o∈all.toList,operOK ng (ntm P cx.fn) o=true)(hp:Past P ng all cx t0 W0 (r::R))(hk:r.x.ac=true)(hi:all[r.x.i]? = some r.x.o)(hx:¬lst r.x.i)(hd:∀d∈dps r.x.o,lst d)(is:List Nat)(kk:List Item) :
 ∃ρ' a' wd' cs',Inv P ng all cx t0 W0 ρ0 base w0 wd0 a0 cs0 b (r::R) (λi=>lst i\/i=r.x.i) ρ' a' wd' cs'/\
  Steps P (lone (b.atR a (.inRegion all (r.x.i::is)::kk)) cs wd) (lone (b.atR a' (.inRegion all is::kk)) cs' wd'):=by
 obtain⟨hO,hW⟩:=I.looks hd0 tm0 hK (E:=E++[r.x]) (by rw[hR];simp) hc hR (λq hq=>hq) I.past hi hx hd;obtain⟨p1,p2,p3,p4,p5⟩:=hp;rw [<- p3]at hO hW;have i0:=I.in0;have g0:=I.gr
 have fin:∀{ρ' a' wd' cs'} {v'},r.nb=false->In0 P ng ρ' base w0 b a' wd' cs' cx r.w2->a'.tmps=a.tmps->Grow ρ (stW W0 R).h (stW W0 R).n wd ρ' r.w2.h r.w2.n wd'->CsTo cx.df cs cs'->RV ρ' r.v v'->
  Inv P ng all cx t0 W0 ρ0 base w0 wd0 a0 cs0 b (r::R) (λi=>lst i\/i=r.x.i) ρ' (a'.put r.x.o.dst v') wd' cs':=by
  intro ρ' a' wd' cs' v' mw i1 i2 i3 i4 hv;have hle:=i3.le i0.hp.dom;refine I.put hK hR (λq hq=>by simp[hq]) qL  (λq hq=>(au.1 hq).symm) ⟨p1,p2,p3,p4,p5⟩ hi hx hd hle hv ?_ (i1.act (put_defers _ _ _)) ?_ (g0.trans i3) (I.cst.trans i4)
  . cases e:r.x.o.dst with
    | none=>exact i2
    | some d=>show a'.tmps.setIfInBounds d v'=a.tmps.setIfInBounds d v';rw [i2]
  . intro q hq hm;rcases au.1 hq with rfl|hq
    . rw[mw]at hm;cases hm
    . obtain⟨n1,n2,n3,n4⟩:=I.num q hq hm;refine⟨n1,aG n2 i3.nn,λh=>(i3.old _ n2).trans (n3 λh2=>h (.inl h2)),λp hp gK e=>?_⟩;rcases au.1 hp with rfl|hp
      . rw[mw]at gK;cases gK
      . exact n4 p hp gK e
 rw[<- p4]at i0 g0 fin;clear p3 p4 p5;obtain⟨x,t,w,v,w2,nb,ok⟩:=r
 cases p2 with
 | skip hw=>exact⟨ρ,_,wd,cs,fin rfl i0 rfl (Grow.refl _ _ _ _ i0.hp.dom) (CsTo.refl _ _) (RV.undef ρ),.one (skip_put hi (hW.trans hw))⟩
 | look hw hk' hq h0=>exact absurd (hk.symm.trans hk') qL 
 | made hw hk' hn=>exact absurd (hk.symm.trans hk'.1) qL 
 | act hw hk' ho=>
  obtain⟨ρ',a',wd',cs',i1,i2,i3,i4,v',i5,i6⟩:=ho ρ base w0 b a wd cs i0 hO all x.i is kk hi (hW.trans hw);exact⟨ρ',_,wd',cs',fin rfl i1 i2 i3 i4 i5,i6⟩
end
end
end Go.Ex
