/- What the law leans on: an executor of the model that is sound, deduction over it, and the walks through the code (part 7 of 24). Conditions: those that each theorem states. -/
import Derived.Test.YtdipdkkpgjdnkaaGreatDoorVirLinesx6

set_option linter.unusedVariables false
set_option linter.unusedSimpArgs false
namespace Go.Ex
section
variable {P:Program} {ng:Nat}
theorem ldV_ok{ρ : Inj}{base:Nat}{w0:World}{h:zB}{n:Nat}{wd:World}(hH:HeapR P ng ρ base w0 h n wd){ty:TypeId}{x x':Value}(hx:RV ρ x x'){v:Value}(hl:ldV P h ty x=some v) :
 ∃v',(do loadVar ty (← asAddr x'):Sem Value).run P wd = .ok v' wd∧RV ρ v v':=by
 obtain⟨v',h1,h2⟩:=load_ok hH hx hl;refine⟨v',?_,h2⟩;unfold ldV at hl;rcases uM hl with⟨b,off,rfl,_⟩|h3
 case inr=>cases h3
 obtain⟨B,_,_,rfl⟩:=hx.of_ptr;exact h1
def resOne(tmps:Array Value):ResultVar→Sem Value
 | .tmp t=>pure (tmps.getD t undef)
 | .cell a t=>do loadVar t (← asAddr (tmps.getD a undef))
theorem results_list{ρ : Inj}{base:Nat}{w0:World}{h:zB}{n:Nat}{wd:World}(hH:HeapR P ng ρ base w0 h n wd){N:Nat}{t:Fr}{tmps:Array Value}(hT:TmR ρ N t tmps) :
 ∀{rs:List ResultVar} {l:List Value},(∀r∈rs,(match r with | .tmp i=>Nat.blt i N | .cell i _=>Nat.blt i N)=true)→yP P t h rs=some l→∃l',(rs.mapM (resOne tmps)).run P wd = .ok l' wd∧RVs ρ l l':=by
 intro rs
 induction rs with
 | nil=>
  intro l _ hr;simp only[yP]at hr;injection hr with hr;subst hr
  exact⟨[],by simp,RVs.nil ρ⟩
 | cons r rs ih =>
  intro l hok hr;have hok2:∀x∈rs,(match x with | .tmp i=>Nat.blt i N | .cell i _=>Nat.blt i N)=true:=fun x hx=>hok x (by simp[hx])
  have slot:∀i,Nat.blt i N=true→RV ρ (fget t i) (tmps.getD i undef):=by
   intro i hi;have hi:=zY hi;have hlt:i<tmps.size:=Nat.lt_of_lt_of_le hi hT.le;have h1:=hT.tm i tmps[i] (Array.getElem?_eq_getElem hlt);simpa [Array.getD,hlt] using h1
  cases r with
  | tmp i =>
   simp only[yP]at hr
   cases hr2:yP P t h rs with
   | none=>rw [hr2]at hr;cases hr
   | some l2=>
    rw[hr2]at hr;injection hr with hr;subst hr
    obtain⟨l',h1,h2⟩:=ih hok2 hr2;refine⟨tmps.getD i undef::l',?_,RVs.cons (slot i (hok (.tmp i) (by simp))) h2⟩;simp [List.mapM_cons,resOne,h1]
  | cell i ty =>
   simp only[yP]at hr
   cases hv:ldV P h ty (fget t i) with
   | none=>rw [hv]at hr;cases hr
   | some v =>
    rw[hv]at hr
    cases hr2:yP P t h rs with
    | none=>rw [hr2]at hr;cases hr
    | some l2=>
     rw[hr2]at hr;injection hr with hr;subst hr
     obtain⟨l',h1,h2⟩:=ih hok2 hr2;obtain⟨v',h3,h4⟩:=ldV_ok hH (slot i (hok (.cell i ty) (by simp))) hv;refine⟨v'::l',?_,RVs.cons h4 h2⟩;have h3':(resOne tmps (.cell i ty)).run P wd = .ok v' wd:=h3;rw [List.mapM_cons,Sem.run_bind,h3',Result.andThen_ok,Sem.run_bind,h1];rfl
theorem results_ok(hP:yH ng P=true){ρ : Inj}{base:Nat}{w0:World}{h:zB}{n:Nat}{wd:World}(hH:HeapR P ng ρ base w0 h n wd){f:FuncId}{fn:Func}(hf:P.funcs[f]? = some fn){t:Fr}{tmps:Array Value}(hT:TmR ρ (ntm P f) t tmps)
{l:List Value}(hr:yP P t h fn.results.toList=some l):∃v',(results fn tmps).run P wd = .ok v' wd∧RV ρ (vQ l) v':=by
 rw[ntm_eq hf]at hT;have hfo:=fn_ok hP hf;unfold fnOK at hfo;have h2:=List.all_eq_true.1 (Bool.and_eq_true_iff.1 hfo).2
 obtain⟨l',h3,h4⟩:=results_list hH hT (rs:=fn.results.toList) (fun r hr=>by
  have:=h2 r hr;cases r <;> exact this) hr
 have e:fn.results.mapM (resOne tmps)=List.toArray <$> fn.results.toList.mapM (resOne tmps):=Array.mapM_eq_mapM_toList
 have h5:(fn.results.mapM (resOne tmps)).run P wd = .ok l'.toArray wd:=by
  rw[e,map_eq_pure_bind,Sem.run_bind,h3];rfl
 refine⟨(if h:l'.toArray.size=1 then l'.toArray[0] else .tuple l'.toArray),?_,?_⟩
 · have e2:results fn tmps=(do
    let vs ← fn.results.mapM (resOne tmps)
    pure (if h:vs.size=1 then vs[0] else .tuple vs)):=by
    unfold results;congr 1
   rw[e2,Sem.run_bind,h5];rfl
 · cases l with
   | nil=>obtain rfl:=h4.of_nil;exact RV.mk_tuple (RVs.nil ρ)
   | cons v r =>
    obtain⟨v',r',rfl,hv,hr⟩:=h4.of_cons
    cases r with
    | nil=>
     obtain rfl:=hr.of_nil;show RV ρ v _;simpa using hv
    | cons v2 r2=>
     obtain⟨v2',r2',rfl,hv2,hr2⟩:=hr.of_cons;have:¬((v'::v2'::r2').toArray.size=1):=by simp
     rw[dif_neg this];exact RV.mk_tuple (RVs.cons hv (RVs.cons hv2 hr2))
theorem step_collected{fr:Frame}{cs:List Frame}{w:World}{r:Nat}{asz:Array Value}{ds:List Deferred}(hm:fr.mode≠.run)(hd:fr.defers=⟨.collected r,asz⟩::ds)(hr:w.heap[r]? = some (.deferred (some []))) :
 step P (lone fr cs w) = .next (lone { fr with defers:=ds } cs { w with heap:=w.heap.setIfInBounds r (.deferred none) }):=by
 refine step_lone_go ?_
 have ht:(Instr.takeDeferred r).run P w = .ok [] { w with heap:=w.heap.setIfInBounds r (.deferred none) }:=by
  simp[Instr.takeDeferred,getObj,setObj,Sem.run,hr]
 cases hmode:fr.mode with
 | run=>exact absurd hmode hm
 | returning=>simp [stepG,unwind,hmode,hd,ht]
 | panicking chain=>simp [stepG,unwind,hmode,hd,ht]
theorem ModeR.ne_run{ρ : Inj}{mode:Option zJ}{m:FrameMode}(h:ModeR ρ mode m):m≠.run:=by
 cases mode with
 | none=>unfold ModeR at h;subst h;exact FrameMode.noConfusion
 | some c=>obtain⟨c',rfl,_⟩:=h;exact FrameMode.noConfusion
theorem xleave_ok{lo:Lo}(hP:yH ng P=true)(hS:Sound P ng lo){fn:Func}{mode:Option zJ}{t:Fr}{w:W}{k:KO}(hx:xleave P lo fn mode t w k=true) :
 ∃o u' h' n',k o u' h' n'=true∧LeaveTo P ng fn mode t w o u' h' n':=by
 obtain⟨d,u0,h,n⟩:=w;unfold xleave at hx;dsimp only at hx;split at hx
 ·
  split at hx
  · split at hx
    · rename_i l hl;rw [yI]at hx;refine⟨_,_,_,_,hx,fun ρ base w0 b a wd cs df hI hf kk m hm=>?_⟩;obtain⟨v',h1,h2⟩:=results_ok hP hI.hp hf (hI.tm.resolve_left fun h=>by cases h.1) hl;have hd:a.defers=[]:=by have:=hI.dr;generalize a.defers=z at this;cases this;rfl
      exact⟨ρ,wd,_,cs,Steps.refl _ _,hI.hp,Grow.refl _ _ _ _ hI.hp.dom,CsTo.refl _ _,hI.ur,rfl,v',hm,hd,hI.kind,⟨fn,hf,h1⟩,h2⟩
    · cases hx
  · rename_i c;refine⟨_,_,_,_,hx,fun ρ base w0 b a wd cs df hI hf kk m hm=>?_⟩;have hd:a.defers=[]:=by have:=hI.dr;generalize a.defers=z at this;cases this;rfl
    obtain⟨c',hm,hc⟩:=hm;exact⟨ρ,wd,_,cs,Steps.refl _ _,hI.hp,Grow.refl _ _ _ _ hI.hp.dom,CsTo.refl _ _,hI.ur,rfl,c',hm,hd,⟨fn,hf⟩,hc⟩
 ·
  rename_i r asz ds;split at hx
  · rename_i hg;rw [Tr.setK_eq]at hx;obtain⟨o,u',h',n',hk,hl⟩:=hS.leave _ _ _ _ _ hx;refine⟨o,u',h',n',hk,fun ρ base w0 b a wd cs df hI hf kk m hm=>?_⟩;have hdr:=hI.dr;obtain⟨tm,df2⟩:=a;dsimp only at hdr
    cases hdr with
    | coll hb hl2 =>
     rename_i B asz' l';have hdead:zF h r≠.dead:=by rw[hg];exact AObj.noConfusion
     obtain⟨ob,e1,e2⟩:=hI.hp.obj r B hb hdead;dsimp only at e2;rw [hg]at e2
     cases e2 with
     | ready hbb =>
      have hlt:=hI.hp.lt hb hdead
      obtain⟨g1,g2⟩:=hI.hp.turn hb hdead (.deferred false) (.deferred none) { wd with heap:=wd.heap.setIfInBounds B.b (.deferred none) } hbb (.taken hbb) (by simp[hlt]) (by simp) (fun c hc=>by
       show(wd.heap.setIfInBounds B.b _)[c]? = _;rw [Array.getElem?_setIfInBounds,if_neg (fun e=>hc e.symm)]) rfl rfl rfl
      obtain⟨ρ2,wd2,fr,cs2,s1,s2,s3,s4,s5,s6,s7⟩:=hl ρ base w0 b { tmps:=tm,defers:=l' } _ cs df
       ⟨hI.fn,hI.kind,hI.rd,hI.rdf,.inr (hI.tm.resolve_left fun h=>by cases h.2),g1,hl2,hI.ur,hI.fnd⟩ hf kk m hm
      refine⟨ρ2,wd2,fr,cs2,?_,s2,g2.trans s3,s4,s5,s6,s7⟩;exact Steps.head (step_collected (fr:={ b.atR { tmps:=tm,defers:=⟨.collected B.b,asz'⟩::l' } kk with mode:=m }) hm.ne_run rfl e1) s1
  · cases hx
 ·
  rename_i g cap asz ds;obtain⟨o,u',h',n',hk,⟨gn,body,q1,q2,q3⟩,hc⟩:=hS.call _ _ _ _ _ _ _ hx
  cases o with
  | panic c=>exact(Bool.false_ne_true hk).elim
  | ret v =>
   dsimp only at hk
   have fin:∀{mode2:Option zJ},lo.leave fn mode2 t ⟨ds,u0,h',n'⟩ k=true→(∀(ρ : Inj) (m:FrameMode),ModeR ρ u' m→ModeR ρ mode2 (settle m))→
    ∃o u' h' n',k o u' h' n'=true∧LeaveTo P ng fn mode t ⟨⟨.fn (.func g) cap,asz⟩::ds,u0,h,n⟩ o u' h' n':=by
    intro mode2 hl hset;obtain⟨o2,u2,h2,n2,hk2,hl2⟩:=hS.leave _ _ _ _ _ hl;refine⟨o2,u2,h2,n2,hk2,fun ρ base w0 b a wd cs df hI hf kk m hm=>?_⟩;have hdr:=hI.dr;obtain⟨tm,df2⟩:=a;dsimp only at hdr
    cases hdr with
    | fn hcap has hl3 =>
     rename_i cap' asz' l';have hr:RVs ρ (asz.toList++cap.toList) (asz'.toList++cap'.toList):=has.append hcap;obtain⟨ρ1,wd1,fr,cs1,s1,s2,s3,s4,s5,s6,s7⟩:=hc ρ base w0 wd _ ({ b.atR { tmps:=tm,defers:=l' } kk with mode:=m }::cs) hI.hp hr (fun _=>⟨_,_,rfl,hm⟩);obtain⟨c0,r0,z1,z2⟩:=s5 rfl
     have hcs:∃m1,cs1 = { b.atR { tmps:=tm,defers:=l' } kk with mode:=m1 }::cs:=by
      rcases s4 with e|⟨_,c1,r1,m1,e1,e2⟩
      · exact⟨m,e⟩
      · injection e1 with e1 e3
        subst e1 e3;exact⟨m1,e2⟩
     obtain⟨m1,hcs⟩:=hcs;subst hcs;injection z1 with z1 z3
     subst z1 z3;have z2:ModeR ρ1 u' m1:=z2;obtain⟨v',y1,y2,y3,y4,y5⟩:=s7;have hgo:fr.going P wd1 (.returned v'):=⟨y1,y2,y4⟩;have st2:=step_going_returned (P:=P) (c:={ b.atR { tmps:=tm,defers:=l' } kk with mode:=m1 }) (cs:=cs) y3 hgo;have earr:(asz'++cap':Array Value)=⟨asz'.toList++cap'.toList⟩:=by apply Array.toList_inj.1;simp
     have hinv:(invoke (.fn (.func g) cap') asz').run P wd = .ok (.enter g ⟨asz'.toList++cap'.toList⟩) wd:=by
      rw[← earr];exact callFunc_enter q1 q2 q3 _ wd
     have st1:=step_defer (P:=P) (fr:={ b.atR { tmps:=tm,defers:=⟨.fn (.func g) cap',asz'⟩::l' } kk with mode:=m }) (cs:=cs) (w:=wd) (d:=⟨.fn (.func g) cap',asz'⟩) (ds:=l') hm.ne_run rfl rfl hinv
     have hI2:In P ng ρ1 base w0 b { tmps:=tm,defers:=l' } wd1 cs ⟨b.fn,none,df⟩ t ⟨ds,u0,h',n'⟩:=
      have hle:=s3.le hI.hp.dom
      ⟨hI.fn,hI.kind,hI.rd.mono hle,hI.rdf,(hI.tm.resolve_left fun h=>by cases h.2).mono hle,s2,hl3.mono hle,hI.ur.mono hle,hI.fnd⟩
     obtain⟨ρ2,wd2,fr2,cs2,x1,x2,x3,x4,x5,x6,x7⟩:=hl2 ρ1 base w0 b { tmps:=tm,defers:=l' } wd1 cs df hI2.e hf kk (settle m1) (hset ρ1 m1 z2);exact⟨ρ2,wd2,fr2,cs2,Steps.head st1 (s1.trans (Steps.head st2 x1)),x2,s3.trans x3,x4,x5,x6,x7⟩
   split at hk
   · rename_i v2 gx older
     cases ho:older.all fun e=> !e.goexit with
     | false=>rw [ho]at hk;cases hk
     | true =>
      rw[ho]at hk;refine fin (mode2:=none) hk fun ρ m hm=>?_;obtain⟨c',rfl,hc'⟩:=hm
      cases hc' with
      | cons hv hrec hgo hl =>
       rename_i e' l'
       have hall:l'.dropWhile (!·.goexit)=[]:=by
        clear hv hrec hgo hk hc hx fin
        induction hl with
        | nil=>rfl
        | cons hv hr hg hl ih=>
         simp only[List.all_cons,Bool.and_eq_true]at ho;rw [List.dropWhile_cons_of_pos (by rw[hg];exact ho.1)];exact ih ho.2
       obtain⟨v9,r9,g9⟩:=e';dsimp only at hrec;subst hrec;unfold ModeR settle;simp [hall]
   · rename_i hne;refine fin (mode2:=u') hk fun ρ m hm=>?_
     cases u' with
     | none=>unfold ModeR at hm;subst hm;rfl
     | some c =>
      obtain⟨c',rfl,hc'⟩:=hm;refine⟨c',?_,hc'⟩
      cases hc' with
      | nil=>rfl
      | cons hv hrec hgo hl=>
       rename_i e e' l l';obtain⟨v9,r9,g9⟩:=e;obtain⟨v8,r8,g8⟩:=e';dsimp only at hrec;subst hrec
       cases r8 with
       | true=>exact absurd rfl (hne v9 g9 l)
       | false=>rfl
 · cases hx
end
end Go.Ex
namespace Go.Ex
section
variable {P:Program} {ng:Nat}
theorem TmR.put{ρ : Inj}{N:Nat}{t:Fr}{ts:Array Value}(h:TmR ρ N t ts){v v':Value}(hv:RV ρ v v')(i:Nat):TmR ρ N (Tr.set undef v t i) (ts.setIfInBounds i v'):=by
 refine⟨by simpa using h.sz,fun j x hx=>?_⟩;unfold fget;rw [Tr.get_set_if];rw [Array.getElem?_setIfInBounds]at hx;by_cases e:i=j
 · subst e;rw [if_pos rfl]at hx ⊢;split at hx
   · injection hx with hx;subst hx;exact hv
   · cases hx
 · rw[if_neg e]at hx ⊢;exact h.tm j x hx
theorem run_loop{wd:World}{r:Nat}{l:Loop}(h:wd.heap[r]? = some (.loop l)):(Instr.getLoop r).run P wd = .ok l wd:=by simp[Instr.getLoop,getObj,Sem.run,h]
theorem run_setLoop{wd:World}{r:Nat}{l l2:Loop}(h:wd.heap[r]? = some (.loop l)):(setObj r (.loop l2)).run P wd = .ok () { wd with heap:=wd.heap.setIfInBounds r (.loop l2) }:=by simp[setObj,Sem.run,h]
noncomputable def setP:Fr→List Tmp→List Value→Fr
 | t,i::is,v::vs=>setP (Tr.set undef v t i) is vs
 | t,_,_=>t
theorem setParams_true:∀{is:List Tmp} {vs:List Value} {t:Fr} {k:Fr→Bool},vR t is vs k=true→is.length=vs.length∧k (setP t is vs)=true:=by
 intro is
 induction is with
 | nil=>
  intro vs t k h
  cases vs with
  | nil=>exact⟨rfl,h⟩
  | cons v vs=>cases h
 | cons i is ih =>
  intro vs t k h
  cases vs with
  | nil=>cases h
  | cons v vs=>
   simp only[vR,yI,fsetK,Tr.setK_eq]at h;obtain⟨h1,h2⟩:=ih h;exact⟨by simp[h1],h2⟩
theorem setP_ok{ρ : Inj}{N:Nat}:∀{is:List Tmp} {vs vs':List Value} {t:Fr} {ts:Array Value},TmR ρ N t ts→RVs ρ vs vs'→
 TmR ρ N (setP t is vs) ((is.zip vs').foldl (fun tmps (x:Tmp×Value)=>tmps.setIfInBounds x.1 x.2) ts):=by
 intro is
 induction is with
 | nil=>intro vs vs' t ts h _;cases vs <;> exact h
 | cons i is ih =>
  intro vs vs' t ts h hv
  cases vs with
  | nil=>obtain rfl:=hv.of_nil;exact h
  | cons v vs=>
   obtain⟨v',r',rfl,h1,h2⟩:=hv.of_cons;exact ih (h.put h1 i) h2
theorem HeapR.turnLoop{ρ : Inj}{base:Nat}{w0:World}{h:zB}{n:Nat}{wd:World}(r:HeapR P ng ρ base w0 h n wd){l:Nat}{B:Bl}(hb: ρ l=some B){l1:Loop}{t1:Fr}(hg:zF h l = .loop l1 t1)(s:LoopState)(p:Option Code)
(hp:∀j,p=some j→∀N,yO ng N j=true) :
 ∃l1':Loop,wd.heap[B.b]? = some (.loop l1')∧l1'.state=l1.state∧l1'.pending=l1.pending∧
  HeapR P ng ρ base w0 (h.set .dead (.loop { l1 with state:=s,pending:=p } t1) l) n { wd with heap:=wd.heap.setIfInBounds B.b (.loop { l1' with state:=s,pending:=p }) }∧
  Grow ρ h n wd ρ (h.set .dead (.loop { l1 with state:=s,pending:=p } t1) l) n { wd with heap:=wd.heap.setIfInBounds B.b (.loop { l1' with state:=s,pending:=p }) }:=by
 have hdead:zF h l≠.dead:=by rw[hg];exact AObj.noConfusion
 obtain⟨ob,e1,e2⟩:=r.obj l B hb hdead;rw [hg]at e2
 cases e2 with
 | loop h1 h2 h3 h4 h5 h6 h7 h8 h9 h10 h11 h12 hbb =>
  rename_i l1';have hlt:=r.lt hb hdead
  obtain⟨g1,g2⟩:=r.turn hb hdead (.loop { l1 with state:=s,pending:=p } t1) (.loop { l1' with state:=s,pending:=p }) { wd with heap:=wd.heap.setIfInBounds B.b (.loop { l1' with state:=s,pending:=p }) } hbb
   (.loop rfl rfl h3 h4 h5 h6 h7 h8 h9 h10 hp h12 hbb) (by simp[hlt]) (by simp) (fun c hc=>by
    show(wd.heap.setIfInBounds B.b _)[c]? = _;rw [Array.getElem?_setIfInBounds,if_neg (fun e=>hc e.symm)]) rfl rfl rfl
  exact⟨l1',e1,h1,h2,g1,g2⟩
def jumpOK(j:Option Code):Prop:=∀c,j=some c→∀(ng N:Nat),yO ng N c=true
theorem endRound_ok{l:Nat}{j:Option Code}(hj:jumpOK j){h:zB}{n:Nat}{k:Out→zB→Nat→Bool}(hx:endRound l j h n k=true) :
 ∃h',k (.ret (.bool j.isNone)) h' n=true∧∀(ρ : Inj) (base:Nat) (w0 wd:World) (B:Bl),HeapR P ng ρ base w0 h n wd→ρ l=some B→
  ∃wd',(Instr.endRound B.b j).run P wd = .ok (.bool j.isNone) wd'∧HeapR P ng ρ base w0 h' n wd'∧Grow ρ h n wd ρ h' n wd':=by
 unfold endRound at hx;split at hx
 case h_2=>cases hx
 rename_i l2 t2 hg;rw [Tr.setK_eq]at hx
 have key:∀(s:LoopState) (q:Bool),s=(if j.isNone then .ready else .done)→q=j.isNone→k (.ret (.bool q)) (h.set .dead (.loop { l2 with state:=s,pending:=j } t2) l) n=true→
  ∃h',k (.ret (.bool j.isNone)) h' n=true∧∀(ρ : Inj) (base:Nat) (w0 wd:World) (B:Bl),HeapR P ng ρ base w0 h n wd→ρ l=some B→
   ∃wd',(Instr.endRound B.b j).run P wd = .ok (.bool j.isNone) wd'∧HeapR P ng ρ base w0 h' n wd'∧Grow ρ h n wd ρ h' n wd':=by
  intro s q hs hq hk;subst hq;refine⟨_,hk,fun ρ base w0 wd B hH hb=>?_⟩;obtain⟨l1',e1,e2,e3,e4,e5⟩:=hH.turnLoop hb hg s j (fun c hc N=>hj c hc ng N);refine⟨_,?_,e4,e5⟩;subst hs;simp [Instr.endRound,Instr.getLoop,getObj,setObj,Sem.run,e1]
 cases j with
 | none=>exact key _ _ rfl rfl hx
 | some c=>exact key _ _ rfl rfl hx
theorem xround_ok{lo:Lo}(_hP:yH ng P=true)(hS:Sound P ng lo){l:Nat}{args:List Value}{h:zB}{n:Nat}{k:Out→zB→Nat→Bool}(hx:xround lo l args h n k=true) :
 ∃o h' n',k o h' n'=true∧RoundTo P ng l args h n o h' n':=by
 unfold xround at hx;split at hx
 case h_2=>cases hx
 rename_i ll t0 hg;obtain⟨hlen,hx⟩:=setParams_true hx;obtain⟨x,t1,w1,hk,hc⟩:=hS.code _ _ _ _ _ hx
 cases x with
 | normal =>
  obtain⟨d1,u1,h1,n1⟩:=w1;dsimp only at hk;split at hk
  case h_2=>cases hk
  rename_i l1 tt1 hg1;split at hk
  case h_2=>cases hk
  rename_i hst1;rw [Tr.setK_eq]at hk;obtain⟨x2,t2,w2,hk2,hc2⟩:=hS.code _ _ _ _ _ hk;obtain⟨d2,u2,h2,n2⟩:=w2
  have body:∀(ρ : Inj) (base:Nat) (w0 wd:World) (args':List Value) (B:Bl) (c:Frame) (cs:List Frame),HeapR P ng ρ base w0 h n wd→ρ l=some B→RVs ρ args args'→
   ∃f tmps asg body,(Instr.yield B.b ⟨args'⟩).run P wd = .ok (.round B.b f tmps asg body) wd∧
    ∃(b:Frame) (ρ2:Inj) (a2:Act) (wd2:World),b.roundOf=some B.b∧b.kind = .normal∧InE P ng (Lost x2 ⟨d2,u2,h2,n2⟩) ρ2 base w0 b a2 wd2 (c::cs) ⟨ll.fn,some l,false⟩ t2 ⟨d2,u2,h2,n2⟩∧Grow ρ h n wd ρ2 h2 n2 wd2∧ρ2 l=some B∧
     Arr P (lone (Frame.round B.b f tmps asg body .normal) (c::cs) wd) b [] (c::cs) ρ2 a2 wd2 x2:=by
   intro ρ base w0 wd args' B c cs hH hb ha;have hdead:zF h l≠.dead:=by rw[hg];exact AObj.noConfusion
   obtain⟨ob,e1,e2⟩:=hH.obj l B hb hdead;rw [hg]at e2
   cases e2 with
   | loop q1 q2 q3 q4 q5 q6 q7 q8 q9 q10 q11 q12 hbb =>
    rename_i ll'
    have hsz:¬((⟨args'⟩:Array Value).size≠ll'.params.size):=by
     have:ll'.params.size=args.length:=by rw[q4];simpa using hlen
     have h3:=ha.1;simp;omega
    have hy:(Instr.yield B.b ⟨args'⟩).run P wd = .ok (.round B.b ll.fn ((ll'.params.zip ⟨args'⟩).foldl (fun tmps (x:Tmp×Value)=>tmps.setIfInBounds x.1 x.2) ll'.tmps) ll.assign ll.body) wd:=by
     simp only[Instr.yield,Sem.run_bind,run_loop e1,Result.andThen_ok,if_neg hsz,q3,q5,q6];rfl
    refine⟨_,_,_,_,hy,?_⟩
    have hb0:Frame.round B.b ll.fn ((ll'.params.zip ⟨args'⟩).foldl (fun tmps (x:Tmp×Value)=>tmps.setIfInBounds x.1 x.2) ll'.tmps) ll.assign ll.body .normal =
     ({ (default:Frame) with fn:=ll.fn,kind:=.normal,roundOf:=some B.b }:Frame).atR { tmps:=(ll'.params.zip ⟨args'⟩).foldl (fun tmps (x:Tmp×Value)=>tmps.setIfInBounds x.1 x.2) ll'.tmps,defers:=[] } [.code ll.assign,.beginRound,.code ll.body]:=rfl
    rw[hb0]
    have htm:TmR ρ (ntm P ll.fn) (setP t0 ll.params.toList args) ((ll'.params.zip ⟨args'⟩).foldl (fun tmps (x:Tmp×Value)=>tmps.setIfInBounds x.1 x.2) ll'.tmps):=by
     have:=setP_ok (is:=ll.params.toList) q8 ha;rw [q4,← Array.foldl_toList,Array.toList_zip];exact this
    have hI:In P ng ρ base w0 ({ (default:Frame) with fn:=ll.fn,kind:=.normal,roundOf:=some B.b }:Frame) { tmps:=(ll'.params.zip ⟨args'⟩).foldl (fun tmps (x:Tmp×Value)=>tmps.setIfInBounds x.1 x.2) ll'.tmps,defers:=[] } wd (c::cs) ⟨ll.fn,some l,false⟩ (setP t0 ll.params.toList args) ⟨[],none,h,n⟩:=
     ⟨rfl,rfl,⟨B,hb,rfl⟩,fun _=>rfl,htm,hH,.nil,(fun e=>by cases e),q12⟩
    obtain⟨ρ1,a1,wd1,cs1,i1,g1,c1,r1⟩:=hc q9 _ [.beginRound,.code ll.body] ρ base w0 _ wd (c::cs) hI
    have hcs:cs1=c::cs:=by
     rcases c1 with e|⟨e,_⟩
     · exact e
     · cases e
    subst hcs;have hb1: ρ1 l=some B:=g1.le hH.dom _ _ hb
    obtain⟨l1',z1,z2,z3,z4,z5⟩:=i1.hp.turnLoop hb1 hg1 .busy l1.pending (by
     have hd1:zF h1 l≠.dead:=by rw[hg1];exact AObj.noConfusion
     obtain⟨ob1,y1,y2⟩:=i1.hp.obj l B hb1 hd1;dsimp only at y2;rw [hg1]at y2
     cases y2 with
     | loop _ _ _ _ _ _ _ _ _ _ q _ _=>exact q)
    have hbr:(Instr.beginRound B.b).run P wd1 = .ok () { wd1 with heap:=wd1.heap.setIfInBounds B.b (.loop { l1' with state:=.busy,pending:=l1.pending }) }:=by
     have e9:({ l1' with state:=.busy,pending:=l1.pending }:Loop) = { l1' with state:=.busy }:=by rw[← z3]
     rw[e9];simp only[Instr.beginRound,Sem.run_bind,run_loop z1,Result.andThen_ok,z2,hst1,run_setLoop z1];rfl
    have st:=stepR_beginRound (P:=P) (b:=({ (default:Frame) with fn:=ll.fn,kind:=.normal,roundOf:=some B.b }:Frame)) (a:=a1) (k:=[.code ll.body]) (cs:=c::cs) (w:=wd1) rfl hbr
    have hI2:In P ng ρ1 base w0 ({ (default:Frame) with fn:=ll.fn,kind:=.normal,roundOf:=some B.b }:Frame) a1 _ (c::cs) ⟨ll.fn,some l,false⟩ t1 ⟨d1,u1,_,n1⟩:=
     ⟨i1.fn,i1.kind,i1.rd,i1.rdf,i1.tm.resolve_left fun h=>h,z4,i1.dr,(fun e=>by cases e),i1.fnd⟩
    obtain⟨ρ2,a2,wd2,cs2,i2,g2,c2,r2⟩:=hc2 q10 _ [] ρ1 base w0 a1 _ (c::cs) hI2
    have hcs:cs2=c::cs:=by
     rcases c2 with e|⟨e,_⟩
     · exact e
     · cases e
    subst hcs;exact⟨_,ρ2,a2,wd2,rfl,rfl,i2,(g1.trans z5).trans g2,g2.le z4.dom _ _ hb1,r2.of_steps (Steps.trans r1 (.one st))⟩
  cases d2 with
  | cons _ _=>cases hk2
  | nil =>
   dsimp only at hk2
   have fin:∀(j:Option Code),jumpOK j→endRound l j h2 n2 k=true→(∀(b:Frame) (ρ : Inj) (a:Act) (wd wd':World) (m0:Machine) (c:Frame) (cs:List Frame) (L:Nat),b.roundOf=some L→b.kind = .normal→(Instr.endRound L j).run P wd = .ok (.bool j.isNone) wd'→
    Arr P m0 b [] (c::cs) ρ a wd x2→Steps P m0 (lone (c.finish (.bool j.isNone)) cs wd'))→∃o h' n',k o h' n'=true∧RoundTo P ng l args h n o h' n':=by
    intro j hj he hm;obtain⟨h3,k3,hend⟩:=endRound_ok (P:=P) (ng:=ng) hj he;refine⟨_,h3,n2,k3,fun ρ base w0 wd args' B c cs hH hb ha=>?_⟩;obtain⟨f,tmps,asg,bd,y1,b,ρ2,a2,wd2,y2,y3,y4,y5,y6,y7⟩:=body ρ base w0 wd args' B c cs hH hb ha;obtain⟨wd3,z1,z2,z3⟩:=hend ρ2 base w0 wd2 B y4.hp y6;exact⟨f,tmps,asg,bd,y1,ρ2,wd3,z2,y5.trans z3,.bool j.isNone,RV.bool _,hm b ρ2 a2 wd2 wd3 _ c cs B.b y2 y3 z1 y7⟩
   cases x2 with
   | normal =>
    exact fin none (fun c e=>by cases e) hk2 fun b ρ a wd wd' m0 c cs L hb hkd he hr=>
     Steps.trans hr (.one (stepR_round_end hb hkd he))
   | ret =>
    exact fin (some .ret) (fun c e _ _=>by injection e with e;subst e;rfl) hk2 fun b ρ a wd wd' m0 c cs L hb hkd he hr=>by
     obtain⟨k2,s⟩:=hr;exact s.trans (.one (stepR_round_ret hb hkd he))
   | exit id =>
    exact fin (some (.exit id)) (fun c e _ _=>by injection e with e;subst e;rfl) hk2 fun b ρ a wd wd' m0 c cs L hb hkd he hr=>by
     obtain⟨k2,ex,s⟩:=hr;exact s.trans (.one (stepR_round_exit hb hkd (by rw[ex];rfl) he))
   | goto id =>
    exact fin (some (.goto id)) (fun c e _ _=>by injection e with e;subst e;rfl) hk2 fun b ρ a wd wd' m0 c cs L hb hkd he hr=>by
     obtain⟨k2,ex,s⟩:=hr;exact s.trans (.one (stepR_round_goto hb hkd (by rw[ex];rfl) he))
   | panic ch=>
    refine⟨_,h2,n2,hk2,fun ρ base w0 wd args' B c cs hH hb ha=>?_⟩;obtain⟨f,tmps,asg,bd,y1,b,ρ2,a2,wd2,y2,y3,y4,y5,y6,k2,ch',y7,y8⟩:=body ρ base w0 wd args' B c cs hH hb ha;have hd:a2.defers=[]:=by have:=y4.dr;generalize a2.defers=z at this;cases this;rfl
    exact⟨f,tmps,asg,bd,y1,ρ2,wd2,y4.hp,y5,ch',y7,y8.trans (.one (step_leave_panicked ⟨rfl,hd,y4.fnd⟩))⟩
 | exit i=>cases hk
 | goto i=>cases hk
 | ret=>cases hk
 | panic c=>cases hk
end
end Go.Ex
namespace Go.Ex
section
variable {P:Program} {ng:Nat}
theorem step_range{b:Frame}{a:Act}{kk:List Item}{cs:List Frame}{wd wd1:World}{f:Operand}{params:Array Tmp}{asg body:Code}{l:Nat}{mark:List Deferred}{d:Deferred}{nx:Next}{fr:Frame}
(he:(Instr.enterLoop b.fn a.tmps params asg body b.roundOf).run P wd = .ok (l,mark) wd1)
(hd:(Deferred.ofValue (a.eval f) #[.func (.yield l) #[] #[]]).run P wd1 = .ok d wd1)(hi:(invoke d.target d.args).run P wd1 = .ok nx wd1)(hp:pushed P nx=some fr) :
 step P (lone (b.atR a (.code (.rangeFunc f params asg body)::kk)) cs wd) = .next (lone fr (b.atR { tmps:=a.tmps,defers:=mark++a.defers } (.inRangeFunc l::kk)::cs) wd1):=by
 refine step_lone_go ?_;have ev1:(b.atR { tmps:=a.tmps,defers:=mark++a.defers } (.inRangeFunc l::kk)).eval=a.eval:=Frame.eval_atR b _ _
 have hr:(resolve a.eval { callee:=.value f,args:= #[.const (.func (.yield l) #[] #[])],argTypes:= #[] } 0).run P wd1 = .ok d wd1:=by
  simpa [resolve,Act.eval] using hd
 simp only[Frame.atR]at ev1;cases nx <;> simp only[pushed]at hp <;> first|(cases hp;done)|skip
 all_goals
  injection hp with hp
  subst hp;simp [stepG,stepG.exec,stepG.apply,Frame.atR,he,ev1,hr,hi]
theorem step_endRange{b:Frame}{a:Act}{kk:List Item}{cs:List Frame}{wd wd1:World}{l:Nat}{j:Option Code}(he:(Instr.endLoop l).run P wd = .ok j wd1) :
 step P (lone (b.atR a (.endRangeFunc l::kk)) cs wd) = .next (lone (b.atR a ((j.map Item.code).toList++kk)) cs wd1):=
 step_lone_go (by simp[stepG,stepG.exec,Frame.atR,he])
theorem xrange_ok{lo:Lo}(hS:Sound P ng lo){f:Operand}{params:Array Tmp}{asg body:Code}{cx:Cx}{t:Fr}{d:List Deferred}{u:Option zJ}{h:zB}{n blk:Nat}{k:KX}(hx:xrange lo f params asg body cx t d u h n blk k=true) :
 ∃x t' w',k x t' w'=true∧∀(_hok:yO ng (ntm P cx.fn) (.rangeFunc f params asg body)=true) (ρ : Inj) (base:Nat) (w0:World) (b:Frame) (a:Act) (wd:World) (cs:List Frame) (D:Bl) (kk:List Item),In P ng ρ base w0 b a wd cs cx t ⟨d,u,h,n⟩→ρ blk=some D→
  ∃dd nx fr,(Deferred.ofValue (a.eval f) #[.func (.yield wd.heap.size) #[] #[]]).run P { wd with heap:=wd.heap.push (.loop { state:=.ready,pending:=none,fn:=b.fn,tmps:=a.tmps,params,assign:=asg,body,defers:=D.b }) } =
   .ok dd { wd with heap:=wd.heap.push (.loop { state:=.ready,pending:=none,fn:=b.fn,tmps:=a.tmps,params,assign:=asg,body,defers:=D.b }) }∧
   (invoke dd.target dd.args).run P { wd with heap:=wd.heap.push (.loop { state:=.ready,pending:=none,fn:=b.fn,tmps:=a.tmps,params,assign:=asg,body,defers:=D.b }) } =
    .ok nx { wd with heap:=wd.heap.push (.loop { state:=.ready,pending:=none,fn:=b.fn,tmps:=a.tmps,params,assign:=asg,body,defers:=D.b }) }∧pushed P nx=some fr∧
   ∃ρ' a' wd' cs',InE P ng (Lost x w') ρ' base w0 b a' wd' cs' cx t' w'∧Grow ρ h n wd ρ' w'.h w'.n wd'∧CsTo cx.df cs cs'∧
    Arr P (lone fr (b.atR a (.inRangeFunc wd.heap.size::kk)::cs) { wd with heap:=wd.heap.push (.loop { state:=.ready,pending:=none,fn:=b.fn,tmps:=a.tmps,params,assign:=asg,body,defers:=D.b }) }) b kk cs' ρ' a' wd' x:=by
 unfold xrange at hx;rw [yJ]at hx;obtain⟨o,h2,n2,hk,hc⟩:=xinvoke_ok hS hx
 have call:∀(hok:yO ng (ntm P cx.fn) (.rangeFunc f params asg body)=true) (ρ : Inj) (base:Nat) (w0:World) (b:Frame) (a:Act) (wd:World) (cs:List Frame) (D:Bl) (kk:List Item),In P ng ρ base w0 b a wd cs cx t ⟨d,u,h,n⟩→ρ blk=some D→
  ∃dd nx fr,(Deferred.ofValue (a.eval f) #[.func (.yield wd.heap.size) #[] #[]]).run P { wd with heap:=wd.heap.push (.loop { state:=.ready,pending:=none,fn:=b.fn,tmps:=a.tmps,params,assign:=asg,body,defers:=D.b }) } =
   .ok dd { wd with heap:=wd.heap.push (.loop { state:=.ready,pending:=none,fn:=b.fn,tmps:=a.tmps,params,assign:=asg,body,defers:=D.b }) }∧
   (invoke dd.target dd.args).run P { wd with heap:=wd.heap.push (.loop { state:=.ready,pending:=none,fn:=b.fn,tmps:=a.tmps,params,assign:=asg,body,defers:=D.b }) } =
    .ok nx { wd with heap:=wd.heap.push (.loop { state:=.ready,pending:=none,fn:=b.fn,tmps:=a.tmps,params,assign:=asg,body,defers:=D.b }) }∧pushed P nx=some fr∧
   ∃ρ2 wd2,In P ng ρ2 base w0 b a wd2 cs cx t ⟨d,u,h2,n2⟩∧Grow ρ h n wd ρ2 h2 n2 wd2∧ρ2 n=some ⟨wd.heap.size,0,0⟩∧
    Back P (lone fr (b.atR a (.inRangeFunc wd.heap.size::kk)::cs) { wd with heap:=wd.heap.push (.loop { state:=.ready,pending:=none,fn:=b.fn,tmps:=a.tmps,params,assign:=asg,body,defers:=D.b }) }) (b.atR a (.inRangeFunc wd.heap.size::kk)) cs wd2 ρ2 o:=by
  intro hok ρ base w0 b a wd cs D kk hI hD;obtain⟨o1,o2⟩:=Bool.and_eq_true_iff.1 hok;obtain⟨o2,o3⟩:=Bool.and_eq_true_iff.1 o2;have hle:=Inj.le_put (⟨wd.heap.size,0,0⟩:Bl) (hI.hp.dom n (Nat.le_refl _))
  obtain⟨a1,a2⟩:=hI.hp.alloc (.loop { state:=.ready,pending:=none,fn:=cx.fn,tmps:= #[],params,assign:=asg,body,defers:=blk } t)
   (.loop { state:=.ready,pending:=none,fn:=b.fn,tmps:=a.tmps,params,assign:=asg,body,defers:=D.b }) ⟨wd.heap.size,0,0⟩ rfl
   (.loop rfl rfl hI.fn rfl rfl rfl ⟨D,hle _ _ hD,rfl⟩ (hI.tm.mono hle) o2 o3 (fun j e=>by cases e) (by have:=hI.fnd;rwa [hI.fn]at this) hI.hp.size)
  have hf:RV (ρ.put n ⟨wd.heap.size,0,0⟩) (ev t f) (a.eval f):=(ev_rv hI.hp hI.tm o1).mono hle;obtain⟨dd,nx,fr,r1,r2,r3,r4⟩:=hc _ base w0 _ (a.eval f) [.func (.yield wd.heap.size) #[] #[]] a1 hf (RVs.cons (RV.yield (B:=⟨wd.heap.size,0,0⟩) (yS _ _ _)) (RVs.nil _));refine⟨dd,nx,fr,r1,r2,r3,?_⟩;obtain⟨ρ2,wd2,s1,s2,s3⟩:=r4 (b.atR a (.inRangeFunc wd.heap.size::kk)) cs;have hle2:=hle.trans (s2.le a1.dom);exact⟨ρ2,wd2,⟨hI.fn,hI.kind,hI.rd.mono hle2,hI.rdf,hI.tm.mono hle2,s1,hI.dr.mono hle2,hI.ur.mono hle2,hI.fnd⟩,a2.trans s2,s2.le a1.dom _ _ (yS _ _ _),s3⟩
 cases o with
 | panic c=>
  refine⟨_,_,_,hk,fun hok ρ base w0 b a wd cs D kk hI hD=>?_⟩;obtain⟨dd,nx,fr,r1,r2,r3,ρ2,wd2,i2,g2,b2,ch',c1,c2⟩:=call hok ρ base w0 b a wd cs D kk hI hD;exact⟨dd,nx,fr,r1,r2,r3,ρ2,a,wd2,cs,i2.e,g2,CsTo.refl _ _,_,ch',c1,by rw[Frame.raise_atR]at c2;exact c2⟩
 | ret v =>
  have hk':(match zF h2 n with
   | .loop l t0 => match l.state with
    | .busy=>false
    | _=>h2.setK .dead (.loop { l with state:=.exhausted } t0) n fun h3=>match l.pending with
     | none=>k .normal t ⟨d,u,h3,n2⟩
     | some j=>lo.code j cx t ⟨d,u,h3,n2⟩ k
   | _=>false)=true:=hk
  cases hg:zF h2 n with
  | loop l t0 =>
   rw[hg]at hk';dsimp only at hk'
   have hk3:l.state≠.busy∧(h2.setK .dead (.loop { l with state:=.exhausted } t0) n fun h3=>match l.pending with
    | none=>k .normal t ⟨d,u,h3,n2⟩
    | some j=>lo.code j cx t ⟨d,u,h3,n2⟩ k)=true:=by
    split at hk'
    · cases hk'
    · rename_i hb;exact⟨hb,hk'⟩
   obtain⟨hbusy,hk4⟩:=hk3;rw [Tr.setK_eq]at hk4
   have ends:∀(hok:yO ng (ntm P cx.fn) (.rangeFunc f params asg body)=true) (ρ : Inj) (base:Nat) (w0:World) (b:Frame) (a:Act) (wd:World) (cs:List Frame) (D:Bl) (kk:List Item),In P ng ρ base w0 b a wd cs cx t ⟨d,u,h,n⟩→ρ blk=some D→
    ∃dd nx fr,(Deferred.ofValue (a.eval f) #[.func (.yield wd.heap.size) #[] #[]]).run P { wd with heap:=wd.heap.push (.loop { state:=.ready,pending:=none,fn:=b.fn,tmps:=a.tmps,params,assign:=asg,body,defers:=D.b }) } =
     .ok dd { wd with heap:=wd.heap.push (.loop { state:=.ready,pending:=none,fn:=b.fn,tmps:=a.tmps,params,assign:=asg,body,defers:=D.b }) }∧
     (invoke dd.target dd.args).run P { wd with heap:=wd.heap.push (.loop { state:=.ready,pending:=none,fn:=b.fn,tmps:=a.tmps,params,assign:=asg,body,defers:=D.b }) } =
      .ok nx { wd with heap:=wd.heap.push (.loop { state:=.ready,pending:=none,fn:=b.fn,tmps:=a.tmps,params,assign:=asg,body,defers:=D.b }) }∧pushed P nx=some fr∧
     ∃ρ2 wd3,In P ng ρ2 base w0 b a wd3 cs cx t ⟨d,u,h2.set .dead (.loop { l with state:=.exhausted } t0) n,n2⟩∧Grow ρ h n wd ρ2 (h2.set .dead (.loop { l with state:=.exhausted } t0) n) n2 wd3∧(∀j,l.pending=some j→∀N,yO ng N j=true)∧
      Steps P (lone fr (b.atR a (.inRangeFunc wd.heap.size::kk)::cs) { wd with heap:=wd.heap.push (.loop { state:=.ready,pending:=none,fn:=b.fn,tmps:=a.tmps,params,assign:=asg,body,defers:=D.b }) }) (lone (b.atR a ((l.pending.map Item.code).toList++kk)) cs wd3):=by
    intro hok ρ base w0 b a wd cs D kk hI hD;obtain⟨dd,nx,fr,r1,r2,r3,ρ2,wd2,i2,g2,b2,v',c1,c2⟩:=call hok ρ base w0 b a wd cs D kk hI hD;refine⟨dd,nx,fr,r1,r2,r3,ρ2,?_⟩;have hd1:zF h2 n≠.dead:=by rw[hg];exact AObj.noConfusion
    have hpend:∀j,l.pending=some j→∀N,yO ng N j=true:=by
     obtain⟨ob1,y1,y2⟩:=i2.hp.obj n _ b2 hd1;dsimp only at y2;rw [hg]at y2
     cases y2 with
     | loop _ _ _ _ _ _ _ _ _ _ q _ _=>exact q
    obtain⟨l1',z1,z2,z3,z4,z5⟩:=i2.hp.turnLoop b2 hg .exhausted l.pending hpend
    have he:(Instr.endLoop wd.heap.size).run P wd2 = .ok l.pending { wd2 with heap:=wd2.heap.setIfInBounds wd.heap.size (.loop { l1' with state:=.exhausted,pending:=l.pending }) }:=by
     have hnb:¬((l1'.state == LoopState.busy)=true):=by rw[z2];simpa using hbusy
     have e9:({ l1' with state:=.exhausted,pending:=l.pending }:Loop) = { l1' with state:=.exhausted }:=by rw[← z3]
     rw[e9];simp only[Instr.endLoop,Sem.run_bind,run_loop z1,Result.andThen_ok,if_neg hnb,run_setLoop z1,Sem.run_pure,z3]
    refine⟨_,⟨i2.fn,i2.kind,i2.rd,i2.rdf,i2.tm,z4,i2.dr,i2.ur,i2.fnd⟩,g2.trans z5,hpend,c2.trans (.one ?_)⟩;exact step_endRange (b:=b) (a:=a) (kk:=kk) (cs:=cs) he
   cases hp:l.pending with
   | none=>
    rw[hp]at hk4;refine⟨_,_,_,hk4,fun hok ρ base w0 b a wd cs D kk hI hD=>?_⟩;obtain⟨dd,nx,fr,r1,r2,r3,ρ2,wd3,i3,g3,_,s3⟩:=ends hok ρ base w0 b a wd cs D kk hI hD;rw [hp]at i3 g3 s3;exact⟨dd,nx,fr,r1,r2,r3,ρ2,a,wd3,cs,i3.e,g3,CsTo.refl _ _,s3⟩
   | some j=>
    rw[hp]at hk4;obtain⟨x,t',w',k5,hc5⟩:=hS.code _ _ _ _ _ hk4;refine⟨x,t',w',k5,fun hok ρ base w0 b a wd cs D kk hI hD=>?_⟩;obtain⟨dd,nx,fr,r1,r2,r3,ρ2,wd3,i3,g3,hpe,s3⟩:=ends hok ρ base w0 b a wd cs D kk hI hD;have hpe':=hpe j hp;rw [hp]at i3 g3 s3;obtain⟨ρ4,a4,wd4,cs4,i4,g4,c4,r4⟩:=hc5 (hpe' _) b kk ρ2 base w0 a wd3 cs i3;exact⟨dd,nx,fr,r1,r2,r3,ρ4,a4,wd4,cs4,i4,g3.trans g4,c4,r4.of_steps s3⟩
  | dead=>rw [hg]at hk';cases hk'
  | cells _ _ _ _=>rw [hg]at hk';cases hk'
  | map _ _=>rw [hg]at hk';cases hk'
  | deferred _=>rw [hg]at hk';cases hk'
  | siter _ _ _ _=>rw [hg]at hk';cases hk'
  | rows _ _=>rw [hg]at hk';cases hk'
theorem xrangeFunc_ok{lo:Lo}(hS:Sound P ng lo)(f:Operand)(params:Array Tmp)(asg body:Code)(cx:Cx)(t:Fr)(w:W)(k:KX)(hx:xcode P lo (.rangeFunc f params asg body) cx t w k=true) :
 ∃x t' w',k x t' w'=true∧CodeTo P ng (.rangeFunc f params asg body) cx t w x t' w':=by
 obtain⟨d,u,h,n⟩:=w;obtain⟨fn,rd,df⟩:=cx
 cases rd with
 | none =>
  have hx':(zV h n (.deferred true) fun h' n'=>xrange lo f params asg body ⟨fn,none,df⟩ t ({ target:=.collected n,args:= #[] }::d) u h' n' n k)=true:=hx;rw [yJ]at hx';obtain⟨x,t',w',hk,hc⟩:=xrange_ok hS hx';refine⟨x,t',w',hk,fun hok b kk ρ base w0 a wd cs hI=>?_⟩;have hle:=Inj.le_put (⟨wd.heap.size,0,0⟩:Bl) (hI.hp.dom n (Nat.le_refl _));obtain⟨a1,a2⟩:=hI.hp.alloc (.deferred true) (.deferred (some [])) ⟨wd.heap.size,0,0⟩ rfl (.ready hI.hp.size)
  have hI2:In P ng (ρ.put n ⟨wd.heap.size,0,0⟩) base w0 b { tmps:=a.tmps,defers:=⟨.collected wd.heap.size,#[]⟩::a.defers } { wd with heap:=wd.heap.push (.deferred (some [])) } cs ⟨fn,none,df⟩ t ⟨{ target:=.collected n,args:= #[] }::d,u,h.set .dead (.deferred true) n,n+1⟩:=
   ⟨hI.fn,hI.kind,hI.rd.mono hle,hI.rdf,hI.tm.mono hle,a1,.coll (B:=⟨wd.heap.size,0,0⟩) (yS _ _ _) (hI.dr.mono hle),hI.ur.mono hle,hI.fnd⟩
  obtain⟨dd,nx,fr,r1,r2,r3,ρ2,a2',wd2,cs2,i2,g2,c2,s2⟩:=hc hok _ base w0 b _ _ cs ⟨wd.heap.size,0,0⟩ kk hI2 (yS _ _ _);refine⟨ρ2,a2',wd2,cs2,i2,a2.trans g2,c2,s2.of_steps (.one ?_)⟩
  have hro:b.roundOf=none:=by
   have:=hI.rd
   cases hb:b.roundOf with
   | none=>rfl
   | some l=>rw [hb]at this;exact this.elim
  exact step_range (mark:=[⟨.collected wd.heap.size,#[]⟩]) (by rw[hro];simp [Instr.enterLoop];rfl) r1 r2 r3
 | some l =>
  have hx':(match zF h l with
   | .loop ll _=>xrange lo f params asg body ⟨fn,some l,df⟩ t d u h n ll.defers k
   | _=>false)=true:=hx
  cases hg:zF h l with
  | loop ll t0 =>
   rw[hg]at hx';dsimp only at hx';obtain⟨x,t',w',hk,hc⟩:=xrange_ok hS hx';refine⟨x,t',w',hk,fun hok b kk ρ base w0 a wd cs hI=>?_⟩;have hro:=hI.rd
   cases hb:b.roundOf with
   | none=>rw [hb]at hro;exact hro.elim
   | some l' =>
    rw[hb]at hro;obtain⟨B,hB,hBl⟩:=hro;have hd1:zF h l≠.dead:=by rw[hg];exact AObj.noConfusion
    obtain⟨ob1,y1,y2⟩:=hI.hp.obj l _ hB hd1;dsimp only at y2;rw [hg]at y2
    cases y2 with
    | loop _ _ _ _ _ _ q7 _ _ _ _ _ _=>
     rename_i ll';obtain⟨D,hD,hDb⟩:=q7;obtain⟨dd,nx,fr,r1,r2,r3,ρ2,a2',wd2,cs2,i2,g2,c2,s2⟩:=hc hok ρ base w0 b a wd cs D kk hI hD;refine⟨ρ2,a2',wd2,cs2,i2,g2,c2,s2.of_steps (.one ?_)⟩;refine step_range (mark:=[]) ?_ r1 r2 r3;rw [hb,← hBl];simp only[Instr.enterLoop,Sem.run_bind,run_loop y1,Result.andThen_ok,Sem.run_pure,hDb];simp [newObj,Sem.run]
  | dead=>rw [hg]at hx';cases hx'
  | cells _ _ _ _=>rw [hg]at hx';cases hx'
  | map _ _=>rw [hg]at hx';cases hx'
  | deferred _=>rw [hg]at hx';cases hx'
  | siter _ _ _ _=>rw [hg]at hx';cases hx'
  | rows _ _=>rw [hg]at hx';cases hx'
end
end Go.Ex
namespace Go.Ex
section
variable (P:Program) (ng:Nat)
structure In0 (ρ : Inj) (base:Nat) (w0:World) (b:Frame) (a:Act) (wd:World) (cs:List Frame) (cx:Cx) (w:W):Prop where
 fn:b.fn=cx.fn
 kind:b.kind=kindOfDf cx.df
 rd:RdR ρ cx.round b.roundOf
 rdf:cx.round.isSome=true→cx.df=false
 hp:HeapR P ng ρ base w0 w.h w.n wd
 dr:DRs ρ w.d a.defers
 ur:UR ρ cx.df w.u cs
 fnd:∃fn,P.funcs[b.fn]? = some fn
def Done(m:Machine)(b:Frame)(a':Act)(cs':List Frame)(wd':World)(ρ':Inj)(o:Oper)(ops:Array Oper)(i:Nat)(rest:List Nat)(k:List Item):Out→Prop
 | .ret v=>∃v',RV ρ' v v'∧Steps P m (lone (b.atR (a'.put o.dst v') (.inRegion ops rest::k)) cs' wd')
 | .panic c=>∃c',ChR ρ' c c'∧Steps P m (lone { b.atR a' (.inRegion ops (i::rest)::k) with mode:=.panicking c' } cs' wd')
def OpTo(o:Oper)(cx:Cx)(t:Fr)(w:W)(out:Out)(w':W):Prop:=
 ∀(ρ : Inj) (base:Nat) (w0:World) (b:Frame) (a:Act) (wd:World) (cs:List Frame),In0 P ng ρ base w0 b a wd cs cx w→OpsR ρ t a o→
  ∀(ops:Array Oper) (i:Nat) (rest:List Nat) (k:List Item),ops[i]? = some o→Region.wanted o (yielded ops a.tmps)=true→
   ∃ρ' a' wd' cs',In0 P ng ρ' base w0 b a' wd' cs' cx w'∧a'.tmps=a.tmps∧Grow ρ w.h w.n wd ρ' w'.h w'.n wd'∧CsTo cx.df cs cs'∧
    Done P (lone (b.atR a (.inRegion ops (i::rest)::k)) cs wd) b a' cs' wd' ρ' o ops i rest k out
end
section
variable {P:Program} {ng:Nat}
theorem In.in0{ρ : Inj}{base:Nat}{w0:World}{b:Frame}{a:Act}{wd:World}{cs:List Frame}{cx:Cx}{t:Fr}{w:W}(h:In P ng ρ base w0 b a wd cs cx t w):In0 P ng ρ base w0 b a wd cs cx w:=
 ⟨h.fn,h.kind,h.rd,h.rdf,h.hp,h.dr,h.ur,h.fnd⟩
theorem In0.next{ρ ρ':Inj}{base:Nat}{w0:World}{b:Frame}{a:Act}{wd wd':World}{cs:List Frame}{cx:Cx}{w w':W}(h:In0 P ng ρ base w0 b a wd cs cx w)(hd:w'.d=w.d)(hu:w'.u=w.u)
(hp:HeapR P ng ρ' base w0 w'.h w'.n wd')(hg:Grow ρ w.h w.n wd ρ' w'.h w'.n wd'):In0 P ng ρ' base w0 b a wd' cs cx w':=
 have hle:=hg.le h.hp.dom
 ⟨h.fn,h.kind,h.rd.mono hle,h.rdf,hp,by rw[hd];exact h.dr.mono hle,by rw[hu];exact h.ur.mono hle,h.fnd⟩
theorem step_res{b:Frame}{a:Act}{cs:List Frame}{wd wd':World}{o:Oper}{ops:Array Oper}{i:Nat}{rest:List Nat}{k:List Item}{v':Value}(hnd:∀c,o.op≠.defer c)(ho:ops[i]? = some o)
(hw:Region.wanted o (yielded ops a.tmps)=true)(hr:Res ((execOp a.eval o).run P wd) v' wd') :
 step P (lone (b.atR a (.inRegion ops (i::rest)::k)) cs wd) = .next (lone (b.atR (a.put o.dst v') (.inRegion ops rest::k)) cs wd'):=by
 refine step_lone_go ?_;rw [stepGR_op ho hw,Oper.semAt_eq _ _ _ hnd]
 have hf:(b.atR a (.inRegion ops (i::rest)::k)).finish v'=b.atR (a.put o.dst v') (.inRegion ops rest::k):=by
  rw[Frame.finish_atR,ho];rfl
 rcases hr with hr|⟨hr,rfl⟩
 · rw[← hf];simp [stepG.apply,hr]
 · rw[← hf];simp [stepG.apply,hr]
theorem uQ{o:Oper}{cx:Cx}{t:Fr}{w w':W}{v:Value}(hnd:∀c,o.op≠.defer c)(h:EffVal P ng o t w v w'):OpTo P ng o cx t w (.ret v) w':=by
 intro ρ base w0 b a wd cs hI hO ops i rest k ho hw;obtain⟨ρ',v',wd',h1,h2,h3,h4⟩:=h.2.2 ρ base w0 a wd hO hI.hp;exact⟨ρ',a,wd',cs,hI.next h.1 h.2.1 h3 h4,rfl,h4,CsTo.refl _ _,v',h2,.one (step_res hnd ho hw h1)⟩
theorem step_push{b:Frame}{a:Act}{cs:List Frame}{wd:World}{o:Oper}{ops:Array Oper}{i:Nat}{rest:List Nat}{k:List Item}{nx:Next}{fr:Frame}(hnd:∀c,o.op≠.defer c)(ho:ops[i]? = some o)
(hw:Region.wanted o (yielded ops a.tmps)=true)(hr:(execOp a.eval o).run P wd = .ok nx wd)(hp:pushed P nx=some fr) :
 step P (lone (b.atR a (.inRegion ops (i::rest)::k)) cs wd) = .next (lone fr (b.atR a (.inRegion ops (i::rest)::k)::cs) wd):=by
 refine step_lone_go ?_;rw [stepGR_op ho hw,Oper.semAt_eq _ _ _ hnd];cases nx <;> simp only[pushed]at hp <;> first|(cases hp;done)|skip
 all_goals
  injection hp with hp
  subst hp;simp [stepG.apply,hr,Frame.atR]
theorem step_recover{b:Frame}{a:Act}{cs:List Frame}{wd:World}{o:Oper}{ops:Array Oper}{i:Nat}{rest:List Nat}{k:List Item}(hnd:∀c,o.op≠.defer c)(ho:ops[i]? = some o)
(hw:Region.wanted o (yielded ops a.tmps)=true)(hro:b.roundOf=none)(hr:(execOp a.eval o).run P wd = .ok .recover wd) :
 (∀{v cs'},tryRecover (b.atR a (.inRegion ops (i::rest)::k)) cs=some (v,cs')→step P (lone (b.atR a (.inRegion ops (i::rest)::k)) cs wd) = .next (lone (b.atR (a.put o.dst v) (.inRegion ops rest::k)) cs' wd))∧
 (tryRecover (b.atR a (.inRegion ops (i::rest)::k)) cs=none→step P (lone (b.atR a (.inRegion ops (i::rest)::k)) cs wd) = .next (lone (b.atR (a.put o.dst .nilIface) (.inRegion ops rest::k)) cs wd)):=by
 have hf:∀v',(b.atR a (.inRegion ops (i::rest)::k)).finish v'=b.atR (a.put o.dst v') (.inRegion ops rest::k):=by
  intro v';rw [Frame.finish_atR,ho];rfl
 have hro':(b.atR a (.inRegion ops (i::rest)::k)).roundOf=none:=hro;refine⟨fun {v cs'} ht=>step_lone_go ?_,fun ht=>step_lone_go ?_⟩
 · rw[stepGR_op ho hw,Oper.semAt_eq _ _ _ hnd,← hf];generalize b.atR a (.inRegion ops (i::rest)::k)=fr at ht hro' ⊢
   simp only[stepG.apply,Sem.runT_eq,hr,if_true,GStep.bare_after,hro',ht,GStep.bare_go]
 · rw[stepGR_op ho hw,Oper.semAt_eq _ _ _ hnd,← hf];generalize b.atR a (.inRegion ops (i::rest)::k)=fr at ht hro' ⊢
   simp only[stepG.apply,Sem.runT_eq,hr,if_true,GStep.bare_after,hro',ht,GStep.bare_go]
theorem OpsR.list{ρ : Inj}{t:Fr}{a:Act}{o:Oper}(h:OpsR ρ t a o){l:List Operand}(hl:∀x∈l,x∈o.op.operands.toList):RVs ρ (l.map (ev t)) (l.map a.eval):=
 RVs.map (ρ := ρ) (ev t) a.eval l fun x hx=>h x (hl x hx)
theorem eff_ok{lo:Lo}(hP:yH ng P=true)(hS:Sound P ng lo){o:Oper}{cx:Cx}{t:Fr}{w:W}{k:KV}{kp:KP}(hx:eff o.op P lo cx t w k kp=true) :
 ∃out w',(Out.rec (motive:=fun _=>Bool) (fun v=>k w' v) (fun c=>kp c w') out)=true∧OpTo P ng o cx t w out w':=by
 have nv:(∃v ob,NewVal P ng o t v ob∧k (W.mk w.d w.u (w.h.set .dead ob w.n) (w.n+1)) (v w.n)=true)→(∀c,o.op≠.defer c)→
  ∃out w',(Out.rec (motive:=fun _=>Bool) (fun v=>k w' v) (fun c=>kp c w') out)=true∧OpTo P ng o cx t w out w':=by
  rintro ⟨v,ob,h1,h2⟩ hnd
  exact⟨.ret (v w.n),_,h2,uQ hnd h1.eff⟩
 have evl:(∃w' v,EffVal P ng o t w v w'∧k w' v=true)→(∀c,o.op≠.defer c)→
  ∃out w',(Out.rec (motive:=fun _=>Bool) (fun v=>k w' v) (fun c=>kp c w') out)=true∧OpTo P ng o cx t w out w':=by
  rintro ⟨w',v,h1,h2⟩ hnd
  exact⟨.ret v,w',h2,uQ hnd h1⟩
 cases hop:o.op with
 | alloc el=>exact nv (alloc_ok hP hop hx) (by rw[hop];exact fun _=>Op.noConfusion)
 | box el x=>exact nv (box_ok hop hx) (by rw[hop];exact fun _=>Op.noConfusion)
 | buildSlice ty len parts=>exact nv (buildSlice_ok hP hop hx) (by rw[hop];exact fun _=>Op.noConfusion)
 | insert ty m key v=>exact evl (mapUpdate_ok (.inr hop) hx) (by rw[hop];exact fun _=>Op.noConfusion)
 | store ty x v=>exact evl (store_ok hop hx) (by rw[hop];exact fun _=>Op.noConfusion)
 | makeMap ty r=>exact nv (makeMap_ok hop hx) (by rw[hop];exact fun _=>Op.noConfusion)
 | makeSlice ty l c=>exact nv (makeSlice_ok hP hop hx) (by rw[hop];exact fun _=>Op.noConfusion)
 | mapUpdate ty m key v=>exact evl (mapUpdate_ok (.inl hop) hx) (by rw[hop];exact fun _=>Op.noConfusion)
 | range ty x=>exact evl (range_ok hop hx) (by rw[hop];exact fun _=>Op.noConfusion)
 | next x s=>exact evl (next_ok hop hx) (by rw[hop];exact fun _=>Op.noConfusion)
 | entry x=>exact evl (entry_ok hop hx) (by rw[hop];exact fun _=>Op.noConfusion)
 | panic x =>
  rw[hop]at hx
  have hx':(match ev t x with
   | .iface ty v=>kp [⟨.iface ty v,false,false⟩] w
   | _=>false)=true:=hx
  split at hx'
  case h_2=>cases hx'
  rename_i ty v hv;refine⟨.panic _,w,hx',fun ρ base w0 b a wd cs hI hO ops i rest k ho hw=>?_⟩;have hr:=hO x (by rw[hop];simp [Op.operands]);rw [hv]at hr;generalize hz:a.eval x=x' at hr
  cases hr with
  | iface hv'=>
   rename_i v';refine⟨ρ,a,wd,cs,hI,rfl,Grow.refl _ _ _ _ hI.hp.dom,CsTo.refl _ _,[⟨.iface ty v',false,false⟩],.cons (RV.iface hv') rfl rfl .nil,.one (step_lone_go ?_)⟩;rw [stepGR_op ho hw,Oper.semAt_eq _ _ _ (by rw[hop];exact fun _=>Op.noConfusion),← Frame.raise_atR];have hrun:(execOp a.eval o).run P wd = .halt (.panic (.iface ty v')) wd:=by simp[execOp,hop,hz,Instr.panic]
   simp[stepG.apply,hrun]
 | defer c =>
  rw[hop]at hx;obtain⟨callee,args,tys⟩:=c;obtain⟨fn,rd,df⟩:=cx;obtain⟨d,u,h,n⟩:=w
  cases callee with
  | builtin _=>exact(Bool.false_ne_true hx).elim
  | invoke _ _=>exact(Bool.false_ne_true hx).elim
  | value f =>
   cases rd with
   | some _=>exact(Bool.false_ne_true hx).elim
   | none =>
    have hx':(match ev t f with
     | .func (.func g) first cap=>k ⟨{ target:=.fn (.func g) cap,args:=⟨first.toList++args.toList.map (ev t)⟩ }::d,u,h,n⟩ undef
     | _=>false)=true:=hx
    split at hx'
    case h_2=>cases hx'
    rename_i g first cap hv;refine⟨.ret undef,_,hx',fun ρ base w0 b a wd cs hI hO ops i rest k ho hw=>?_⟩;have hr:=hO f (by rw[hop];simp [Op.operands,Call.operands]);have hargs:RVs ρ (args.toList.map (ev t)) (args.toList.map a.eval):=hO.list fun x hx=>by rw[hop];simp [Op.operands,Call.operands,hx]
    rw[hv]at hr;generalize hz:a.eval f=f' at hr
    have hro:b.roundOf=none:=by
     have:=hI.rd
     cases hb:b.roundOf with
     | none=>rfl
     | some l=>rw [hb]at this;exact this.elim
    cases hr with
    | func hy hfl hcl f1 c1 =>
     rename_i first' cap'
     refine⟨ρ,{ tmps:=a.tmps,defers:=⟨.fn (.func g) cap',⟨first'.toList++args.toList.map a.eval⟩⟩::a.defers },wd,cs,
      ⟨hI.fn,hI.kind,hI.rd,hI.rdf,hI.hp,.fn ⟨hcl,c1⟩ (RVs.append ⟨hfl,f1⟩ hargs) hI.dr,hI.ur,hI.fnd⟩,rfl,Grow.refl _ _ _ _ hI.hp.dom,CsTo.refl _ _,undef,RV.undef ρ,.one (step_lone_go ?_)⟩
     rw[stepGR_op ho hw,hro,Oper.semAt_none];have earr:(first'++args.map a.eval:Array Value)=⟨first'.toList++args.toList.map a.eval⟩:=by apply Array.toList_inj.1;simp
     have hrun:(execOp a.eval o).run P wd = .ok (.defer ⟨.fn (.func g) cap',⟨first'.toList++args.toList.map a.eval⟩⟩) wd:=by
      rw[← earr];simp [execOp,hop,resolve,hz,Deferred.ofValue]
     have hf:({ b.atR a (.inRegion ops (i::rest)::k) with defers:=⟨.fn (.func g) cap',⟨first'.toList++args.toList.map a.eval⟩⟩::a.defers }:Frame).finish undef =
      b.atR (Act.put { tmps:=a.tmps,defers:=⟨.fn (.func g) cap',⟨first'.toList++args.toList.map a.eval⟩⟩::a.defers } o.dst undef) (.inRegion ops rest::k):=by
      have:=Frame.finish_atR b { tmps:=a.tmps,defers:=⟨.fn (.func g) cap',⟨first'.toList++args.toList.map a.eval⟩⟩::a.defers } ops i rest k undef;rw [ho]at this;exact this
     rw[← hf];simp [stepG.apply,hrun,Frame.atR]
 | call c =>
  have hnd:∀c,o.op≠.defer c:=by rw[hop];exact fun _=>Op.noConfusion
  rw[hop]at hx;obtain⟨callee,args,tys⟩:=c
  cases callee with
  | invoke _ _=>exact(Bool.false_ne_true hx).elim
  | value f =>
   have hx':(xK w fun h n mk=>xinvoke lo (ev t f) (args.toList.map (ev t)) h n (fun v h n=>k (mk h n) v) (fun c h n=>kp c (mk h n)))=true:=hx;rw [xL]at hx';obtain⟨out,h',n',hk,hc⟩:=xinvoke_ok hS hx';refine⟨out,W.mk w.d w.u h' n',by cases out <;> exact hk,fun ρ base w0 b a wd cs hI hO ops i rest k ho hw=>?_⟩;have hr:=hO f (by rw[hop];simp [Op.operands,Call.operands]);have hargs:RVs ρ (args.toList.map (ev t)) (args.toList.map a.eval):=hO.list fun x hx=>by rw[hop];simp [Op.operands,Call.operands,hx]
   obtain⟨dd,nx,fr,r1,r2,r3,r4⟩:=hc ρ base w0 wd (a.eval f) (args.toList.map a.eval) hI.hp hr hargs;obtain⟨ρ',wd',s1,s2,s3⟩:=r4 (b.atR a (.inRegion ops (i::rest)::k)) cs;have earr:(args.map a.eval:Array Value)=⟨args.toList.map a.eval⟩:=arr_map _ _
   have hrun:(execOp a.eval o).run P wd = .ok nx wd:=by
    simp only[execOp,hop,resolve,Sem.run_bind,earr];rw [r1,Result.andThen_ok,r2]
   have st:=step_push (b:=b) (cs:=cs) (rest:=rest) (k:=k) hnd ho hw hrun r3;refine⟨ρ',a,wd',cs,hI.next rfl rfl s1 s2,rfl,s2,CsTo.refl _ _,?_⟩
   cases out with
   | ret v =>
    obtain⟨v',y1,y2⟩:=s3;refine⟨v',y1,Steps.head st ?_⟩
    have hf:(b.atR a (.inRegion ops (i::rest)::k)).finish v'=b.atR (a.put o.dst v') (.inRegion ops rest::k):=by
     rw[Frame.finish_atR,ho];rfl
    rw[← hf];exact y2
   | panic c=>
    obtain⟨c',y1,y2⟩:=s3;refine⟨c',y1,Steps.head st ?_⟩;rw [← Frame.raise_atR];exact y2
  | builtin bi =>
   have hx':builtinK P cx bi tys.toList (args.toList.map (ev t)) w k=true:=hx;obtain⟨d,u,h,n⟩:=w
   have hrunB:∀(a:Act) (wd wd':World) (v':Value) (s:Sem Value),(∀q,builtin bi tys o.type q (args.map a.eval)=(do pure (Next.value (← s))))→s.run P wd = .ok v' wd'→(execOp a.eval o).run P wd = .ok (.value v') wd':=by
    intro a wd wd' v' s e1 e2;simp only[execOp,hop,Sem.run_bind,vS,Result.andThen_ok,invoke];rw [e1,Sem.run_bind,e2];rfl
   have hargs:∀{ρ : Inj} {a:Act},OpsR ρ t a o→RVs ρ (args.toList.map (ev t)) (args.toList.map a.eval):=fun hO=>hO.list fun x hx=>by rw[hop];simp [Op.operands,Call.operands,hx]
   have earr:∀a:Act,(args.map a.eval:Array Value)=⟨args.toList.map a.eval⟩:=fun a=>arr_map _ _;unfold builtinK at hx';dsimp only at hx';split at hx'
   ·
    obtain⟨v,h',n',hk,hc⟩:=xappend_ok (ng:=ng) (rt:=o.type) hP hx';refine⟨.ret v,_,hk,uQ hnd ⟨rfl,rfl,fun ρ base w0 a wd hO hH=>?_⟩⟩;obtain⟨ρ',v',wd',r1,r2,r3,r4⟩:=hc ρ base w0 wd _ hH (hargs hO);exact⟨ρ',v',wd',.inl (hrunB a wd wd' v' _ (fun q=>by rw[earr a];rfl) r1),r2,r3,r4⟩
   ·
    obtain⟨h',hk,hc⟩:=xclear_ok (ng:=ng) (rt:=o.type) hP hx';refine⟨.ret (.tuple #[]),_,hk,uQ hnd ⟨rfl,rfl,fun ρ base w0 a wd hO hH=>?_⟩⟩;obtain⟨wd',r1,r2,r3⟩:=hc n ρ base w0 wd _ hH (hargs hO);exact⟨ρ,.tuple #[],wd',.inl (hrunB a wd wd' _ _ (fun q=>by rw[earr a];rfl) r1),RV.undef ρ,r2,r3⟩
   ·
    obtain⟨h',hk,hc⟩:=xdelete_ok (ng:=ng) (rt:=o.type) hx';refine⟨.ret (.tuple #[]),_,hk,uQ hnd ⟨rfl,rfl,fun ρ base w0 a wd hO hH=>?_⟩⟩;obtain⟨wd',r1,r2,r3⟩:=hc n ρ base w0 wd _ hH (hargs hO);exact⟨ρ,.tuple #[],wd',.inl (hrunB a wd wd' _ _ (fun q=>by rw[earr a];rfl) r1),RV.undef ρ,r2,r3⟩
   ·
    have hrun:∀(a:Act) (wd:World),(execOp a.eval o).run P wd = .ok .recover wd:=by
     intro a wd;simp only[execOp,hop,Sem.run_bind,vS,Result.andThen_ok,invoke];rfl
    obtain⟨fn,rd,df⟩:=cx
    cases rd with
    | some _=>cases hx'
    | none =>
     have hro:∀{b:Frame} {ρ : Inj},RdR ρ none b.roundOf→b.roundOf=none:=by
      intro b ρ h
      cases hb:b.roundOf with
      | none=>rfl
      | some l=>rw [hb]at h;exact h.elim
     cases df with
     | false=>
      refine⟨.ret .nilIface,_,hx',fun ρ base w0 b a wd cs hI hO ops i rest k ho hw=>?_⟩;refine⟨ρ,a,wd,cs,hI,rfl,Grow.refl _ _ _ _ hI.hp.dom,CsTo.refl _ _,.nilIface,RV.nilIface,.one ?_⟩;refine(step_recover hnd ho hw (hro hI.rd) (hrun a wd)).2 ?_;have:(b.atR a (.inRegion ops (i::rest)::k)).kind = .normal:=hI.kind;unfold tryRecover;simp only[this]
     | true=>
      dsimp only[cond]at hx';split at hx'
      · rename_i v older;refine⟨.ret v,_,hx',fun ρ base w0 b a wd cs hI hO ops i rest k ho hw=>?_⟩;obtain⟨c0,r,rfl,c',hm,hc⟩:=hI.ur rfl
        cases hc with
        | cons hv hrec hgo hl =>
         rename_i e' l';obtain⟨v',r',g'⟩:=e';dsimp only at hrec hgo hv;subst hrec hgo
         refine⟨ρ,a,wd,{ c0 with mode:=.panicking (⟨v',true,false⟩::l') }::r,⟨hI.fn,hI.kind,hI.rd,hI.rdf,hI.hp,hI.dr,fun _=>⟨_,_,rfl,_,rfl,.cons hv rfl rfl hl⟩,hI.fnd⟩,rfl,
          Grow.refl _ _ _ _ hI.hp.dom,.inr ⟨rfl,c0,r,_,rfl,rfl⟩,v',hv,.one ?_⟩
         refine(step_recover hnd ho hw (hro hI.rd) (hrun a wd)).1 ?_;have:(b.atR a (.inRegion ops (i::rest)::k)).kind = .deferred:=hI.kind;unfold tryRecover;simp only[this,hm]
      · refine⟨.ret .nilIface,_,hx',fun ρ base w0 b a wd cs hI hO ops i rest k ho hw=>?_⟩;refine⟨ρ,a,wd,cs,hI,rfl,Grow.refl _ _ _ _ hI.hp.dom,CsTo.refl _ _,.nilIface,RV.nilIface,.one ?_⟩;refine(step_recover hnd ho hw (hro hI.rd) (hrun a wd)).2 ?_;obtain⟨c0,r,rfl,hm⟩:=hI.ur rfl;have hm:c0.mode = .returning:=hm;have:(b.atR a (.inRegion ops (i::rest)::k)).kind = .deferred:=hI.kind;unfold tryRecover;simp only[this,hm]
      · cases hx'
   · cases hx'
 | _=>rw [hop]at hx;exact(Bool.false_ne_true hx).elim
end
end Go.Ex
