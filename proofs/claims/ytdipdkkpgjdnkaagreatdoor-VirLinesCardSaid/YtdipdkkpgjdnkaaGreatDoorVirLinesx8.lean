/- What the law leans on: an executor of the model that is sound, deduction over it, and the walks through the code (part 8 of 24). Conditions: those that each theorem states. -/
import Derived.Test.YtdipdkkpgjdnkaaGreatDoorVirLinesx7

set_option linter.unusedVariables false
set_option linter.unusedSimpArgs false
namespace Go.Ex
section
variable {P:Program} {ng:Nat}
def boolOf:Value→Option Bool
 | .bool b=>some b
 | _=>none
theorem RV.boolOf{ρ : Inj}{v v':Value}(h:RV ρ v v'):boolOf v'=boolOf v:=by cases h <;> rfl
theorem wants_eq(ops:Array Oper)(t:Fr)(g:Nat)(b:Bool):wants ops t g b=((dstOf ops g).bind (fun d=>boolOf (fget t d)) == some b):=by
 unfold wants
 cases dstOf ops g with
 | none=>rfl
 | some d=>
  show onBool (fget t d) (fun z=>Bool.rec (Bool.rec true false b) b z) false=(boolOf (fget t d) == some b)
  cases fget t d with
  | bool z=>cases z <;> cases b <;> rfl
  | _=>rfl
theorem wanted_ok{ops:Array Oper}{t:Fr}{tmps:Array Value}{o:Oper}(h:∀g b,o.guard=some (g,b)→∀d,dstOf ops g=some d→∃v,tmps[d]? = some v∧boolOf v=boolOf (fget t d)) :
 Region.wanted o (yielded ops tmps)=wanted ops t o.guard:=by
 unfold Region.wanted wanted
 cases hg:o.guard with
 | none=>rfl
 | some p =>
  obtain⟨g,b⟩:=p;show(yielded ops tmps g == some b)=wants ops t g b;rw [wants_eq];unfold yielded dstOf at *
  cases ho:ops[g]? with
  | none=>rfl
  | some og =>
   cases hd:og.dst with
   | none=>simp [hd]
   | some d=>
    obtain⟨v,h1,h2⟩:=h g b hg d (by rw[ho];exact hd);simp only[Option.bind_some,hd,h1];rw [← h2];cases v <;> rfl
noncomputable def putF(t:Fr)(dst:Option Tmp)(v:Value):Fr:=match dst with|some d=>Tr.set undef v t d|none=>t
theorem uR{t:Fr}{dst:Option Tmp}{v:Value}{k:Fr→Bool}(h:putT t dst v k=true):k (putF t dst v)=true:=by
 cases dst with
 | none=>exact h
 | some d=>
  have h':fsetK t d v k=true:=h;unfold fsetK at h';rw [Tr.setK_eq]at h';exact h'
theorem In0.act{ρ : Inj}{base:Nat}{w0:World}{b:Frame}{a a2:Act}{wd:World}{cs:List Frame}{cx:Cx}{w:W}(h:In0 P ng ρ base w0 b a wd cs cx w)(hd:a2.defers=a.defers):In0 P ng ρ base w0 b a2 wd cs cx w:=
 ⟨h.fn,h.kind,h.rd,h.rdf,h.hp,by rw[hd];exact h.dr,h.ur,h.fnd⟩
theorem put_defers(a:Act)(dst:Option Tmp)(v:Value):(a.put dst v).defers=a.defers:=by cases dst <;> rfl
theorem TmR.putF{ρ : Inj}{N:Nat}{t:Fr}{a:Act}(h:TmR ρ N t a.tmps){v v':Value}(hv:RV ρ v v')(dst:Option Tmp):TmR ρ N (putF t dst v) (a.put dst v').tmps:=by
 cases dst with
 | none=>exact h
 | some d=>exact h.put hv d
theorem In0.toIn{ρ : Inj}{base:Nat}{w0:World}{b:Frame}{a:Act}{wd:World}{cs:List Frame}{cx:Cx}{t:Fr}{w:W}(h:In0 P ng ρ base w0 b a wd cs cx w)(ht:TmR ρ (ntm P cx.fn) t a.tmps):In P ng ρ base w0 b a wd cs cx t w:=
 ⟨h.fn,h.kind,h.rd,h.rdf,ht,h.hp,h.dr,h.ur,h.fnd⟩
theorem skip_put{ops:Array Oper}{b:Frame}{a:Act}{cs:List Frame}{wd:World}{i:Nat}{rest:List Nat}{k:List Item}{o:Oper}(ho:ops[i]? = some o)(hw:Region.wanted o (yielded ops a.tmps)=false) :
 step P (lone (b.atR a (.inRegion ops (i::rest)::k)) cs wd) = .next (lone (b.atR (a.put o.dst undef) (.inRegion ops rest::k)) cs wd):=by
 have:=stepR_op_skip (P:=P) (b:=b) (a:=a) (k:=k) (cs:=cs) (w:=wd) (ops:=ops) (i:=i) (rest:=rest) (by simp[ho,hw]);rw [ho]at this;exact this
theorem one_ok{lo:Lo}(hP:yH ng P=true)(hS:Sound P ng lo){all:Array Oper}{o:Oper}{cx:Cx}{t:Fr}{w:W}{kv:KV}{kp:KP}(hm:o∈all.toList)
(hx:(Bool.rec (kv w undef) (Option.rec (eff o.op P lo cx t w kv kp) (kv w) (xB o.op P t w.h)) (wanted all t o.guard):Bool)=true) :
 ∃out w',(Out.rec (motive:=fun _=>Bool) (fun v=>kv w' v) (fun c=>kp c w') out)=true∧
  ∀(_hc:∀o∈all.toList,vD ng (ntm P cx.fn) o=true) (ρ : Inj) (base:Nat) (w0:World) (b:Frame) (a:Act) (wd:World) (cs:List Frame),In P ng ρ base w0 b a wd cs cx t w→∀(i:Nat) (rest:List Nat) (k:List Item),all[i]? = some o→
   ∃ρ' a' wd' cs',In0 P ng ρ' base w0 b a' wd' cs' cx w'∧a'.tmps=a.tmps∧Grow ρ w.h w.n wd ρ' w'.h w'.n wd'∧CsTo cx.df cs cs'∧
    Done P (lone (b.atR a (.inRegion all (i::rest)::k)) cs wd) b a' cs' wd' ρ' o all i rest k out:=by
 have hops:∀(hc:∀o∈all.toList,vD ng (ntm P cx.fn) o=true) {ρ : Inj} {base:Nat} {w0:World} {b:Frame} {a:Act} {wd:World} {cs:List Frame},In P ng ρ base w0 b a wd cs cx t w→OpsR ρ t a o:=by
  intro hc ρ base w0 b a wd cs hI x hx;exact ev_rv hI.hp hI.tm (List.all_eq_true.1 (Bool.and_eq_true_iff.1 (hc o hm)).1 x hx)
 have hwant:∀(hc:∀o∈all.toList,vD ng (ntm P cx.fn) o=true) {ρ : Inj} {base:Nat} {w0:World} {b:Frame} {a:Act} {wd:World} {cs:List Frame},In P ng ρ base w0 b a wd cs cx t w→Region.wanted o (yielded all a.tmps)=wanted all t o.guard:=by
  intro hc ρ base w0 b a wd cs hI;refine wanted_ok fun g q _ d hd=>?_
  have hlt:d<ntm P cx.fn:=by
   unfold dstOf at hd
   cases ho:all[g]? with
   | none=>rw [ho]at hd;cases hd
   | some og=>
    rw[ho]at hd;have hmem:og∈all.toList:=by rw[← Array.getElem?_toList]at ho;exact List.mem_iff_getElem?.2 ⟨g,ho⟩
    have:=(Bool.and_eq_true_iff.1 (hc og hmem)).2;dsimp only at hd;rw [hd]at this;exact zY this
  have hlt2:d<a.tmps.size:=Nat.lt_of_lt_of_le hlt hI.tm.le;exact⟨a.tmps[d],Array.getElem?_eq_getElem hlt2,(hI.tm.tm d _ (Array.getElem?_eq_getElem hlt2)).boolOf⟩
 cases hw:wanted all t o.guard with
 | false=>
  rw[hw]at hx;refine⟨.ret undef,w,hx,fun hc ρ base w0 b a wd cs hI i rest k ho=>?_⟩;exact⟨ρ,a,wd,cs,hI.in0,rfl,Grow.refl _ _ _ _ hI.hp.dom,CsTo.refl _ _,undef,RV.undef ρ,.one (skip_put ho ((hwant hc hI).trans hw))⟩
 | true =>
  rw[hw]at hx
  have fin:∀{out w'},OpTo P ng o cx t w out w'→∀(hc:∀o∈all.toList,vD ng (ntm P cx.fn) o=true) (ρ : Inj) (base:Nat) (w0:World) (b:Frame) (a:Act) (wd:World) (cs:List Frame),In P ng ρ base w0 b a wd cs cx t w→∀(i:Nat) (rest:List Nat) (k:List Item),all[i]? = some o→
   ∃ρ' a' wd' cs',In0 P ng ρ' base w0 b a' wd' cs' cx w'∧a'.tmps=a.tmps∧Grow ρ w.h w.n wd ρ' w'.h w'.n wd'∧CsTo cx.df cs cs'∧
    Done P (lone (b.atR a (.inRegion all (i::rest)::k)) cs wd) b a' cs' wd' ρ' o all i rest k out:=
   fun h hc ρ base w0 b a wd cs hI i rest k ho=>h ρ base w0 b a wd cs hI.in0 (hops hc hI) all i rest k ho ((hwant hc hI).trans hw)
  cases hq:xB o.op P t w.h with
  | some v=>
   rw[hq]at hx;refine⟨.ret v,w,hx,fin (uQ ?_ (effVal_quiet hP hq))⟩;intro c e;rw [e]at hq;cases hq
  | none=>
   rw[hq]at hx;obtain⟨out,w',hk,ho⟩:=eff_ok hP hS hx;exact⟨out,w',hk,fin ho⟩
theorem xops_ok{lo:Lo}(hP:yH ng P=true)(hS:Sound P ng lo){all:Array Oper}{cx:Cx}:∀(l:List Oper) (t:Fr) (w:W) (k:KX),(∀o∈l,o∈all.toList)→xops P lo cx all l t w k=true→
 ∃x t' w',k x t' w'=true∧((∀o∈all.toList,vD ng (ntm P cx.fn) o=true)→∀(is:List Nat),is.length=l.length→(∀(j i:Nat),is[j]? = some i→all[i]? = l[j]?)→∀(b:Frame) (kk:List Item),
  Leads P ng b (.inRegion all is::kk) kk cx t w x t' w'):=by
 intro l
 induction l with
 | nil=>
  intro t w k _ hx;refine⟨.normal,t,w,hx,fun _ is hl _ b kk=>?_⟩;have:is=[]:=List.length_eq_zero_iff.1 hl;subst this;exact zP (fun _ _ _=>stepR_region_end) (wE b kk cx t w)
 | cons o l ih =>
  intro t w k hmem hx;obtain⟨out,w1,hk,h1⟩:=one_ok (o:=o) (all:=all) (kv:=fun w v=>putT t o.dst v fun t=>xops P lo cx all l t w k) (kp:=fun c w=>k (.panic c) t w) hP hS (hmem o (by simp)) hx
  have head:∀{is:List Nat},is.length=(o::l).length→(∀(j i:Nat),is[j]? = some i→all[i]? = (o::l)[j]?)→∃i is',is=i::is'∧all[i]? = some o∧is'.length=l.length∧(∀(j i:Nat),is'[j]? = some i→all[i]? = l[j]?):=by
   intro is hl hi
   cases is with
   | nil=>simp at hl
   | cons i is'=>exact⟨i,is',rfl,by simpa using hi 0 i rfl,by simpa using hl,fun j i2 h=>by simpa using hi (j+1) i2 (by simpa using h)⟩
  cases out with
  | panic c=>
   refine⟨.panic c,t,w1,hk,fun hc is hl hi b kk ρ base w0 a wd cs hI=>?_⟩;obtain⟨i,is',rfl,ho,_,_⟩:=head hl hi;obtain⟨ρ',a',wd',cs',i1,i2,i3,i4,c',i5,i6⟩:=h1 hc ρ base w0 b a wd cs hI i is' kk ho;exact⟨ρ',a',wd',cs',(i1.toIn (by rw[i2];exact hI.tm.mono (i3.le hI.hp.dom))).e,i3,i4,_,c',i5,i6⟩
  | ret v=>
   have hk':=uR hk;obtain⟨x,t',w',hk2,h2⟩:=ih (putF t o.dst v) w1 k (fun q hq=>hmem q (by simp[hq])) hk';refine⟨x,t',w',hk2,fun hc is hl hi b kk ρ base w0 a wd cs hI=>?_⟩;obtain⟨i,is',rfl,ho,hl',hi'⟩:=head hl hi;obtain⟨ρ',a',wd',cs',i1,i2,i3,i4,v',i5,i6⟩:=h1 hc ρ base w0 b a wd cs hI i is' kk ho;have htm:TmR ρ' (ntm P cx.fn) t a'.tmps:=by rw[i2];exact hI.tm.mono (i3.le hI.hp.dom)
   obtain⟨ρ2,a2,wd2,cs2,g1,g2,g3,g4⟩:=h2 hc is' hl' hi' b kk ρ' base w0 (a'.put o.dst v') wd' cs' ((i1.act (put_defers a' o.dst v')).toIn (htm.putF i5 o.dst));exact⟨ρ2,a2,wd2,cs2,g1,i3.trans g2,i4.trans g3,g4.of_steps i6⟩
theorem region_ok{lo:Lo}(hP:yH ng P=true)(hS:Sound P ng lo)(id:Nat)(ops:Array Oper)(cx:Cx)(t:Fr)(w:W)(k:KX)(hx:xcode P lo (.region id ops false) cx t w k=true) :
 ∃x t' w',k x t' w'=true∧CodeTo P ng (.region id ops false) cx t w x t' w':=by
 have hx':xops P lo cx ops ops.toList t w k=true:=hx;obtain⟨x,t',w',hk,h⟩:=xops_ok hP hS ops.toList t w k (fun _ h=>h) hx';refine⟨x,t',w',hk,fun hc b kk=>zP (fun _ _ _=>stepR_region) (h ?_ (List.range ops.size) (by simp) ?_ b kk)⟩
 · exact List.all_eq_true.1 hc
 · intro j i hj
   have:i=j:=by
    by_cases h9:j<ops.size
    · rw[List.getElem?_range h9]at hj;injection hj with hj;exact hj.symm
    · rw[List.getElem?_eq_none (by simpa using h9)]at hj;cases hj
   subst this;rw [Array.getElem?_toList]
end
end Go.Ex
namespace Go.Ex
section
variable {P:Program} {ng:Nat}
def DrawOK(P:Program)(ng:Nat):Prop:=
 ∀lo,Sound P ng lo→∀id ops cx t w k,xcode P lo (.region id ops true) cx t w k=true→∃x t' w',k x t' w'=true∧CodeTo P ng (.region id ops true) cx t w x t' w'
theorem sound_next(hD:DrawOK P ng)(hP:yH ng P=true){lo:Lo}(hS:Sound P ng lo):Sound P ng (Lo.next P lo) where
 code c cx t w k h:=xcode_ok hS (fun id ops draw cx t w k h=>by
  cases draw with
  | true=>exact hD lo hS id ops cx t w k h
  | false=>exact region_ok hP hS id ops cx t w k h) (fun f params asg body cx t w k h=>xrangeFunc_ok hS f params asg body cx t w k h) c cx t w k h
 call _ _ _ _ _ _ _ h:=xcall_ok hP hS h
 round _ _ _ _ _ h:=xround_ok hP hS h
 leave _ _ _ _ _ h:=xleave_ok hP hS h
def EndR(ρ : Inj):Out→Ending→Prop
 | .ret v,.returned v'=>RV ρ v v'
 | .panic c,.panicked c'=>ChR ρ c c'
 | _,_=>False
theorem calls_of{lo:Lo}(hS:Sound P ng lo){f:FuncId}{args:List Value}{h:zB}{n:Nat}{fin:KO}(hx:lo.call f args false none h n fin=true) :
 ∃o u' h' n',fin o u' h' n'=true∧∀(ρ : Inj) (base:Nat) (w0 w:World) (args':List Value),HeapR P ng ρ base w0 h n w→RVs ρ args args'→
  Calls P f ⟨args'⟩ w fun e w'=>∃ρ',HeapR P ng ρ' base w0 h' n' w'∧Grow ρ h n w ρ' h' n' w'∧EndR ρ' o e:=by
 obtain⟨o,u',h',n',hk,_,hc⟩:=hS.call _ _ _ _ _ _ _ hx;refine⟨o,u',h',n',hk,fun ρ base w0 w args' hH ha cs=>?_⟩;obtain⟨ρ',wd',fr,cs',s1,s2,s3,s4,s5,s6,s7⟩:=hc ρ base w0 w args' cs hH ha (fun e=>by cases e)
 have hcs:cs'=cs:=by
  rcases s4 with e|⟨e,_⟩
  · exact e
  · cases e
 subst hcs
 cases o with
 | ret v=>
  obtain⟨v',y1,y2,y3,y4,y5⟩:=s7;exact⟨.returned v',wd',fr,⟨ρ',s2,s3,y5⟩,s1,s6,y1,y2,y3,y4⟩
 | panic c=>
  obtain⟨c',y1,y2,y3,y4⟩:=s7;exact⟨.panicked c',wd',fr,⟨ρ',s2,s3,y4⟩,s1,s6,y1,y2,y3⟩
end
end Go.Ex
namespace Go.Ex
theorem bitB_eq(m i:Nat):zW m i=m.testBit i:=by
 unfold zW;show Nat.beq (Nat.land (Nat.shiftRight m i) 1) 1=_;rw [Nat.testBit];show Nat.beq ((m >>> i) &&& 1) 1=(1 &&& (m >>> i) != 0);rw [Nat.and_comm]
 have h:1 &&& (m >>> i)=0∨1 &&& (m >>> i)=1:=by
  have:=Nat.and_le_left (n:=1) (m:=m >>> i);omega
 rcases h with h|h <;> rw[h] <;> rfl
theorem lor_bit(a b i:Nat):zW (Nat.lor a b) i=(zW a i || zW b i):=by
 simp only[bitB_eq];exact Nat.testBit_or a b i
theorem one_bit(j i:Nat):zW (Nat.shiftLeft 1 j) i=Nat.beq j i:=by
 rw[bitB_eq];show(1 <<< j).testBit i=_;rw [Nat.one_shiftLeft,Nat.testBit_two_pow];by_cases h:j=i
 · subst h;simp
 · have:Nat.beq j i=false:=by
    cases e:Nat.beq j i with
    | false=>rfl
    | true=>exact absurd (zG e) h
   rw[this];simp [h]
theorem land_sub{a b i:Nat}(h:Nat.beq (Nat.land a b) a=true)(hi:zW a i=true):zW b i=true:=by
 have h:=zG h;rw [bitB_eq]at hi ⊢
 have:(a &&& b).testBit i=a.testBit i:=by
  have h:a &&& b=a:=h;rw [h]
 rw[Nat.testBit_and,hi]at this;simpa using this
def wJ(e:Edge):Bool:=Region.binds .any e
theorem edgesMask_ok{acc:Tr Nat}{j:Nat}:∀{es:List Edge} {m0 m:Nat},wN acc j es m0=some m→
 (∀b,zW m b=true→zW m0 b=true∨∃e∈es,wJ e=true∧(b=e.on∨zW (Tr.get 0 acc e.on) b=true))∧(∀e∈es,wJ e=true→e.on<j):=by
 intro es
 induction es with
 | nil=>
  intro m0 m h;simp only[wN]at h;injection h with h;subst h
  exact⟨fun b hb=>.inl hb,fun e he=>by simp at he⟩
 | cons e es ih =>
  intro m0 m h
  have skip:wJ e=false→wN acc j es m0=some m→_:=fun ha h=>(show(∀b,zW m b=true→zW m0 b=true∨∃e'∈e::es,wJ e'=true∧(b=e'.on∨zW (Tr.get 0 acc e'.on) b=true))∧(∀e'∈e::es,wJ e'=true→e'.on<j) from
   have⟨h1,h2⟩:=ih h
   ⟨fun b hb=>(h1 b hb).imp id fun⟨e',m1,m2⟩=>⟨e',by simp[m1],m2⟩,fun e' he ha'=>by
    rcases List.mem_cons.1 he with rfl|he
    · rw[ha]at ha';cases ha'
    · exact h2 e' he ha'⟩)
  have take:wJ e=true→(Bool.rec none (wN acc j es (Nat.lor m0 (Nat.lor (Nat.shiftLeft 1 e.on) (Tr.get 0 acc e.on)))) (Nat.blt e.on j):Option Nat)=some m→
   (∀b,zW m b=true→zW m0 b=true∨∃e'∈e::es,wJ e'=true∧(b=e'.on∨zW (Tr.get 0 acc e'.on) b=true))∧(∀e'∈e::es,wJ e'=true→e'.on<j):=by
   intro ha h
   cases hj:Nat.blt e.on j with
   | false=>rw [hj]at h;cases h
   | true=>
    rw[hj]at h;obtain⟨h1,h2⟩:=ih h;refine⟨fun b hb=>?_,fun e' he ha'=>?_⟩
    · rcases h1 b hb with h3|⟨e',m1,m2⟩
      · rw[lor_bit,lor_bit,one_bit]at h3;simp only[Bool.or_eq_true]at h3;rcases h3 with h3|h3|h3
        · exact .inl h3
        · exact .inr ⟨e,by simp,ha,.inl (zG h3).symm⟩
        · exact .inr ⟨e,by simp,ha,.inr h3⟩
      · exact .inr ⟨e',by simp[m1],m2⟩
    · rcases List.mem_cons.1 he with rfl|he
      · exact zY hj
      · exact h2 e' he ha'
  simp only[wN]at h;unfold wJ Region.binds at skip take;cases hg:e.ground <;> rw[hg]at h skip take <;> first|exact take rfl h|exact skip rfl h
theorem tmpMask_ok:∀{xs:List Operand} {m0 b:Nat},(zW m0 b=true∨.tmp b∈xs)→zW (tmpMask xs m0) b=true:=by
 intro xs
 induction xs with
 | nil=>intro m0 b h;rcases h with h|h;(· exact h);(· simp at h)
 | cons x xs ih=>
  intro m0 b h;simp only[tmpMask];apply ih;rcases h with h|h
  · left
    cases x with
    | tmp t=>show zW (Nat.lor m0 (Nat.shiftLeft 1 t)) b=true;rw [lor_bit,h];rfl
    | const v=>exact h
    | global g=>exact h
    | func f=>exact h
  · rcases List.mem_cons.1 h with rfl|h
    · left
      show zW (Nat.lor m0 (Nat.shiftLeft 1 b)) b=true;rw [lor_bit,one_bit,Nat.beq_refl,Bool.or_true]
    · exact .inr h
structure XOK (all:Array Oper) (M:Nat→Nat) (x:XOp):Prop where
 kd:x.kd=zU x.o.op
 ds:x.ds=dstMask x.o.dst
 m:x.m=M x.i
 bits:∀b,zW x.m b=true→∃e∈x.o.after.toList,wJ e=true∧(b=e.on∨zW (M e.on) b=true)
 on:∀e∈x.o.after.toList,wJ e=true→e.on<x.i
 lk:∀t,.tmp t∈x.o.op.operands.toList→zW x.lk t=true
 glk:∀g b d,x.o.guard=some (g,b)→dstOf all g=some d→zW x.lk d=true
 ga:∀g b,x.o.guard=some (g,b)→zW x.m g=true
theorem xlist_ok{all:Array Oper}:∀{l:List Oper} {j:Nat} {acc:Tr Nat} {xl:List XOp},xlist all l j acc=some xl→
 ∃M:Nat→Nat,(∀k,k<j→M k=Tr.get 0 acc k)∧xl.length=l.length∧∀q o,l[q]? = some o→∃x,xl[q]? = some x∧x.o=o∧x.i=j+q∧XOK all M x:=by
 intro l
 induction l with
 | nil=>
  intro j acc xl h;simp only[xlist]at h;injection h with h;subst h
  exact⟨fun k=>Tr.get 0 acc k,fun _ _=>rfl,rfl,fun q o h=>by simp at h⟩
 | cons o l ih =>
  intro j acc xl h;simp only[xlist]at h
  cases hm:wN acc j o.after.toList 0 with
  | none=>rw [hm]at h;cases h
  | some m=>
   rw[hm]at h;dsimp only at h;split at h
   · cases h
   · rename_i gm hgm
     cases hr:xlist all l (Nat.succ j) (Tr.set 0 m acc j) with
     | none=>rw [hr]at h;cases h
     | some xl' =>
      rw[hr]at h;injection h with h;subst h
      obtain⟨M,h1,h2,h3⟩:=ih hr;obtain⟨e1,e2⟩:=edgesMask_ok hm;have hMj:M j=m:=by rw[h1 j (Nat.lt_succ_self j),Tr.get_set_if,if_pos rfl]
      have hMk:∀k,k<j→M k=Tr.get 0 acc k:=by
       intro k hk;rw [h1 k (Nat.lt_succ_of_lt hk),Tr.get_set_if,if_neg (by omega)]
      refine⟨M,hMk,by simp[h2],fun q o' hq=>?_⟩
      cases q with
      | succ q=>
       obtain⟨x,f1,f2,f3,f4⟩:=h3 q o' (by simpa using hq);exact⟨x,by simpa using f1,f2,by omega,f4⟩
      | zero=>
       simp at hq;subst hq;refine⟨_,rfl,rfl,rfl,rfl,rfl,hMj.symm,fun b hb=>?_,e2,fun t ht=>tmpMask_ok (.inr ht),fun g b d hg hd=>?_,fun g b hg=>?_⟩
       · rcases e1 b hb with h4|⟨e,q1,q2,q3⟩
         · rw[bitB_eq,Nat.zero_testBit]at h4;cases h4
         · exact⟨e,q1,q2,q3.imp id fun h5=>by rw[hMk _ (e2 e q1 q2)];exact h5⟩
       · apply tmpMask_ok;left
         rw[hg]at hgm;dsimp only at hgm
         cases hb:zW m g with
         | false=>rw [hb]at hgm;cases hgm
         | true=>
          rw[hb]at hgm;injection hgm with hgm
          rw[← hgm,hd];show zW (Nat.shiftLeft 1 d) d=true;rw [one_bit,Nat.beq_refl]
       · rw[hg]at hgm;dsimp only at hgm
         cases hb:zW m g with
         | false=>rw [hb]at hgm;cases hgm
         | true=>rfl
end Go.Ex
namespace Go.Ex
theorem sigB_head{x:XOp}{r:List XOp}{sm pm:Nat}(h:sigB (x::r) sm pm=true) :
 (∀b,zW x.m b=true→zW sm b=true)∧zW sm x.i=false∧
 (x.kd=3→(∀b,zW pm b=true→zW x.m b=true)∧sigB r (Nat.lor sm (Nat.shiftLeft 1 x.i)) 0=true)∧
 (x.kd≠3→sigB r (Nat.lor sm (Nat.shiftLeft 1 x.i)) (Nat.lor pm (Nat.shiftLeft 1 x.i))=true):=by
 simp only[sigB]at h
 cases h1:Nat.beq (Nat.land x.m sm) x.m with
 | false=>rw [h1]at h;cases h
 | true =>
  rw[h1]at h;dsimp only at h
  cases h2:zW sm x.i with
  | true=>rw [h2]at h;cases h
  | false=>
   rw[h2]at h;dsimp only at h;refine⟨fun b hb=>land_sub h1 hb,rfl,fun hk=>?_,fun hk=>?_⟩
   · rw[hk]at h;have h:(Bool.rec false (sigB r (Nat.lor sm (Nat.shiftLeft 1 x.i)) 0) (Nat.beq (Nat.land x.m pm) pm):Bool)=true:=h
     cases h3:Nat.beq (Nat.land x.m pm) pm with
     | false=>rw [h3]at h;cases h
     | true =>
      rw[h3]at h;refine⟨fun b hb=>?_,h⟩
      have e:Nat.land pm x.m=pm:=by
       have:=zG h3;show pm &&& x.m=pm;rw [Nat.and_comm];exact this
      exact land_sub (a:=pm) (by rw[e];exact Nat.beq_refl pm) hb
   · have hk':Nat.beq x.kd 3=false:=by
      cases e:Nat.beq x.kd 3 with
      | false=>rfl
      | true=>exact absurd (zG e) hk
     rw[hk']at h;exact h
theorem sigB_app:∀{pre rest:List XOp} {sm pm:Nat},sigB (pre++rest) sm pm=true→
 ∃sm' pm',sigB rest sm' pm'=true∧(∀b,zW sm' b=true↔(zW sm b=true∨∃y∈pre,y.i=b))∧
  ((∀y∈pre,y.kd≠3)→∀b,(zW pm b=true∨∃y∈pre,y.i=b)→zW pm' b=true):=by
 intro pre
 induction pre with
 | nil=>intro rest sm pm h;exact⟨sm,pm,h,fun b=>by simp,fun _ b hb=>by simpa using hb⟩
 | cons x pre ih =>
  intro rest sm pm h;obtain⟨_,_,h3,h4⟩:=sigB_head h
  have bits:∀{m b},zW (Nat.lor m (Nat.shiftLeft 1 x.i)) b=true↔(zW m b=true∨x.i=b):=by
   intro m b;rw [lor_bit,one_bit,Bool.or_eq_true];exact⟨fun h=>h.imp id zG,fun h=>h.imp id fun e=>by rw[e];exact Nat.beq_refl b⟩
  have key:∀{pm2},sigB (pre++rest) (Nat.lor sm (Nat.shiftLeft 1 x.i)) pm2=true→(x.kd≠3→pm2=Nat.lor pm (Nat.shiftLeft 1 x.i))→
   ∃sm' pm',sigB rest sm' pm'=true∧(∀b,zW sm' b=true↔(zW sm b=true∨∃y∈x::pre,y.i=b))∧
    ((∀y∈x::pre,y.kd≠3)→∀b,(zW pm b=true∨∃y∈x::pre,y.i=b)→zW pm' b=true):=by
   intro pm2 hs hp;obtain⟨sm',pm',a1,a2,a3⟩:=ih hs;refine⟨sm',pm',a1,fun b=>?_,fun hall b hb=>?_⟩
   · rw[a2,bits];simp only[List.mem_cons];constructor
     · rintro ((h|h)|⟨y,h1,h2⟩)
       · exact .inl h
       · exact .inr ⟨x,.inl rfl,h⟩
       · exact .inr ⟨y,.inr h1,h2⟩
     · rintro (h|⟨y,rfl|h1,h2⟩)
       · exact .inl (.inl h)
       · exact .inl (.inr h2)
       · exact .inr ⟨y,h1,h2⟩
   · have e:=hp (hall x (by simp));refine a3 (fun y hy=>hall y (by simp[hy])) b ?_;rw [e,bits];rcases hb with h|⟨y,h1,h2⟩
     · exact .inl (.inl h)
     · rcases List.mem_cons.1 h1 with rfl|h1
       · exact .inl (.inr h2)
       · exact .inr ⟨y,h1,h2⟩
  by_cases hk:x.kd=3
  · exact key (h3 hk).2 (fun e=>absurd hk e)
  · exact key (h4 hk) (fun _=>rfl)
theorem sig_ord{pre post:List XOp}{x:XOp}(h:sigB (pre++x::post) 0 0=true):(∀b,zW x.m b=true→∃y∈pre,y.i=b)∧(∀y∈pre,y.i≠x.i):=by
 obtain⟨sm,pm,h1,h2,_⟩:=sigB_app h;obtain⟨h3,h4,_,_⟩:=sigB_head h1;have z:∀b,¬zW 0 b=true:=fun b e=>by rw[bitB_eq,Nat.zero_testBit]at e;cases e
 refine⟨fun b hb=>((h2 b).1 (h3 b hb)).resolve_left (z b),fun y hy e=>?_⟩;have:=(h2 x.i).2 (.inr ⟨y,hy,e⟩);rw [h4]at this;cases this
theorem sig_next{pre seg post:List XOp}{c:XOp}(h:sigB (pre++(seg++c::post)) 0 0=true)(hc:c.kd=3)(hs:∀y∈seg,y.kd≠3):∀y∈seg,zW c.m y.i=true:=by
 obtain⟨sm,pm,h1,_,_⟩:=sigB_app h;obtain⟨sm2,pm2,h2,_,h3⟩:=sigB_app h1;obtain⟨_,_,h4,_⟩:=sigB_head h2;exact fun y hy=>(h4 hc).1 _ (h3 hs _ (.inr ⟨y,hy,rfl⟩))
end Go.Ex
namespace Go.Ex
theorem allB_ok{α : Type}{f: α→Bool}:∀{l:List α},allB f l=true→∀x∈l,f x=true:=by
 intro l
 induction l with
 | nil=>intro _ x hx;simp at hx
 | cons y l ih =>
  intro h x hx;have h':(Bool.rec false (allB f l) (f y):Bool)=true:=h
  cases hf:f y with
  | false=>rw [hf]at h';cases h'
  | true=>
   rw[hf]at h';rcases List.mem_cons.1 hx with rfl|hx
   · exact hf
   · exact ih h' x hx
theorem sigmaFrom_mem:∀{acts rest:List XOp} {x:XOp},x∈vB rest acts→x∈rest∨x∈acts:=by
 intro acts
 induction acts with
 | nil=>intro rest x h;exact .inl h
 | cons c cs ih=>
  intro rest x h;simp only[vB,List.mem_append,List.mem_cons,List.mem_filter]at h;rcases h with⟨h,_⟩|rfl|h
  · exact .inl h
  · exact .inr (by simp)
  · rcases ih h with h|h
    · exact .inl (List.mem_filter.1 h).1
    · exact .inr (by simp[h])
structure PlanOK (ops:Array Oper) (M:Nat→Nat) (xl S:List XOp):Prop where
 at':∀x∈xl,ops[x.i]? = some x.o
 ok:∀x∈xl,XOK ops M x
 cov:∀i,i<ops.size→∃x∈xl,x.i=i
 sub:∀x∈S,x∈xl
 sig:sigB S 0 0=true
 len:S.length=ops.size
 pair:∀x∈xl,∀y∈xl,∀d,x.o.dst=some d→(zW y.lk d=true∨y.o.dst=some d)→x.i=y.i∨(y.o.dst≠some d∧(zW y.m x.i=true∨zW x.m y.i=true))
 act:∀x∈xl,∀y∈xl,x.kd=3→y.kd=3→x.i=y.i∨zW y.m x.i=true∨zW x.m y.i=true
 tr:∀x∈xl,∀y∈xl,zW x.m y.i=true→∀b,zW y.m b=true→zW x.m b=true
theorem dst_bit{o:Option Tmp}{d:Nat}:zW (dstMask o) d=true↔o=some d:=by
 cases o with
 | none=>
  show zW 0 d=true↔_;rw [bitB_eq,Nat.zero_testBit];simp
 | some t=>
  show zW (Nat.shiftLeft 1 t) d=true↔_;rw [one_bit];exact⟨fun h=>by rw[zG h],fun h=>by injection h with h;rw [h];exact Nat.beq_refl d⟩
theorem land_zero{a b d:Nat}(h:Nat.beq (Nat.land a b) 0=true)(ha:zW a d=true):zW b d=false:=by
 have h:a &&& b=0:=zG h;rw [bitB_eq]at ha ⊢;have:(a &&& b).testBit d=false:=by rw[h,Nat.zero_testBit]
 rw[Nat.testBit_and,ha]at this;simpa using this
theorem plan_ok{ops:Array Oper}{L:List DOp}(h:plan ops=some L) :
 ∃M xl S,PlanOK ops M xl S∧L=S.map (dopOf xl (S.filter fun x=>Nat.beq x.kd 3)):=by
 unfold plan at h
 cases hx:xlist ops ops.toList 0 .lF with
 | none=>rw [hx]at h;cases h
 | some xl =>
  rw[hx]at h;dsimp only at h;obtain⟨M,_,hlen,hat⟩:=xlist_ok hx;generalize hA:xl.filter (fun x=>Nat.beq x.kd 3)=acts at h
  unfold planOf at h
  cases hc:(pairsOK xl && actsOK acts && Nat.beq (vB xl acts).length ops.toList.length && sigB (vB xl acts) 0 0 && transOK xl) with
  | false=>rw [hc]at h;cases h
  | true =>
   rw[hc]at h;dsimp only[cond]at h;injection h with h
   simp only[Bool.and_eq_true]at hc;obtain⟨⟨⟨⟨c1,c2⟩,c3⟩,c4⟩,c5⟩:=hc
   have hact:∀x,x∈acts→x∈xl∧x.kd=3:=by
    intro x hx;rw [← hA]at hx;obtain⟨h1,h2⟩:=List.mem_filter.1 hx;exact⟨h1,zG h2⟩
   have hmem:∀x∈vB xl acts,x∈xl:=by
    intro x hx;rcases sigmaFrom_mem hx with h|h
    · exact h
    · exact(hact x h).1
   have hxl:∀x∈xl,ops[x.i]? = some x.o∧XOK ops M x:=by
    intro x hx;obtain⟨q,hq⟩:=List.mem_iff_getElem?.1 hx
    have hlt:q<ops.toList.length:=by
     rcases Nat.lt_or_ge q xl.length with h5|h5
     · omega
     · rw[List.getElem?_eq_none h5]at hq;cases hq
    obtain⟨x',f1,f2,f3,f4⟩:=hat q _ (List.getElem?_eq_getElem hlt);rw [hq]at f1;injection f1 with f1;subst f1
    refine⟨?_,f4⟩;rw [f3,Nat.zero_add,f2,← Array.getElem?_toList];exact List.getElem?_eq_getElem hlt
   have hcov:∀i,i<ops.size→∃x∈xl,x.i=i:=by
    intro i hi;obtain⟨x',f1,_,f3,_⟩:=hat i _ (List.getElem?_eq_getElem (by simpa using hi));exact⟨x',List.mem_iff_getElem?.2 ⟨i,f1⟩,by omega⟩
   refine⟨M,xl,vB xl acts,⟨fun x hx=>(hxl x hx).1,fun x hx=>(hxl x hx).2,hcov,hmem,c4,by simpa using zG c3,?_,?_,fun x hx y hy hb b h2=>by
    have h3:=allB_ok (allB_ok c5 x hx) y hy;have h4:(Bool.rec true (Nat.beq (Nat.land y.m x.m) y.m) (zW x.m y.i):Bool)=true:=h3;rw [hb]at h4;exact land_sub h4 h2⟩,h.symm⟩
   · intro x hx y hy d hd hl;have kx:=(hxl x hx).2;have ky:=(hxl y hy).2;have dx:zW x.ds d=true:=by rw[kx.ds];exact dst_bit.2 hd
     have dy:zW (Nat.lor y.lk y.ds) d=true:=by
      rw[lor_bit,Bool.or_eq_true];exact hl.imp id fun h=>by rw[ky.ds];exact dst_bit.2 h
     have hne:Nat.beq x.ds 0=false:=by
      cases e:Nat.beq x.ds 0 with
      | false=>rfl
      | true=>
       rw[zG e,bitB_eq,Nat.zero_testBit]at dx;cases dx
     have hp:=allB_ok (allB_ok c1 x (List.mem_filter.2 ⟨hx,by rw[hne];rfl⟩)) y hy;unfold pairOK at hp
     cases e:Nat.beq (Nat.land x.ds (Nat.lor y.lk y.ds)) 0 with
     | true=>
      have:=land_zero e dx;rw [dy]at this;cases this
     | false=>
      rw[e]at hp;have hp:(Nat.beq x.i y.i || (Nat.beq (Nat.land x.ds y.ds) 0 && (zW y.m x.i || zW x.m y.i)))=true:=hp;simp only[Bool.or_eq_true,Bool.and_eq_true]at hp;rcases hp with hp|⟨hp1,hp2⟩
      · exact .inl (zG hp)
      · refine .inr ⟨fun e2=>?_,hp2⟩;have:=land_zero hp1 dx;rw [ky.ds,dst_bit.2 e2]at this;cases this
   · intro x hx y hy kx ky;have mx:x∈acts:=by rw[← hA];exact List.mem_filter.2 ⟨hx,by rw[kx];rfl⟩
     have my:y∈acts:=by rw[← hA];exact List.mem_filter.2 ⟨hy,by rw[ky];rfl⟩
     have:=allB_ok (allB_ok c2 x mx) y my;simp only[Bool.or_eq_true]at this;rcases this with(h|h)|h
     · exact .inl (zG h)
     · exact .inr (.inl h)
     · exact .inr (.inr h)
end Go.Ex
namespace Go.Ex
structure Rec where
 x:DOp
 t:Fr
 w:W
 sk:Bool
 v:Value
 w2:W
section
variable (P:Program) (ng:Nat) (all:Array Oper) (cx:Cx)
inductive RecOK:Rec→Prop
 | skip {x:DOp} {t:Fr} {w:W} (hw:wanted all t x.o.guard=false):RecOK ⟨x,t,w,true,undef,w⟩
 | look {x:DOp} {t:Fr} {w:W} {v:Value} (hw:wanted all t x.o.guard=true) (hk:x.kd=0∨x.kd=1) (hq:xB x.o.op P t w.h=some v):RecOK ⟨x,t,w,false,v,w⟩
 | made {x:DOp} {t:Fr} {w:W} {v:Nat→Value} {ob:AObj} (hw:wanted all t x.o.guard=true) (hk:x.kd=2) (hn:NewVal P ng x.o t v ob) :
  RecOK ⟨x,t,w,false,v w.n,W.mk w.d w.u (w.h.set .dead ob w.n) (w.n+1)⟩
 | act {x:DOp} {t:Fr} {w w2:W} {v:Value} (hw:wanted all t x.o.guard=true) (hk:x.kd≠0∧x.kd≠1∧x.kd≠2) (ho:OpTo P ng x.o cx t w (.ret v) w2) (hn:w.n≤w2.n):RecOK ⟨x,t,w,false,v,w2⟩
inductive RecsOK:List Rec→Fr→W→Fr→W→Prop
 | nil (t:Fr) (w:W):RecsOK [] t w t w
 | cons {r:Rec} {R:List Rec} {t':Fr} {w':W} (h:RecOK P ng all cx r) (hr:RecsOK R (putF r.t r.x.o.dst r.v) r.w2 t' w'):RecsOK (r::R) r.t r.w t' w'
end
def hsOf:List Rec→List W→List W
 | [],hs=>hs
 | r::R,hs=>hsOf R (cond (Nat.beq r.x.kd 3) (r.w2::hs) hs)
def lsOf:List Rec→List Look→List Look
 | [],ls=>ls
 | r::R,ls=>lsOf R (cond (!r.sk && (Nat.beq r.x.kd 1 && !Nat.beq r.x.low r.x.high)) (⟨r.x.o.op,r.t,r.v,r.x.low,r.x.high⟩::ls) ls)
section
variable {P:Program} {ng:Nat} {all:Array Oper} {cx:Cx}
def DrewG(P:Program)(ng:Nat)(all:Array Oper)(cx:Cx)(pan:DOp→List DOp→Fr→W→List W→List Look→zJ→W→Bool)(L:List DOp)(t:Fr)(w:W)(hs:List W)(ls:List Look)(k:KX):Prop:=
 (∃R t' w',R.map (·.x)=L∧RecsOK P ng all cx R t w t' w'∧k .normal t' w'=true∧xC P (hsOf R hs).length (hsOf R hs) (lsOf R ls)=true)∨
 (∃R d rest c t1 w1 w2,L=R.map (·.x)++d::rest∧RecsOK P ng all cx R t w t1 w1∧wanted all t1 d.o.guard=true∧OpTo P ng d.o cx t1 w1 (.panic c) w2∧d.kd=3∧pan d rest t1 w1 (hsOf R hs) (lsOf R ls) c w2=true)
def Drew(P:Program)(ng:Nat)(all:Array Oper)(cx:Cx)(L:List DOp)(t:Fr)(w:W)(hs:List W)(ls:List Look)(k:KX):Prop:=
 (∃R t' w',R.map (·.x)=L∧RecsOK P ng all cx R t w t' w'∧k .normal t' w'=true∧xC P (hsOf R hs).length (hsOf R hs) (lsOf R ls)=true)∨
 (∃R d rest c t1 w1 w2,L=R.map (·.x)++d::rest∧RecsOK P ng all cx R t w t1 w1∧wanted all t1 d.o.guard=true∧OpTo P ng d.o cx t1 w1 (.panic c) w2∧d.solo=true∧
  xC P (hsOf R hs).length (hsOf R hs) (lsOf R ls)=true∧k (.panic c) t1 w2=true)∨
 (∃R d rest c t1 w1 w2 S tD wD,L=R.map (·.x)++d::rest∧RecsOK P ng all cx R t w t1 w1∧wanted all t1 d.o.guard=true∧OpTo P ng d.o cx t1 w1 (.panic c) w2∧d.kd=3∧w2.d=[]∧RecsOK P ng all cx S t1 w1 tD wD∧S.map (·.x)=dryOf d.un rest∧
  xC P (hsOf (R++S) hs).length (hsOf (R++S) hs) (lsOf (R++S) ls)=true∧k (.panic c) t1 w2=true)
theorem DrewG.cons{pan:DOp→List DOp→Fr→W→List W→List Look→zJ→W→Bool}{r:Rec}{L:List DOp}{hs:List W}{ls:List Look}{k:KX}(h:RecOK P ng all cx r)
(d:DrewG P ng all cx pan L (putF r.t r.x.o.dst r.v) r.w2 (cond (Nat.beq r.x.kd 3) (r.w2::hs) hs) (cond (!r.sk && (Nat.beq r.x.kd 1 && !Nat.beq r.x.low r.x.high)) (⟨r.x.o.op,r.t,r.v,r.x.low,r.x.high⟩::ls) ls) k) :
 DrewG P ng all cx pan (r.x::L) r.t r.w hs ls k:=by
 rcases d with⟨R,t',w',h1,h2,h3,h4⟩|⟨R,d,rest,c,t1,w1,w2,h1,h2,h3,h4,h5,h6⟩
 · exact .inl ⟨r::R,t',w',by simp[h1],.cons h h2,h3,h4⟩
 · exact .inr ⟨r::R,d,rest,c,t1,w1,w2,by simp[h1],.cons h h2,h3,h4,h5,h6⟩
theorem new_ok{lo:Lo}(hP:yH ng P=true){o:Oper}{t:Fr}{w:W}{k:KV}{kp:KP}(hk:zU o.op=2)(hx:eff o.op P lo cx t w k kp=true) :
 ∃v ob,NewVal P ng o t v ob∧k (W.mk w.d w.u (w.h.set .dead ob w.n) (w.n+1)) (v w.n)=true:=by
 cases hop:o.op with
 | insert _ _ _ _=>rw [hop]at hk;cases hk
 | store _ _ _=>rw [hop]at hk;cases hk
 | mapUpdate _ _ _ _=>rw [hop]at hk;cases hk
 | defer _=>rw [hop]at hk;cases hk
 | panic _=>rw [hop]at hk;cases hk
 | range _ _=>rw [hop]at hk;cases hk
 | next _ _=>rw [hop]at hk;cases hk
 | entry _=>rw [hop]at hk;cases hk
 | alloc el=>exact alloc_ok hP hop hx
 | box el x=>exact box_ok hop hx
 | buildSlice ty len parts=>exact buildSlice_ok hP hop hx
 | makeMap ty r=>exact makeMap_ok hop hx
 | makeSlice ty l c=>exact makeSlice_ok hP hop hx
 | call c=>
  rw[hop]at hk;obtain⟨callee,asz,ts⟩:=c
  cases callee with
  | builtin b=>cases b <;> cases hk
  | value f=>cases hk
  | invoke r m=>cases hk
 | _=>rw [hop]at hx;exact(Bool.false_ne_true hx).elim
theorem xdrawG_ok{lo:Lo}(pan:DOp→List DOp→Fr→W→List W→List Look→zJ→W→Bool)(hP:yH ng P=true)(hS:Sound P ng lo):∀(L:List DOp) (t:Fr) (w:W) (hs:List W) (ls:List Look) (k:KX),(∀d∈L,d.kd=zU d.o.op)→wF P lo cx all pan L t w hs ls k=true→DrewG P ng all cx pan L t w hs ls k:=by
 intro L
 induction L with
 | nil=>
  intro t w hs ls k _ h;simp only[wF,Bool.and_eq_true]at h;exact .inl ⟨[],t,w,rfl,.nil t w,h.1,h.2⟩
 | cons x L ih =>
  intro t w hs ls k hkd h;have hkd':∀d∈L,d.kd=zU d.o.op:=fun d hd=>hkd d (by simp[hd]);have hx:=hkd x (by simp);simp only[wF]at h
  cases hw:wanted all t x.o.guard with
  | false=>
   rw[hw]at h;exact DrewG.cons (.skip hw) (ih _ _ _ _ _ hkd' (uR h))
  | true=>
   rw[hw]at h;dsimp only at h;split at h
   · rename_i hk;split at h
     · rename_i v hq
       have:=DrewG.cons (r:=⟨x,t,w,false,v,w⟩) (hs:=hs) (ls:=ls) (.look hw (.inl hk) hq) (by
        have:=ih _ _ _ _ _ hkd' (uR h);dsimp only;rw [hk];exact this)
       exact this
     · cases h
   · rename_i hk;split at h
     · rename_i v hq
       have:=DrewG.cons (r:=⟨x,t,w,false,v,w⟩) (hs:=hs) (ls:=ls) (k:=k) (.look hw (.inr hk) hq) (by
        have:=ih _ _ _ _ _ hkd' (uR h);dsimp only;rw [hk];cases hlh:Nat.beq x.low x.high <;> rw[hlh]at this <;> exact this)
       exact this
     · cases h
   · rename_i hk;obtain⟨v,ob,h1,h2⟩:=new_ok hP (by rw[← hx,hk]) h;have:=ih _ _ _ _ _ hkd' (uR h2)
     exact DrewG.cons (r:=⟨x,t,w,false,v w.n,W.mk w.d w.u (w.h.set .dead ob w.n) (w.n+1)⟩) (.made hw hk h1) (by
      dsimp only;rw [hk];exact this)
   · rename_i hk0 hk1 hk2;obtain⟨out,w2,h1,h2⟩:=eff_ok hP hS h
     have hk3:x.kd=3:=by
      have h9:zU x.o.op≤3:=by unfold zU;split <;> (try split) <;> omega
      have a0:x.kd≠0:=hk0;have a1:x.kd≠1:=hk1;have a2:x.kd≠2:=hk2;omega
     cases out with
     | ret v =>
      have h1':cond (Nat.ble w.n w2.n) (putT t x.o.dst v fun t'=>wF P lo cx all pan L t' w2 (w2::hs) ls k) false=true:=h1
      cases hnn:Nat.ble w.n w2.n with
      | false=>rw [hnn]at h1';cases h1'
      | true=>
      rw[hnn]at h1';dsimp only[cond]at h1';have:=ih _ _ _ _ _ hkd' (uR h1')
      exact DrewG.cons (r:=⟨x,t,w,false,v,w2⟩) (.act hw ⟨hk0,hk1,hk2⟩ h2 (yQ hnn)) (by
       dsimp only;rw [hk3];exact this)
     | panic c=>
      exact .inr ⟨[],x,L,c,t,w,w2,rfl,.nil t w,hw,h2,hk3,h1⟩
theorem hsOf_two:∀(R S:List Rec) (hs:List W),hsOf (R++S) hs=hsOf S (hsOf R hs):=by
 intro R
 induction R with
 | nil=>intro S hs;rfl
 | cons r R ih=>intro S hs;exact ih S _
theorem lsOf_two:∀(R S:List Rec) (ls:List Look),lsOf (R++S) ls=lsOf S (lsOf R ls):=by
 intro R
 induction R with
 | nil=>intro S ls;rfl
 | cons r R ih=>intro S ls;exact ih S _
theorem xdraw_ok{lo:Lo}(hP:yH ng P=true)(hS:Sound P ng lo):∀(L:List DOp) (t:Fr) (w:W) (hs:List W) (ls:List Look) (k:KX),(∀d∈L,d.kd=zU d.o.op)→xdraw P lo cx all L t w hs ls k=true→Drew P ng all cx L t w hs ls k:=by
 intro L t w hs ls k hkd h;rcases xdrawG_ok (panD P lo cx all k) hP hS L t w hs ls k hkd h with h|⟨R,d,rest,c,t1,w1,w2,h1,h2,h3,h4,h5,h6⟩
 · exact .inl h
 · unfold panD at h6
   cases hs1:d.solo with
   | true=>
    rw[hs1]at h6
    cases hl:xC P (hsOf R hs).length (hsOf R hs) (lsOf R ls) with
    | true=>rw [hl]at h6;exact .inr (.inl ⟨R,d,rest,c,t1,w1,w2,h1,h2,h3,h4,hs1,hl,h6⟩)
    | false=>rw [hl]at h6;cases h6
   | false =>
    rw[hs1]at h6;dsimp only[cond]at h6
    cases hd:w2.d with
    | cons _ _=>rw [hd]at h6;cases h6
    | nil=>
     rw[hd]at h6;rcases xdrawG_ok _ hP hS (dryOf d.un rest) t1 w1 _ _ _ (fun y hy=>hkd y (by rw[h1];exact List.mem_append_right _ (List.mem_cons_of_mem _ (List.mem_filter.1 hy).1))) h6 with⟨S,tD,wD,g1,g2,g3,g4⟩|⟨_,_,_,_,_,_,_,_,_,_,_,_,g⟩
     · exact .inr (.inr ⟨R,d,rest,c,t1,w1,w2,S,tD,wD,h1,h2,h3,h4,h5,hd,g2,g1,by rw[hsOf_two,lsOf_two];exact g4,g3⟩)
     · cases g
end
end Go.Ex
namespace Go.Ex
def Inj.cut(ρ : Inj)(m:Nat):Inj:=fun b=>if b<m then ρ b else none
theorem yW{ρ : Inj}{m b:Nat}(h:b<m):(ρ.cut m) b = ρ b:=by simp[Inj.cut,h]
theorem cut_ge{ρ : Inj}{m b:Nat}(h:m≤b):(ρ.cut m) b=none:=by simp[Inj.cut,Nat.not_lt.2 h]
theorem xU{ρ : Inj}{m b:Nat}{B:Bl}(e:(ρ.cut m) b=some B):b<m∧ρ b=some B:=by
 rcases Nat.lt_or_ge b m with h1|h1
 · rw[yW h1]at e;exact⟨h1,e⟩
 · rw[cut_ge h1]at e;cases e
theorem cut_le{ρ : Inj}{m m':Nat}(h:m≤m'):(ρ.cut m).le (ρ.cut m'):=by
 intro b B e;obtain⟨h1,h2⟩:=xU e;rw [yW (by omega)];exact h2
theorem cut_mono{ρ ρ':Inj}(h: ρ.le ρ')(m:Nat):(ρ.cut m).le (ρ'.cut m):=by
 intro b B e;obtain⟨h1,h2⟩:=xU e;rw [yW h1];exact h _ _ h2
theorem glue(h1 h2:zB)(m:Nat):∀N,∃h:zB,(∀b,b<m→zF h b=zF h1 b)∧(∀b,m≤b→b<N→zF h b=zF h2 b):=by
 intro N
 induction N with
 | zero=>exact⟨h1,fun _ _=>rfl,fun _ _ h=>absurd h (Nat.not_lt_zero _)⟩
 | succ N ih=>
  obtain⟨h,e1,e2⟩:=ih;by_cases hm:m≤N
  · refine⟨h.set .dead (zF h2 N) N,fun b hb=>?_,fun b hb hN=>?_⟩
    · rw[zK,if_neg (by omega)];exact e1 b hb
    · rw[zK];by_cases hbn:N=b
      · subst hbn;rw [if_pos rfl]
      · rw[if_neg hbn];exact e2 b hb (by omega)
  · exact⟨h,e1,fun b hb hN=>absurd hb (by omega)⟩
section
variable {P:Program} {ng:Nat}
theorem HeapR.congr{ρ : Inj}{base:Nat}{w0:World}{h h':zB}{n:Nat}{wd:World}(r:HeapR P ng ρ base w0 h n wd)(e:∀b B,ρ b=some B→zF h' b=zF h b):HeapR P ng ρ base w0 h' n wd where
 dom:=r.dom
 obj b B hb hl:=by rw[e b B hb]at hl ⊢;exact r.obj b B hb hl
 inj a b A B ha hb la lb hab:=by rw[e a A ha]at la;rw [e b B hb]at lb;exact r.inj a b A B ha hb la lb hab
 below:=r.below
 size:=r.size
 glob:=r.glob
 ngn:=r.ngn
theorem Grow.congr{ρ0:Inj}{h0:zB}{n0:Nat}{wd0:World}{ρ : Inj}{h h':zB}{n:Nat}{wd:World}(g:Grow ρ0 h0 n0 wd0 ρ h n wd)(e:∀b,b<n0→zF h' b=zF h b):Grow ρ0 h0 n0 wd0 ρ h' n wd where
 nn:=g.nn
 old:=g.old
 new:=g.new
 keep:=g.keep
 size:=g.size
 dead b hb hd:=by rw[e b hb];exact g.dead b hb hd
 tape:=g.tape
theorem HeapR.push{ρ : Inj}{base:Nat}{w0:World}{h:zB}{n:Nat}{wd:World}(r:HeapR P ng ρ base w0 h n wd)(o':Obj):HeapR P ng ρ base w0 h n { wd with heap:=wd.heap.push o' } where
 dom:=r.dom
 obj b B hb hl:=by
  obtain⟨o,e1,e2⟩:=r.obj b B hb hl;refine⟨o,?_,e2⟩;have:=r.lt hb hl;show(wd.heap.push o')[B.b]? = _;rw [Array.getElem?_push,if_neg (by omega)];exact e1
 inj:=r.inj
 below:=r.below.trans ⟨rfl,rfl,rfl,by simp,fun k hk=>by
  have:=r.size;show(wd.heap.push o')[k]? = _;rw [Array.getElem?_push,if_neg (by omega)]⟩
 size:=by have:=r.size;simp;omega
 glob:=r.glob
 ngn:=r.ngn
theorem HeapR.add{ρ : Inj}{base:Nat}{w0:World}{h:zB}{n:Nat}{wd:World}(r:HeapR P ng ρ base w0 h n wd){x:Nat}(hx: ρ x=none)(hxn:x<n)(o:AObj)(o':Obj)(B:Bl)(hB:B.b=wd.heap.size)
(hr:ObjR P ng (ρ.put x B) base B o o'):HeapR P ng (ρ.put x B) base w0 (h.set .dead o x) n { wd with heap:=wd.heap.push o' }:=by
 have hle:=Inj.le_put B hx;have r2:=r.push o';refine⟨?_,?_,?_,r2.below,r2.size,?_,r2.ngn⟩
 · intro b hb;have:b≠x:=by omega
   simp[Inj.put,this];exact r.dom b (by omega)
 · intro b C e hl;by_cases hb:b=x
   · subst hb;simp [Inj.put]at e;subst e;refine⟨o',by simp[hB],?_⟩;rw [zK];simpa using hr
   · have e': ρ b=some C:=by simpa [Inj.put,hb] using e
     rw[zK,if_neg (fun x=>hb x.symm)]at hl ⊢;obtain⟨ob,h1,h2⟩:=r2.obj b C e' hl;exact⟨ob,h1,h2.mono hle⟩
 · intro a b A C ea eb ha hb hab
   have lt:∀y X,y≠x→(ρ.put x B) y=some X→zF (h.set .dead o x) y≠.dead→X.b<wd.heap.size:=by
    intro y X hy ex hlx;have ex': ρ y=some X:=by simpa [Inj.put,hy] using ex
    rw[zK,if_neg (fun z=>hy z.symm)]at hlx;exact r.lt ex' hlx
   by_cases h1:a=x
   · by_cases h2:b=x
     · rw[h1,h2]
     · have:=lt b C h2 eb hb;subst h1;simp [Inj.put]at ea;subst ea;omega
   · by_cases h2:b=x
     · have:=lt a A h1 ea ha;subst h2;simp [Inj.put]at eb;subst eb;omega
     · rw[zK,if_neg (fun y=>h1 y.symm)]at ha;rw [zK,if_neg (fun y=>h2 y.symm)]at hb;exact r.inj a b A C (by simpa [Inj.put,h1] using ea) (by simpa [Inj.put,h2] using eb) ha hb hab
 · intro g hg;obtain⟨G,e1,e2⟩:=r.glob g hg;exact⟨G,hle _ _ e1,e2⟩
theorem Grow.push{ρ0:Inj}{h0:zB}{n0:Nat}{wd0:World}{ρ : Inj}{h:zB}{n:Nat}{wd:World}(g:Grow ρ0 h0 n0 wd0 ρ h n wd)(o':Obj):Grow ρ0 h0 n0 wd0 ρ h n { wd with heap:=wd.heap.push o' } where
 nn:=g.nn
 old:=g.old
 new:=g.new
 keep c hc hn:=by
  have:=g.size;show(wd.heap.push o')[c]? = _;rw [Array.getElem?_push,if_neg (by omega)];exact g.keep c hc hn
 size:=by have:=g.size;simp;omega
 dead:=g.dead
 tape:=g.tape
theorem Grow.add{ρ0:Inj}{h0:zB}{n0:Nat}{wd0:World}{ρ : Inj}{h:zB}{n:Nat}{wd:World}(g:Grow ρ0 h0 n0 wd0 ρ h n wd){x:Nat}(hx0:n0≤x)(o:AObj)(o':Obj)(B:Bl)(hB:B.b=wd.heap.size) :
 Grow ρ0 h0 n0 wd0 (ρ.put x B) (h.set .dead o x) n { wd with heap:=wd.heap.push o' } where
 nn:=g.nn
 old b hb:=by
  have:b≠x:=by omega
  simp[Inj.put,this];exact g.old b hb
 new b C hb e:=by
  by_cases h1:b=x
  · subst h1;simp [Inj.put]at e;subst e;have:=g.size;exact .inl (by omega)
  · exact g.new b C hb (by simpa [Inj.put,h1] using e)
 keep:=(g.push o').keep
 size:=(g.push o').size
 dead b hb hd:=by rw[zK,if_neg (by omega)];exact g.dead b hb hd
 tape:=g.tape
theorem put_cut_ge{ρ : Inj}{x m:Nat}(B:Bl)(h:m≤x):(ρ.put x B).cut m = ρ.cut m:=by
 funext b
 by_cases hb:b<m
 · rw[yW hb,yW hb];have:b≠x:=by omega
   simp[Inj.put,this]
 · rw[cut_ge (by omega),cut_ge (by omega)]
theorem put_cut_lt{ρ : Inj}{x m:Nat}(B:Bl)(h:x<m):(ρ.put x B).cut m=(ρ.cut m).put x B:=by
 funext b
 by_cases hx:b=x
 · subst hx;rw [yW h];simp [Inj.put]
 · by_cases hb:b<m
   · rw[yW hb];simp [Inj.put,hx,yW hb]
   · rw[cut_ge (by omega)];simp [Inj.put,hx,cut_ge (Nat.le_of_not_lt hb)]
theorem put_cut_succ{ρ : Inj}{x:Nat}(B:Bl):(ρ.put x B).cut (x+1)=(ρ.cut x).put x B:=by
 funext b
 by_cases hx:b=x
 · subst hx;rw [yW (by omega)];simp [Inj.put]
 · by_cases hb:b<x
   · rw[yW (by omega)];simp [Inj.put,hx,yW hb]
   · rw[cut_ge (by omega)];simp [Inj.put,hx,cut_ge (Nat.le_of_not_lt hb)]
theorem early{ρ ρ':Inj}{base:Nat}{w0:World}{H hq h2:zB}{nq n2:Nat}{wd wd':World}
(hp:∀m,nq≤m→HeapR P ng (ρ.cut m) base w0 H m wd)(hn:nq≤n2)(none':∀b,nq≤b→b<n2→ρ b=none)
(hH:∀b B,b<nq→ρ b=some B→zF hq b=zF H b)
(h2':HeapR P ng ρ' base w0 h2 n2 wd')(g:Grow (ρ.cut nq) hq nq wd ρ' h2 n2 wd')
{ρ1:Inj}(r1:∀b,b<n2→ρ1 b = ρ' b)(r2:∀b,n2≤b→ρ1 b = ρ b){H1:zB}(e1:∀b,b<n2→zF H1 b=zF h2 b)(e2:∀b B,n2≤b→ρ b=some B→zF H1 b=zF H b) :
 ρ.le ρ1∧∀m,n2≤m→HeapR P ng (ρ1.cut m) base w0 H1 m wd':=by
 have hle: ρ.le ρ1:=by
  intro b B e;rcases Nat.lt_or_ge b n2 with h|h
  · rcases Nat.lt_or_ge b nq with h'|h'
    · rw[r1 b h,g.old b h',yW h'];exact e
    · rw[none' b h' h]at e;cases e
  · rw[r2 b h];exact e
 have c1: ρ1.cut n2 = ρ':=by
  funext b
  rcases Nat.lt_or_ge b n2 with h|h
  · rw[yW h,r1 b h]
  · rw[cut_ge h,h2'.dom b h]
 refine⟨hle,fun m hm=>?_⟩;have hpm:=hp m (by omega)
 have old:∀b B,n2≤b→b<m→ρ b=some B→zF H b≠.dead→∃o,wd'.heap[B.b]? = some o∧wd.heap[B.b]? = some o∧B.b<wd.heap.size∧ObjR P ng (ρ.cut m) base B (zF H b) o:=by
  intro b B hb hbm e hl;have ec:(ρ.cut m) b=some B:=by rw[yW hbm];exact e
  obtain⟨o,q1,q2⟩:=hpm.obj b B ec hl;have hlt:=hpm.lt ec hl;refine⟨o,?_,q1,hlt,q2⟩;rw [g.keep B.b hlt ?_,q1];intro b' B' e' hl' hbb;obtain⟨l1,e''⟩:=xU e';rw [hH b' B' l1 e'']at hl';have:=hpm.inj b' b B' B (by rw[yW (by omega)];exact e'') ec hl' hl hbb;omega
 have mixed:∀a b A B,a<n2→n2≤b→b<m→ρ' a=some A→zF h2 a≠.dead→ρ b=some B→zF H b≠.dead→A.b≠B.b:=by
  intro a b A B ha hb hbm ea la eb lb hab;obtain⟨_,_,_,hlt,_⟩:=old b B hb hbm eb lb;have ec:(ρ.cut m) b=some B:=by rw[yW hbm];exact eb
  rcases Nat.lt_or_ge a nq with h|h
  · rw[g.old a h,yW h]at ea;have la':zF H a≠.dead:=fun hd=>la (g.dead a h (by rw[hH a A h ea];exact hd));have:=hpm.inj a b A B (by rw[yW (by omega)];exact ea) ec la' lb hab;omega
  · rcases g.new a A h ea with h4|⟨a',A',ha',ea',hab',la'⟩
    · omega
    · obtain⟨_,ea''⟩:=xU ea';rw [hH a' A' ha' ea'']at la';have:=hpm.inj a' b A' B (by rw[yW (by omega)];exact ea'') ec la' lb (hab'.trans hab);omega
 refine⟨fun b hb=>cut_ge hb,?_,?_,h2'.below,h2'.size,?_,by have:=h2'.ngn;omega⟩
 · intro b B e hl;obtain⟨hbm,e⟩:=xU e;rcases Nat.lt_or_ge b n2 with h|h
   · rw[r1 b h]at e;rw [e1 b h]at hl ⊢;obtain⟨o,q1,q2⟩:=h2'.obj b B e hl;refine⟨o,q1,q2.mono ?_⟩;rw [← c1];exact cut_le hm
   · rw[r2 b h]at e;rw [e2 b B h e]at hl ⊢;obtain⟨o,q1,_,_,q2⟩:=old b B h hbm e hl;exact⟨o,q1,q2.mono (cut_mono hle m)⟩
 · intro a b A B ea eb la lb hab;obtain⟨ham,ea⟩:=xU ea;obtain⟨hbm,eb⟩:=xU eb;rcases Nat.lt_or_ge a n2 with h|h
   · rw[r1 a h]at ea;rw [e1 a h]at la;rcases Nat.lt_or_ge b n2 with h'|h'
     · rw[r1 b h']at eb;rw [e1 b h']at lb;exact h2'.inj a b A B ea eb la lb hab
     · rw[r2 b h']at eb;rw [e2 b B h' eb]at lb;exact absurd hab (mixed a b A B h h' hbm ea la eb lb)
   · rw[r2 a h]at ea;rw [e2 a A h ea]at la;rcases Nat.lt_or_ge b n2 with h'|h'
     · rw[r1 b h']at eb;rw [e1 b h']at lb;exact absurd hab.symm (mixed b a B A h' h ham eb lb ea la)
     · rw[r2 b h']at eb;rw [e2 b B h' eb]at lb;exact hpm.inj a b A B (by rw[yW ham];exact ea) (by rw[yW hbm];exact eb) la lb hab
 · intro g' hg;obtain⟨G,q1,q2⟩:=h2'.glob g' hg;have hgn:g'<n2:=by have:=h2'.ngn;omega
   exact⟨G,by rw[yW (by omega),r1 g' hgn];exact q1,q2⟩
theorem Grow.early{ρ0:Inj}{h0:zB}{n0:Nat}{wd0:World}{ρ ρ':Inj}{H hq h2:zB}{nq n2:Nat}{wd wd':World}(hn0:n0≤nq)
(gr:∀m,nq≤m→Grow ρ0 h0 n0 wd0 (ρ.cut m) H m wd)(hn:nq≤n2)
(hH:∀b,b<n0→zF hq b=zF H b)(g:Grow (ρ.cut nq) hq nq wd ρ' h2 n2 wd')
{ρ1:Inj}(r1:∀b,b<n2→ρ1 b = ρ' b)(r2:∀b,n2≤b→ρ1 b = ρ b){H1:zB}(e1:∀b,b<n2→zF H1 b=zF h2 b) :
 ∀m,n2≤m→Grow ρ0 h0 n0 wd0 (ρ1.cut m) H1 m wd':=by
 intro m hm;have t:Grow ρ0 h0 n0 wd0 ρ' h2 n2 wd':=((gr nq (Nat.le_refl _)).congr hH).trans g;refine⟨by omega,fun b hb=>?_,fun b B hb e=>?_,t.keep,t.size,fun b hb hd=>?_,t.tape⟩
 · rw[yW (by omega),r1 b (by omega)];exact t.old b hb
 · obtain⟨hbm,e⟩:=xU e;rcases Nat.lt_or_ge b n2 with h|h
   · rw[r1 b h]at e;exact t.new b B hb e
   · rw[r2 b h]at e;exact(gr m (by omega)).new b B hb (by rw[yW hbm];exact e)
 · rw[e1 b (by omega)];exact t.dead b hb hd
end
end Go.Ex
namespace Go.Ex
section
variable {P:Program} {ng:Nat} {all:Array Oper} {cx:Cx}
theorem wY:∀{A B:List Rec} {t t':Fr} {w w':W},RecsOK P ng all cx (A++B) t w t' w'→∃t1 w1,RecsOK P ng all cx A t w t1 w1∧RecsOK P ng all cx B t1 w1 t' w':=by
 intro A
 induction A with
 | nil=>intro B t t' w w' h;exact⟨t,w,.nil t w,h⟩
 | cons r A ih =>
  intro B t t' w w' h
  cases h with
  | cons h hr=>
   obtain⟨t1,w1,h1,h2⟩:=ih hr;exact⟨t1,w1,.cons h h1,h2⟩
theorem vJ:∀{A B:List Rec} {t t1 t':Fr} {w w1 w':W},RecsOK P ng all cx A t w t1 w1→RecsOK P ng all cx B t1 w1 t' w'→RecsOK P ng all cx (A++B) t w t' w':=by
 intro A
 induction A with
 | nil=>intro B t t1 t' w w1 w' h h';cases h;exact h'
 | cons r A ih=>
  intro B t t1 t' w w1 w' h h'
  cases h with
  | cons h hr=>exact .cons h (ih hr h')
theorem recs_end:∀{A:List Rec} {t t1 t2:Fr} {w w1 w2:W},RecsOK P ng all cx A t w t1 w1→RecsOK P ng all cx A t w t2 w2→w1=w2:=by
 intro A
 induction A with
 | nil=>intro t t1 t2 w w1 w2 h h';cases h;cases h';rfl
 | cons r A ih =>
  intro t t1 t2 w w1 w2 h h'
  cases h with
  | cons h hr=>cases h' with
   | cons h' hr'=>exact ih hr hr'
theorem rec_n{r:Rec}(h:RecOK P ng all cx r):r.w.n≤r.w2.n:=by
 cases h with
 | skip=>exact Nat.le_refl _
 | look=>exact Nat.le_refl _
 | made=>exact Nat.le_succ _
 | act _ _ _ hn=>exact hn
theorem xM:∀{R:List Rec} {t t':Fr} {w w':W},RecsOK P ng all cx R t w t' w'→w.n≤w'.n∧∀r∈R,RecOK P ng all cx r∧w.n≤r.w.n∧r.w2.n≤w'.n:=by
 intro R
 induction R with
 | nil=>intro t t' w w' h;cases h;exact⟨Nat.le_refl _,fun r hr=>by simp at hr⟩
 | cons r R ih =>
  intro t t' w w' h
  cases h with
  | cons h hr=>
   obtain⟨h1,h2⟩:=ih hr;have h3:=rec_n h;refine⟨by omega,fun r' hr'=>?_⟩;rcases List.mem_cons.1 hr' with rfl|hr'
   · exact⟨h,Nat.le_refl _,h1⟩
   · obtain⟨h4,h5,h6⟩:=h2 r' hr';exact⟨h4,by omega,h6⟩
theorem fget_putF(t:Fr)(dst:Option Tmp)(v:Value)(d:Nat):fget (putF t dst v) d=if dst=some d then v else fget t d:=by
 cases dst with
 | none=>rfl
 | some e=>
  unfold putF fget;dsimp only;rw [Tr.get_set_if];by_cases h:e=d
  · subst h;simp
  · rw[if_neg h,if_neg (fun e2=>h (by injection e2))]
theorem recs_slot{d:Nat}:∀{R:List Rec} {t t':Fr} {w w':W},RecsOK P ng all cx R t w t' w'→(∀r∈R,r.x.o.dst≠some d)→fget t' d=fget t d:=by
 intro R
 induction R with
 | nil=>intro t t' w w' h _;cases h;rfl
 | cons r R ih =>
  intro t t' w w' h hd
  cases h with
  | cons h hr=>
   rw[ih hr (fun r' hr'=>hd r' (by simp[hr'])),fget_putF,if_neg (hd r (by simp))]
theorem recs_write{d:Nat}{A B:List Rec}{r:Rec}{t t':Fr}{w w':W}(h:RecsOK P ng all cx (A++r::B) t w t' w')(hr:r.x.o.dst=some d)(hB:∀y∈B,y.x.o.dst≠some d):fget t' d=r.v:=by
 obtain⟨t1,w1,_,h2⟩:=wY h
 cases h2 with
 | cons h hr'=>rw [recs_slot hr' hB,fget_putF,if_pos hr]
end
end Go.Ex
namespace Go.Ex
def Sees(all:Array Oper)(o:Oper)(d:Nat):Prop:=.tmp d∈o.op.operands.toList∨∃g b,o.guard=some (g,b)∧dstOf all g=some d
structure RecPlan (all:Array Oper) (M:Nat→Nat) (D:List DOp):Prop where
 at':∀x∈D,all[x.i]? = some x.o
 kd:∀x∈D,x.kd=zU x.o.op
 bits:∀x∈D,∀b,zW (M x.i) b=true→∃e∈x.o.after.toList,wJ e=true∧(b=e.on∨zW (M e.on) b=true)
 ahead:∀A x B,D=A++x::B→(∀b,zW (M x.i) b=true→∃y∈A,y.i=b)∧(∀y∈A,y.i≠x.i)
 next:∀A S x B,D=A++(S++x::B)→x.kd=3→(∀y∈S,y.kd≠3)→∀y∈S,zW (M x.i) y.i=true
 pair:∀x∈D,∀y∈D,∀d,x.o.dst=some d→(Sees all y.o d∨y.o.dst=some d)→x.i=y.i∨(y.o.dst≠some d∧(zW (M y.i) x.i=true∨zW (M x.i) y.i=true))
 act:∀x∈D,∀y∈D,x.kd=3→y.kd=3→x.i=y.i∨zW (M y.i) x.i=true∨zW (M x.i) y.i=true
 low:∀x∈D,x.low=D.countP fun c=>Nat.beq c.kd 3 && zW (M x.i) c.i
 high:∀x∈D,(D.countP fun c=>Nat.beq c.kd 3 && (!zW (M c.i) x.i && !Nat.beq c.i x.i))≤x.high
section
variable {all:Array Oper} {M:Nat→Nat} {D:List DOp}
theorem RecPlan.later(K:RecPlan all M D){A B C:List DOp}{x y:DOp}(h:D=A++x::(B++y::C)):zW (M x.i) y.i=false∧x.i≠y.i:=by
 obtain⟨h1,h2⟩:=K.ahead A x _ h;obtain⟨_,h4⟩:=K.ahead (A++x::B) y C (by rw[h];simp);refine⟨?_,h4 x (by simp)⟩
 cases e:zW (M x.i) y.i with
 | false=>rfl
 | true=>
  obtain⟨z,hz,ez⟩:=h1 _ e;exact absurd ez (h4 z (by simp[hz]))
end
structure Cfg where
 t0:Fr
 W0:W
 a0:Act
 wd0:World
 cs0:List Frame
 ρ0:Inj
 base:Nat
 w00:World
 b:Frame
 cx:Cx
 t1:Fr
 w1:W
section
variable (P:Program) (ng:Nat) (all:Array Oper) (M:Nat→Nat) (D E:List DOp) (C:Cfg)
structure Inv (pre suf:List Rec) (ts:Fr) (ws:W) (lst:Nat→Prop) (ρ : Inj) (H:zB) (a:Act) (wd:World) (cs:List Frame):Prop where
 dd:D=(pre++suf).map (·.x)++E
 r1:RecsOK P ng all C.cx pre C.t0 C.W0 ts ws
 r2:RecsOK P ng all C.cx suf ts ws C.t1 C.w1
 last:pre=[]∨∃p r,pre=p++[r]∧r.x.kd=3
 pl:∀r∈pre,lst r.x.i
 sl:∀r∈suf,r.x.kd=3→¬lst r.x.i
 only:∀i,lst i→∃r∈pre++suf,r.x.i=i
 closed:∀i,lst i→∀j,zW (M i) j=true→lst j
 in0:In0 P ng (ρ.cut ws.n) C.base C.w00 C.b a wd cs C.cx ws
 hp:∀m,ws.n≤m→HeapR P ng (ρ.cut m) C.base C.w00 H m wd
 gr:∀m,ws.n≤m→Grow C.ρ0 C.W0.h C.W0.n C.wd0 (ρ.cut m) H m wd
 cst:CsTo C.cx.df C.cs0 cs
 hh:∀b,b<ws.n→zF H b=zF ws.h b
 mkd:∀r∈suf,r.x.kd=2→r.sk=false→lst r.x.i→zF H r.w.n=zF r.w2.h r.w.n
 ex:∀b B,ws.n≤b→ρ b=some B→∃r∈suf,r.x.kd=2∧r.sk=false∧lst r.x.i∧r.w.n=b
 val:∀r∈pre++suf,lst r.x.i→∀d,r.x.o.dst=some d→∃v',a.tmps[d]? = some v'∧RV (ρ.cut r.w2.n) r.v v'
 un:∀d,(∀r∈pre++suf,lst r.x.i→r.x.o.dst≠some d)→a.tmps[d]? = C.a0.tmps[d]?
 tm0:TmR (ρ.cut C.W0.n) (ntm P C.cx.fn) C.t0 C.a0.tmps
 sz:a.tmps.size=C.a0.tmps.size
variable {P ng all M D E C}
variable {pre suf:List Rec} {ts:Fr} {ws:W} {lst:Nat→Prop} {ρ : Inj} {H:zB} {a:Act} {wd:World} {cs:List Frame}
theorem Inv.slot(I:Inv P ng all M D E C pre suf ts ws lst ρ H a wd cs)(K:RecPlan all M D){A S:List Rec}{x:DOp}{rest:List DOp}{t:Fr}{w:W}(hs:suf=A++S)
(hD:D=(pre++A).map (·.x)++x::rest)(hA:RecsOK P ng all C.cx A ts ws t w)(hx:¬lst x.i)(hm:∀b,zW (M x.i) b=true→lst b){d:Nat}(hd:Sees all x.o d){v:Value}(hv:a.tmps[d]? = some v) :
 RV (ρ.cut w.n) (fget t d) v:=by
 have hall:RecsOK P ng all C.cx (pre++A) C.t0 C.W0 t w:=vJ I.r1 hA
 have hrest:S.map (·.x)++E=x::rest:=by
  have e:=I.dd;rw [hs,hD,← List.append_assoc,List.map_append (l₁:=pre++A),List.append_assoc]at e;exact(List.append_cancel_left e).symm
 have hxD:x∈D:=by rw[hD];simp
 obtain⟨ha1,ha2⟩:=K.ahead _ x rest hD;by_cases hw:∃y∈pre++A,y.x.o.dst=some d
 · obtain⟨y,hy,hyd⟩:=hw;obtain⟨A1,A2,hsp⟩:=List.append_of_mem hy;have hDy:D=A1.map (·.x)++y.x::(A2.map (·.x)++x::rest):=by rw[hD,hsp];simp
   obtain⟨l1,l2⟩:=K.later hDy
   have hyl:lst y.x.i:=by
    rcases K.pair y.x (by rw[hDy];simp) x hxD d hyd (.inl hd) with h|⟨_,h|h⟩
    · exact absurd h l2
    · exact hm _ h
    · rw[l1]at h;cases h
   obtain⟨v',q1,q2⟩:=I.val y (by rw[hs,← List.append_assoc];exact List.mem_append_left _ hy) hyl d hyd;rw [hv]at q1;injection q1 with q1;subst q1
   rw[hsp]at hall
   have h2:fget t d=y.v:=recs_write hall hyd fun z hz e=>by
    obtain⟨B1,B2,hz2⟩:=List.append_of_mem hz;have hDz:D=A1.map (·.x)++y.x::(B1.map (·.x)++z.x::(B2.map (·.x)++x::rest)):=by rw[hDy,hz2];simp
    obtain⟨_,l4⟩:=K.later hDz;rcases K.pair y.x (by rw[hDz];simp) z.x (by rw[hDz];simp) d hyd (.inr e) with h|⟨h,_⟩
    · exact l4 h
    · exact h e
   rw[h2];have:=((xM hall).2 y (by simp)).2.2;exact q2.mono (cut_le this)
 · have hno:∀r∈pre++A,r.x.o.dst≠some d:=fun r hr e=>hw ⟨r,hr,e⟩;rw [recs_slot hall hno]
   have hun:a.tmps[d]? = C.a0.tmps[d]? :=I.un d fun r hr hl e=>by
    rw[hs,← List.append_assoc]at hr;rcases List.mem_append.1 hr with hr|hr
    · exact hno r hr e
    have hmem:r.x∈x::rest:=by rw[← hrest];exact List.mem_append_left _ (List.mem_map.2 ⟨r,hr,rfl⟩)
    rcases List.mem_cons.1 hmem with h|h
    · rw[h]at hl;exact hx hl
    · obtain⟨B1,B2,hz2⟩:=List.append_of_mem h;have hDz:D=(pre++A).map (·.x)++x::(B1++r.x::B2):=by rw[hD,hz2]
      obtain⟨l3,l4⟩:=K.later hDz;rcases K.pair r.x (by rw[hDz];simp) x hxD d e (.inl hd) with h|⟨_,h|h⟩
      · exact l4 h.symm
      · rw[l3]at h;cases h
      · exact hx (I.closed _ hl _ h)
   rw[hun]at hv;exact(I.tm0.tm d v hv).mono (cut_le (xM hall).1)
theorem Inv.slotD(I:Inv P ng all M D E C pre suf ts ws lst ρ H a wd cs){L:List DOp}(K:RecPlan all M L){A S:List Rec}{x:DOp}{rest:List DOp}{t:Fr}{w:W}(hs:suf=A++S)
(hD:L=(pre++A).map (·.x)++x::rest)(hA:RecsOK P ng all C.cx A ts ws t w)(hS:∀r∈S,r.x∈L∧r.x.i≠x.i∧zW (M x.i) r.x.i=false∧zW (M r.x.i) x.i=false)(hm:∀b,zW (M x.i) b=true→lst b){d:Nat}(hd:Sees all x.o d){v:Value}(hv:a.tmps[d]? = some v) :
 RV (ρ.cut w.n) (fget t d) v:=by
 have hall:RecsOK P ng all C.cx (pre++A) C.t0 C.W0 t w:=vJ I.r1 hA;have hxD:x∈L:=by rw[hD];simp
 by_cases hw:∃y∈pre++A,y.x.o.dst=some d
 · obtain⟨y,hy,hyd⟩:=hw;obtain⟨A1,A2,hsp⟩:=List.append_of_mem hy;have hDy:L=A1.map (·.x)++y.x::(A2.map (·.x)++x::rest):=by rw[hD,hsp];simp
   obtain⟨l1,l2⟩:=K.later hDy
   have hyl:lst y.x.i:=by
    rcases K.pair y.x (by rw[hDy];simp) x hxD d hyd (.inl hd) with h|⟨_,h|h⟩
    · exact absurd h l2
    · exact hm _ h
    · rw[l1]at h;cases h
   obtain⟨v',q1,q2⟩:=I.val y (by rw[hs,← List.append_assoc];exact List.mem_append_left _ hy) hyl d hyd;rw [hv]at q1;injection q1 with q1;subst q1
   rw[hsp]at hall
   have h2:fget t d=y.v:=recs_write hall hyd fun z hz e=>by
    obtain⟨B1,B2,hz2⟩:=List.append_of_mem hz;have hDz:L=A1.map (·.x)++y.x::(B1.map (·.x)++z.x::(B2.map (·.x)++x::rest)):=by rw[hDy,hz2];simp
    obtain⟨_,l4⟩:=K.later hDz;rcases K.pair y.x (by rw[hDz];simp) z.x (by rw[hDz];simp) d hyd (.inr e) with h|⟨h,_⟩
    · exact l4 h
    · exact h e
   rw[h2];have:=((xM hall).2 y (by simp)).2.2;exact q2.mono (cut_le this)
 · have hno:∀r∈pre++A,r.x.o.dst≠some d:=fun r hr e=>hw ⟨r,hr,e⟩;rw [recs_slot hall hno]
   have hun:a.tmps[d]? = C.a0.tmps[d]? :=I.un d fun r hr hl e=>by
    rw[hs,← List.append_assoc]at hr;rcases List.mem_append.1 hr with hr|hr
    · exact hno r hr e
    obtain⟨s1,s2,s3,s4⟩:=hS r hr;rcases K.pair r.x s1 x hxD d e (.inl hd) with h|⟨_,h|h⟩
    · exact s2 h
    · rw[s3]at h;cases h
    · rw[s4]at h;cases h
   rw[hun]at hv;exact(I.tm0.tm d v hv).mono (cut_le (xM hall).1)
theorem ev_one{N m:Nat}{h:zB}(hH:HeapR P ng ρ C.base C.w00 h m wd){t:Fr}{x:Operand}(hx:opnOK ng N x=true)(hN:N≤a.tmps.size)(hs:∀d,x = .tmp d→∀v,a.tmps[d]? = some v→RV ρ (fget t d) v):RV ρ (ev t x) (a.eval x):=by
 cases x with
 | tmp i=>
  have hi:i<N:=zY hx;have hlt:i<a.tmps.size:=Nat.lt_of_lt_of_le hi hN;have h:=hs i rfl a.tmps[i] (Array.getElem?_eq_getElem hlt);show RV ρ (fget t i) (a.tmps.getD i undef);rw [Array.getD,dif_pos hlt];exact h
 | const v=>exact RV.plain hx ρ
 | global g=>
  obtain⟨B,e1,e2⟩:=hH.glob g (zY hx);have:=RV.ptr (o:=0) e1;rw [e2]at this;exact this
 | func f=>exact .func (by intro l;exact Fn.noConfusion) rfl rfl (by intro i v v' e;simp at e) (by intro i v v' e;simp at e)
theorem Inv.looks(I:Inv P ng all M D E C pre suf ts ws lst ρ H a wd cs)(K:RecPlan all M D)(hc:∀o∈all.toList,vD ng (ntm P C.cx.fn) o=true){A S:List Rec}{x:DOp}{rest:List DOp}{t:Fr}{w:W}(hs:suf=A++S)
(hD:D=(pre++A).map (·.x)++x::rest)(hA:RecsOK P ng all C.cx A ts ws t w)(hx:¬lst x.i)(hm:∀b,zW (M x.i) b=true→lst b) :
 OpsR (ρ.cut w.n) t a x.o∧Region.wanted x.o (yielded all a.tmps)=wanted all t x.o.guard:=by
 have hall:RecsOK P ng all C.cx (pre++A) C.t0 C.W0 t w:=vJ I.r1 hA;have hwn:ws.n≤w.n:=(xM hA).1;have hxD:x∈D:=by rw[hD];simp
 have hmem:∀{g:Nat} {o:Oper},all[g]? = some o→o∈all.toList:=fun ho=>by rw[← Array.getElem?_toList]at ho;exact List.mem_iff_getElem?.2 ⟨_,ho⟩
 have hN:ntm P C.cx.fn≤a.tmps.size:=by rw[I.sz];exact I.tm0.le
 refine⟨fun y hy=>?_,wanted_ok fun g q hg d hd=>?_⟩
 · refine ev_one (I.hp w.n hwn) (List.all_eq_true.1 (Bool.and_eq_true_iff.1 (hc x.o (hmem (K.at' x hxD)))).1 y hy) hN fun d e v hv=>?_;subst e;exact I.slot K hs hD hA hx hm (.inl hy) hv
 · have hlt:d<ntm P C.cx.fn:=by
    unfold dstOf at hd
    cases ho:all[g]? with
    | none=>rw [ho]at hd;cases hd
    | some og=>
     rw[ho]at hd;have:=(Bool.and_eq_true_iff.1 (hc og (hmem ho))).2;dsimp only at hd;rw [hd]at this;exact zY this
   have hlt2:d<a.tmps.size:=Nat.lt_of_lt_of_le hlt hN;have e1:=Array.getElem?_eq_getElem hlt2;exact⟨a.tmps[d],e1,(I.slot K hs hD hA hx hm (.inr ⟨g,q,hg,hd⟩) e1).boolOf⟩
theorem Inv.looksD(I:Inv P ng all M D E C pre suf ts ws lst ρ H a wd cs){L:List DOp}(K:RecPlan all M L)(hc:∀o∈all.toList,vD ng (ntm P C.cx.fn) o=true){A S:List Rec}{x:DOp}{rest:List DOp}{t:Fr}{w:W}(hs:suf=A++S)
(hD:L=(pre++A).map (·.x)++x::rest)(hA:RecsOK P ng all C.cx A ts ws t w)(hS:∀r∈S,r.x∈L∧r.x.i≠x.i∧zW (M x.i) r.x.i=false∧zW (M r.x.i) x.i=false)(hm:∀b,zW (M x.i) b=true→lst b) :
 OpsR (ρ.cut w.n) t a x.o∧Region.wanted x.o (yielded all a.tmps)=wanted all t x.o.guard:=by
 have hall:RecsOK P ng all C.cx (pre++A) C.t0 C.W0 t w:=vJ I.r1 hA;have hwn:ws.n≤w.n:=(xM hA).1;have hxD:x∈L:=by rw[hD];simp
 have hmem:∀{g:Nat} {o:Oper},all[g]? = some o→o∈all.toList:=fun ho=>by rw[← Array.getElem?_toList]at ho;exact List.mem_iff_getElem?.2 ⟨_,ho⟩
 have hN:ntm P C.cx.fn≤a.tmps.size:=by rw[I.sz];exact I.tm0.le
 refine⟨fun y hy=>?_,wanted_ok fun g q hg d hd=>?_⟩
 · refine ev_one (I.hp w.n hwn) (List.all_eq_true.1 (Bool.and_eq_true_iff.1 (hc x.o (hmem (K.at' x hxD)))).1 y hy) hN fun d e v hv=>?_;subst e;exact I.slotD K hs hD hA hS hm (.inl hy) hv
 · have hlt:d<ntm P C.cx.fn:=by
    unfold dstOf at hd
    cases ho:all[g]? with
    | none=>rw [ho]at hd;cases hd
    | some og=>
     rw[ho]at hd;have:=(Bool.and_eq_true_iff.1 (hc og (hmem ho))).2;dsimp only at hd;rw [hd]at this;exact zY this
   have hlt2:d<a.tmps.size:=Nat.lt_of_lt_of_le hlt hN;have e1:=Array.getElem?_eq_getElem hlt2;exact⟨a.tmps[d],e1,(I.slotD K hs hD hA hS hm (.inr ⟨g,q,hg,hd⟩) e1).boolOf⟩
end
end Go.Ex
