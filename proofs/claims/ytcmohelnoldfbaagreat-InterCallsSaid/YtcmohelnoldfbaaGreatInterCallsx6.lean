/- What the law leans on: an executor of the model that is sound, deduction over it, and the walks through the code (part 6 of 13). Conditions: those that each theorem states. -/
import Derived.Test.YtcmohelnoldfbaaGreatInterCallsx5

set_option linter.unusedVariables false
set_option linter.unusedSimpArgs false
namespace Go.Ex
section
variable {P:Program} {ng:Nat}
def DrawOK(P:Program)(ng:Nat):Prop:=
 ∀lo,Sound P ng lo→∀id ops cx t w k,xcode P lo (.region id ops true) cx t w k=true→∃x t' w',k x t' w'=true∧CodeTo P ng (.region id ops true) cx t w x t' w'
theorem sound_next(hD:DrawOK P ng)(hP:zU ng P=true){lo:Lo}(hS:Sound P ng lo):Sound P ng (Lo.next P lo) where
 code c cx t w k h:=xcode_ok hS (fun id ops draw cx t w k h=>by
  cases draw with
  | true=>exact hD lo hS id ops cx t w k h
  | false=>exact region_ok hP hS id ops cx t w k h) (fun f params asg body cx t w k h=>xrangeFunc_ok hS f params asg body cx t w k h) c cx t w k h
 call _ _ _ _ _ _ _ h:=xcall_ok hP hS h
 round _ _ _ _ _ h:=xround_ok hP hS h
 leave _ _ _ _ _ h:=xleave_ok hP hS h
theorem sound_run(hD:DrawOK P ng)(hP:zU ng P=true):∀fuel,Sound P ng (run P fuel):=by
 intro fuel
 induction fuel with
 | zero=>exact sound_bot
 | succ n ih=>exact sound_next hD hP ih
def EndR(ρ : Inj):Out→Ending→Prop
 | .ret v,.returned v'=>RV ρ v v'
 | .panic c,.panicked c'=>ChR ρ c c'
 | _,_=>False
theorem calls_of{lo:Lo}(hS:Sound P ng lo){f:FuncId}{args:List Value}{h:zB}{n:Nat}{fin:KO}(hx:lo.call f args false none h n fin=true) :
 ∃o u' h' n',fin o u' h' n'=true∧∀(ρ : Inj) (base:Nat) (w0 w:World) (args':List Value),HeapR P ng ρ base w0 h n w→RVs ρ args args'→
  Calls P f ⟨args'⟩ w fun e w'=>∃ρ',HeapR P ng ρ' base w0 h' n' w'∧Grow ρ h n w ρ' h' n' w'∧EndR ρ' o e:=by
 obtain⟨o,u',h',n',hk,_,hc⟩:=hS.call _ _ _ _ _ _ _ hx;refine⟨o,u',h',n',hk,fun ρ base w0 w args' hH ha cs=>?_⟩;obtain⟨ρ',wd',fr,cs',s1,s2,s3,s4,s5,s6,s7⟩:=hc ρ base w0 w args' cs hH ha (fun e=>by cases e)
 have hcs:cs'=cs:=by
  rcases s4 with e|⟨e,_⟩
  · exact e
  · cases e
 subst hcs
 cases o with
 | ret v=>
  obtain⟨v',y1,y2,y3,y4,y5⟩:=s7;exact⟨.returned v',wd',fr,⟨ρ',s2,s3,y5⟩,s1,s6,y1,y2,y3,y4⟩
 | panic c=>
  obtain⟨c',y1,y2,y3,y4⟩:=s7;exact⟨.panicked c',wd',fr,⟨ρ',s2,s3,y4⟩,s1,s6,y1,y2,y3⟩
end
end Go.Ex
namespace Go.Ex
theorem bitB_eq(m i:Nat):zN m i=m.testBit i:=by
 unfold zN;show Nat.beq (Nat.land (Nat.shiftRight m i) 1) 1=_;rw [Nat.testBit];show Nat.beq ((m >>> i) &&& 1) 1=(1 &&& (m >>> i) != 0);rw [Nat.and_comm]
 have h:1 &&& (m >>> i)=0∨1 &&& (m >>> i)=1:=by
  have:=Nat.and_le_left (n:=1) (m:=m >>> i);omega
 rcases h with h|h <;> rw[h] <;> rfl
theorem lor_bit(a b i:Nat):zN (Nat.lor a b) i=(zN a i || zN b i):=by
 simp only[bitB_eq];exact Nat.testBit_or a b i
theorem one_bit(j i:Nat):zN (Nat.shiftLeft 1 j) i=Nat.beq j i:=by
 rw[bitB_eq];show(1 <<< j).testBit i=_;rw [Nat.one_shiftLeft,Nat.testBit_two_pow];by_cases h:j=i
 · subst h;simp
 · have:Nat.beq j i=false:=by
    cases e:Nat.beq j i with
    | false=>rfl
    | true=>exact absurd (zD e) h
   rw[this];simp [h]
theorem land_sub{a b i:Nat}(h:Nat.beq (Nat.land a b) a=true)(hi:zN a i=true):zN b i=true:=by
 have h:=zD h;rw [bitB_eq]at hi ⊢
 have:(a &&& b).testBit i=a.testBit i:=by
  have h:a &&& b=a:=h;rw [h]
 rw[Nat.testBit_and,hi]at this;simpa using this
def xQ(e:Edge):Bool:=Region.binds .any e
theorem edgesMask_ok{acc:Tr Nat}{j:Nat}:∀{es:List Edge} {m0 m:Nat},xU acc j es m0=some m→
 (∀b,zN m b=true→zN m0 b=true∨∃e∈es,xQ e=true∧(b=e.on∨zN (Tr.get 0 acc e.on) b=true))∧(∀e∈es,xQ e=true→e.on<j):=by
 intro es
 induction es with
 | nil=>
  intro m0 m h;simp only[xU]at h;injection h with h;subst h
  exact⟨fun b hb=>.inl hb,fun e he=>by simp at he⟩
 | cons e es ih =>
  intro m0 m h
  have skip:xQ e=false→xU acc j es m0=some m→_:=fun ha h=>(show(∀b,zN m b=true→zN m0 b=true∨∃e'∈e::es,xQ e'=true∧(b=e'.on∨zN (Tr.get 0 acc e'.on) b=true))∧(∀e'∈e::es,xQ e'=true→e'.on<j) from
   have⟨h1,h2⟩:=ih h
   ⟨fun b hb=>(h1 b hb).imp id fun⟨e',m1,m2⟩=>⟨e',by simp[m1],m2⟩,fun e' he ha'=>by
    rcases List.mem_cons.1 he with rfl|he
    · rw[ha]at ha';cases ha'
    · exact h2 e' he ha'⟩)
  have take:xQ e=true→(Bool.rec none (xU acc j es (Nat.lor m0 (Nat.lor (Nat.shiftLeft 1 e.on) (Tr.get 0 acc e.on)))) (Nat.blt e.on j):Option Nat)=some m→
   (∀b,zN m b=true→zN m0 b=true∨∃e'∈e::es,xQ e'=true∧(b=e'.on∨zN (Tr.get 0 acc e'.on) b=true))∧(∀e'∈e::es,xQ e'=true→e'.on<j):=by
   intro ha h
   cases hj:Nat.blt e.on j with
   | false=>rw [hj]at h;cases h
   | true=>
    rw[hj]at h;obtain⟨h1,h2⟩:=ih h;refine⟨fun b hb=>?_,fun e' he ha'=>?_⟩
    · rcases h1 b hb with h3|⟨e',m1,m2⟩
      · rw[lor_bit,lor_bit,one_bit]at h3;simp only[Bool.or_eq_true]at h3;rcases h3 with h3|h3|h3
        · exact .inl h3
        · exact .inr ⟨e,by simp,ha,.inl (zD h3).symm⟩
        · exact .inr ⟨e,by simp,ha,.inr h3⟩
      · exact .inr ⟨e',by simp[m1],m2⟩
    · rcases List.mem_cons.1 he with rfl|he
      · exact zS hj
      · exact h2 e' he ha'
  simp only[xU]at h;unfold xQ Region.binds at skip take;cases hg:e.ground <;> rw[hg]at h skip take <;> first|exact take rfl h|exact skip rfl h
theorem tmpMask_ok:∀{xs:List Operand} {m0 b:Nat},(zN m0 b=true∨.tmp b∈xs)→zN (tmpMask xs m0) b=true:=by
 intro xs
 induction xs with
 | nil=>intro m0 b h;rcases h with h|h;(· exact h);(· simp at h)
 | cons x xs ih=>
  intro m0 b h;simp only[tmpMask];apply ih;rcases h with h|h
  · left
    cases x with
    | tmp t=>show zN (Nat.lor m0 (Nat.shiftLeft 1 t)) b=true;rw [lor_bit,h];rfl
    | const v=>exact h
    | global g=>exact h
    | func f=>exact h
  · rcases List.mem_cons.1 h with rfl|h
    · left
      show zN (Nat.lor m0 (Nat.shiftLeft 1 b)) b=true;rw [lor_bit,one_bit,Nat.beq_refl,Bool.or_true]
    · exact .inr h
structure XOK (all:Array Oper) (M:Nat→Nat) (x:XOp):Prop where
 kd:x.kd=zK x.o.op
 ds:x.ds=dstMask x.o.dst
 m:x.m=M x.i
 bits:∀b,zN x.m b=true→∃e∈x.o.after.toList,xQ e=true∧(b=e.on∨zN (M e.on) b=true)
 on:∀e∈x.o.after.toList,xQ e=true→e.on<x.i
 lk:∀t,.tmp t∈x.o.op.operands.toList→zN x.lk t=true
 glk:∀g b d,x.o.guard=some (g,b)→dstOf all g=some d→zN x.lk d=true
 ga:∀g b,x.o.guard=some (g,b)→zN x.m g=true
theorem xlist_ok{all:Array Oper}:∀{l:List Oper} {j:Nat} {acc:Tr Nat} {xl:List XOp},xlist all l j acc=some xl→
 ∃M:Nat→Nat,(∀k,k<j→M k=Tr.get 0 acc k)∧xl.length=l.length∧∀q o,l[q]? = some o→∃x,xl[q]? = some x∧x.o=o∧x.i=j+q∧XOK all M x:=by
 intro l
 induction l with
 | nil=>
  intro j acc xl h;simp only[xlist]at h;injection h with h;subst h
  exact⟨fun k=>Tr.get 0 acc k,fun _ _=>rfl,rfl,fun q o h=>by simp at h⟩
 | cons o l ih =>
  intro j acc xl h;simp only[xlist]at h
  cases hm:xU acc j o.after.toList 0 with
  | none=>rw [hm]at h;cases h
  | some m=>
   rw[hm]at h;dsimp only at h;split at h
   · cases h
   · rename_i gm hgm
     cases hr:xlist all l (Nat.succ j) (Tr.set 0 m acc j) with
     | none=>rw [hr]at h;cases h
     | some xl' =>
      rw[hr]at h;injection h with h;subst h
      obtain⟨M,h1,h2,h3⟩:=ih hr;obtain⟨e1,e2⟩:=edgesMask_ok hm;have hMj:M j=m:=by rw[h1 j (Nat.lt_succ_self j),Tr.get_set_if,if_pos rfl]
      have hMk:∀k,k<j→M k=Tr.get 0 acc k:=by
       intro k hk;rw [h1 k (Nat.lt_succ_of_lt hk),Tr.get_set_if,if_neg (by omega)]
      refine⟨M,hMk,by simp[h2],fun q o' hq=>?_⟩
      cases q with
      | succ q=>
       obtain⟨x,f1,f2,f3,f4⟩:=h3 q o' (by simpa using hq);exact⟨x,by simpa using f1,f2,by omega,f4⟩
      | zero=>
       simp at hq;subst hq;refine⟨_,rfl,rfl,rfl,rfl,rfl,hMj.symm,fun b hb=>?_,e2,fun t ht=>tmpMask_ok (.inr ht),fun g b d hg hd=>?_,fun g b hg=>?_⟩
       · rcases e1 b hb with h4|⟨e,q1,q2,q3⟩
         · rw[bitB_eq,Nat.zero_testBit]at h4;cases h4
         · exact⟨e,q1,q2,q3.imp id fun h5=>by rw[hMk _ (e2 e q1 q2)];exact h5⟩
       · apply tmpMask_ok;left
         rw[hg]at hgm;dsimp only at hgm
         cases hb:zN m g with
         | false=>rw [hb]at hgm;cases hgm
         | true=>
          rw[hb]at hgm;injection hgm with hgm
          rw[← hgm,hd];show zN (Nat.shiftLeft 1 d) d=true;rw [one_bit,Nat.beq_refl]
       · rw[hg]at hgm;dsimp only at hgm
         cases hb:zN m g with
         | false=>rw [hb]at hgm;cases hgm
         | true=>rfl
end Go.Ex
namespace Go.Ex
theorem sigB_head{x:XOp}{r:List XOp}{sm pm:Nat}(h:sigB (x::r) sm pm=true) :
 (∀b,zN x.m b=true→zN sm b=true)∧zN sm x.i=false∧
 (x.kd=3→(∀b,zN pm b=true→zN x.m b=true)∧sigB r (Nat.lor sm (Nat.shiftLeft 1 x.i)) 0=true)∧
 (x.kd≠3→sigB r (Nat.lor sm (Nat.shiftLeft 1 x.i)) (Nat.lor pm (Nat.shiftLeft 1 x.i))=true):=by
 simp only[sigB]at h
 cases h1:Nat.beq (Nat.land x.m sm) x.m with
 | false=>rw [h1]at h;cases h
 | true =>
  rw[h1]at h;dsimp only at h
  cases h2:zN sm x.i with
  | true=>rw [h2]at h;cases h
  | false=>
   rw[h2]at h;dsimp only at h;refine⟨fun b hb=>land_sub h1 hb,rfl,fun hk=>?_,fun hk=>?_⟩
   · rw[hk]at h;have h:(Bool.rec false (sigB r (Nat.lor sm (Nat.shiftLeft 1 x.i)) 0) (Nat.beq (Nat.land x.m pm) pm):Bool)=true:=h
     cases h3:Nat.beq (Nat.land x.m pm) pm with
     | false=>rw [h3]at h;cases h
     | true =>
      rw[h3]at h;refine⟨fun b hb=>?_,h⟩
      have e:Nat.land pm x.m=pm:=by
       have:=zD h3;show pm &&& x.m=pm;rw [Nat.and_comm];exact this
      exact land_sub (a:=pm) (by rw[e];exact Nat.beq_refl pm) hb
   · have hk':Nat.beq x.kd 3=false:=by
      cases e:Nat.beq x.kd 3 with
      | false=>rfl
      | true=>exact absurd (zD e) hk
     rw[hk']at h;exact h
theorem sigB_app:∀{pre rest:List XOp} {sm pm:Nat},sigB (pre++rest) sm pm=true→
 ∃sm' pm',sigB rest sm' pm'=true∧(∀b,zN sm' b=true↔(zN sm b=true∨∃y∈pre,y.i=b))∧
  ((∀y∈pre,y.kd≠3)→∀b,(zN pm b=true∨∃y∈pre,y.i=b)→zN pm' b=true):=by
 intro pre
 induction pre with
 | nil=>intro rest sm pm h;exact⟨sm,pm,h,fun b=>by simp,fun _ b hb=>by simpa using hb⟩
 | cons x pre ih =>
  intro rest sm pm h;obtain⟨_,_,h3,h4⟩:=sigB_head h
  have bits:∀{m b},zN (Nat.lor m (Nat.shiftLeft 1 x.i)) b=true↔(zN m b=true∨x.i=b):=by
   intro m b;rw [lor_bit,one_bit,Bool.or_eq_true];exact⟨fun h=>h.imp id zD,fun h=>h.imp id fun e=>by rw[e];exact Nat.beq_refl b⟩
  have key:∀{pm2},sigB (pre++rest) (Nat.lor sm (Nat.shiftLeft 1 x.i)) pm2=true→(x.kd≠3→pm2=Nat.lor pm (Nat.shiftLeft 1 x.i))→
   ∃sm' pm',sigB rest sm' pm'=true∧(∀b,zN sm' b=true↔(zN sm b=true∨∃y∈x::pre,y.i=b))∧
    ((∀y∈x::pre,y.kd≠3)→∀b,(zN pm b=true∨∃y∈x::pre,y.i=b)→zN pm' b=true):=by
   intro pm2 hs hp;obtain⟨sm',pm',a1,a2,a3⟩:=ih hs;refine⟨sm',pm',a1,fun b=>?_,fun hall b hb=>?_⟩
   · rw[a2,bits];simp only[List.mem_cons];constructor
     · rintro ((h|h)|⟨y,h1,h2⟩)
       · exact .inl h
       · exact .inr ⟨x,.inl rfl,h⟩
       · exact .inr ⟨y,.inr h1,h2⟩
     · rintro (h|⟨y,rfl|h1,h2⟩)
       · exact .inl (.inl h)
       · exact .inl (.inr h2)
       · exact .inr ⟨y,h1,h2⟩
   · have e:=hp (hall x (by simp));refine a3 (fun y hy=>hall y (by simp[hy])) b ?_;rw [e,bits];rcases hb with h|⟨y,h1,h2⟩
     · exact .inl (.inl h)
     · rcases List.mem_cons.1 h1 with rfl|h1
       · exact .inl (.inr h2)
       · exact .inr ⟨y,h1,h2⟩
  by_cases hk:x.kd=3
  · exact key (h3 hk).2 (fun e=>absurd hk e)
  · exact key (h4 hk) (fun _=>rfl)
theorem sig_ord{pre post:List XOp}{x:XOp}(h:sigB (pre++x::post) 0 0=true):(∀b,zN x.m b=true→∃y∈pre,y.i=b)∧(∀y∈pre,y.i≠x.i):=by
 obtain⟨sm,pm,h1,h2,_⟩:=sigB_app h;obtain⟨h3,h4,_,_⟩:=sigB_head h1;have z:∀b,¬zN 0 b=true:=fun b e=>by rw[bitB_eq,Nat.zero_testBit]at e;cases e
 refine⟨fun b hb=>((h2 b).1 (h3 b hb)).resolve_left (z b),fun y hy e=>?_⟩;have:=(h2 x.i).2 (.inr ⟨y,hy,e⟩);rw [h4]at this;cases this
theorem sig_next{pre seg post:List XOp}{c:XOp}(h:sigB (pre++(seg++c::post)) 0 0=true)(hc:c.kd=3)(hs:∀y∈seg,y.kd≠3):∀y∈seg,zN c.m y.i=true:=by
 obtain⟨sm,pm,h1,_,_⟩:=sigB_app h;obtain⟨sm2,pm2,h2,_,h3⟩:=sigB_app h1;obtain⟨_,_,h4,_⟩:=sigB_head h2;exact fun y hy=>(h4 hc).1 _ (h3 hs _ (.inr ⟨y,hy,rfl⟩))
end Go.Ex
namespace Go.Ex
theorem allB_ok{α : Type}{f: α→Bool}:∀{l:List α},allB f l=true→∀x∈l,f x=true:=by
 intro l
 induction l with
 | nil=>intro _ x hx;simp at hx
 | cons y l ih =>
  intro h x hx;have h':(Bool.rec false (allB f l) (f y):Bool)=true:=h
  cases hf:f y with
  | false=>rw [hf]at h';cases h'
  | true=>
   rw[hf]at h';rcases List.mem_cons.1 hx with rfl|hx
   · exact hf
   · exact ih h' x hx
theorem sigmaFrom_mem:∀{acts rest:List XOp} {x:XOp},x∈wO rest acts→x∈rest∨x∈acts:=by
 intro acts
 induction acts with
 | nil=>intro rest x h;exact .inl h
 | cons c cs ih=>
  intro rest x h;simp only[wO,List.mem_append,List.mem_cons,List.mem_filter]at h;rcases h with⟨h,_⟩|rfl|h
  · exact .inl h
  · exact .inr (by simp)
  · rcases ih h with h|h
    · exact .inl (List.mem_filter.1 h).1
    · exact .inr (by simp[h])
structure PlanOK (ops:Array Oper) (M:Nat→Nat) (xl S:List XOp):Prop where
 at':∀x∈xl,ops[x.i]? = some x.o
 ok:∀x∈xl,XOK ops M x
 cov:∀i,i<ops.size→∃x∈xl,x.i=i
 sub:∀x∈S,x∈xl
 sig:sigB S 0 0=true
 len:S.length=ops.size
 pair:∀x∈xl,∀y∈xl,∀d,x.o.dst=some d→(zN y.lk d=true∨y.o.dst=some d)→x.i=y.i∨(y.o.dst≠some d∧(zN y.m x.i=true∨zN x.m y.i=true))
 act:∀x∈xl,∀y∈xl,x.kd=3→y.kd=3→x.i=y.i∨zN y.m x.i=true∨zN x.m y.i=true
 tr:∀x∈xl,∀y∈xl,zN x.m y.i=true→∀b,zN y.m b=true→zN x.m b=true
theorem dst_bit{o:Option Tmp}{d:Nat}:zN (dstMask o) d=true↔o=some d:=by
 cases o with
 | none=>
  show zN 0 d=true↔_;rw [bitB_eq,Nat.zero_testBit];simp
 | some t=>
  show zN (Nat.shiftLeft 1 t) d=true↔_;rw [one_bit];exact⟨fun h=>by rw[zD h],fun h=>by injection h with h;rw [h];exact Nat.beq_refl d⟩
theorem land_zero{a b d:Nat}(h:Nat.beq (Nat.land a b) 0=true)(ha:zN a d=true):zN b d=false:=by
 have h:a &&& b=0:=zD h;rw [bitB_eq]at ha ⊢;have:(a &&& b).testBit d=false:=by rw[h,Nat.zero_testBit]
 rw[Nat.testBit_and,ha]at this;simpa using this
theorem plan_ok{ops:Array Oper}{L:List DOp}(h:plan ops=some L) :
 ∃M xl S,PlanOK ops M xl S∧L=S.map (dopOf xl (S.filter fun x=>Nat.beq x.kd 3)):=by
 unfold plan at h
 cases hx:xlist ops ops.toList 0 .lF with
 | none=>rw [hx]at h;cases h
 | some xl =>
  rw[hx]at h;dsimp only at h;obtain⟨M,_,hlen,hat⟩:=xlist_ok hx;generalize hA:xl.filter (fun x=>Nat.beq x.kd 3)=acts at h
  unfold planOf at h
  cases hc:(pairsOK xl && actsOK acts && Nat.beq (wO xl acts).length ops.toList.length && sigB (wO xl acts) 0 0 && transOK xl) with
  | false=>rw [hc]at h;cases h
  | true =>
   rw[hc]at h;dsimp only[cond]at h;injection h with h
   simp only[Bool.and_eq_true]at hc;obtain⟨⟨⟨⟨c1,c2⟩,c3⟩,c4⟩,c5⟩:=hc
   have hact:∀x,x∈acts→x∈xl∧x.kd=3:=by
    intro x hx;rw [← hA]at hx;obtain⟨h1,h2⟩:=List.mem_filter.1 hx;exact⟨h1,zD h2⟩
   have hmem:∀x∈wO xl acts,x∈xl:=by
    intro x hx;rcases sigmaFrom_mem hx with h|h
    · exact h
    · exact(hact x h).1
   have hxl:∀x∈xl,ops[x.i]? = some x.o∧XOK ops M x:=by
    intro x hx;obtain⟨q,hq⟩:=List.mem_iff_getElem?.1 hx
    have hlt:q<ops.toList.length:=by
     rcases Nat.lt_or_ge q xl.length with h5|h5
     · omega
     · rw[List.getElem?_eq_none h5]at hq;cases hq
    obtain⟨x',f1,f2,f3,f4⟩:=hat q _ (List.getElem?_eq_getElem hlt);rw [hq]at f1;injection f1 with f1;subst f1
    refine⟨?_,f4⟩;rw [f3,Nat.zero_add,f2,← Array.getElem?_toList];exact List.getElem?_eq_getElem hlt
   have hcov:∀i,i<ops.size→∃x∈xl,x.i=i:=by
    intro i hi;obtain⟨x',f1,_,f3,_⟩:=hat i _ (List.getElem?_eq_getElem (by simpa using hi));exact⟨x',List.mem_iff_getElem?.2 ⟨i,f1⟩,by omega⟩
   refine⟨M,xl,wO xl acts,⟨fun x hx=>(hxl x hx).1,fun x hx=>(hxl x hx).2,hcov,hmem,c4,by simpa using zD c3,?_,?_,fun x hx y hy hb b h2=>by
    have h3:=allB_ok (allB_ok c5 x hx) y hy;have h4:(Bool.rec true (Nat.beq (Nat.land y.m x.m) y.m) (zN x.m y.i):Bool)=true:=h3;rw [hb]at h4;exact land_sub h4 h2⟩,h.symm⟩
   · intro x hx y hy d hd hl;have kx:=(hxl x hx).2;have ky:=(hxl y hy).2;have dx:zN x.ds d=true:=by rw[kx.ds];exact dst_bit.2 hd
     have dy:zN (Nat.lor y.lk y.ds) d=true:=by
      rw[lor_bit,Bool.or_eq_true];exact hl.imp id fun h=>by rw[ky.ds];exact dst_bit.2 h
     have hne:Nat.beq x.ds 0=false:=by
      cases e:Nat.beq x.ds 0 with
      | false=>rfl
      | true=>
       rw[zD e,bitB_eq,Nat.zero_testBit]at dx;cases dx
     have hp:=allB_ok (allB_ok c1 x (List.mem_filter.2 ⟨hx,by rw[hne];rfl⟩)) y hy;unfold pairOK at hp
     cases e:Nat.beq (Nat.land x.ds (Nat.lor y.lk y.ds)) 0 with
     | true=>
      have:=land_zero e dx;rw [dy]at this;cases this
     | false=>
      rw[e]at hp;have hp:(Nat.beq x.i y.i || (Nat.beq (Nat.land x.ds y.ds) 0 && (zN y.m x.i || zN x.m y.i)))=true:=hp;simp only[Bool.or_eq_true,Bool.and_eq_true]at hp;rcases hp with hp|⟨hp1,hp2⟩
      · exact .inl (zD hp)
      · refine .inr ⟨fun e2=>?_,hp2⟩;have:=land_zero hp1 dx;rw [ky.ds,dst_bit.2 e2]at this;cases this
   · intro x hx y hy kx ky;have mx:x∈acts:=by rw[← hA];exact List.mem_filter.2 ⟨hx,by rw[kx];rfl⟩
     have my:y∈acts:=by rw[← hA];exact List.mem_filter.2 ⟨hy,by rw[ky];rfl⟩
     have:=allB_ok (allB_ok c2 x mx) y my;simp only[Bool.or_eq_true]at this;rcases this with(h|h)|h
     · exact .inl (zD h)
     · exact .inr (.inl h)
     · exact .inr (.inr h)
end Go.Ex
namespace Go.Ex
structure Rec where
 x:DOp
 t:Fr
 w:W
 sk:Bool
 v:Value
 w2:W
section
variable (P:Program) (ng:Nat) (all:Array Oper) (cx:Cx)
inductive RecOK:Rec→Prop
 | skip {x:DOp} {t:Fr} {w:W} (hw:wanted all t x.o.guard=false):RecOK ⟨x,t,w,true,undef,w⟩
 | look {x:DOp} {t:Fr} {w:W} {v:Value} (hw:wanted all t x.o.guard=true) (hk:x.kd=0∨x.kd=1) (hq:yO x.o.op P t w.h=some v):RecOK ⟨x,t,w,false,v,w⟩
 | made {x:DOp} {t:Fr} {w:W} {v:Nat→Value} {ob:AObj} (hw:wanted all t x.o.guard=true) (hk:x.kd=2) (hn:NewVal P ng x.o t v ob) :
  RecOK ⟨x,t,w,false,v w.n,W.mk w.d w.u (w.h.set .dead ob w.n) (w.n+1)⟩
 | act {x:DOp} {t:Fr} {w w2:W} {v:Value} (hw:wanted all t x.o.guard=true) (hk:x.kd≠0∧x.kd≠1∧x.kd≠2) (ho:OpTo P ng x.o cx t w (.ret v) w2) (hn:w.n≤w2.n):RecOK ⟨x,t,w,false,v,w2⟩
inductive RecsOK:List Rec→Fr→W→Fr→W→Prop
 | nil (t:Fr) (w:W):RecsOK [] t w t w
 | cons {r:Rec} {R:List Rec} {t':Fr} {w':W} (h:RecOK P ng all cx r) (hr:RecsOK R (putF r.t r.x.o.dst r.v) r.w2 t' w'):RecsOK (r::R) r.t r.w t' w'
end
def hsOf:List Rec→List W→List W
 | [],hs=>hs
 | r::R,hs=>hsOf R (cond (Nat.beq r.x.kd 3) (r.w2::hs) hs)
def lsOf:List Rec→List Look→List Look
 | [],ls=>ls
 | r::R,ls=>lsOf R (cond (!r.sk && (Nat.beq r.x.kd 1 && !Nat.beq r.x.low r.x.high)) (⟨r.x.o.op,r.t,r.v,r.x.low,r.x.high⟩::ls) ls)
section
variable {P:Program} {ng:Nat} {all:Array Oper} {cx:Cx}
def DrewG(P:Program)(ng:Nat)(all:Array Oper)(cx:Cx)(pan:DOp→List DOp→Fr→W→List W→List Look→zE→W→Bool)(L:List DOp)(t:Fr)(w:W)(hs:List W)(ls:List Look)(k:KX):Prop:=
 (∃R t' w',R.map (·.x)=L∧RecsOK P ng all cx R t w t' w'∧k .normal t' w'=true∧yP P (hsOf R hs).length (hsOf R hs) (lsOf R ls)=true)∨
 (∃R d rest c t1 w1 w2,L=R.map (·.x)++d::rest∧RecsOK P ng all cx R t w t1 w1∧wanted all t1 d.o.guard=true∧OpTo P ng d.o cx t1 w1 (.panic c) w2∧d.kd=3∧pan d rest t1 w1 (hsOf R hs) (lsOf R ls) c w2=true)
def Drew(P:Program)(ng:Nat)(all:Array Oper)(cx:Cx)(L:List DOp)(t:Fr)(w:W)(hs:List W)(ls:List Look)(k:KX):Prop:=
 (∃R t' w',R.map (·.x)=L∧RecsOK P ng all cx R t w t' w'∧k .normal t' w'=true∧yP P (hsOf R hs).length (hsOf R hs) (lsOf R ls)=true)∨
 (∃R d rest c t1 w1 w2,L=R.map (·.x)++d::rest∧RecsOK P ng all cx R t w t1 w1∧wanted all t1 d.o.guard=true∧OpTo P ng d.o cx t1 w1 (.panic c) w2∧d.solo=true∧
  yP P (hsOf R hs).length (hsOf R hs) (lsOf R ls)=true∧k (.panic c) t1 w2=true)∨
 (∃R d rest c t1 w1 w2 S tD wD,L=R.map (·.x)++d::rest∧RecsOK P ng all cx R t w t1 w1∧wanted all t1 d.o.guard=true∧OpTo P ng d.o cx t1 w1 (.panic c) w2∧d.kd=3∧w2.d=[]∧RecsOK P ng all cx S t1 w1 tD wD∧S.map (·.x)=dryOf d.un rest∧
  yP P (hsOf (R++S) hs).length (hsOf (R++S) hs) (lsOf (R++S) ls)=true∧k (.panic c) t1 w2=true)
theorem DrewG.cons{pan:DOp→List DOp→Fr→W→List W→List Look→zE→W→Bool}{r:Rec}{L:List DOp}{hs:List W}{ls:List Look}{k:KX}(h:RecOK P ng all cx r)
(d:DrewG P ng all cx pan L (putF r.t r.x.o.dst r.v) r.w2 (cond (Nat.beq r.x.kd 3) (r.w2::hs) hs) (cond (!r.sk && (Nat.beq r.x.kd 1 && !Nat.beq r.x.low r.x.high)) (⟨r.x.o.op,r.t,r.v,r.x.low,r.x.high⟩::ls) ls) k) :
 DrewG P ng all cx pan (r.x::L) r.t r.w hs ls k:=by
 rcases d with⟨R,t',w',h1,h2,h3,h4⟩|⟨R,d,rest,c,t1,w1,w2,h1,h2,h3,h4,h5,h6⟩
 · exact .inl ⟨r::R,t',w',by simp[h1],.cons h h2,h3,h4⟩
 · exact .inr ⟨r::R,d,rest,c,t1,w1,w2,by simp[h1],.cons h h2,h3,h4,h5,h6⟩
theorem new_ok{lo:Lo}(hP:zU ng P=true){o:Oper}{t:Fr}{w:W}{k:KV}{kp:KP}(hk:zK o.op=2)(hx:eff o.op P lo cx t w k kp=true) :
 ∃v ob,NewVal P ng o t v ob∧k (W.mk w.d w.u (w.h.set .dead ob w.n) (w.n+1)) (v w.n)=true:=by
 cases hop:o.op with
 | insert _ _ _ _=>rw [hop]at hk;cases hk
 | store _ _ _=>rw [hop]at hk;cases hk
 | mapUpdate _ _ _ _=>rw [hop]at hk;cases hk
 | defer _=>rw [hop]at hk;cases hk
 | panic _=>rw [hop]at hk;cases hk
 | range _ _=>rw [hop]at hk;cases hk
 | next _ _=>rw [hop]at hk;cases hk
 | entry _=>rw [hop]at hk;cases hk
 | alloc el=>exact alloc_ok hP hop hx
 | box el x=>exact box_ok hop hx
 | buildSlice ty len parts=>exact buildSlice_ok hP hop hx
 | makeMap ty r=>exact makeMap_ok hop hx
 | makeSlice ty l c=>exact makeSlice_ok hP hop hx
 | call c=>
  rw[hop]at hk;obtain⟨callee,asz,ts⟩:=c
  cases callee with
  | builtin b=>cases b <;> cases hk
  | value f=>cases hk
  | invoke r m=>cases hk
 | _=>rw [hop]at hx;exact(Bool.false_ne_true hx).elim
theorem xdrawG_ok{lo:Lo}(pan:DOp→List DOp→Fr→W→List W→List Look→zE→W→Bool)(hP:zU ng P=true)(hS:Sound P ng lo):∀(L:List DOp) (t:Fr) (w:W) (hs:List W) (ls:List Look) (k:KX),(∀d∈L,d.kd=zK d.o.op)→xK P lo cx all pan L t w hs ls k=true→DrewG P ng all cx pan L t w hs ls k:=by
 intro L
 induction L with
 | nil=>
  intro t w hs ls k _ h;simp only[xK,Bool.and_eq_true]at h;exact .inl ⟨[],t,w,rfl,.nil t w,h.1,h.2⟩
 | cons x L ih =>
  intro t w hs ls k hkd h;have hkd':∀d∈L,d.kd=zK d.o.op:=fun d hd=>hkd d (by simp[hd]);have hx:=hkd x (by simp);simp only[xK]at h
  cases hw:wanted all t x.o.guard with
  | false=>
   rw[hw]at h;exact DrewG.cons (.skip hw) (ih _ _ _ _ _ hkd' (vU h))
  | true=>
   rw[hw]at h;dsimp only at h;split at h
   · rename_i hk;split at h
     · rename_i v hq
       have:=DrewG.cons (r:=⟨x,t,w,false,v,w⟩) (hs:=hs) (ls:=ls) (.look hw (.inl hk) hq) (by
        have:=ih _ _ _ _ _ hkd' (vU h);dsimp only;rw [hk];exact this)
       exact this
     · cases h
   · rename_i hk;split at h
     · rename_i v hq
       have:=DrewG.cons (r:=⟨x,t,w,false,v,w⟩) (hs:=hs) (ls:=ls) (k:=k) (.look hw (.inr hk) hq) (by
        have:=ih _ _ _ _ _ hkd' (vU h);dsimp only;rw [hk];cases hlh:Nat.beq x.low x.high <;> rw[hlh]at this <;> exact this)
       exact this
     · cases h
   · rename_i hk;obtain⟨v,ob,h1,h2⟩:=new_ok hP (by rw[← hx,hk]) h;have:=ih _ _ _ _ _ hkd' (vU h2)
     exact DrewG.cons (r:=⟨x,t,w,false,v w.n,W.mk w.d w.u (w.h.set .dead ob w.n) (w.n+1)⟩) (.made hw hk h1) (by
      dsimp only;rw [hk];exact this)
   · rename_i hk0 hk1 hk2;obtain⟨out,w2,h1,h2⟩:=eff_ok hP hS h
     have hk3:x.kd=3:=by
      have h9:zK x.o.op≤3:=by unfold zK;split <;> (try split) <;> omega
      have a0:x.kd≠0:=hk0;have a1:x.kd≠1:=hk1;have a2:x.kd≠2:=hk2;omega
     cases out with
     | ret v =>
      have h1':cond (Nat.ble w.n w2.n) (putT t x.o.dst v fun t'=>xK P lo cx all pan L t' w2 (w2::hs) ls k) false=true:=h1
      cases hnn:Nat.ble w.n w2.n with
      | false=>rw [hnn]at h1';cases h1'
      | true=>
      rw[hnn]at h1';dsimp only[cond]at h1';have:=ih _ _ _ _ _ hkd' (vU h1')
      exact DrewG.cons (r:=⟨x,t,w,false,v,w2⟩) (.act hw ⟨hk0,hk1,hk2⟩ h2 (yJ hnn)) (by
       dsimp only;rw [hk3];exact this)
     | panic c=>
      exact .inr ⟨[],x,L,c,t,w,w2,rfl,.nil t w,hw,h2,hk3,h1⟩
theorem hsOf_two:∀(R S:List Rec) (hs:List W),hsOf (R++S) hs=hsOf S (hsOf R hs):=by
 intro R
 induction R with
 | nil=>intro S hs;rfl
 | cons r R ih=>intro S hs;exact ih S _
theorem lsOf_two:∀(R S:List Rec) (ls:List Look),lsOf (R++S) ls=lsOf S (lsOf R ls):=by
 intro R
 induction R with
 | nil=>intro S ls;rfl
 | cons r R ih=>intro S ls;exact ih S _
theorem xdraw_ok{lo:Lo}(hP:zU ng P=true)(hS:Sound P ng lo):∀(L:List DOp) (t:Fr) (w:W) (hs:List W) (ls:List Look) (k:KX),(∀d∈L,d.kd=zK d.o.op)→xdraw P lo cx all L t w hs ls k=true→Drew P ng all cx L t w hs ls k:=by
 intro L t w hs ls k hkd h;rcases xdrawG_ok (panD P lo cx all k) hP hS L t w hs ls k hkd h with h|⟨R,d,rest,c,t1,w1,w2,h1,h2,h3,h4,h5,h6⟩
 · exact .inl h
 · unfold panD at h6
   cases hs1:d.solo with
   | true=>
    rw[hs1]at h6
    cases hl:yP P (hsOf R hs).length (hsOf R hs) (lsOf R ls) with
    | true=>rw [hl]at h6;exact .inr (.inl ⟨R,d,rest,c,t1,w1,w2,h1,h2,h3,h4,hs1,hl,h6⟩)
    | false=>rw [hl]at h6;cases h6
   | false =>
    rw[hs1]at h6;dsimp only[cond]at h6
    cases hd:w2.d with
    | cons _ _=>rw [hd]at h6;cases h6
    | nil=>
     rw[hd]at h6;rcases xdrawG_ok _ hP hS (dryOf d.un rest) t1 w1 _ _ _ (fun y hy=>hkd y (by rw[h1];exact List.mem_append_right _ (List.mem_cons_of_mem _ (List.mem_filter.1 hy).1))) h6 with⟨S,tD,wD,g1,g2,g3,g4⟩|⟨_,_,_,_,_,_,_,_,_,_,_,_,g⟩
     · exact .inr (.inr ⟨R,d,rest,c,t1,w1,w2,S,tD,wD,h1,h2,h3,h4,h5,hd,g2,g1,by rw[hsOf_two,lsOf_two];exact g4,g3⟩)
     · cases g
end
end Go.Ex
namespace Go.Ex
def Inj.cut(ρ : Inj)(m:Nat):Inj:=fun b=>if b<m then ρ b else none
theorem yK{ρ : Inj}{m b:Nat}(h:b<m):(ρ.cut m) b = ρ b:=by simp[Inj.cut,h]
theorem cut_ge{ρ : Inj}{m b:Nat}(h:m≤b):(ρ.cut m) b=none:=by simp[Inj.cut,Nat.not_lt.2 h]
theorem xA{ρ : Inj}{m b:Nat}{B:Bl}(e:(ρ.cut m) b=some B):b<m∧ρ b=some B:=by
 rcases Nat.lt_or_ge b m with h1|h1
 · rw[yK h1]at e;exact⟨h1,e⟩
 · rw[cut_ge h1]at e;cases e
theorem cut_le{ρ : Inj}{m m':Nat}(h:m≤m'):(ρ.cut m).le (ρ.cut m'):=by
 intro b B e;obtain⟨h1,h2⟩:=xA e;rw [yK (by omega)];exact h2
theorem cut_mono{ρ ρ':Inj}(h: ρ.le ρ')(m:Nat):(ρ.cut m).le (ρ'.cut m):=by
 intro b B e;obtain⟨h1,h2⟩:=xA e;rw [yK h1];exact h _ _ h2
theorem glue(h1 h2:zB)(m:Nat):∀N,∃h:zB,(∀b,b<m→zF h b=zF h1 b)∧(∀b,m≤b→b<N→zF h b=zF h2 b):=by
 intro N
 induction N with
 | zero=>exact⟨h1,fun _ _=>rfl,fun _ _ h=>absurd h (Nat.not_lt_zero _)⟩
 | succ N ih=>
  obtain⟨h,e1,e2⟩:=ih;by_cases hm:m≤N
  · refine⟨h.set .dead (zF h2 N) N,fun b hb=>?_,fun b hb hN=>?_⟩
    · rw[zH,if_neg (by omega)];exact e1 b hb
    · rw[zH];by_cases hbn:N=b
      · subst hbn;rw [if_pos rfl]
      · rw[if_neg hbn];exact e2 b hb (by omega)
  · exact⟨h,e1,fun b hb hN=>absurd hb (by omega)⟩
section
variable {P:Program} {ng:Nat}
theorem HeapR.congr{ρ : Inj}{base:Nat}{w0:World}{h h':zB}{n:Nat}{wd:World}(r:HeapR P ng ρ base w0 h n wd)(e:∀b B,ρ b=some B→zF h' b=zF h b):HeapR P ng ρ base w0 h' n wd where
 dom:=r.dom
 obj b B hb hl:=by rw[e b B hb]at hl ⊢;exact r.obj b B hb hl
 inj a b A B ha hb la lb hab:=by rw[e a A ha]at la;rw [e b B hb]at lb;exact r.inj a b A B ha hb la lb hab
 below:=r.below
 size:=r.size
 glob:=r.glob
 ngn:=r.ngn
theorem Grow.congr{ρ0:Inj}{h0:zB}{n0:Nat}{wd0:World}{ρ : Inj}{h h':zB}{n:Nat}{wd:World}(g:Grow ρ0 h0 n0 wd0 ρ h n wd)(e:∀b,b<n0→zF h' b=zF h b):Grow ρ0 h0 n0 wd0 ρ h' n wd where
 nn:=g.nn
 old:=g.old
 new:=g.new
 keep:=g.keep
 size:=g.size
 dead b hb hd:=by rw[e b hb];exact g.dead b hb hd
 tape:=g.tape
theorem HeapR.push{ρ : Inj}{base:Nat}{w0:World}{h:zB}{n:Nat}{wd:World}(r:HeapR P ng ρ base w0 h n wd)(o':Obj):HeapR P ng ρ base w0 h n { wd with heap:=wd.heap.push o' } where
 dom:=r.dom
 obj b B hb hl:=by
  obtain⟨o,e1,e2⟩:=r.obj b B hb hl;refine⟨o,?_,e2⟩;have:=r.lt hb hl;show(wd.heap.push o')[B.b]? = _;rw [Array.getElem?_push,if_neg (by omega)];exact e1
 inj:=r.inj
 below:=r.below.trans ⟨rfl,rfl,rfl,by simp,fun k hk=>by
  have:=r.size;show(wd.heap.push o')[k]? = _;rw [Array.getElem?_push,if_neg (by omega)]⟩
 size:=by have:=r.size;simp;omega
 glob:=r.glob
 ngn:=r.ngn
theorem HeapR.add{ρ : Inj}{base:Nat}{w0:World}{h:zB}{n:Nat}{wd:World}(r:HeapR P ng ρ base w0 h n wd){x:Nat}(hx: ρ x=none)(hxn:x<n)(o:AObj)(o':Obj)(B:Bl)(hB:B.b=wd.heap.size)
(hr:ObjR P ng (ρ.put x B) base B o o'):HeapR P ng (ρ.put x B) base w0 (h.set .dead o x) n { wd with heap:=wd.heap.push o' }:=by
 have hle:=Inj.le_put B hx;have r2:=r.push o';refine⟨?_,?_,?_,r2.below,r2.size,?_,r2.ngn⟩
 · intro b hb;have:b≠x:=by omega
   simp[Inj.put,this];exact r.dom b (by omega)
 · intro b C e hl;by_cases hb:b=x
   · subst hb;simp [Inj.put]at e;subst e;refine⟨o',by simp[hB],?_⟩;rw [zH];simpa using hr
   · have e': ρ b=some C:=by simpa [Inj.put,hb] using e
     rw[zH,if_neg (fun x=>hb x.symm)]at hl ⊢;obtain⟨ob,h1,h2⟩:=r2.obj b C e' hl;exact⟨ob,h1,h2.mono hle⟩
 · intro a b A C ea eb ha hb hab
   have lt:∀y X,y≠x→(ρ.put x B) y=some X→zF (h.set .dead o x) y≠.dead→X.b<wd.heap.size:=by
    intro y X hy ex hlx;have ex': ρ y=some X:=by simpa [Inj.put,hy] using ex
    rw[zH,if_neg (fun z=>hy z.symm)]at hlx;exact r.lt ex' hlx
   by_cases h1:a=x
   · by_cases h2:b=x
     · rw[h1,h2]
     · have:=lt b C h2 eb hb;subst h1;simp [Inj.put]at ea;subst ea;omega
   · by_cases h2:b=x
     · have:=lt a A h1 ea ha;subst h2;simp [Inj.put]at eb;subst eb;omega
     · rw[zH,if_neg (fun y=>h1 y.symm)]at ha;rw [zH,if_neg (fun y=>h2 y.symm)]at hb;exact r.inj a b A C (by simpa [Inj.put,h1] using ea) (by simpa [Inj.put,h2] using eb) ha hb hab
 · intro g hg;obtain⟨G,e1,e2⟩:=r.glob g hg;exact⟨G,hle _ _ e1,e2⟩
theorem Grow.push{ρ0:Inj}{h0:zB}{n0:Nat}{wd0:World}{ρ : Inj}{h:zB}{n:Nat}{wd:World}(g:Grow ρ0 h0 n0 wd0 ρ h n wd)(o':Obj):Grow ρ0 h0 n0 wd0 ρ h n { wd with heap:=wd.heap.push o' } where
 nn:=g.nn
 old:=g.old
 new:=g.new
 keep c hc hn:=by
  have:=g.size;show(wd.heap.push o')[c]? = _;rw [Array.getElem?_push,if_neg (by omega)];exact g.keep c hc hn
 size:=by have:=g.size;simp;omega
 dead:=g.dead
 tape:=g.tape
theorem Grow.add{ρ0:Inj}{h0:zB}{n0:Nat}{wd0:World}{ρ : Inj}{h:zB}{n:Nat}{wd:World}(g:Grow ρ0 h0 n0 wd0 ρ h n wd){x:Nat}(hx0:n0≤x)(o:AObj)(o':Obj)(B:Bl)(hB:B.b=wd.heap.size) :
 Grow ρ0 h0 n0 wd0 (ρ.put x B) (h.set .dead o x) n { wd with heap:=wd.heap.push o' } where
 nn:=g.nn
 old b hb:=by
  have:b≠x:=by omega
  simp[Inj.put,this];exact g.old b hb
 new b C hb e:=by
  by_cases h1:b=x
  · subst h1;simp [Inj.put]at e;subst e;have:=g.size;exact .inl (by omega)
  · exact g.new b C hb (by simpa [Inj.put,h1] using e)
 keep:=(g.push o').keep
 size:=(g.push o').size
 dead b hb hd:=by rw[zH,if_neg (by omega)];exact g.dead b hb hd
 tape:=g.tape
theorem put_cut_ge{ρ : Inj}{x m:Nat}(B:Bl)(h:m≤x):(ρ.put x B).cut m = ρ.cut m:=by
 funext b
 by_cases hb:b<m
 · rw[yK hb,yK hb];have:b≠x:=by omega
   simp[Inj.put,this]
 · rw[cut_ge (by omega),cut_ge (by omega)]
theorem put_cut_lt{ρ : Inj}{x m:Nat}(B:Bl)(h:x<m):(ρ.put x B).cut m=(ρ.cut m).put x B:=by
 funext b
 by_cases hx:b=x
 · subst hx;rw [yK h];simp [Inj.put]
 · by_cases hb:b<m
   · rw[yK hb];simp [Inj.put,hx,yK hb]
   · rw[cut_ge (by omega)];simp [Inj.put,hx,cut_ge (Nat.le_of_not_lt hb)]
theorem put_cut_succ{ρ : Inj}{x:Nat}(B:Bl):(ρ.put x B).cut (x+1)=(ρ.cut x).put x B:=by
 funext b
 by_cases hx:b=x
 · subst hx;rw [yK (by omega)];simp [Inj.put]
 · by_cases hb:b<x
   · rw[yK (by omega)];simp [Inj.put,hx,yK hb]
   · rw[cut_ge (by omega)];simp [Inj.put,hx,cut_ge (Nat.le_of_not_lt hb)]
theorem early{ρ ρ':Inj}{base:Nat}{w0:World}{H hq h2:zB}{nq n2:Nat}{wd wd':World}
(hp:∀m,nq≤m→HeapR P ng (ρ.cut m) base w0 H m wd)(hn:nq≤n2)(none':∀b,nq≤b→b<n2→ρ b=none)
(hH:∀b B,b<nq→ρ b=some B→zF hq b=zF H b)
(h2':HeapR P ng ρ' base w0 h2 n2 wd')(g:Grow (ρ.cut nq) hq nq wd ρ' h2 n2 wd')
{ρ1:Inj}(r1:∀b,b<n2→ρ1 b = ρ' b)(r2:∀b,n2≤b→ρ1 b = ρ b){H1:zB}(e1:∀b,b<n2→zF H1 b=zF h2 b)(e2:∀b B,n2≤b→ρ b=some B→zF H1 b=zF H b) :
 ρ.le ρ1∧∀m,n2≤m→HeapR P ng (ρ1.cut m) base w0 H1 m wd':=by
 have hle: ρ.le ρ1:=by
  intro b B e;rcases Nat.lt_or_ge b n2 with h|h
  · rcases Nat.lt_or_ge b nq with h'|h'
    · rw[r1 b h,g.old b h',yK h'];exact e
    · rw[none' b h' h]at e;cases e
  · rw[r2 b h];exact e
 have c1: ρ1.cut n2 = ρ':=by
  funext b
  rcases Nat.lt_or_ge b n2 with h|h
  · rw[yK h,r1 b h]
  · rw[cut_ge h,h2'.dom b h]
 refine⟨hle,fun m hm=>?_⟩;have hpm:=hp m (by omega)
 have old:∀b B,n2≤b→b<m→ρ b=some B→zF H b≠.dead→∃o,wd'.heap[B.b]? = some o∧wd.heap[B.b]? = some o∧B.b<wd.heap.size∧ObjR P ng (ρ.cut m) base B (zF H b) o:=by
  intro b B hb hbm e hl;have ec:(ρ.cut m) b=some B:=by rw[yK hbm];exact e
  obtain⟨o,q1,q2⟩:=hpm.obj b B ec hl;have hlt:=hpm.lt ec hl;refine⟨o,?_,q1,hlt,q2⟩;rw [g.keep B.b hlt ?_,q1];intro b' B' e' hl' hbb;obtain⟨l1,e''⟩:=xA e';rw [hH b' B' l1 e'']at hl';have:=hpm.inj b' b B' B (by rw[yK (by omega)];exact e'') ec hl' hl hbb;omega
 have mixed:∀a b A B,a<n2→n2≤b→b<m→ρ' a=some A→zF h2 a≠.dead→ρ b=some B→zF H b≠.dead→A.b≠B.b:=by
  intro a b A B ha hb hbm ea la eb lb hab;obtain⟨_,_,_,hlt,_⟩:=old b B hb hbm eb lb;have ec:(ρ.cut m) b=some B:=by rw[yK hbm];exact eb
  rcases Nat.lt_or_ge a nq with h|h
  · rw[g.old a h,yK h]at ea;have la':zF H a≠.dead:=fun hd=>la (g.dead a h (by rw[hH a A h ea];exact hd));have:=hpm.inj a b A B (by rw[yK (by omega)];exact ea) ec la' lb hab;omega
  · rcases g.new a A h ea with h4|⟨a',A',ha',ea',hab',la'⟩
    · omega
    · obtain⟨_,ea''⟩:=xA ea';rw [hH a' A' ha' ea'']at la';have:=hpm.inj a' b A' B (by rw[yK (by omega)];exact ea'') ec la' lb (hab'.trans hab);omega
 refine⟨fun b hb=>cut_ge hb,?_,?_,h2'.below,h2'.size,?_,by have:=h2'.ngn;omega⟩
 · intro b B e hl;obtain⟨hbm,e⟩:=xA e;rcases Nat.lt_or_ge b n2 with h|h
   · rw[r1 b h]at e;rw [e1 b h]at hl ⊢;obtain⟨o,q1,q2⟩:=h2'.obj b B e hl;refine⟨o,q1,q2.mono ?_⟩;rw [← c1];exact cut_le hm
   · rw[r2 b h]at e;rw [e2 b B h e]at hl ⊢;obtain⟨o,q1,_,_,q2⟩:=old b B h hbm e hl;exact⟨o,q1,q2.mono (cut_mono hle m)⟩
 · intro a b A B ea eb la lb hab;obtain⟨ham,ea⟩:=xA ea;obtain⟨hbm,eb⟩:=xA eb;rcases Nat.lt_or_ge a n2 with h|h
   · rw[r1 a h]at ea;rw [e1 a h]at la;rcases Nat.lt_or_ge b n2 with h'|h'
     · rw[r1 b h']at eb;rw [e1 b h']at lb;exact h2'.inj a b A B ea eb la lb hab
     · rw[r2 b h']at eb;rw [e2 b B h' eb]at lb;exact absurd hab (mixed a b A B h h' hbm ea la eb lb)
   · rw[r2 a h]at ea;rw [e2 a A h ea]at la;rcases Nat.lt_or_ge b n2 with h'|h'
     · rw[r1 b h']at eb;rw [e1 b h']at lb;exact absurd hab.symm (mixed b a B A h' h ham eb lb ea la)
     · rw[r2 b h']at eb;rw [e2 b B h' eb]at lb;exact hpm.inj a b A B (by rw[yK ham];exact ea) (by rw[yK hbm];exact eb) la lb hab
 · intro g' hg;obtain⟨G,q1,q2⟩:=h2'.glob g' hg;have hgn:g'<n2:=by have:=h2'.ngn;omega
   exact⟨G,by rw[yK (by omega),r1 g' hgn];exact q1,q2⟩
theorem Grow.early{ρ0:Inj}{h0:zB}{n0:Nat}{wd0:World}{ρ ρ':Inj}{H hq h2:zB}{nq n2:Nat}{wd wd':World}(hn0:n0≤nq)
(gr:∀m,nq≤m→Grow ρ0 h0 n0 wd0 (ρ.cut m) H m wd)(hn:nq≤n2)
(hH:∀b,b<n0→zF hq b=zF H b)(g:Grow (ρ.cut nq) hq nq wd ρ' h2 n2 wd')
{ρ1:Inj}(r1:∀b,b<n2→ρ1 b = ρ' b)(r2:∀b,n2≤b→ρ1 b = ρ b){H1:zB}(e1:∀b,b<n2→zF H1 b=zF h2 b) :
 ∀m,n2≤m→Grow ρ0 h0 n0 wd0 (ρ1.cut m) H1 m wd':=by
 intro m hm;have t:Grow ρ0 h0 n0 wd0 ρ' h2 n2 wd':=((gr nq (Nat.le_refl _)).congr hH).trans g;refine⟨by omega,fun b hb=>?_,fun b B hb e=>?_,t.keep,t.size,fun b hb hd=>?_,t.tape⟩
 · rw[yK (by omega),r1 b (by omega)];exact t.old b hb
 · obtain⟨hbm,e⟩:=xA e;rcases Nat.lt_or_ge b n2 with h|h
   · rw[r1 b h]at e;exact t.new b B hb e
   · rw[r2 b h]at e;exact(gr m (by omega)).new b B hb (by rw[yK hbm];exact e)
 · rw[e1 b (by omega)];exact t.dead b hb hd
end
end Go.Ex
namespace Go.Ex
section
variable {P:Program} {ng:Nat} {all:Array Oper} {cx:Cx}
theorem wJ:∀{A B:List Rec} {t t':Fr} {w w':W},RecsOK P ng all cx (A++B) t w t' w'→∃t1 w1,RecsOK P ng all cx A t w t1 w1∧RecsOK P ng all cx B t1 w1 t' w':=by
 intro A
 induction A with
 | nil=>intro B t t' w w' h;exact⟨t,w,.nil t w,h⟩
 | cons r A ih =>
  intro B t t' w w' h
  cases h with
  | cons h hr=>
   obtain⟨t1,w1,h1,h2⟩:=ih hr;exact⟨t1,w1,.cons h h1,h2⟩
theorem wU:∀{A B:List Rec} {t t1 t':Fr} {w w1 w':W},RecsOK P ng all cx A t w t1 w1→RecsOK P ng all cx B t1 w1 t' w'→RecsOK P ng all cx (A++B) t w t' w':=by
 intro A
 induction A with
 | nil=>intro B t t1 t' w w1 w' h h';cases h;exact h'
 | cons r A ih=>
  intro B t t1 t' w w1 w' h h'
  cases h with
  | cons h hr=>exact .cons h (ih hr h')
theorem recs_end:∀{A:List Rec} {t t1 t2:Fr} {w w1 w2:W},RecsOK P ng all cx A t w t1 w1→RecsOK P ng all cx A t w t2 w2→w1=w2:=by
 intro A
 induction A with
 | nil=>intro t t1 t2 w w1 w2 h h';cases h;cases h';rfl
 | cons r A ih =>
  intro t t1 t2 w w1 w2 h h'
  cases h with
  | cons h hr=>cases h' with
   | cons h' hr'=>exact ih hr hr'
theorem rec_n{r:Rec}(h:RecOK P ng all cx r):r.w.n≤r.w2.n:=by
 cases h with
 | skip=>exact Nat.le_refl _
 | look=>exact Nat.le_refl _
 | made=>exact Nat.le_succ _
 | act _ _ _ hn=>exact hn
theorem yT:∀{R:List Rec} {t t':Fr} {w w':W},RecsOK P ng all cx R t w t' w'→w.n≤w'.n∧∀r∈R,RecOK P ng all cx r∧w.n≤r.w.n∧r.w2.n≤w'.n:=by
 intro R
 induction R with
 | nil=>intro t t' w w' h;cases h;exact⟨Nat.le_refl _,fun r hr=>by simp at hr⟩
 | cons r R ih =>
  intro t t' w w' h
  cases h with
  | cons h hr=>
   obtain⟨h1,h2⟩:=ih hr;have h3:=rec_n h;refine⟨by omega,fun r' hr'=>?_⟩;rcases List.mem_cons.1 hr' with rfl|hr'
   · exact⟨h,Nat.le_refl _,h1⟩
   · obtain⟨h4,h5,h6⟩:=h2 r' hr';exact⟨h4,by omega,h6⟩
theorem fget_putF(t:Fr)(dst:Option Tmp)(v:Value)(d:Nat):fget (putF t dst v) d=if dst=some d then v else fget t d:=by
 cases dst with
 | none=>rfl
 | some e=>
  unfold putF fget;dsimp only;rw [Tr.get_set_if];by_cases h:e=d
  · subst h;simp
  · rw[if_neg h,if_neg (fun e2=>h (by injection e2))]
theorem recs_slot{d:Nat}:∀{R:List Rec} {t t':Fr} {w w':W},RecsOK P ng all cx R t w t' w'→(∀r∈R,r.x.o.dst≠some d)→fget t' d=fget t d:=by
 intro R
 induction R with
 | nil=>intro t t' w w' h _;cases h;rfl
 | cons r R ih =>
  intro t t' w w' h hd
  cases h with
  | cons h hr=>
   rw[ih hr (fun r' hr'=>hd r' (by simp[hr'])),fget_putF,if_neg (hd r (by simp))]
theorem recs_write{d:Nat}{A B:List Rec}{r:Rec}{t t':Fr}{w w':W}(h:RecsOK P ng all cx (A++r::B) t w t' w')(hr:r.x.o.dst=some d)(hB:∀y∈B,y.x.o.dst≠some d):fget t' d=r.v:=by
 obtain⟨t1,w1,_,h2⟩:=wJ h
 cases h2 with
 | cons h hr'=>rw [recs_slot hr' hB,fget_putF,if_pos hr]
end
end Go.Ex
namespace Go.Ex
def Sees(all:Array Oper)(o:Oper)(d:Nat):Prop:=.tmp d∈o.op.operands.toList∨∃g b,o.guard=some (g,b)∧dstOf all g=some d
structure RecPlan (all:Array Oper) (M:Nat→Nat) (D:List DOp):Prop where
 at':∀x∈D,all[x.i]? = some x.o
 kd:∀x∈D,x.kd=zK x.o.op
 bits:∀x∈D,∀b,zN (M x.i) b=true→∃e∈x.o.after.toList,xQ e=true∧(b=e.on∨zN (M e.on) b=true)
 ahead:∀A x B,D=A++x::B→(∀b,zN (M x.i) b=true→∃y∈A,y.i=b)∧(∀y∈A,y.i≠x.i)
 next:∀A S x B,D=A++(S++x::B)→x.kd=3→(∀y∈S,y.kd≠3)→∀y∈S,zN (M x.i) y.i=true
 pair:∀x∈D,∀y∈D,∀d,x.o.dst=some d→(Sees all y.o d∨y.o.dst=some d)→x.i=y.i∨(y.o.dst≠some d∧(zN (M y.i) x.i=true∨zN (M x.i) y.i=true))
 act:∀x∈D,∀y∈D,x.kd=3→y.kd=3→x.i=y.i∨zN (M y.i) x.i=true∨zN (M x.i) y.i=true
 low:∀x∈D,x.low=D.countP fun c=>Nat.beq c.kd 3 && zN (M x.i) c.i
 high:∀x∈D,(D.countP fun c=>Nat.beq c.kd 3 && (!zN (M c.i) x.i && !Nat.beq c.i x.i))≤x.high
section
variable {all:Array Oper} {M:Nat→Nat} {D:List DOp}
theorem RecPlan.later(K:RecPlan all M D){A B C:List DOp}{x y:DOp}(h:D=A++x::(B++y::C)):zN (M x.i) y.i=false∧x.i≠y.i:=by
 obtain⟨h1,h2⟩:=K.ahead A x _ h;obtain⟨_,h4⟩:=K.ahead (A++x::B) y C (by rw[h];simp);refine⟨?_,h4 x (by simp)⟩
 cases e:zN (M x.i) y.i with
 | false=>rfl
 | true=>
  obtain⟨z,hz,ez⟩:=h1 _ e;exact absurd ez (h4 z (by simp[hz]))
end
structure Cfg where
 t0:Fr
 W0:W
 a0:Act
 wd0:World
 cs0:List Frame
 ρ0:Inj
 base:Nat
 w00:World
 b:Frame
 cx:Cx
 t1:Fr
 w1:W
section
variable (P:Program) (ng:Nat) (all:Array Oper) (M:Nat→Nat) (D E:List DOp) (C:Cfg)
structure Inv (pre suf:List Rec) (ts:Fr) (ws:W) (lst:Nat→Prop) (ρ : Inj) (H:zB) (a:Act) (wd:World) (cs:List Frame):Prop where
 dd:D=(pre++suf).map (·.x)++E
 r1:RecsOK P ng all C.cx pre C.t0 C.W0 ts ws
 r2:RecsOK P ng all C.cx suf ts ws C.t1 C.w1
 last:pre=[]∨∃p r,pre=p++[r]∧r.x.kd=3
 pl:∀r∈pre,lst r.x.i
 sl:∀r∈suf,r.x.kd=3→¬lst r.x.i
 only:∀i,lst i→∃r∈pre++suf,r.x.i=i
 closed:∀i,lst i→∀j,zN (M i) j=true→lst j
 in0:In0 P ng (ρ.cut ws.n) C.base C.w00 C.b a wd cs C.cx ws
 hp:∀m,ws.n≤m→HeapR P ng (ρ.cut m) C.base C.w00 H m wd
 gr:∀m,ws.n≤m→Grow C.ρ0 C.W0.h C.W0.n C.wd0 (ρ.cut m) H m wd
 cst:CsTo C.cx.df C.cs0 cs
 hh:∀b,b<ws.n→zF H b=zF ws.h b
 mkd:∀r∈suf,r.x.kd=2→r.sk=false→lst r.x.i→zF H r.w.n=zF r.w2.h r.w.n
 ex:∀b B,ws.n≤b→ρ b=some B→∃r∈suf,r.x.kd=2∧r.sk=false∧lst r.x.i∧r.w.n=b
 val:∀r∈pre++suf,lst r.x.i→∀d,r.x.o.dst=some d→∃v',a.tmps[d]? = some v'∧RV (ρ.cut r.w2.n) r.v v'
 un:∀d,(∀r∈pre++suf,lst r.x.i→r.x.o.dst≠some d)→a.tmps[d]? = C.a0.tmps[d]?
 tm0:TmR (ρ.cut C.W0.n) (ntm P C.cx.fn) C.t0 C.a0.tmps
 sz:a.tmps.size=C.a0.tmps.size
variable {P ng all M D E C}
variable {pre suf:List Rec} {ts:Fr} {ws:W} {lst:Nat→Prop} {ρ : Inj} {H:zB} {a:Act} {wd:World} {cs:List Frame}
theorem Inv.slot(I:Inv P ng all M D E C pre suf ts ws lst ρ H a wd cs)(K:RecPlan all M D){A S:List Rec}{x:DOp}{rest:List DOp}{t:Fr}{w:W}(hs:suf=A++S)
(hD:D=(pre++A).map (·.x)++x::rest)(hA:RecsOK P ng all C.cx A ts ws t w)(hx:¬lst x.i)(hm:∀b,zN (M x.i) b=true→lst b){d:Nat}(hd:Sees all x.o d){v:Value}(hv:a.tmps[d]? = some v) :
 RV (ρ.cut w.n) (fget t d) v:=by
 have hall:RecsOK P ng all C.cx (pre++A) C.t0 C.W0 t w:=wU I.r1 hA
 have hrest:S.map (·.x)++E=x::rest:=by
  have e:=I.dd;rw [hs,hD,← List.append_assoc,List.map_append (l₁:=pre++A),List.append_assoc]at e;exact(List.append_cancel_left e).symm
 have hxD:x∈D:=by rw[hD];simp
 obtain⟨ha1,ha2⟩:=K.ahead _ x rest hD;by_cases hw:∃y∈pre++A,y.x.o.dst=some d
 · obtain⟨y,hy,hyd⟩:=hw;obtain⟨A1,A2,hsp⟩:=List.append_of_mem hy;have hDy:D=A1.map (·.x)++y.x::(A2.map (·.x)++x::rest):=by rw[hD,hsp];simp
   obtain⟨l1,l2⟩:=K.later hDy
   have hyl:lst y.x.i:=by
    rcases K.pair y.x (by rw[hDy];simp) x hxD d hyd (.inl hd) with h|⟨_,h|h⟩
    · exact absurd h l2
    · exact hm _ h
    · rw[l1]at h;cases h
   obtain⟨v',q1,q2⟩:=I.val y (by rw[hs,← List.append_assoc];exact List.mem_append_left _ hy) hyl d hyd;rw [hv]at q1;injection q1 with q1;subst q1
   rw[hsp]at hall
   have h2:fget t d=y.v:=recs_write hall hyd fun z hz e=>by
    obtain⟨B1,B2,hz2⟩:=List.append_of_mem hz;have hDz:D=A1.map (·.x)++y.x::(B1.map (·.x)++z.x::(B2.map (·.x)++x::rest)):=by rw[hDy,hz2];simp
    obtain⟨_,l4⟩:=K.later hDz;rcases K.pair y.x (by rw[hDz];simp) z.x (by rw[hDz];simp) d hyd (.inr e) with h|⟨h,_⟩
    · exact l4 h
    · exact h e
   rw[h2];have:=((yT hall).2 y (by simp)).2.2;exact q2.mono (cut_le this)
 · have hno:∀r∈pre++A,r.x.o.dst≠some d:=fun r hr e=>hw ⟨r,hr,e⟩;rw [recs_slot hall hno]
   have hun:a.tmps[d]? = C.a0.tmps[d]? :=I.un d fun r hr hl e=>by
    rw[hs,← List.append_assoc]at hr;rcases List.mem_append.1 hr with hr|hr
    · exact hno r hr e
    have hmem:r.x∈x::rest:=by rw[← hrest];exact List.mem_append_left _ (List.mem_map.2 ⟨r,hr,rfl⟩)
    rcases List.mem_cons.1 hmem with h|h
    · rw[h]at hl;exact hx hl
    · obtain⟨B1,B2,hz2⟩:=List.append_of_mem h;have hDz:D=(pre++A).map (·.x)++x::(B1++r.x::B2):=by rw[hD,hz2]
      obtain⟨l3,l4⟩:=K.later hDz;rcases K.pair r.x (by rw[hDz];simp) x hxD d e (.inl hd) with h|⟨_,h|h⟩
      · exact l4 h.symm
      · rw[l3]at h;cases h
      · exact hx (I.closed _ hl _ h)
   rw[hun]at hv;exact(I.tm0.tm d v hv).mono (cut_le (yT hall).1)
theorem Inv.slotD(I:Inv P ng all M D E C pre suf ts ws lst ρ H a wd cs){L:List DOp}(K:RecPlan all M L){A S:List Rec}{x:DOp}{rest:List DOp}{t:Fr}{w:W}(hs:suf=A++S)
(hD:L=(pre++A).map (·.x)++x::rest)(hA:RecsOK P ng all C.cx A ts ws t w)(hS:∀r∈S,r.x∈L∧r.x.i≠x.i∧zN (M x.i) r.x.i=false∧zN (M r.x.i) x.i=false)(hm:∀b,zN (M x.i) b=true→lst b){d:Nat}(hd:Sees all x.o d){v:Value}(hv:a.tmps[d]? = some v) :
 RV (ρ.cut w.n) (fget t d) v:=by
 have hall:RecsOK P ng all C.cx (pre++A) C.t0 C.W0 t w:=wU I.r1 hA;have hxD:x∈L:=by rw[hD];simp
 by_cases hw:∃y∈pre++A,y.x.o.dst=some d
 · obtain⟨y,hy,hyd⟩:=hw;obtain⟨A1,A2,hsp⟩:=List.append_of_mem hy;have hDy:L=A1.map (·.x)++y.x::(A2.map (·.x)++x::rest):=by rw[hD,hsp];simp
   obtain⟨l1,l2⟩:=K.later hDy
   have hyl:lst y.x.i:=by
    rcases K.pair y.x (by rw[hDy];simp) x hxD d hyd (.inl hd) with h|⟨_,h|h⟩
    · exact absurd h l2
    · exact hm _ h
    · rw[l1]at h;cases h
   obtain⟨v',q1,q2⟩:=I.val y (by rw[hs,← List.append_assoc];exact List.mem_append_left _ hy) hyl d hyd;rw [hv]at q1;injection q1 with q1;subst q1
   rw[hsp]at hall
   have h2:fget t d=y.v:=recs_write hall hyd fun z hz e=>by
    obtain⟨B1,B2,hz2⟩:=List.append_of_mem hz;have hDz:L=A1.map (·.x)++y.x::(B1.map (·.x)++z.x::(B2.map (·.x)++x::rest)):=by rw[hDy,hz2];simp
    obtain⟨_,l4⟩:=K.later hDz;rcases K.pair y.x (by rw[hDz];simp) z.x (by rw[hDz];simp) d hyd (.inr e) with h|⟨h,_⟩
    · exact l4 h
    · exact h e
   rw[h2];have:=((yT hall).2 y (by simp)).2.2;exact q2.mono (cut_le this)
 · have hno:∀r∈pre++A,r.x.o.dst≠some d:=fun r hr e=>hw ⟨r,hr,e⟩;rw [recs_slot hall hno]
   have hun:a.tmps[d]? = C.a0.tmps[d]? :=I.un d fun r hr hl e=>by
    rw[hs,← List.append_assoc]at hr;rcases List.mem_append.1 hr with hr|hr
    · exact hno r hr e
    obtain⟨s1,s2,s3,s4⟩:=hS r hr;rcases K.pair r.x s1 x hxD d e (.inl hd) with h|⟨_,h|h⟩
    · exact s2 h
    · rw[s3]at h;cases h
    · rw[s4]at h;cases h
   rw[hun]at hv;exact(I.tm0.tm d v hv).mono (cut_le (yT hall).1)
theorem ev_one{N m:Nat}{h:zB}(hH:HeapR P ng ρ C.base C.w00 h m wd){t:Fr}{x:Operand}(hx:opnOK ng N x=true)(hN:N≤a.tmps.size)(hs:∀d,x = .tmp d→∀v,a.tmps[d]? = some v→RV ρ (fget t d) v):RV ρ (ev t x) (a.eval x):=by
 cases x with
 | tmp i=>
  have hi:i<N:=zS hx;have hlt:i<a.tmps.size:=Nat.lt_of_lt_of_le hi hN;have h:=hs i rfl a.tmps[i] (Array.getElem?_eq_getElem hlt);show RV ρ (fget t i) (a.tmps.getD i undef);rw [Array.getD,dif_pos hlt];exact h
 | const v=>exact RV.plain hx ρ
 | global g=>
  obtain⟨B,e1,e2⟩:=hH.glob g (zS hx);have:=RV.ptr (o:=0) e1;rw [e2]at this;exact this
 | func f=>exact .func (by intro l;exact Fn.noConfusion) rfl rfl (by intro i v v' e;simp at e) (by intro i v v' e;simp at e)
theorem Inv.looks(I:Inv P ng all M D E C pre suf ts ws lst ρ H a wd cs)(K:RecPlan all M D)(hc:∀o∈all.toList,wQ ng (ntm P C.cx.fn) o=true){A S:List Rec}{x:DOp}{rest:List DOp}{t:Fr}{w:W}(hs:suf=A++S)
(hD:D=(pre++A).map (·.x)++x::rest)(hA:RecsOK P ng all C.cx A ts ws t w)(hx:¬lst x.i)(hm:∀b,zN (M x.i) b=true→lst b) :
 OpsR (ρ.cut w.n) t a x.o∧Region.wanted x.o (yielded all a.tmps)=wanted all t x.o.guard:=by
 have hall:RecsOK P ng all C.cx (pre++A) C.t0 C.W0 t w:=wU I.r1 hA;have hwn:ws.n≤w.n:=(yT hA).1;have hxD:x∈D:=by rw[hD];simp
 have hmem:∀{g:Nat} {o:Oper},all[g]? = some o→o∈all.toList:=fun ho=>by rw[← Array.getElem?_toList]at ho;exact List.mem_iff_getElem?.2 ⟨_,ho⟩
 have hN:ntm P C.cx.fn≤a.tmps.size:=by rw[I.sz];exact I.tm0.le
 refine⟨fun y hy=>?_,wanted_ok fun g q hg d hd=>?_⟩
 · refine ev_one (I.hp w.n hwn) (List.all_eq_true.1 (Bool.and_eq_true_iff.1 (hc x.o (hmem (K.at' x hxD)))).1 y hy) hN fun d e v hv=>?_;subst e;exact I.slot K hs hD hA hx hm (.inl hy) hv
 · have hlt:d<ntm P C.cx.fn:=by
    unfold dstOf at hd
    cases ho:all[g]? with
    | none=>rw [ho]at hd;cases hd
    | some og=>
     rw[ho]at hd;have:=(Bool.and_eq_true_iff.1 (hc og (hmem ho))).2;dsimp only at hd;rw [hd]at this;exact zS this
   have hlt2:d<a.tmps.size:=Nat.lt_of_lt_of_le hlt hN;have e1:=Array.getElem?_eq_getElem hlt2;exact⟨a.tmps[d],e1,(I.slot K hs hD hA hx hm (.inr ⟨g,q,hg,hd⟩) e1).boolOf⟩
theorem Inv.looksD(I:Inv P ng all M D E C pre suf ts ws lst ρ H a wd cs){L:List DOp}(K:RecPlan all M L)(hc:∀o∈all.toList,wQ ng (ntm P C.cx.fn) o=true){A S:List Rec}{x:DOp}{rest:List DOp}{t:Fr}{w:W}(hs:suf=A++S)
(hD:L=(pre++A).map (·.x)++x::rest)(hA:RecsOK P ng all C.cx A ts ws t w)(hS:∀r∈S,r.x∈L∧r.x.i≠x.i∧zN (M x.i) r.x.i=false∧zN (M r.x.i) x.i=false)(hm:∀b,zN (M x.i) b=true→lst b) :
 OpsR (ρ.cut w.n) t a x.o∧Region.wanted x.o (yielded all a.tmps)=wanted all t x.o.guard:=by
 have hall:RecsOK P ng all C.cx (pre++A) C.t0 C.W0 t w:=wU I.r1 hA;have hwn:ws.n≤w.n:=(yT hA).1;have hxD:x∈L:=by rw[hD];simp
 have hmem:∀{g:Nat} {o:Oper},all[g]? = some o→o∈all.toList:=fun ho=>by rw[← Array.getElem?_toList]at ho;exact List.mem_iff_getElem?.2 ⟨_,ho⟩
 have hN:ntm P C.cx.fn≤a.tmps.size:=by rw[I.sz];exact I.tm0.le
 refine⟨fun y hy=>?_,wanted_ok fun g q hg d hd=>?_⟩
 · refine ev_one (I.hp w.n hwn) (List.all_eq_true.1 (Bool.and_eq_true_iff.1 (hc x.o (hmem (K.at' x hxD)))).1 y hy) hN fun d e v hv=>?_;subst e;exact I.slotD K hs hD hA hS hm (.inl hy) hv
 · have hlt:d<ntm P C.cx.fn:=by
    unfold dstOf at hd
    cases ho:all[g]? with
    | none=>rw [ho]at hd;cases hd
    | some og=>
     rw[ho]at hd;have:=(Bool.and_eq_true_iff.1 (hc og (hmem ho))).2;dsimp only at hd;rw [hd]at this;exact zS this
   have hlt2:d<a.tmps.size:=Nat.lt_of_lt_of_le hlt hN;have e1:=Array.getElem?_eq_getElem hlt2;exact⟨a.tmps[d],e1,(I.slotD K hs hD hA hS hm (.inr ⟨g,q,hg,hd⟩) e1).boolOf⟩
end
end Go.Ex
namespace Go.Ex
theorem quiet_free{o:Op}(hk:zK o=0)(P:Program)(t:Fr)(h h':zB):yO o P t h=yO o P t h':=by
 cases o with
 | call c=>
  obtain⟨callee,asz,ts⟩:=c
  cases callee with
  | builtin b=>cases b <;> cases hk
  | value f=>cases hk
  | invoke r m=>cases hk
 | load _ _=>cases hk
 | lookup _ _ _ _=>cases hk
 | slice _ _ _ _ _=>cases hk
 | _=>rfl
theorem blkLt_ptr{n:Nat}{a:Addr}(h:blkLt n (.pointer (some a))=true):a.block<n:=zS h
theorem blkLt_slice{n l c:Nat}{a:Addr}(h:blkLt n (.slice (some a) l c)=true):a.block<n:=zS h
theorem blkLt_map{n r:Nat}(h:blkLt n (.map (some r))=true):r<n:=zS h
theorem quiet_at{o:Op}(hk:zK o=1)(P:Program)(t:Fr){n:Nat}(hl:lookLt n o t=true){h h':zB}(e:∀b,b<n→zF h' b=zF h b):yO o P t h'=yO o P t h:=by
 cases o with
 | load ty x =>
  have hl:blkLt n (ev t x)=true:=hl;show onPtr (ev t x) _ none=onPtr (ev t x) _ none;generalize ev t x=v at hl
  cases v with
  | pointer a =>
   cases a with
   | none=>rfl
   | some a =>
    obtain⟨b,off,s⟩:=a
    cases s with
    | some s=>rfl
    | none=>
     have:=e b (blkLt_ptr hl);unfold zF at this;show onRows (zF h' b) _ _ none=onRows (zF h b) _ _ none;unfold zF;rw [this]
  | _=>rfl
 | lookup ty x key ok =>
  have hl:blkLt n (ev t x)=true:=hl;show yH P h' ty (ev t x) (ev t key) ok=yH P h ty (ev t x) (ev t key) ok;generalize ev t x=v at hl
  cases v with
  | map r =>
   cases r with
   | none=>rfl
   | some r=>
    have:=e r (blkLt_map hl);unfold yH;simp only[this]
  | _=>rfl
 | slice ty x lo hi mx =>
  have hl:blkLt n (ev t x)=true:=hl;show wS P h' ty (ev t x) (lo.map (ev t)) (hi.map (ev t)) (mx.map (ev t))=wS P h ty (ev t x) (lo.map (ev t)) (hi.map (ev t)) (mx.map (ev t));generalize ev t x=v at hl
  unfold wS
  cases und P ty with
  | none=>rfl
  | some d =>
   cases v with
   | slice a l c =>
    cases a with
    | none=>cases d <;> rfl
    | some a =>
     have:=e a.block (blkLt_slice hl);obtain⟨b,off,s⟩:=a
     cases s with
     | some s=>cases d <;> rfl
     | none=>
      have this:zF h' b=zF h b:=this;cases d <;> simp only[this]
   | pointer a =>
    cases a with
    | none=>cases d <;> rfl
    | some a=>
     obtain⟨b,off,s⟩:=a;cases s <;> cases d <;> rfl
   | _=>cases d <;> rfl
 | call c =>
  obtain⟨callee,asz,ts⟩:=c
  cases callee with
  | value f=>cases hk
  | invoke r m=>cases hk
  | builtin b =>
   show quietB P b ts.toList (asz.toList.map (ev t)) h'=quietB P b ts.toList (asz.toList.map (ev t)) h;have hl:(match asz.toList with|x::_=>blkLt n (ev t x)|[]=>true)=true:=hl;generalize asz.toList=l at hl ⊢
   generalize ts.toList=tl
   cases b <;> first|rfl|skip
   cases l with
   | nil=>rfl
   | cons x l =>
    cases tl with
    | nil=>rfl
    | cons ty tl =>
     have hl:blkLt n (ev t x)=true:=hl;show aLen P h' ty (ev t x)=aLen P h ty (ev t x);generalize ev t x=v at hl
     unfold aLen
     cases und P ty with
     | none=>rfl
     | some d =>
      cases v with
      | map r =>
       cases r with
       | none=>cases d <;> rfl
       | some r=>
        have:=e r (blkLt_map hl);cases d <;> simp only[this]
      | _=>cases d <;> rfl
 | makeMap t r=>cases r <;> cases hk
 | _=>cases hk
theorem two_of{α : Type}{l:List α}{x y: α}(hx:x∈l)(hy:y∈l):x=y∨(∃A B C,l=A++x::(B++y::C))∨∃A B C,l=A++y::(B++x::C):=by
 obtain⟨A,B,rfl⟩:=List.append_of_mem hx;rcases List.mem_append.1 hy with h|h
 · obtain⟨A1,A2,rfl⟩:=List.append_of_mem h;exact .inr (.inr ⟨A1,A2,B,by simp⟩)
 · rcases List.mem_cons.1 h with h|h
   · exact .inl h.symm
   · obtain⟨B1,B2,rfl⟩:=List.append_of_mem h;exact .inr (.inl ⟨A,B1,B2,rfl⟩)
section
variable {P:Program} {ng:Nat} {all:Array Oper} {M:Nat→Nat} {D E:List DOp} {C:Cfg}
variable {pre suf:List Rec} {ts:Fr} {ws:W} {lst:Nat→Prop} {ρ : Inj} {H:zB} {a:Act} {wd:World} {cs:List Frame}
theorem Inv.uniq(I:Inv P ng all M D E C pre suf ts ws lst ρ H a wd cs)(K:RecPlan all M D){r r':Rec}(h:r∈pre++suf)(h':r'∈pre++suf)(e:r.x.i=r'.x.i):r=r':=by
 rcases two_of h h' with h1|⟨X,Y,Z,h1⟩|⟨X,Y,Z,h1⟩
 · exact h1
 · exact absurd e (K.later (A:=X.map (·.x)) (B:=Y.map (·.x)) (C:=Z.map (·.x)++E) (by rw[I.dd,h1];simp)).2
 · exact absurd e.symm (K.later (A:=X.map (·.x)) (B:=Y.map (·.x)) (C:=Z.map (·.x)++E) (by rw[I.dd,h1];simp)).2
theorem put_at{a:Act}{o:Option Tmp}{v:Value}{d:Nat}(h:o≠some d):(a.put o v).tmps[d]? = a.tmps[d]? :=by
 cases o with
 | none=>rfl
 | some e=>
  have:e≠d:=fun q=>h (by rw[q]);simp [Act.put,Array.getElem?_setIfInBounds_ne this]
theorem put_self_at{a:Act}{v:Value}{d:Nat}(h:d<a.tmps.size):(a.put (some d) v).tmps[d]? = some v:=by
 simp[Act.put,h]
theorem put_size{a:Act}{o:Option Tmp}{v:Value}:(a.put o v).tmps.size=a.tmps.size:=by
 cases o <;> simp[Act.put]
theorem Inv.note(I:Inv P ng all M D E C pre suf ts ws lst ρ H a wd cs)(K:RecPlan all M D)(hc:∀o∈all.toList,wQ ng (ntm P C.cx.fn) o=true){r:Rec}(hr:r∈suf)(h3:r.x.kd≠3)
(hx:¬lst r.x.i)(hm:∀b,zN (M r.x.i) b=true→lst b){ρ1:Inj}{H1:zB}{wd1:World}{v':Value}(hle: ρ.le ρ1)(hv:RV (ρ1.cut r.w2.n) r.v v')
(in0:In0 P ng (ρ1.cut ws.n) C.base C.w00 C.b a wd1 cs C.cx ws)(hp:∀m,ws.n≤m→HeapR P ng (ρ1.cut m) C.base C.w00 H1 m wd1)(gr:∀m,ws.n≤m→Grow C.ρ0 C.W0.h C.W0.n C.wd0 (ρ1.cut m) H1 m wd1)
(hh:∀b,b<ws.n→zF H1 b=zF ws.h b)(mkd:∀q∈suf,q.x.kd=2→q.sk=false→(lst q.x.i∨q=r)→zF H1 q.w.n=zF q.w2.h q.w.n)
(ex:∀b B,ws.n≤b→ρ1 b=some B→∃q∈suf,q.x.kd=2∧q.sk=false∧(lst q.x.i∨q=r)∧q.w.n=b) :
 Inv P ng all M D E C pre suf ts ws (fun i=>lst i∨i=r.x.i) ρ1 H1 (a.put r.x.o.dst v') wd1 cs:=by
 have hrm:r∈pre++suf:=List.mem_append_right _ hr;have hrD:r.x∈D:=by rw[I.dd];exact List.mem_append_left _ (List.mem_map.2 ⟨r,hrm,rfl⟩)
 have hdst:∀q∈pre++suf,lst q.x.i→∀d,q.x.o.dst=some d→r.x.o.dst≠some d:=by
  intro q hq hl d e e2;have hqD:q.x∈D:=by rw[I.dd];exact List.mem_append_left _ (List.mem_map.2 ⟨q,hq,rfl⟩)
  rcases K.pair q.x hqD r.x hrD d e (.inr e2) with h|⟨h,_⟩
  · rw[h]at hl;exact hx hl
  · exact h e2
 have hlt:∀d,r.x.o.dst=some d→d<a.tmps.size:=by
  intro d e
  have hmem:r.x.o∈all.toList:=by
   have ho:=K.at' r.x hrD;rw [← Array.getElem?_toList]at ho;exact List.mem_iff_getElem?.2 ⟨_,ho⟩
  have:=(Bool.and_eq_true_iff.1 (hc r.x.o hmem)).2;rw [e]at this;have h1:d<ntm P C.cx.fn:=zS this;rw [I.sz];exact Nat.lt_of_lt_of_le h1 I.tm0.le
 refine⟨I.dd,I.r1,I.r2,I.last,fun q hq=>.inl (I.pl q hq),?_,?_,?_,in0.act (put_defers a _ _),hp,gr,I.cst,hh,?_,?_,?_,?_,I.tm0.mono (cut_mono hle _),put_size.trans I.sz⟩
 · intro q hq hk hl;rcases hl with hl|hl
   · exact I.sl q hq hk hl
   · have:=I.uniq K (List.mem_append_right _ hq) hrm hl;rw [this]at hk;exact h3 hk
 · intro i hi;rcases hi with hi|rfl
   · exact I.only i hi
   · exact⟨r,hrm,rfl⟩
 · intro i hi j hj;rcases hi with hi|rfl
   · exact .inl (I.closed i hi j hj)
   · exact .inl (hm j hj)
 · intro q hq h2 hsk hl;refine mkd q hq h2 hsk ?_;rcases hl with hl|hl
   · exact .inl hl
   · exact .inr (I.uniq K (List.mem_append_right _ hq) hrm hl)
 · intro b B hb e;obtain⟨q,q1,q2,q3,q4,q5⟩:=ex b B hb e;exact⟨q,q1,q2,q3,q4.imp id (fun e=>by rw[e]),q5⟩
 · intro q hq hl d hd;by_cases hql:lst q.x.i
   · obtain⟨v2,e1,e2⟩:=I.val q hq hql d hd;exact⟨v2,by rw[put_at (hdst q hq hql d hd)];exact e1,e2.mono (cut_mono hle _)⟩
   · have hqr:q=r:=I.uniq K hq hrm (hl.resolve_left hql);subst hqr;exact⟨v',by rw[hd];exact put_self_at (hlt d hd),hv⟩
 · intro d hd;rw [put_at (hd r hrm (.inr rfl))];exact I.un d fun q hq hl=>hd q hq (.inl hl)
theorem Inv.calm(I:Inv P ng all M D E C pre suf ts ws lst ρ H a wd cs)(K:RecPlan all M D)(hc:∀o∈all.toList,wQ ng (ntm P C.cx.fn) o=true){r:Rec}(hr:r∈suf)(h3:r.x.kd≠3)(h2:r.x.kd≠2∨r.sk=true)
(hx:¬lst r.x.i)(hm:∀b,zN (M r.x.i) b=true→lst b){v':Value}(hv:RV (ρ.cut r.w2.n) r.v v') :
 Inv P ng all M D E C pre suf ts ws (fun i=>lst i∨i=r.x.i) ρ H (a.put r.x.o.dst v') wd cs:=
 I.note K hc hr h3 hx hm (Inj.le.refl ρ) hv I.in0 I.hp I.gr I.hh
  (fun q hq q2 q3 q4=>I.mkd q hq q2 q3 (q4.resolve_right fun e=>by
   subst e;rcases h2 with h2|h2
   · exact h2 q2
   · rw[h2]at q3;cases q3))
  (fun b B hb e=>let ⟨q,q1,q2,q3,q4,q5⟩:=I.ex b B hb e;⟨q,q1,q2,q3,.inl q4,q5⟩)
end
end Go.Ex
namespace Go.Ex
theorem hsOf_app:∀(A B:List Rec) (hs:List W),hsOf (A++B) hs=hsOf B (hsOf A hs):=by
 intro A
 induction A with
 | nil=>intro B hs;rfl
 | cons r A ih=>intro B hs;exact ih B _
theorem hsOf_ends:∀(R:List Rec) (hs:List W),∃X,hsOf R hs=X++hs:=by
 intro R
 induction R with
 | nil=>intro hs;exact⟨[],rfl⟩
 | cons r R ih=>
  intro hs;obtain⟨X,e⟩:=ih (cond (Nat.beq r.x.kd 3) (r.w2::hs) hs)
  cases h:Nat.beq r.x.kd 3 with
  | true=>exact⟨X++[r.w2],by rw[h]at e;show hsOf R (cond (Nat.beq r.x.kd 3) (r.w2::hs) hs)=_;rw [h,e];simp⟩
  | false=>exact⟨X,by rw[h]at e;show hsOf R (cond (Nat.beq r.x.kd 3) (r.w2::hs) hs)=_;rw [h,e];rfl⟩
theorem hsOf_len:∀(R:List Rec) (hs:List W),(hsOf R hs).length=(R.map (·.x)).countP (fun c=>Nat.beq c.kd 3)+hs.length:=by
 intro R
 induction R with
 | nil=>intro hs;simp [hsOf]
 | cons r R ih=>
  intro hs;show(hsOf R (cond (Nat.beq r.x.kd 3) (r.w2::hs) hs)).length=_;rw [ih];cases h:Nat.beq r.x.kd 3 <;> simp[h];omega
theorem lsOf_keep:∀(R:List Rec) (ls:List Look) (l:Look),l∈ls→l∈lsOf R ls:=by
 intro R
 induction R with
 | nil=>intro ls l h;exact h
 | cons r R ih=>
  intro ls l h;refine ih _ l ?_
  cases (!r.sk && (Nat.beq r.x.kd 1 && !Nat.beq r.x.low r.x.high)) with
  | true=>exact List.mem_cons_of_mem _ h
  | false=>exact h
theorem lsOf_mem:∀(R:List Rec) (ls:List Look) (r:Rec),r∈R→r.sk=false→r.x.kd=1→r.x.low≠r.x.high→(⟨r.x.o.op,r.t,r.v,r.x.low,r.x.high⟩:Look)∈lsOf R ls:=by
 intro R
 induction R with
 | nil=>intro ls r h;simp at h
 | cons q R ih=>
  intro ls r h h1 h2 h3;rcases List.mem_cons.1 h with rfl|h
  · refine lsOf_keep R _ _ ?_
    have e:Nat.beq r.x.low r.x.high=false:=by
     cases e:Nat.beq r.x.low r.x.high with
     | false=>rfl
     | true=>exact absurd (zD e) h3
    rw[h1,h2,e];exact List.mem_cons_self
  · exact ih _ r h h1 h2 h3
theorem looksOK_mem{P:Program}{k:Nat}{hs:List W}:∀{ls:List Look},yP P k hs ls=true→∀l∈ls,vJ P l k hs=true:=by
 intro ls
 induction ls with
 | nil=>intro _ l h;simp at h
 | cons q ls ih=>
  intro h l hl;have h':(vJ P q k hs && yP P k hs ls)=true:=h;obtain⟨h1,h2⟩:=Bool.and_eq_true_iff.1 h';rcases List.mem_cons.1 hl with rfl|hl
  · exact h1
  · exact ih h2 l hl
theorem le_ble{a b:Nat}(h:a≤b):Nat.ble a b=true:=by rw[Nat.ble_eq];exact h
theorem lookOK_at{P:Program}{l:Look}:∀{X:List W} {w:W} {Y:List W},vJ P l (X++w::Y).length (X++w::Y)=true→l.low≤Y.length→Y.length≤l.high→
 lookLt w.n l.o l.t=true∧∃v,yO l.o P l.t w.h=some v∧sameB v l.v=true:=by
 intro X
 induction X with
 | nil =>
  intro w Y h h1 h2
  have h':((cond (Nat.ble l.low Y.length && Nat.ble Y.length l.high) (lookLt w.n l.o l.t && (match yO l.o P l.t w.h with
   | some v=>sameB v l.v
   | none=>false)) true) && vJ P l Y.length Y)=true:=h
  obtain⟨h3,_⟩:=Bool.and_eq_true_iff.1 h';rw [le_ble h1,le_ble h2]at h3
  obtain⟨h4,h5⟩:=Bool.and_eq_true_iff.1 (show(lookLt w.n l.o l.t && (match yO l.o P l.t w.h with
   | some v=>sameB v l.v
   | none=>false))=true from h3)
  refine⟨h4,?_⟩
  cases hq:yO l.o P l.t w.h with
  | none=>rw [hq]at h5;cases h5
  | some v=>rw [hq]at h5;exact⟨v,rfl,h5⟩
 | cons q X ih =>
  intro w Y h h1 h2
  have h':((cond (Nat.ble l.low (X++w::Y).length && Nat.ble (X++w::Y).length l.high) (lookLt q.n l.o l.t && (match yO l.o P l.t q.h with
   | some v=>sameB v l.v
   | none=>false)) true) && vJ P l (X++w::Y).length (X++w::Y))=true:=h
  exact ih (Bool.and_eq_true_iff.1 h').2 h1 h2
theorem xW{v v':Value}(h:scalB v v'=true):v=v':=by
 unfold scalB at h;split at h <;> try (first|rfl|(exact absurd h Bool.false_ne_true))
 · rename_i a b;cases a <;> cases b <;> first|rfl|cases h
 · obtain⟨h1,h2⟩:=Bool.and_eq_true_iff.1 h;rw [xD]at h2;rw [vD h1,of_decide_eq_true h2]
 · rename_i a b;rw [wV]at h;have e:=eq_of_beq h;obtain⟨⟨a⟩⟩:=a;obtain⟨⟨b⟩⟩:=b;have e:a=b:=e;rw [e]
 · obtain⟨h1,h2⟩:=Bool.and_eq_true_iff.1 h;rw [zD h1,zD h2]
 · obtain⟨h1,h2⟩:=Bool.and_eq_true_iff.1 h;rw [zD h1,zD h2]
 · obtain⟨h1,h4⟩:=Bool.and_eq_true_iff.1 h;obtain⟨h1,h3⟩:=Bool.and_eq_true_iff.1 h1;obtain⟨h1,h2⟩:=Bool.and_eq_true_iff.1 h1;rw [zD h1,zD h2,zD h3,zD h4]
 · rw[zD h]
theorem scalsB_eq:∀{l l':List Value},vI l l'=true→l=l':=by
 intro l
 induction l with
 | nil=>intro l' h;cases l' with
  | nil=>rfl
  | cons b l'=>cases h
 | cons a l ih => intro l' h; cases l' with
  | nil=>cases h
  | cons b l'=>
   have h':(scalB a b && vI l l')=true:=h;obtain⟨h1,h2⟩:=Bool.and_eq_true_iff.1 h';rw [xW h1,ih h2]
theorem sameB_eq{v v':Value}(h:sameB v v'=true):v=v':=by
 unfold sameB at h;split at h
 · rename_i a b;have e:=scalsB_eq h;obtain⟨a⟩:=a;obtain⟨b⟩:=b;have e:a=b:=e;rw [e]
 · rename_i a b;have e:=scalsB_eq h;obtain⟨a⟩:=a;obtain⟨b⟩:=b;have e:a=b:=e;rw [e]
 · rename_i f a b g c d;obtain⟨h1,h2⟩:=Bool.and_eq_true_iff.1 h;obtain⟨h2,h3⟩:=Bool.and_eq_true_iff.1 h2;have e1:=scalsB_eq h2;have e2:=scalsB_eq h3;obtain⟨a⟩:=a;obtain⟨b⟩:=b;obtain⟨c⟩:=c;obtain⟨d⟩:=d;have e1:a=c:=e1;have e2:b=d:=e2;rw [zD h1,e1,e2]
 · exact xW h
theorem countP_lt{α : Type}{p q: α→Bool}{l:List α}(h:∀x∈l,p x=true→q x=true){c: α}(hc:c∈l)(hp:p c=false)(hq:q c=true):l.countP p<l.countP q:=by
 obtain⟨A,B,rfl⟩:=List.append_of_mem hc;have h1:A.countP p≤A.countP q:=List.countP_mono_left fun x hx=>h x (by simp[hx]);have h2:B.countP p≤B.countP q:=List.countP_mono_left fun x hx=>h x (by simp[hx]);simp only[List.countP_append,List.countP_cons,hp,hq];simp;omega
section
variable {P:Program} {ng:Nat} {all:Array Oper} {M:Nat→Nat} {D E:List DOp} {C:Cfg}
variable {pre suf:List Rec} {ts:Fr} {ws:W} {lst:Nat→Prop} {ρ : Inj} {H:zB} {a:Act} {wd:World} {cs:List Frame}
theorem seg_ok{cx:Cx}:∀{A:List Rec} {t t':Fr} {w w':W},RecsOK P ng all cx A t w t' w'→(∀r∈A,r.x.kd≠3∧r.x.kd=zK r.x.o.op)→
 w'.d=w.d∧w'.u=w.u∧(∀b,b<w.n→zF w'.h b=zF w.h b)∧∀r∈A,r.x.kd=2→r.sk=false→zF w'.h r.w.n=zF r.w2.h r.w.n:=by
 intro A
 induction A with
 | nil=>intro t t' w w' h _;cases h;exact⟨rfl,rfl,fun _ _=>rfl,fun r hr=>by simp at hr⟩
 | cons r A ih =>
  intro t t' w w' h hk;have hk':∀r∈A,r.x.kd≠3∧r.x.kd=zK r.x.o.op:=fun q hq=>hk q (by simp[hq]);obtain⟨k3,kk⟩:=hk r (by simp)
  cases h with
  | cons hr hrs =>
   obtain⟨i1,i2,i3,i4⟩:=ih hrs hk'
   have key:r.w2.d=r.w.d∧r.w2.u=r.w.u∧(∀b,b<r.w.n→zF r.w2.h b=zF r.w.h b)∧(r.x.kd=2→r.sk=false→r.w.n<r.w2.n):=by
    cases hr with
    | skip=>exact⟨rfl,rfl,fun _ _=>rfl,fun _ h=>by cases h⟩
    | look hw hkk=>exact⟨rfl,rfl,fun _ _=>rfl,fun h=>by dsimp only at h;omega⟩
    | made hw hkk hn=>exact⟨rfl,rfl,fun b hb=>by dsimp only at hb ⊢;rw [zH,if_neg (by omega)],fun _ _=>Nat.lt_succ_self _⟩
    | act hw hkk ho hn=>
     exfalso
     rename_i x t w w2 v;have h9:zK x.o.op≤3:=by unfold zK;split <;> (try split) <;> omega
     dsimp only at k3 kk;omega
   obtain⟨k1,k2,k4,k5⟩:=key;have hn:=rec_n hr;refine⟨i1.trans k1,i2.trans k2,fun b hb=>(i3 b (by omega)).trans (k4 b hb),fun q hq h2 hsk=>?_⟩;rcases List.mem_cons.1 hq with rfl|hq
   · exact i3 _ (k5 h2 hsk)
   · exact i4 q hq h2 hsk
theorem maker_uniq{cx:Cx}{R:List Rec}{t t':Fr}{w w':W}(h:RecsOK P ng all cx R t w t' w'){r r':Rec}(hr:r∈R)(hr':r'∈R)(k:r.x.kd=2)(k':r'.x.kd=2)(s:r.sk=false)(s':r'.sk=false)(e:r.w.n=r'.w.n):r=r':=by
 have grow:∀{r:Rec},RecOK P ng all cx r→r.x.kd=2→r.sk=false→r.w.n<r.w2.n:=by
  intro r h k s
  cases h with
  | skip=>cases s
  | look hw hkk=>dsimp only at k;omega
  | made=>exact Nat.lt_succ_self _
  | act hw hkk=>exact absurd k hkk.2.2
 have key:∀{r r':Rec} {X Y Z:List Rec},r.x.kd=2→r.sk=false→R=X++r::(Y++r'::Z)→r.w.n<r'.w.n:=by
  intro r r' X Y Z k s hR;rw [hR]at h;obtain⟨t1,w1,_,h2⟩:=wJ h
  cases h2 with
  | cons h3 h4=>
   have h5:=grow h3 k s;have h6:=((yT h4).2 r' (by simp)).2.1;omega
 rcases two_of hr hr' with h1|⟨X,Y,Z,h1⟩|⟨X,Y,Z,h1⟩
 · exact h1
 · have:=key k s h1;omega
 · have:=key k' s' h1;omega
theorem Inv.seg(I:Inv P ng all M D E C pre suf ts ws lst ρ H a wd cs)(K:RecPlan all M D){A S:List Rec}{t:Fr}{w:W}(hs:suf=A++S)(hA:RecsOK P ng all C.cx A ts ws t w)(h3:∀r∈A,r.x.kd≠3) :
 w.d=ws.d∧w.u=ws.u∧∀b B,b<w.n→ρ b=some B→zF w.h b=zF H b:=by
 have hD:∀r∈A,r.x∈D:=fun r hr=>by rw[I.dd];exact List.mem_append_left _ (List.mem_map.2 ⟨r,by rw[hs];simp [hr],rfl⟩)
 obtain⟨s1,s2,s3,s4⟩:=seg_ok hA fun r hr=>⟨h3 r hr,K.kd _ (hD r hr)⟩;refine⟨s1,s2,fun b B hb e=>?_⟩;rcases Nat.lt_or_ge b ws.n with h|h
 · rw[s3 b h,I.hh b h]
 · obtain⟨q,q1,q2,q3,q4,q5⟩:=I.ex b B h e;have hr2:=I.r2;rw [hs]at hr2;obtain⟨t1,w1,x1,x2⟩:=wJ hr2
   have hqA:q∈A:=by
    rw[hs]at q1;rcases List.mem_append.1 q1 with h|h
    · exact h
    · exfalso
      have h6:=((yT x2).2 q h).2.1;have e1:=recs_end hA x1;rw [← e1]at h6;omega
   subst q5;rw [s4 q hqA q2 q3,I.mkd q q1 q2 q3 q4]
end
end Go.Ex
namespace Go.Ex
section
variable {P:Program} {ng:Nat} {all:Array Oper} {M:Nat→Nat} {D E:List DOp} {C:Cfg}
variable {pre suf:List Rec} {ts:Fr} {ws:W} {lst:Nat→Prop} {ρ : Inj} {H:zB} {a:Act} {wd:World} {cs:List Frame}
theorem Inv.mem(I:Inv P ng all M D E C pre suf ts ws lst ρ H a wd cs){r:Rec}(h:r∈pre++suf):r.x∈D:=by
 rw[I.dd];exact List.mem_append_left _ (List.mem_map.2 ⟨r,h,rfl⟩)
theorem Inv.head(I:Inv P ng all M D E C pre suf ts ws lst ρ H a wd cs):∃Y,hsOf pre [C.W0]=ws::Y∧Y.length=(pre.map (·.x)).countP (fun c=>Nat.beq c.kd 3):=by
 rcases I.last with h|⟨p,r,h,h3⟩
 · subst h;have:=I.r1;cases this
   exact⟨[],rfl,rfl⟩
 · have h1:=I.r1;rw [h]at h1;obtain⟨t1,w1,_,h2⟩:=wJ h1
   cases h2 with
   | cons h3' h4=>
    cases h4
    refine⟨hsOf p [C.W0],?_,?_⟩
    · rw[h,hsOf_app];show cond (Nat.beq r.x.kd 3) (r.w2::hsOf p [C.W0]) (hsOf p [C.W0])=_;rw [h3];rfl
    · rw[h,hsOf_len];simp [h3]
theorem Inv.look(hP:zU ng P=true)(I:Inv P ng all M D E C pre suf ts ws lst ρ H a wd cs)(K:RecPlan all M D)
(hL:yP P (hsOf (pre++suf) [C.W0]).length (hsOf (pre++suf) [C.W0]) (lsOf (pre++suf) [])=true)
{A B:List Rec}{r:Rec}(hs:suf=A++r::B)(hA:RecsOK P ng all C.cx A ts ws r.t r.w)(hsk:r.sk=false)(hk:r.x.kd=0∨r.x.kd=1)(hq:yO r.x.o.op P r.t r.w.h=some r.v)
(hx:¬lst r.x.i)(hm:∀b,zN (M r.x.i) b=true→lst b)(hO:OpsR (ρ.cut r.w.n) r.t a r.x.o) :
 ∃v',(execOp a.eval r.x.o).run P wd = .ok (.value v') wd∧RV (ρ.cut r.w.n) r.v v':=by
 have hwn:ws.n≤r.w.n:=(yT hA).1;have hrm:r∈pre++suf:=by rw[hs];simp
 have hrD:=I.mem hrm;have hkd:=K.kd _ hrD;have hDr:D=(pre++A).map (·.x)++r.x::(B.map (·.x)++E):=by rw[I.dd,hs];simp
 rcases hk with hk|hk
 · rw[quiet_free (hkd.symm.trans hk) P r.t r.w.h H]at hq;exact quiet_ok hP (I.hp _ hwn) hO hq
 by_cases hlh:r.x.low=r.x.high
 ·
  have hno:∀q∈A,q.x.kd≠3:=by
   intro q hqA h3;have hql:¬lst q.x.i:=I.sl q (by rw[hs];simp [hqA]) h3;obtain⟨A1,A2,hA2⟩:=List.append_of_mem hqA;have hDq:D=(pre++A1).map (·.x)++q.x::(A2.map (·.x)++r.x::(B.map (·.x)++E)):=by rw[hDr,hA2];simp
   obtain⟨l1,l2⟩:=K.later hDq
   have hlt:=countP_lt (l:=D) (p:=fun c=>Nat.beq c.kd 3 && zN (M r.x.i) c.i) (q:=fun c=>Nat.beq c.kd 3 && (!zN (M c.i) r.x.i && !Nat.beq c.i r.x.i)) (c:=q.x)
    (fun c hc hp=>by
     obtain⟨p1,p2⟩:=Bool.and_eq_true_iff.1 hp
     have b1:zN (M c.i) r.x.i=false∧c.i≠r.x.i:=by
      rcases two_of hc hrD with e|⟨X,Y,Z,e⟩|⟨X,Y,Z,e⟩
      · exfalso
        rw[e,hk]at p1;cases p1
      · exact K.later e
      · rw[(K.later e).1]at p2;cases p2
     have b2:Nat.beq c.i r.x.i=false:=by
      cases e:Nat.beq c.i r.x.i with
      | false=>rfl
      | true=>exact absurd (zD e) b1.2
     simp only[p1,b1.1,b2];rfl)
    (by rw[hDq];simp)
    (by
     have:zN (M r.x.i) q.x.i=false:=by
      cases e:zN (M r.x.i) q.x.i with
      | false=>rfl
      | true=>exact absurd (hm _ e) hql
     simp only[this,Bool.and_false])
    (by
     have b2:Nat.beq q.x.i r.x.i=false:=by
      cases e:Nat.beq q.x.i r.x.i with
      | false=>rfl
      | true=>exact absurd (zD e) l2
     simp only[h3,l1,b2];rfl)
   rw[← K.low _ hrD]at hlt;have:=K.high _ hrD;omega
  obtain⟨_,_,s3⟩:=I.seg K hs hA hno;exact quiet_ok hP ((I.hp _ hwn).congr fun b B e=>let ⟨h1,h2⟩:=xA e;s3 b B h1 h2) hO hq
 ·
  have hmem:=lsOf_mem (pre++suf) [] r hrm hsk hk hlh;have hl:=looksOK_mem hL _ hmem;obtain⟨Y,hY1,hY2⟩:=I.head;obtain⟨X,hX⟩:=hsOf_ends suf (hsOf pre [C.W0]);rw [hsOf_app,hX,hY1]at hl
  have split:∀p:DOp→Bool,D.countP p=(pre.map (·.x)).countP p+((suf.map (·.x))++E).countP p:=by
   intro p;rw [I.dd,List.map_append,List.append_assoc,List.countP_append]
  have hlow:r.x.low≤Y.length:=by
   rw[K.low _ hrD,split,hY2]
   have z:((suf.map (·.x))++E).countP (fun c=>Nat.beq c.kd 3 && zN (M r.x.i) c.i)=0:=by
    rw[List.countP_eq_zero];intro c hc hp;obtain⟨p1,p2⟩:=Bool.and_eq_true_iff.1 hp;have hl':=hm _ p2;rcases List.mem_append.1 hc with hc|hc
    · obtain⟨q,hq1,rfl⟩:=List.mem_map.1 hc;exact I.sl q hq1 (zD p1) hl'
    · obtain⟨E1,E2,hE⟩:=List.append_of_mem hc;rw [(K.later (x:=r.x) (y:=c) (A:=(pre++A).map (·.x)) (B:=B.map (·.x)++E1) (C:=E2) (by rw[hDr,hE];simp)).1]at p2;cases p2
   rw[z];exact Nat.le_trans (Nat.le_of_eq (Nat.add_zero _)) (List.countP_mono_left fun c _ hp=>(Bool.and_eq_true_iff.1 hp).1)
  have hhigh:Y.length≤r.x.high:=by
   refine Nat.le_trans ?_ (K.high _ hrD);rw [split,hY2];refine Nat.le_trans (List.countP_mono_left fun c hc hp=>?_) (Nat.le_add_right _ _);obtain⟨q,hq1,rfl⟩:=List.mem_map.1 hc;have hql:=I.pl q hq1
   have b1:zN (M q.x.i) r.x.i=false:=by
    cases e:zN (M q.x.i) r.x.i with
    | false=>rfl
    | true=>exact absurd (I.closed _ hql _ e) hx
   have b2:Nat.beq q.x.i r.x.i=false:=by
    cases e:Nat.beq q.x.i r.x.i with
    | false=>rfl
    | true=>rw [zD e]at hql;exact absurd hql hx
   simp only[hp,b1,b2];rfl
  obtain⟨k1,v,k2,k3⟩:=lookOK_at hl hlow hhigh;have hv:v=r.v:=sameB_eq k3;subst hv;have k2:yO r.x.o.op P r.t ws.h=some r.v:=k2;rw [← quiet_at (h':=H) (hkd.symm.trans hk) P r.t k1 I.hh]at k2;exact quiet_ok hP (I.hp _ hwn) hO k2
theorem Inv.made(I:Inv P ng all M D E C pre suf ts ws lst ρ H a wd cs)(K:RecPlan all M D)(hc:∀o∈all.toList,wQ ng (ntm P C.cx.fn) o=true)
{A B:List Rec}{r:Rec}{v:Nat→Value}{ob:AObj}(hs:suf=A++r::B)(hA:RecsOK P ng all C.cx A ts ws r.t r.w)(hk:r.x.kd=2)(hsk:r.sk=false)(hn:NewVal P ng r.x.o r.t v ob)
(hv:r.v=v r.w.n)(hw2:r.w2=W.mk r.w.d r.w.u (r.w.h.set .dead ob r.w.n) (r.w.n+1))
(hx:¬lst r.x.i)(hm:∀b,zN (M r.x.i) b=true→lst b)(hO:OpsR (ρ.cut r.w.n) r.t a r.x.o) :
 ∃v' wd' ρ1 H1,(execOp a.eval r.x.o).run P wd = .ok (.value v') wd'∧
  Inv P ng all M D E C pre suf ts ws (fun i=>lst i∨i=r.x.i) ρ1 H1 (a.put r.x.o.dst v') wd' cs:=by
 have hwn:ws.n≤r.w.n:=(yT hA).1;have hW0:C.W0.n≤ws.n:=(yT I.r1).1;have hr:r∈suf:=by rw[hs];simp
 obtain⟨Bl,o',v',b1,b2,b3,b4⟩:=hn (ρ.cut r.w.n) C.base C.w00 a wd H r.w.n hO (I.hp _ hwn)
 have hnone: ρ r.w.n=none:=by
  cases e: ρ r.w.n with
  | none=>rfl
  | some B=>
   obtain⟨q,q1,q2,q3,q4,q5⟩:=I.ex _ B hwn e;have:=maker_uniq I.r2 q1 hr q2 hk q3 hsk q5;rw [this]at q4;exact absurd q4 hx
 have hle:=Inj.le_put Bl hnone
 have hv':RV ((ρ.put r.w.n Bl).cut r.w2.n) r.v v':=by
  rw[hw2];show RV ((ρ.put r.w.n Bl).cut (r.w.n+1)) r.v v';rw [put_cut_succ,hv];exact b3
 refine⟨v',_,ρ.put r.w.n Bl,H.set .dead ob r.w.n,b2,I.note K hc hr (by omega) hx hm hle hv' ?_ ?_ ?_ ?_ ?_ ?_⟩
 · rw[put_cut_ge Bl hwn];exact⟨I.in0.fn,I.in0.kind,I.in0.rd,I.in0.rdf,I.in0.hp.push o',I.in0.dr,I.in0.ur,I.in0.fnd⟩
 · intro m hm';rcases Nat.lt_or_ge r.w.n m with h|h
   · rw[put_cut_lt Bl h];refine(I.hp m hm').add (by rw[yK h];exact hnone) h ob o' Bl b1 (b4.mono ?_);intro b B e;by_cases hb:b=r.w.n
     · simpa [Inj.put,hb] using e
     · simp[Inj.put,hb]at e ⊢;exact cut_le (Nat.le_of_lt h) _ _ e
   · rw[put_cut_ge Bl h]
     exact((I.hp m hm').push o').congr fun b B e=>by
      have:=(xA e).1;rw [zH,if_neg (by omega)]
 · intro m hm';rcases Nat.lt_or_ge r.w.n m with h|h
   · rw[put_cut_lt Bl h];exact(I.gr m hm').add (by omega) ob o' Bl b1
   · rw[put_cut_ge Bl h];exact((I.gr m hm').push o').congr fun b e=>by rw[zH,if_neg (by omega)]
 · intro b hb;rw [zH,if_neg (by omega)];exact I.hh b hb
 · intro q hq q2 q3 q4;rw [zH];by_cases h:r.w.n=q.w.n
   · have:=maker_uniq I.r2 hr hq hk q2 hsk q3 h;subst this;rw [if_pos rfl,hw2];show ob=zF (r.w.h.set .dead ob r.w.n) r.w.n;rw [zH,if_pos rfl]
   · rw[if_neg h];rcases q4 with q4|q4
     · exact I.mkd q hq q2 q3 q4
     · subst q4;exact absurd rfl h
 · intro b B hb e;by_cases h:b=r.w.n
   · exact⟨r,hr,hk,hsk,.inr rfl,h.symm⟩
   · obtain⟨q,q1,q2,q3,q4,q5⟩:=I.ex b B hb (by simpa [Inj.put,h] using e);exact⟨q,q1,q2,q3,.inl q4,q5⟩
end
end Go.Ex
