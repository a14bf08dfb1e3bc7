/- What the law leans on: an executor of the model that is sound, deduction over it, and the walks through the code (part 10 of 24). Conditions: those that each theorem states. -/
import Derived.Test.YtdipdkkpgjdnkaaGreatDoorVirLinesx9

set_option linter.unusedVariables false
set_option linter.unusedSimpArgs false
namespace Go.Ex
section
variable {P:Program} {ng:Nat} {all:Array Oper} {M:Nat→Nat} {D E:List DOp} {C:Cfg}
variable {pre suf:List Rec} {ts:Fr} {ws:W} {lst:Nat→Prop} {ρ : Inj} {H:zB} {a:Act} {wd:World} {cs:List Frame}
theorem Inv.all_done(I:Inv P ng all M D E C pre suf ts ws lst ρ H a wd cs)(K:RecPlan all M D)(hl:∀r∈pre++suf,lst r.x.i) :
 In P ng (ρ.cut C.w1.n) C.base C.w00 C.b a wd cs C.cx C.t1 C.w1∧Grow C.ρ0 C.W0.h C.W0.n C.wd0 (ρ.cut C.w1.n) C.w1.h C.w1.n wd:=by
 have hno:∀q∈suf,q.x.kd≠3:=fun q hq h3=>I.sl q hq h3 (hl q (List.mem_append_right _ hq));have hs:suf=suf++[]:=by simp
 have h0:=I.at_act K hs I.r2 hno;have hall:=vJ I.r1 I.r2;have hW0:C.W0.n≤ws.n:=(xM I.r1).1;have hkA:∀q∈suf,q.x.kd≠3∧q.x.kd=zU q.x.o.op:=fun q hq=>⟨hno q hq,K.kd _ (I.mem (List.mem_append_right _ hq))⟩;obtain⟨_,_,s4,_⟩:=seg_ok I.r2 hkA;refine⟨h0.toIn ⟨by rw[I.sz];exact I.tm0.sz,fun d v hv=>?_⟩,(I.gr _ (xM I.r2).1).congr fun b hb=>by rw[s4 b (by omega),I.hh b (by omega)]⟩;by_cases hw:∃y∈pre++suf,y.x.o.dst=some d
 · obtain⟨y,hy,hyd⟩:=hw;obtain⟨A1,A2,hsp⟩:=List.append_of_mem hy;have hDy:D=A1.map (·.x)++y.x::(A2.map (·.x)++E):=by rw[I.dd,hsp];simp
   obtain⟨v',q1,q2⟩:=I.val y hy (hl y hy) d hyd;rw [hv]at q1;injection q1 with q1;subst q1
   have hb:=((xM hall).2 y hy).2.2;rw [hsp]at hall
   have h2:fget C.t1 d=y.v:=recs_write hall hyd fun z hz e=>by
    obtain⟨B1,B2,hz2⟩:=List.append_of_mem hz;have hDz:D=A1.map (·.x)++y.x::(B1.map (·.x)++z.x::(B2.map (·.x)++E)):=by rw[hDy,hz2];simp
    obtain⟨_,l4⟩:=K.later hDz;rcases K.pair y.x (by rw[hDz];simp) z.x (by rw[hDz];simp) d hyd (.inr e) with h|⟨h,_⟩
    · exact l4 h
    · exact h e
   rw[h2];exact q2.mono (cut_le hb)
 · have hno':∀r∈pre++suf,r.x.o.dst≠some d:=fun r hr e=>hw ⟨r,hr,e⟩;rw [recs_slot hall hno'];rw [I.un d fun r hr _=>hno' r hr]at hv;exact(I.tm0.tm d v hv).mono (cut_le (xM hall).1)
theorem HeapR.later{base:Nat}{w0:World}{h:zB}{n m:Nat}(r:HeapR P ng ρ base w0 h n wd)(hm:n≤m):HeapR P ng ρ base w0 h m wd:=
 ⟨fun b hb=>r.dom b (by omega),r.obj,r.inj,r.below,r.size,r.glob,by have:=r.ngn;omega⟩
theorem cut_dom{n m:Nat}(h:∀b,n≤b→ρ b=none)(hm:n≤m): ρ.cut m = ρ :=by
 funext b
 rcases Nat.lt_or_ge b m with h1|h1
 · exact yW h1
 · rw[cut_ge h1,h b (by omega)]
theorem recs_det{all:Array Oper}{cx:Cx}:∀{A:List Rec} {t t1 t2:Fr} {w w1 w2:W},RecsOK P ng all cx A t w t1 w1→RecsOK P ng all cx A t w t2 w2→t1=t2∧w1=w2:=by
 intro A
 induction A with
 | nil=>intro t t1 t2 w w1 w2 h h';cases h;cases h';exact⟨rfl,rfl⟩
 | cons r A ih =>
  intro t t1 t2 w w1 w2 h h'
  cases h with
  | cons h hr=>
   cases h' with
   | cons h' hr'=>exact ih hr hr'
theorem recPlan_dry{all:Array Oper}{M:Nat→Nat}{Rx rest L:List DOp}{d:DOp}(hL:L=Rx++d::rest)(K:RecPlan all M L)(hk:d.kd=3)
(htr:∀x∈L,∀y∈L,zW (M x.i) y.i=true→∀b,zW (M y.i) b=true→zW (M x.i) b=true)
(hun:∀y∈L,(d.un.any fun i=>Nat.beq i y.i)=true↔d.i≠y.i∧zW (M d.i) y.i=false∧zW (M y.i) d.i=false) :
 RecPlan all M (Rx++dryOf d.un rest)∧(∀x∈dryOf d.un rest,x∈L∧x.kd≠3∧x.i≠d.i∧zW (M d.i) x.i=false∧zW (M x.i) d.i=false):=by
 have hdL:d∈L:=by rw[hL];simp
 have hrest:∀y∈rest,y∈L∧zW (M d.i) y.i=false∧d.i≠y.i:=by
  intro y hy;obtain⟨S1,S2,hS⟩:=List.append_of_mem hy;obtain⟨l1,l2⟩:=K.later (x:=d) (y:=y) (A:=Rx) (B:=S1) (C:=S2) (by rw[hL,hS]);exact⟨by rw[hL];simp [hy],l1,l2⟩
 have hdry:∀x∈dryOf d.un rest,x∈L∧x.kd≠3∧x.i≠d.i∧zW (M d.i) x.i=false∧zW (M x.i) d.i=false:=by
  intro x hx;obtain⟨x1,x2⟩:=List.mem_filter.1 hx;obtain⟨l0,l1,l2⟩:=hrest x x1;obtain⟨u1,u2,u3⟩:=(hun x l0).1 x2;refine⟨l0,fun h3=>?_,fun e=>u1 e.symm,u2,u3⟩;rcases K.act d hdL x l0 hk h3 with e|e|e
  · exact u1 e
  · rw[u3]at e;cases e
  · rw[u2]at e;cases e
 have hRx:∀x∈Rx,x∈L:=fun x hx=>by rw[hL];simp [hx]
 have hsub:∀x∈Rx++dryOf d.un rest,x∈L:=fun x hx=>(List.mem_append.1 hx).elim (hRx x) fun h=>(hdry x h).1
 have hsl:(Rx++dryOf d.un rest).Sublist L:=by
  rw[hL];exact(List.Sublist.refl Rx).append (.cons _ List.filter_sublist)
 refine⟨⟨fun x hx=>K.at' x (hsub x hx),fun x hx=>K.kd x (hsub x hx),fun x hx=>K.bits x (hsub x hx),?_,?_,fun x hx y hy=>K.pair x (hsub x hx) y (hsub y hy),fun x hx y hy=>K.act x (hsub x hx) y (hsub y hy),?_,?_⟩,hdry⟩
 · intro A x B e;rcases List.append_eq_append_iff.1 e with⟨A1,e1,e2⟩|⟨R1,e1,e2⟩
   ·
    obtain⟨S1,S2,s1,s2,s3⟩:=List.filter_eq_append_iff.1 e2;obtain⟨T1,T2,q1,q2,q3,q4⟩:=List.filter_eq_cons_iff.1 s3;have hx:x∈dryOf d.un rest:=by rw[e2];simp
    obtain⟨_,_,_,_,x5⟩:=hdry x hx;have hl:L=(Rx++d::(S1++T1))++x::T2:=by rw[hL,s1,q1];simp
    obtain⟨k1,k2⟩:=K.ahead _ x _ hl;refine⟨fun b hb=>?_,fun y hy=>?_⟩
    · obtain⟨y,hy,hyb⟩:=k1 b hb;rcases List.mem_append.1 hy with hy|hy
      · exact⟨y,by rw[e1];simp [hy],hyb⟩
      rcases List.mem_cons.1 hy with rfl|hy
      · rw[hyb,hb]at x5;cases x5
      have hyr:y∈rest:=by
       rw[s1,q1];rcases List.mem_append.1 hy with h|h <;> simp[h]
      obtain⟨y0,y1,y2⟩:=hrest y hyr
      have hp:(d.un.any fun i=>Nat.beq i y.i)=true:=(hun y y0).2 ⟨y2,y1,by
       cases hq:zW (M y.i) d.i with
       | false=>rfl
       | true=>
        have:=htr x (hsub x (by rw[e];simp)) y y0 (by rw[hyb];exact hb) _ hq;rw [x5]at this;cases this⟩
      rcases List.mem_append.1 hy with h|h
      · exact⟨y,by rw[e1,← s2];exact List.mem_append_right _ (List.mem_filter.2 ⟨h,hp⟩),hyb⟩
      · exact absurd hp (q2 y h)
    · refine k2 y ?_;rw [e1]at hy;rcases List.mem_append.1 hy with h|h
      · simp[h]
      · rw[← s2]at h;have:=(List.mem_filter.1 h).1;simp [this]
   ·
    cases R1 with
    | nil =>
     have e2':dryOf d.un rest=x::B:=by simpa using e2.symm
     obtain⟨T1,T2,q1,q2,q3,q4⟩:=List.filter_eq_cons_iff.1 e2';have hx:x∈dryOf d.un rest:=by rw[e2'];simp
     obtain⟨_,_,_,_,x5⟩:=hdry x hx;have hA:A=Rx:=by simpa using e1.symm
     have hl:L=(Rx++d::T1)++x::T2:=by rw[hL,q1];simp
     obtain⟨k1,k2⟩:=K.ahead _ x _ hl;refine⟨fun b hb=>?_,fun y hy=>k2 y (by rw[hA]at hy;simp [hy])⟩;obtain⟨y,hy,hyb⟩:=k1 b hb;rcases List.mem_append.1 hy with hy|hy
     · exact⟨y,by rw[hA];exact hy,hyb⟩
     rcases List.mem_cons.1 hy with rfl|hy
     · rw[hyb,hb]at x5;cases x5
     obtain⟨y0,y1,y2⟩:=hrest y (by rw[q1];simp [hy]);refine absurd ((hun y y0).2 ⟨y2,y1,?_⟩) (q2 y hy)
     cases hq:zW (M y.i) d.i with
     | false=>rfl
     | true=>
      have:=htr x (hsub x (by rw[e];simp)) y y0 (by rw[hyb];exact hb) _ hq;rw [x5]at this;cases this
    | cons z R1=>
     injection e2 with e3 e4
     subst e3;exact K.ahead A x (R1++d::rest) (by rw[hL,e1];simp)
 · intro A S x B e h3 hS;have hx:x∉dryOf d.un rest:=fun h=>(hdry x h).2.1 h3
   have:∃B1,Rx=A++(S++x::B1):=by
    rw[← List.append_assoc]at e;rcases List.append_eq_append_iff.1 e with⟨A1,e1,e2⟩|⟨R1,e1,e2⟩
    · exact absurd (by rw[e2];simp) hx
    · cases R1 with
      | nil=>exact absurd (by rw[show dryOf d.un rest=x::B by simpa using e2.symm];simp) hx
      | cons z R1=>injection e2 with e3 e4;subst e3;exact⟨R1,by rw[e1];simp⟩
   obtain⟨B1,hB⟩:=this;exact K.next A S x (B1++d::rest) (by rw[hL,hB];simp) h3 hS
 · intro x hx;rw [K.low x (hsub x hx),hL,List.countP_append,List.countP_append];congr 1
   rw[List.countP_eq_zero.2 fun c hc hp=>?_,List.countP_eq_zero.2 fun c hc hp=>(hdry c hc).2.1 (zG (Bool.and_eq_true_iff.1 hp).1)];obtain⟨p1,p2⟩:=Bool.and_eq_true_iff.1 hp;rcases List.mem_append.1 hx with h|h
   · obtain⟨A1,A2,hA⟩:=List.append_of_mem h;obtain⟨C1,C2,hC⟩:=List.append_of_mem hc;rw [(K.later (x:=x) (y:=c) (A:=A1) (B:=A2++C1) (C:=C2) (by rw[hL,hA,hC];simp)).1]at p2;cases p2
   · obtain⟨_,_,_,_,x5⟩:=hdry x h;rcases List.mem_cons.1 hc with rfl|hc
     · rw[x5]at p2;cases p2
     obtain⟨c0,c1,c2⟩:=hrest c hc;rcases K.act d hdL c c0 hk (zG p1) with e|e|e
     · exact c2 e
     · have:=htr x (hsub x hx) c c0 p2 _ e;rw [x5]at this;cases this
     · rw[c1]at e;cases e
 · intro x hx;exact Nat.le_trans hsl.countP_le (K.high x (hsub x hx))
theorem drew_ok(hP:yH ng P=true)(hmix:P.follows .mixedOrders=true){ops:Array Oper}{L:List DOp}(hpl:plan ops=some L){cx:Cx}{t:Fr}{w:W}{k:KX}(hD:Drew P ng ops cx L t w [w] [] k)(id:Nat) :
 ∃x t' w',k x t' w'=true∧CodeTo P ng (.region id ops true) cx t w x t' w':=by
 obtain⟨M,xl,S,hp,hL⟩:=plan_ok hpl;have K:RecPlan ops M L:=by rw[hL];exact hp.recPlan
 have hsolo:∀x∈L,x.solo=true→∀i,i<ops.size→x.i=i∨zW (M x.i) i=true∨zW (M i) x.i=true:=by
  intro x hx hs i hi;rw [hL]at hx;exact hp.solo hx hs hi
 have hcov:∀i,i<ops.size→∃x∈L,x.i=i:=by
  intro i hi;rw [hL];exact hp.all hi
 have hxl:∀i o,ops[i]? = some o→∃x,x.i=i∧x.o=o∧XOK ops M x:=by
  intro i o ho
  have hlt:i<ops.size:=by
   rcases Nat.lt_or_ge i ops.size with h1|h1
   · exact h1
   · rw[Array.getElem?_eq_none h1]at ho;cases ho
  obtain⟨x,h1,h2⟩:=hp.cov i hlt;have h3:=hp.at' x h1;rw [h2,ho]at h3;exact⟨x,h2,by injection h3 with h3;exact h3.symm,hp.ok x h1⟩
 have hedge:∀i o,ops[i]? = some o→∀e∈o.after.toList,wJ e=true→e.on<i:=by
  intro i o ho e he ha;obtain⟨x,h1,h2,h3⟩:=hxl i o ho;rw [← h1];exact h3.on e (by rw[h2];exact he) ha
 have hbits:∀i o,ops[i]? = some o→∀b,zW (M i) b=true→∃e∈o.after.toList,wJ e=true∧(b=e.on∨zW (M e.on) b=true):=by
  intro i o ho b hb;obtain⟨x,h1,h2,h3⟩:=hxl i o ho;have:=h3.bits b (by rw[h3.m,h1];exact hb);rw [h2]at this;exact this
 have start:∀{D:List DOp} {R:List Rec} {E:List DOp} {t1:Fr} {w1:W},R.map (·.x)++E=D→RecsOK P ng ops cx R t w t1 w1→∀{ρ : Inj} {base:Nat} {w0:World} {b:Frame} {a:Act} {wd:World} {cs:List Frame},In P ng ρ base w0 b a wd cs cx t w→
  Inv P ng ops M D E ⟨t,w,a,wd,cs,ρ,base,w0,b,cx,t1,w1⟩ [] R t w (fun i=>(Array.replicate ops.size false).getD i false=true) ρ w.h a { wd with drawn:=wd.drawn+1 } cs:=by
  intro D R E t1 w1 hR hrecs ρ base w0 b a wd cs hI
  have hf:∀i,¬(Array.replicate ops.size false).getD i false=true:=by
   intro i;by_cases h:i<ops.size <;> simp[h]
  refine⟨hR.symm,.nil t w,hrecs,.inl rfl,fun r hr=>by simp at hr,fun r _ _ h=>hf _ h,fun i h=>absurd h (hf i),fun i h=>absurd h (hf i),?_,?_,?_,CsTo.refl _ _,fun _ _=>rfl,fun r _ _ _ h=>absurd h (hf _),?_,fun r _ h=>absurd h (hf _),fun _ _=>rfl,?_,rfl⟩
  · dsimp only;rw [cut_dom hI.hp.dom (Nat.le_refl _)];exact⟨hI.fn,hI.kind,hI.rd,hI.rdf,hI.hp.drawn _,hI.dr,hI.ur,hI.fnd⟩
  · intro m hm;rw [cut_dom hI.hp.dom hm];exact(hI.hp.later hm).drawn _
  · intro m hm;rw [cut_dom hI.hp.dom hm];exact⟨hm,fun _ _=>rfl,fun b B hb e=>(by rw[hI.hp.dom b hb]at e;cases e),fun _ _ _=>rfl,Nat.le_refl _,fun _ _ e=>e,rfl⟩
  · intro b B hb e;rw [hI.hp.dom b hb]at e;cases e
  · dsimp only;rw [cut_dom hI.hp.dom (Nat.le_refl _)];exact hI.tm
 have unl:unlisted ops.size (Array.replicate ops.size false)≤ops.size:=by
  unfold unlisted;exact Nat.le_trans List.countP_le_length (by simp)
 rcases hD with⟨R,t',w',h1,h2,h3,h4⟩|⟨R,d,rest,c,t1,w1,w2,h1,h2,h3,h4,h5,h6,h7⟩|⟨R,d,rest,c,t1,w1,w2,S,tD,wD,h1,h2,h3,h4,h0,h5,h6,h7,h8,h9⟩
 · refine⟨.normal,t',w',h3,fun hc b kk ρ base w0 a wd cs hI=>?_⟩;have hc':∀o∈ops.toList,vD ng (ntm P cx.fn) o=true:=List.all_eq_true.1 hc;have I0:=start (E:=[]) (by simpa using h1) h2 hI
   have go:=draw_go (C:=⟨t,w,a,wd,cs,ρ,base,w0,b,cx,t',w'⟩) (E:=[]) (R:=R)
    (Goal:=fun m kk=>∃ρ' a' wd' cs',InE P ng (Lost .normal w') ρ' base w0 b a' wd' cs' cx t' w'∧Grow ρ w.h w.n wd ρ' w'.h w'.n wd'∧CsTo cx.df cs cs'∧Arr P m b kk cs' ρ' a' wd' .normal)
    (fun m m1 kk hst ⟨ρ',a',wd',cs',g1,g2,g3,g4⟩=>⟨ρ',a',wd',cs',g1,g2,g3,g4.of_steps hst⟩) hP K hc' hedge hbits h4 ?_ ?_
    ops.size (wd.tape wd.drawn (.order b.fn id)) _ [] R t w ρ w.h a _ cs rfl (by simp) I0 unl kk
   · have hst:step P (lone (b.atR a (.code (.region id ops true)::kk)) cs wd) = .next (lone (b.atR a (.inRegion ops (Region.schedule (P.follows .mixedOrders) ops (wd.tape wd.drawn (.order b.fn id)))::kk)) cs { wd with drawn:=wd.drawn+1 }):=stepR_region_draw
     have hsch:∀tt,Region.schedule (P.follows .mixedOrders) ops tt=Region.linearise.go .any ops ops.size tt (Array.replicate ops.size false) []:=by
      intro tt;simp only[Region.schedule,hmix,Bool.true_or,if_true];rfl
     rw[hsch]at hst;obtain⟨ρ',a',wd',cs',g1,g2,g3,g4⟩:=go;exact⟨ρ',a',wd',cs',g1,g2,g3,g4.of_steps (.one hst)⟩
   · intro pre suf ts ws lst ρ1 H a1 wd1 cs1 hR I i hi _ _;obtain⟨x,hx1,hx2⟩:=hcov i hi;rw [← h1]at hx1;obtain⟨r,hr,rfl⟩:=List.mem_map.1 hx1;exact .inl ⟨r,hr,hx2⟩
   · intro pre suf ts ws lst ρ1 H a1 wd1 cs1 hR I hall kk
     obtain⟨g1,g2⟩:=I.all_done K fun r hr=>hall _ (by
      have:=K.at' _ (I.mem hr);rcases Nat.lt_or_ge r.x.i ops.size with h1|h1
      · exact h1
      · rw[Array.getElem?_eq_none h1]at this;cases this)
     exact⟨_,a1,wd1,cs1,g1.e,g2,I.cst,.one stepR_region_end⟩
 · refine⟨.panic c,t1,w2,h7,fun hc b kk ρ base w0 a wd cs hI=>?_⟩;have hc':∀o∈ops.toList,vD ng (ntm P cx.fn) o=true:=List.all_eq_true.1 hc;have I0:=start (E:=d::rest) h1.symm h2 hI;have hdL:d∈L:=by rw[h1];simp
   have hdi:d.i<ops.size:=by
    have:=K.at' _ hdL;rcases Nat.lt_or_ge d.i ops.size with h1|h1
    · exact h1
    · rw[Array.getElem?_eq_none h1]at this;cases this
   have hdR:∀r∈R,r.x.i≠d.i∧zW (M r.x.i) d.i=false:=by
    intro r hr;obtain⟨A,B,hAB⟩:=List.append_of_mem hr;obtain⟨l1,l2⟩:=K.later (x:=r.x) (y:=d) (A:=A.map (·.x)) (B:=B.map (·.x)) (C:=rest) (by rw[h1,hAB];simp);exact⟨l2,l1⟩
   have go:=draw_go (C:=⟨t,w,a,wd,cs,ρ,base,w0,b,cx,t1,w1⟩) (E:=d::rest) (R:=R)
    (Goal:=fun m kk=>∃ρ' a' wd' cs',InE P ng (Lost (.panic c) w2) ρ' base w0 b a' wd' cs' cx t1 w2∧Grow ρ w.h w.n wd ρ' w2.h w2.n wd'∧CsTo cx.df cs cs'∧Arr P m b kk cs' ρ' a' wd' (.panic c))
    (fun m m1 kk hst ⟨ρ',a',wd',cs',g1,g2,g3,g4⟩=>⟨ρ',a',wd',cs',g1,g2,g3,g4.of_steps hst⟩) hP K hc' hedge hbits h6 ?_ ?_
    ops.size (wd.tape wd.drawn (.order b.fn id)) _ [] R t w ρ w.h a _ cs rfl (by simp) I0 unl kk
   · have hst:step P (lone (b.atR a (.code (.region id ops true)::kk)) cs wd) = .next (lone (b.atR a (.inRegion ops (Region.schedule (P.follows .mixedOrders) ops (wd.tape wd.drawn (.order b.fn id)))::kk)) cs { wd with drawn:=wd.drawn+1 }):=stepR_region_draw
     have hsch:∀tt,Region.schedule (P.follows .mixedOrders) ops tt=Region.linearise.go .any ops ops.size tt (Array.replicate ops.size false) []:=by
      intro tt;simp only[Region.schedule,hmix,Bool.true_or,if_true];rfl
     rw[hsch]at hst;obtain⟨ρ',a',wd',cs',g1,g2,g3,g4⟩:=go;exact⟨ρ',a',wd',cs',g1,g2,g3,g4.of_steps (.one hst)⟩
   · intro pre suf ts ws lst ρ1 H a1 wd1 cs1 hR I i hi hnl hm
     have hdn:¬lst d.i:=fun h=>by
      obtain⟨r,hr,e⟩:=I.only _ h;rw [hR]at hr;exact(hdR r hr).1 e
     rcases hsolo d hdL h5 i hi with e|e|e
     · right
       subst e;intro is kk
       have hlR:∀r∈pre++suf,lst r.x.i:=by
        intro r hr
        have hri:r.x.i<ops.size:=by
         have:=K.at' _ (I.mem hr);rcases Nat.lt_or_ge r.x.i ops.size with h1|h1
         · exact h1
         · rw[Array.getElem?_eq_none h1]at this;cases this
        rw[hR]at hr;obtain⟨n1,n2⟩:=hdR r hr;rcases hsolo d hdL h5 _ hri with e|e|e
        · exact absurd e.symm n1
        · exact hm _ e
        · rw[n2]at e;cases e
       obtain⟨g1,g2⟩:=I.all_done K hlR;obtain⟨hO,hW⟩:=I.looks K hc' (A:=suf) (S:=[]) (by simp) I.dd I.r2 hdn hm;obtain⟨ρ',a',wd',cs',i1,i2,i3,i4,c',i5,i6⟩:=h4 _ _ _ _ _ _ _ g1.in0 hO ops d.i is kk (K.at' _ hdL) (hW.trans h3);exact⟨ρ',a',wd',cs',(i1.toIn (by rw[i2];exact g1.tm.mono (i3.le g1.hp.dom))).e,g2.trans i3,I.cst.trans i4,_,c',i5,i6⟩
     · left
       obtain⟨y,hy,e2⟩:=(K.ahead (R.map (·.x)) d rest h1).1 _ e;obtain⟨r,hr,rfl⟩:=List.mem_map.1 hy;exact⟨r,hr,e2⟩
     · exact absurd (hm _ e) hdn
   · intro pre suf ts ws lst ρ1 H a1 wd1 cs1 hR I hall kk;exfalso
     obtain⟨r,hr,e⟩:=I.only _ (hall d.i hdi);rw [hR]at hr;exact(hdR r hr).1 e
 · refine⟨.panic c,t1,w2,h9,fun hc b kk ρ base w0 a wd cs hI=>?_⟩;have hc':∀o∈ops.toList,vD ng (ntm P cx.fn) o=true:=List.all_eq_true.1 hc;have hdL:d∈L:=by rw[h1];simp
   have hdi:d.i<ops.size:=by
    have:=K.at' _ hdL;rcases Nat.lt_or_ge d.i ops.size with h1|h1
    · exact h1
    · rw[Array.getElem?_eq_none h1]at this;cases this
   obtain⟨K',hS⟩:=recPlan_dry h1 K h0 (fun x hx y hy hb b h2=>by rw[hL]at hx hy;exact hp.trans hx hy hb h2) (fun y hy=>by rw[hL]at hy hdL;exact hp.un hdL hy h0);rw [← h7,← List.map_append]at K';have hS':∀r∈S,r.x∈L∧r.x.kd≠3∧r.x.i≠d.i∧zW (M d.i) r.x.i=false∧zW (M r.x.i) d.i=false:=fun r hr=>hS r.x (by rw[← h7];exact List.mem_map.2 ⟨r,hr,rfl⟩);have I0:=start (D:=(R++S).map (·.x)) (E:=[]) (by simp) (vJ h2 h6) hI
   have hdR:∀r∈R,r.x.i≠d.i∧zW (M r.x.i) d.i=false:=by
    intro r hr;obtain⟨A,B,hAB⟩:=List.append_of_mem hr;obtain⟨l1,l2⟩:=K.later (x:=r.x) (y:=d) (A:=A.map (·.x)) (B:=B.map (·.x)) (C:=rest) (by rw[h1,hAB];simp);exact⟨l2,l1⟩
   have hdRS:∀r∈R++S,r.x.i≠d.i:=fun r hr=>(List.mem_append.1 hr).elim (fun h=>(hdR r h).1) fun h=>(hS' r h).2.2.1
   have go:=draw_go (C:=⟨t,w,a,wd,cs,ρ,base,w0,b,cx,tD,wD⟩) (E:=[]) (R:=R++S)
    (Goal:=fun m kk=>∃ρ' a' wd' cs',InE P ng (Lost (.panic c) w2) ρ' base w0 b a' wd' cs' cx t1 w2∧Grow ρ w.h w.n wd ρ' w2.h w2.n wd'∧CsTo cx.df cs cs'∧Arr P m b kk cs' ρ' a' wd' (.panic c))
    (fun m m1 kk hst ⟨ρ',a',wd',cs',g1,g2,g3,g4⟩=>⟨ρ',a',wd',cs',g1,g2,g3,g4.of_steps hst⟩) hP K' hc' hedge hbits h8 ?_ ?_
    ops.size (wd.tape wd.drawn (.order b.fn id)) _ [] (R++S) t w ρ w.h a _ cs rfl (by simp) I0 unl kk
   · have hst:step P (lone (b.atR a (.code (.region id ops true)::kk)) cs wd) = .next (lone (b.atR a (.inRegion ops (Region.schedule (P.follows .mixedOrders) ops (wd.tape wd.drawn (.order b.fn id)))::kk)) cs { wd with drawn:=wd.drawn+1 }):=stepR_region_draw
     have hsch:∀tt,Region.schedule (P.follows .mixedOrders) ops tt=Region.linearise.go .any ops ops.size tt (Array.replicate ops.size false) []:=by
      intro tt;simp only[Region.schedule,hmix,Bool.true_or,if_true];rfl
     rw[hsch]at hst;obtain⟨ρ',a',wd',cs',g1,g2,g3,g4⟩:=go;exact⟨ρ',a',wd',cs',g1,g2,g3,g4.of_steps (.one hst)⟩
   · intro pre suf ts ws lst ρ1 H a1 wd1 cs1 hR I i hi hnl hm
     have hdn:¬lst d.i:=fun h=>by
      obtain⟨r,hr,e⟩:=I.only _ h;rw [hR]at hr;exact hdRS r hr e
     by_cases hid:i=d.i
     · right
       subst hid;intro is kk
       obtain⟨A,hRA,hsuf⟩:∃A,R=pre++A∧suf=A++S:=by
        rcases List.append_eq_append_iff.1 hR with⟨A,e1,e2⟩|⟨A,e1,e2⟩
        · exact⟨A,e1,e2⟩
        · rcases I.last with e|⟨p,r,e3,e4⟩
          · rw[e]at e1;obtain⟨e5,e6⟩:=List.append_eq_nil_iff.1 e1.symm;subst e5 e6;exact⟨[],by rw[e];rfl,by simpa using e2.symm⟩
          · by_cases hA:A=[]
            · subst hA;exact⟨[],by simpa using e1.symm,by simpa using e2.symm⟩
            · exfalso
              have hr:r∈A:=by
               rcases List.eq_nil_or_concat A with h|⟨A',z,rfl⟩
               · exact absurd h hA
               · have e5:p++[r]=(R++A')++[z]:=by rw[← e3,e1,List.append_assoc,List.concat_eq_append]
                 have e6:=List.append_inj_right' e5 rfl;injection e6 with e6
                 rw[e6];simp
              exact(hS' r (by rw[e2];simp [hr])).2.1 e4
       obtain⟨tm,wm,r1,r2⟩:=wY (by have:=I.r2;rw [hsuf]at this;exact this);obtain⟨rfl,rfl⟩:=recs_det (by rw[hRA];exact vJ I.r1 r1) h2
       have hno:∀q∈A,q.x.kd≠3:=by
        intro q hq h3;have hql:¬lst q.x.i:=I.sl q (by rw[hsuf];simp [hq]) h3;have hqR:q∈R:=by rw[hRA];simp [hq]
        obtain⟨n1,n2⟩:=hdR q hqR;rcases K.act q.x (by rw[h1];exact List.mem_append_left _ (List.mem_map.2 ⟨q,hqR,rfl⟩)) d hdL h3 h0 with h|h|h
        · exact n1 h
        · exact hql (hm _ h)
        · rw[n2]at h;cases h
       have g1:=I.at_act K' hsuf r1 hno;obtain⟨hO,hW⟩:=I.looksD K hc' hsuf (by rw[← hRA];exact h1) r1 (fun r hr=>⟨(hS' r hr).1,(hS' r hr).2.2.1,(hS' r hr).2.2.2.1,(hS' r hr).2.2.2.2⟩) hm;obtain⟨ρ',a',wd',cs',i1,i2,i3,i4,c',i5,i6⟩:=h4 _ _ _ _ _ _ _ g1 hO ops d.i is kk (K.at' _ hdL) (hW.trans h3);have hkA:∀q∈A,q.x.kd≠3∧q.x.kd=zU q.x.o.op:=fun q hq=>⟨hno q hq,K'.kd _ (I.mem (List.mem_append_right _ (by rw[hsuf];simp [hq])))⟩;obtain⟨_,_,s4,_⟩:=seg_ok r1 hkA;have hW0:w.n≤ws.n:=(xM I.r1).1
       have gr:Grow ρ w.h w.n wd (ρ1.cut wm.n) wm.h wm.n wd1:=(I.gr _ (xM r1).1).congr fun b hb=>by
        have hb:b<w.n:=hb;rw [s4 b (by omega),I.hh b (by omega)]
       exact⟨ρ',a',wd',cs',⟨i1.fn,i1.kind,i1.rd,i1.rdf,.inl h5,i1.hp,i1.dr,i1.ur,i1.fnd⟩,gr.trans i3,I.cst.trans i4,_,c',i5,i6⟩
     · left
       obtain⟨x,hxL,rfl⟩:=hcov i hi;rw [h1]at hxL;rcases List.mem_append.1 hxL with hx|hx
       · obtain⟨r,hr,rfl⟩:=List.mem_map.1 hx;exact⟨r,List.mem_append_left _ hr,rfl⟩
       rcases List.mem_cons.1 hx with rfl|hx
       · exact absurd rfl hid
       have hxL':x∈L:=by rw[h1];simp [hx]
       obtain⟨S1,S2,hS12⟩:=List.append_of_mem hx;obtain⟨l1,l2⟩:=K.later (x:=d) (y:=x) (A:=R.map (·.x)) (B:=S1) (C:=S2) (by rw[h1,hS12])
       have hun:(d.un.any fun i=>Nat.beq i x.i)=true:=by
        rw[hL]at hdL hxL';refine(hp.un hdL hxL' h0).2 ⟨l2,l1,?_⟩
        cases hq:zW (M x.i) d.i with
        | false=>rfl
        | true=>exact absurd (hm _ hq) hdn
       have hxd:x∈S.map (·.x):=by rw[h7];exact List.mem_filter.2 ⟨hx,hun⟩
       obtain⟨r,hr,rfl⟩:=List.mem_map.1 hxd;exact⟨r,List.mem_append_right _ hr,rfl⟩
   · intro pre suf ts ws lst ρ1 H a1 wd1 cs1 hR I hall kk;exfalso
     obtain⟨r,hr,e⟩:=I.only _ (hall d.i hdi);rw [hR]at hr;exact hdRS r hr e
theorem plan_kd{ops:Array Oper}{L:List DOp}(h:plan ops=some L):∀d∈L,d.kd=zU d.o.op:=by
 obtain⟨M,xl,S,hp,hL⟩:=plan_ok h;rw [hL];exact hp.recPlan.kd
theorem draw_ok(hP:yH ng P=true)(hmix:P.follows .mixedOrders=true):DrawOK P ng:=by
 intro lo hS id ops cx t w k hx
 have hx':(match plan ops with
  | some l=>xdraw P lo cx ops l t w [w] [] k
  | none=>false)=true:=hx
 cases hpl:plan ops with
 | none=>rw [hpl]at hx';cases hx'
 | some L=>
  rw[hpl]at hx';exact drew_ok hP hmix hpl (xdraw_ok hP hS L t w [w] [] k (plan_kd hpl) hx') id
end
end Go.Ex
namespace Go.Ex
noncomputable def heap0:List (Nat×List Value)→zB
 | []=>.lF
 | (g,vs)::r=>(heap0 r).set .dead (.cells (Tr.ofListFrom undef .lF 0 vs) vs.length 0 2) g
noncomputable def cellsB(c:Tr Value):Nat→List Value→Bool
 | _,[]=>true
 | i,v::r=>scalB (Tr.get undef c i) v && cellsB c (Nat.succ i) r
noncomputable def tabB(vs:List Value)(o:AObj):Bool:=
 match o with
 | .cells c n _ kd=>Nat.beq kd 2 && (Nat.beq n vs.length && cellsB c 0 vs)
 | _=>false
noncomputable def tabsB:List (Nat×List Value)→zB→Bool
 | [],_=>true
 | (g,vs)::r,h=>tabB vs (zF h g) && tabsB r h
def isInt:Value→Bool
 | .int _ _=>true
 | _=>false
noncomputable def tabsOK(ng:Nat)(tabs:List (Nat×List Value)):Bool:=tabs.all fun p=>Nat.blt p.1 ng && p.2.all isInt
theorem cellsB_at{c:Tr Value}:∀{vs:List Value} {i j:Nat} {v:Value},cellsB c i vs=true→vs[j]? = some v→Tr.get undef c (i+j)=v:=by
 intro vs
 induction vs with
 | nil=>intro i j v _ h;simp at h
 | cons x vs ih =>
  intro i j v h hj;have h':(scalB (Tr.get undef c i) x && cellsB c (Nat.succ i) vs)=true:=h;obtain⟨h1,h2⟩:=Bool.and_eq_true_iff.1 h'
  cases j with
  | zero=>simp at hj;subst hj;exact scalB_eq h1
  | succ j=>
   have:=ih h2 (j:=j) (v:=v) (by simpa using hj);rw [← this];congr 1;omega
theorem heap0_get{tabs:List (Nat×List Value)}{b:Nat}(h:zF (heap0 tabs) b≠.dead):∃vs,(b,vs)∈tabs∧zF (heap0 tabs) b = .cells (Tr.ofListFrom undef .lF 0 vs) vs.length 0 2:=by
 induction tabs with
 | nil=>exact absurd (Tr.get_leaf _ _) h
 | cons p r ih=>
  obtain⟨g,vs⟩:=p;have e:zF (heap0 ((g,vs)::r)) b=if g=b then .cells (Tr.ofListFrom undef .lF 0 vs) vs.length 0 2 else zF (heap0 r) b:=zK _ _ _ _
  by_cases hb:g=b
  · subst hb;exact⟨vs,by simp,by rw[e,if_pos rfl]⟩
  · rw[e,if_neg hb]at h;obtain⟨vs',h1,h2⟩:=ih h;exact⟨vs',by simp[h1],by rw[e,if_neg hb,h2]⟩
theorem tabsB_mem{h:zB}:∀{tabs:List (Nat×List Value)},tabsB tabs h=true→∀p∈tabs,tabB p.2 (zF h p.1)=true:=by
 intro tabs
 induction tabs with
 | nil=>intro _ p hp;simp at hp
 | cons q r ih=>
  intro hB p hp;have h':(tabB q.2 (zF h q.1) && tabsB r h)=true:=hB;obtain⟨h1,h2⟩:=Bool.and_eq_true_iff.1 h';rcases List.mem_cons.1 hp with rfl|hp
  · exact h1
  · exact ih h2 p hp
section
variable {P:Program} {ng:Nat}
theorem tab_obj{ρ ρ':Inj}{base base':Nat}{B:Bl}{vs:List Value}{o:AObj}{o':Obj}(hi:vs.all isInt=true)(ht:tabB vs o=true)(h:ObjR P ng ρ base B o o') :
 ObjR P ng ρ' base' B (.cells (Tr.ofListFrom undef .lF 0 vs) vs.length 0 2) o':=by
 cases h with
 | cells hn hs hk hz hv hb hf=>
  rename_i c n z kd c' el lo hi';have ht':(Nat.beq kd 2 && (Nat.beq n vs.length && cellsB c 0 vs))=true:=ht;obtain⟨t1,t2⟩:=Bool.and_eq_true_iff.1 ht';obtain⟨t2,t3⟩:=Bool.and_eq_true_iff.1 t2;obtain rfl:=zG t1;obtain rfl:=zG t2;refine .cells hn hs (fun _=>hk (by omega)) ⟨fun h=>by omega,fun h=>by omega⟩ (fun i v' hi2 e=>?_) (fun h=>absurd rfl h) (fun h=>absurd rfl h);rw [Tr.get_ofListFrom,if_pos (by omega)];have e1:vs[i]? = some (vs.getD (i - 0) undef):=by simp[List.getElem?_eq_getElem hi2]
  have e2:=cellsB_at t3 e1;rw [Nat.zero_add]at e2;have r:=hv i v' hi2 e;rw [e2]at r;have hint:=List.all_eq_true.1 hi _ (List.mem_iff_getElem?.2 ⟨i,e1⟩);generalize vs.getD (i - 0) undef=x at r hint
  cases x <;> first|(cases hint;done)|skip
  rw[r.of_int];exact .int _ _
 | map=>cases ht
 | loop=>cases ht
 | siter0=>cases ht
 | siter=>cases ht
 | ready=>cases ht
 | taken=>cases ht
 | rows=>cases ht
theorem HeapR.fresh{ρ : Inj}{base:Nat}{w0:World}{h:zB}{n:Nat}{wd:World}(r:HeapR P ng ρ base w0 h n wd){tabs:List (Nat×List Value)}(hok:tabsOK ng tabs=true)(ht:tabsB tabs h=true) :
 HeapR P ng (ρ.cut ng) wd.heap.size wd (heap0 tabs) ng wd:=by
 have hall:=List.all_eq_true.1 hok;refine⟨fun b hb=>cut_ge hb,?_,?_,Go.RowKit.Below.refl _ _,Nat.le_refl _,?_,Nat.le_refl _⟩
 · intro b B e hl;obtain⟨_,e⟩:=xU e;obtain⟨vs,h1,h2⟩:=heap0_get hl;have hb:=tabsB_mem ht _ h1
   have hne:zF h b≠.dead:=fun hd=>by
    dsimp only at hb;rw [hd]at hb;cases hb
   obtain⟨o,q1,q2⟩:=r.obj b B e hne;have hi:=(Bool.and_eq_true_iff.1 (hall _ h1)).2;exact⟨o,q1,by rw[h2];exact tab_obj hi hb q2⟩
 · intro a b A B ea eb la lb hab;obtain⟨_,ea⟩:=xU ea;obtain⟨_,eb⟩:=xU eb;obtain⟨va,h1,_⟩:=heap0_get la;obtain⟨vb,h2,_⟩:=heap0_get lb;have ha:=tabsB_mem ht _ h1;have hb:=tabsB_mem ht _ h2;exact r.inj a b A B ea eb (fun hd=>by dsimp only at ha;rw [hd]at ha;cases ha) (fun hd=>by dsimp only at hb;rw [hd]at hb;cases hb) hab
 · intro g hg;obtain⟨B,e1,e2⟩:=r.glob g hg;exact⟨B,by rw[yW hg];exact e1,e2⟩
theorem HeapR.stay{ρ : Inj}{base:Nat}{w0:World}{h:zB}{n:Nat}{wd wd':World}(r:HeapR P ng ρ base w0 h n wd)(hb:Go.RowKit.Below wd.heap.size wd wd'):HeapR P ng ρ base w0 h n wd'∧Grow ρ h n wd ρ h n wd':=by
 have hlt:∀{c:Nat} {o:Obj},wd.heap[c]? = some o→c<wd.heap.size:=by
  intro c o e;rcases Nat.lt_or_ge c wd.heap.size with h3|h3
  · exact h3
  · rw[Array.getElem?_eq_none h3]at e;cases e
 refine⟨⟨r.dom,fun b B e hl=>?_,r.inj,r.below.trans ⟨hb.os,hb.tape,hb.output,hb.size,fun k hk=>hb.block k (by have:=r.size;omega)⟩,by have:=hb.size;have:=r.size;omega,r.glob,r.ngn⟩,⟨Nat.le_refl _,fun _ _=>rfl,fun b B h1 e=>(by rw[r.dom b h1]at e;cases e),fun c hc _=>hb.block c hc,hb.size,fun _ _ e=>e,hb.tape⟩⟩;obtain⟨o,q1,q2⟩:=r.obj b B e hl;exact⟨o,by rw[hb.block _ (hlt q1)];exact q1,q2⟩
noncomputable def finV(v:Value):KO:=fun o _ _ _=>Out.rec (fun x=>scalB x v) (fun _=>false) o
theorem finV_ret{v:Value}{o:Out}{u:Option zJ}{h:zB}{n:Nat}(hf:finV v o u h n=true):o = .ret v:=by
 cases o with
 | ret x=>rw [scalB_eq (v:=x) (v':=v) hf]
 | panic c=>cases hf
theorem plains{args:List Value}(h:args.all vC=true)(ρ : Inj):RVs ρ args args:=
 ⟨rfl,fun i v v' e e'=>by
  rw[e]at e';injection e' with e';subst e'
  exact RV.plain (List.all_eq_true.1 h v (List.mem_iff_getElem?.2 ⟨i,e⟩)) ρ⟩
theorem hook_of_run{lo:Lo}(hS:Sound P ng lo){f:FuncId}{args:List Value}{v:Value}{tabs:List (Nat×List Value)}(hok:tabsOK ng tabs=true)(hint:args.all isInt=true)(hv:isInt v=true∨∃b,v = .bool b)
(hx:lo.call f args false none (heap0 tabs) ng (finV v)=true){h:zB}(ht:tabsB tabs h=true)(u:Option zJ)(n:Nat):CallTo P ng f args false u h n (.ret v) u h n:=by
 obtain⟨o,u',h',n',hk,hfn,hc⟩:=hS.call _ _ _ _ _ _ _ hx;obtain rfl:=finV_ret hk;refine⟨hfn,fun ρ base w0 wd args' cs hH ha hu=>?_⟩
 have hpl:args'=args:=by
  apply List.ext_getElem?;intro i
  cases e:args[i]? with
  | none=>
   have:=List.getElem?_eq_none_iff.1 e;exact List.getElem?_eq_none (by rw[← ha.1];exact this)
  | some x=>
   obtain⟨x',e1,e2⟩:=ha.at e;have:=List.all_eq_true.1 hint x (List.mem_iff_getElem?.2 ⟨i,e⟩);cases x <;> first|(cases this;done)|skip
   rw[e1,e2.of_int]
 subst hpl
 have hpa:args'.all vC=true:=by
  rw[List.all_eq_true]at hint ⊢;intro x hx;have:=hint x hx;cases x <;> first|(cases this;done)|rfl
 obtain⟨ρ',wd',fr,cs',s1,s2,s3,s4,s5,s6,s7⟩:=hc (ρ.cut ng) wd.heap.size wd wd args' cs (hH.fresh hok ht) (plains hpa _) (fun e=>by cases e)
 have hcs:cs'=cs:=by
  rcases s4 with e|⟨e,_⟩
  · exact e
  · cases e
 subst hcs;obtain⟨k1,k2⟩:=hH.stay s2.below;refine⟨ρ,wd',fr,cs',s1,k1,k2,CsTo.refl _ _,(fun e=>Bool.noConfusion e),s6,?_⟩;obtain⟨v',y1,y2,y3,y4,y5⟩:=s7;refine⟨v',y1,y2,y3,y4,?_⟩;rcases hv with hv|⟨b,rfl⟩
 · cases v <;> first|(cases hv;done)|skip
   rw[y5.of_int];exact .int _ _
 · rw[y5.of_bool];exact .bool _
def TabsIn(w:World)(tabs:List (Nat×List Value)):Prop:=∀p∈tabs,∃el fr,w.heap[p.1]? = some (.cells ⟨p.2⟩ el fr)
end
end Go.Ex
namespace Go.Ex
section
variable {P:Program} {ng:Nat}
noncomputable def xE(p:Prop):Bool:=@decide p (Classical.propDecidable p)
theorem isSo_iff{p:Prop}:xE p=true↔p:=@decide_eq_true_iff p (Classical.propDecidable p)
theorem args0_eq{t:Fr}{i:Nat}{l:List Value}{k:Fr→Bool}:args0 t i l k=k (Tr.ofListFrom undef t i l):=by
 induction l generalizing t i with
 | nil=>rfl
 | cons v r ih=>
  show(xA v fun v=>fsetK t i v fun t=>args0 t (Nat.succ i) r k)=_;rw [yI];unfold fsetK;rw [Tr.setK_eq,ih];rfl
noncomputable def loS(P:Program)(ng:Nat):Lo where
 code c cx t w k:=xE (∃x t' w',k x t' w'=true∧CodeTo P ng c cx t w x t' w')
 call f args df u h n k:=xE (∃o u' h' n',k o u' h' n'=true∧CallTo P ng f args df u h n o u' h' n')
 round l args h n k:=xE (∃o h' n',k o h' n'=true∧RoundTo P ng l args h n o h' n')
 leave fn mode t w k:=xE (∃o u' h' n',k o u' h' n'=true∧LeaveTo P ng fn mode t w o u' h' n')
theorem loS_code{c:Code}{cx:Cx}{t:Fr}{w:W}{k:KX}:(loS P ng).code c cx t w k=true↔∃x t' w',k x t' w'=true∧CodeTo P ng c cx t w x t' w':=by
 unfold loS;exact isSo_iff
theorem loS_call{f:FuncId}{args:List Value}{df:Bool}{u:Option zJ}{h:zB}{n:Nat}{k:KO}:(loS P ng).call f args df u h n k=true↔∃o u' h' n',k o u' h' n'=true∧CallTo P ng f args df u h n o u' h' n':=by
 unfold loS;exact isSo_iff
theorem loS_round{l:Nat}{args:List Value}{h:zB}{n:Nat}{k:Out→zB→Nat→Bool}:(loS P ng).round l args h n k=true↔∃o h' n',k o h' n'=true∧RoundTo P ng l args h n o h' n':=by
 unfold loS;exact isSo_iff
theorem loS_leave{fn:Func}{mode:Option zJ}{t:Fr}{w:W}{k:KO}:(loS P ng).leave fn mode t w k=true↔∃o u' h' n',k o u' h' n'=true∧LeaveTo P ng fn mode t w o u' h' n':=by
 unfold loS;exact isSo_iff
theorem uS:Sound P ng (loS P ng) where
  code _ _ _ _ _ h:=loS_code.1 h
  call _ _ _ _ _ _ _ h:=loS_call.1 h
  round _ _ _ _ _ h:=loS_round.1 h
  leave _ _ _ _ _ h:=loS_leave.1 h
 class Fit (P:Program) (ng:Nat):Prop where
  ok:yH ng P=true
  mix:P.follows .mixedOrders=true
theorem sound_one[F:Fit P ng]:Sound P ng (Lo.next P (loS P ng)):=sound_next (draw_ok F.ok F.mix) F.ok uS
noncomputable def FA(l:List (Nat×Value))(t:Fr):Fr:=match l with
 | []=>t
 | p::r=>Tr.set undef p.2 (FA r t) p.1
noncomputable def lk(l:List (Nat×Value))(t:Fr)(i:Nat):Value:=match l with
 | []=>fget t i
 | p::r=>bif Nat.beq p.1 i then p.2 else lk r t i
theorem fget_FA(l:List (Nat×Value))(t:Fr)(i:Nat):fget (FA l t) i=lk l t i:=by
 induction l with
 | nil=>rfl
 | cons p r ih=>
  unfold FA lk fget;rw [Tr.get_set_if];by_cases h:p.1=i
  · rw[if_pos h,h,Nat.beq_refl];rfl
  · have:Nat.beq p.1 i=false:=by
     cases e:Nat.beq p.1 i with
     | false=>rfl
     | true=>exact absurd (Nat.eq_of_beq_eq_true e) h
    rw[if_neg h,this];exact ih
noncomputable def evb(l:List (Nat×Value))(t:Fr)(x:Operand):Value:=match x with
 | .tmp i=>lk l t i
 | .const v=>v
 | .global g=>.pointer (some ⟨g,0,none⟩)
 | .func f=>.func (.func f) #[] #[]
theorem yK(l:List (Nat×Value))(t:Fr)(x:Operand):ev (FA l t) x=evb l t x:=by
 cases x with
 | tmp i=>exact fget_FA l t i
 | _=>rfl
noncomputable def evs(l:List (Nat×Value))(t:Fr):List Operand→List Value
 | []=>[]
 | x::r=>evb l t x::evs l t r
theorem evs_FA(l:List (Nat×Value))(t:Fr)(xs:List Operand):xs.map (ev (FA l t))=evs l t xs:=by
 induction xs with
 | nil=>rfl
 | cons x r ih=>rw [List.map_cons,ih,yK];rfl
theorem fset_FA(l:List (Nat×Value))(t:Fr)(d:Nat)(v:Value)(k:Fr→Bool):fsetK (FA l t) d v k=k (FA ((d,v)::l) t):=by
 unfold fsetK;rw [Tr.setK_eq];rfl
abbrev QX:=AX→Fr→W→Prop
def WC(P:Program)(ng:Nat)(c:Code)(cx:Cx)(t:Fr)(w:W)(Q:QX):Prop:=∃x t' w',Q x t' w'∧CodeTo P ng c cx t w x t' w'
theorem WC.mono{c:Code}{cx:Cx}{t:Fr}{w:W}{Q Q':QX}(h:WC P ng c cx t w Q)(hq:∀x t' w',Q x t' w'→Q' x t' w'):WC P ng c cx t w Q':=by
 obtain⟨x,t',w',q,r⟩:=h;exact⟨x,t',w',hq _ _ _ q,r⟩
noncomputable def soK(Q:QX):KX:=fun x t w=>xE (Q x t w)
theorem WC.lo{c:Code}{cx:Cx}{t:Fr}{w:W}{Q:QX}:(loS P ng).code c cx t w (soK Q)=true↔WC P ng c cx t w Q:=by
 rw[loS_code];constructor
 · rintro ⟨x,t',w',q,r⟩;exact⟨x,t',w',isSo_iff.1 q,r⟩
 · rintro ⟨x,t',w',q,r⟩;exact⟨x,t',w',isSo_iff.2 q,r⟩
theorem wc_of[Fit P ng]{c:Code}{cx:Cx}{t:Fr}{w:W}{Q:QX}(h:xcode P (loS P ng) c cx t w (soK Q)=true):WC P ng c cx t w Q:=by
 obtain⟨x,t',w',q,r⟩:=sound_one.code c cx t w _ h;exact⟨x,t',w',isSo_iff.1 q,r⟩
def seqQ(P:Program)(ng:Nat)(b:Code)(cx:Cx)(Q:QX):QX:=fun x t w=>match x with
 | .normal=>WC P ng b cx t w Q
 | x=>Q x t w
def blkQ(id:Nat)(Q:QX):QX:=fun x t w=>match x with
 | .exit i=>bif Nat.beq i id then Q .normal t w else Q (.exit i) t w
 | x=>Q x t w
def scpQ(Q:QX):QX:=fun x t w=>match x with
 | .goto _=>False
 | x=>Q x t w
theorem wc_seq{a b:Code}{cx:Cx}{t:Fr}{w:W}{Q:QX}(h:WC P ng a cx t w (seqQ P ng b cx Q)):WC P ng (.seq a b) cx t w Q:=by
 obtain⟨x,t1,w1,hk,h1⟩:=h;have ok:∀{N},yO ng N (.seq a b)=true→yO ng N a=true∧yO ng N b=true:=fun h=>Bool.and_eq_true_iff.1 h
 have pass:x≠.normal→CodeTo P ng (.seq a b) cx t w x t1 w1:=fun hx hc fr k=>
  zP (fun _ _ _=>stepR_seq) ((h1 (ok hc).1 fr (.code b::k)).pass hx (fun _ _=>rfl) (fun _ _=>rfl))
 cases x with
 | normal=>
  obtain⟨x2,t2,w2,hk2,h2⟩:=hk;exact⟨x2,t2,w2,hk2,fun hc fr k=>zP (fun _ _ _=>stepR_seq) ((h1 (ok hc).1 fr (.code b::k)).trans (h2 (ok hc).2 fr k))⟩
 | exit i=>exact⟨_,t1,w1,hk,pass AX.noConfusion⟩
 | goto i=>exact⟨_,t1,w1,hk,pass AX.noConfusion⟩
 | ret=>exact⟨_,t1,w1,hk,pass AX.noConfusion⟩
 | panic c=>exact⟨_,t1,w1,hk,pass AX.noConfusion⟩
theorem wc_cond{c:Operand}{a b:Code}{cx:Cx}{t:Fr}{w:W}{Q:QX}{q:Bool}(hq:ev t c = .bool q)(h:WC P ng (if q then a else b) cx t w Q):WC P ng (.cond c a b) cx t w Q:=by
 obtain⟨x,t',w',hk,hc⟩:=h;refine⟨x,t',w',hk,?_⟩;intro hok fr k ρ base w0 ac wd cs hI;obtain⟨o1,o2⟩:=Bool.and_eq_true_iff.1 hok;obtain⟨o2,o3⟩:=Bool.and_eq_true_iff.1 o2;have hr:=ev_rv hI.hp hI.tm o1;rw [hq]at hr;have hr:=hr.of_bool;obtain⟨ρ',a',wd',cs',h1,h2,h3,h4⟩:=hc (by cases q <;> assumption) fr k ρ base w0 ac wd cs hI;exact⟨ρ',a',wd',cs',h1,h2,h3,h4.of_steps (.one (stepR_cond hr))⟩
theorem wc_block{id:Nat}{b:Code}{cx:Cx}{t:Fr}{w:W}{Q:QX}(h:WC P ng b cx t w (blkQ id Q)):WC P ng (.block id b) cx t w Q:=by
 obtain⟨x,t1,w1,hk,h1⟩:=h;have ok:∀{N},yO ng N (.block id b)=true→yO ng N b=true:=fun h=>h
 have pass:x≠.normal→(∀i,x = .exit i→i≠id)→CodeTo P ng (.block id b) cx t w x t1 w1:=fun hx hi hc fr k=>
  zP (fun _ _ _=>stepR_block) ((h1 (ok hc) fr (.inBlock id::k)).pass hx (fun i e=>by
   have:(id == i)=false:=by simpa using fun e2=>hi i e e2.symm
   simp[exitTo,this]) (fun _ _=>rfl))
 cases x with
 | normal=>exact⟨.normal,t1,w1,hk,fun hc fr k=>zP (fun _ _ _=>stepR_block) ((h1 (ok hc) fr (.inBlock id::k)).trans (zP (fun _ _ _=>stepR_inBlock) (wE fr k cx t1 w1)))⟩
 | exit i =>
  have hk':bif Nat.beq i id then Q .normal t1 w1 else Q (.exit i) t1 w1:=hk
  cases hi:Nat.beq i id with
  | true=>
   rw[hi]at hk';obtain rfl:=zG hi;exact⟨.normal,t1,w1,hk',fun hc fr k=>zP (fun _ _ _=>stepR_block) (leads_block (h1 (ok hc) fr (.inBlock i::k)))⟩
  | false =>
   rw[hi]at hk'
   exact⟨_,t1,w1,hk',pass AX.noConfusion fun j e e2=>by
    injection e with e
    subst e e2;rw [Nat.beq_refl]at hi;cases hi⟩
 | goto i=>exact⟨_,t1,w1,hk,pass AX.noConfusion fun _ e=>by cases e⟩
 | ret=>exact⟨_,t1,w1,hk,pass AX.noConfusion fun _ e=>by cases e⟩
 | panic c=>exact⟨_,t1,w1,hk,pass AX.noConfusion fun _ e=>by cases e⟩
def rndQ(P:Program)(ng:Nat)(b:Code)(cx:Cx)(Q:QX):QX:=fun x t w=>match x with
 | .normal=>WC P ng (.loop b) cx t w Q
 | x=>Q x t w
theorem wc_loop1{b:Code}{cx:Cx}{t:Fr}{w:W}{Q:QX}(h:WC P ng b cx t w (rndQ P ng b cx Q)):WC P ng (.loop b) cx t w Q:=by
 obtain⟨x,t1,w1,hk,h1⟩:=h
 have pass:x≠.normal→CodeTo P ng (.loop b) cx t w x t1 w1:=fun hx hc fr k=>
  zP (fun _ _ _=>stepR_loop) ((h1 hc fr (.inLoop b::k)).pass hx (fun _ _=>rfl) (fun _ _=>rfl))
 cases x with
 | normal =>
  obtain⟨x2,t2,w2,hk2,h2⟩:=hk
  exact⟨x2,t2,w2,hk2,fun hc fr k=>zP (fun _ _ _=>stepR_loop)
   ((h1 hc fr (.inLoop b::k)).trans (zP (fun _ _ _=>stepR_inLoop) (leads_unloop (h2 hc fr k))))⟩
 | exit i=>exact⟨_,t1,w1,hk,pass AX.noConfusion⟩
 | goto i=>exact⟨_,t1,w1,hk,pass AX.noConfusion⟩
 | ret=>exact⟨_,t1,w1,hk,pass AX.noConfusion⟩
 | panic c=>exact⟨_,t1,w1,hk,pass AX.noConfusion⟩
theorem wc_scope{b:Code}{cx:Cx}{t:Fr}{w:W}{Q:QX}(h:WC P ng b cx t w (scpQ Q)):WC P ng (.scope b) cx t w Q:=by
 obtain⟨x,t1,w1,hk,h1⟩:=h
 have pass:x≠.normal→(∀l,x≠.goto l)→CodeTo P ng (.scope b) cx t w x t1 w1:=fun hx hg hc fr k=>
  zP (fun _ _ _=>stepR_scope) ((h1 hc fr (.inScope b::k)).pass hx (fun _ _=>rfl) (fun l e=>absurd e (hg l)))
 cases x with
 | normal=>exact⟨.normal,t1,w1,hk,fun hc fr k=>zP (fun _ _ _=>stepR_scope) ((h1 hc fr (.inScope b::k)).trans (zP (fun _ _ _=>stepR_inScope) (wE fr k cx t1 w1)))⟩
 | exit i=>exact⟨_,t1,w1,hk,pass AX.noConfusion fun _=>AX.noConfusion⟩
 | goto i=>exact hk.elim
 | ret=>exact⟨_,t1,w1,hk,pass AX.noConfusion fun _=>AX.noConfusion⟩
 | panic c=>exact⟨_,t1,w1,hk,pass AX.noConfusion fun _=>AX.noConfusion⟩
theorem wc_skip{cx:Cx}{t:Fr}{w:W}{Q:QX}(h:Q .normal t w):WC P ng .skip cx t w Q:=⟨.normal,t,w,h,fun _ b k=>zP (fun _ _ _=>stepR_skip) (wE b k cx t w)⟩
theorem wc_label{l:Nat}{cx:Cx}{t:Fr}{w:W}{Q:QX}(h:Q .normal t w):WC P ng (.label l) cx t w Q:=⟨.normal,t,w,h,fun _ b k=>zP (fun _ _ _=>stepR_label) (wE b k cx t w)⟩
theorem wc_exit[Fit P ng]{id:Nat}{cx:Cx}{t:Fr}{w:W}{Q:QX}(h:Q (.exit id) t w):WC P ng (.exit id) cx t w Q:=wc_of (isSo_iff.2 h)
theorem wc_ret[Fit P ng]{cx:Cx}{t:Fr}{w:W}{Q:QX}(h:Q .ret t w):WC P ng .ret cx t w Q:=wc_of (isSo_iff.2 h)
theorem wc_loop{b:Code}{cx:Cx}{Q:QX}{α : Type}(I: α→Fr→W→Prop)(m: α→Nat)
(step:∀a t w,I a t w→WC P ng b cx t w fun x t' w'=>match x with
  | .normal=>∃a',m a'<m a∧I a' t' w'
  | x=>Q x t' w'):∀a t w,I a t w→WC P ng (.loop b) cx t w Q:=by
 intro a;generalize hm:m a=k
 induction k using Nat.strongRecOn generalizing a with
 | _ k ih =>
  intro t w hI;refine wc_loop1 ((step a t w hI).mono fun x t' w' q=>?_)
  cases x with
  | normal=>
   obtain⟨a',h1,h2⟩:=q;exact ih (m a') (hm ▸ h1) a' rfl t' w' h2
  | exit i=>exact q
  | goto i=>exact q
  | ret=>exact q
  | panic c=>exact q
def WO(P:Program)(ng:Nat)(all:Array Oper)(l:List Oper)(cx:Cx)(t:Fr)(w:W)(Q:QX):Prop:=xops P (loS P ng) cx all l t w (soK Q)=true
theorem wc_region[Fit P ng]{id:Nat}{ops:Array Oper}{cx:Cx}{t:Fr}{w:W}{Q:QX}(h:WO P ng ops ops.toList cx t w Q):WC P ng (.region id ops false) cx t w Q:=wc_of h
theorem wo_nil{all:Array Oper}{cx:Cx}{t:Fr}{w:W}{Q:QX}(h:Q .normal t w):WO P ng all [] cx t w Q:=isSo_iff.2 h
theorem putT_some(t:Fr)(d:Nat)(v:Value)(k:Fr→Bool):putT t (some d) v k=fsetK t d v k:=rfl
theorem wo_quiet{all:Array Oper}{op:Op}{d:Option Nat}{ty:TypeId}{pos:String}{af:Array Edge}{r:List Oper}{cx:Cx}{t:Fr}{w:W}{Q:QX}{v:Value}(hq:xB op P t w.h=some v)
(h:putT t d v (fun t=>xops P (loS P ng) cx all r t w (soK Q))=true):WO P ng all (⟨d,op,ty,pos,af,none⟩::r) cx t w Q:=by
 show(Option.rec (eff op P (loS P ng) cx t w (fun w v=>putT t d v fun t=>xops P (loS P ng) cx all r t w (soK Q)) fun c w=>soK Q (.panic c) t w) (fun v=>putT t d v fun t=>xops P (loS P ng) cx all r t w (soK Q)) (xB op P t w.h):Bool)=true;rw [hq];exact h
theorem wo_eff{all:Array Oper}{op:Op}{d:Option Nat}{ty:TypeId}{pos:String}{af:Array Edge}{r:List Oper}{cx:Cx}{t:Fr}{w:W}{Q:QX}(hq:xB op P t w.h=none)
(h:eff op P (loS P ng) cx t w (fun w v=>putT t d v fun t=>xops P (loS P ng) cx all r t w (soK Q)) (fun c w=>soK Q (.panic c) t w)=true):WO P ng all (⟨d,op,ty,pos,af,none⟩::r) cx t w Q:=by
 show(Option.rec (eff op P (loS P ng) cx t w (fun w v=>putT t d v fun t=>xops P (loS P ng) cx all r t w (soK Q)) fun c w=>soK Q (.panic c) t w) (fun v=>putT t d v fun t=>xops P (loS P ng) cx all r t w (soK Q)) (xB op P t w.h):Bool)=true;rw [hq];exact h
theorem wo_on{all:Array Oper}{op:Op}{d:Option Nat}{ty:TypeId}{pos:String}{af:Array Edge}{g:Nat×Bool}{r:List Oper}{cx:Cx}{t:Fr}{w:W}{Q:QX}(hg:wanted all t (some g)=true)
(h:WO P ng all (⟨d,op,ty,pos,af,none⟩::r) cx t w Q):WO P ng all (⟨d,op,ty,pos,af,some g⟩::r) cx t w Q:=by
 have h':(Option.rec (eff op P (loS P ng) cx t w (fun w v=>putT t d v fun t=>xops P (loS P ng) cx all r t w (soK Q)) fun c w=>soK Q (.panic c) t w) (fun v=>putT t d v fun t=>xops P (loS P ng) cx all r t w (soK Q)) (xB op P t w.h):Bool)=true:=h;show(Bool.rec (putT t d undef fun t=>xops P (loS P ng) cx all r t w (soK Q)) (Option.rec (eff op P (loS P ng) cx t w (fun w v=>putT t d v fun t=>xops P (loS P ng) cx all r t w (soK Q)) fun c w=>soK Q (.panic c) t w) (fun v=>putT t d v fun t=>xops P (loS P ng) cx all r t w (soK Q)) (xB op P t w.h)) (wanted all t (some g)):Bool)=true;rw [hg];exact h'
theorem wo_off{all:Array Oper}{op:Op}{d:Option Nat}{ty:TypeId}{pos:String}{af:Array Edge}{g:Nat×Bool}{r:List Oper}{cx:Cx}{t:Fr}{w:W}{Q:QX}(hg:wanted all t (some g)=false)
(h:putT t d undef (fun t=>xops P (loS P ng) cx all r t w (soK Q))=true):WO P ng all (⟨d,op,ty,pos,af,some g⟩::r) cx t w Q:=by
 show(Bool.rec (putT t d undef fun t=>xops P (loS P ng) cx all r t w (soK Q)) (Option.rec (eff op P (loS P ng) cx t w (fun w v=>putT t d v fun t=>xops P (loS P ng) cx all r t w (soK Q)) fun c w=>soK Q (.panic c) t w) (fun v=>putT t d v fun t=>xops P (loS P ng) cx all r t w (soK Q)) (xB op P t w.h)) (wanted all t (some g)):Bool)=true;rw [hg];exact h
end
end Go.Ex
namespace Go.Ex
noncomputable def qLoad(P:Program)(ty:TypeId)(h:zB)(v:Value):Option Value:=
 onPtr v (fun b off=>onRows (zF h b) (fun c kn=>
  Sh.rec none (Bool.rec none (xA (Tr.get undef c off) some) (Nat.blt off kn))
   (fun sz=>Bool.rec none (some (.agg ⟨c.toListFrom undef off sz⟩)) (Nat.ble (Nat.add off sz) kn)) (yM P ty)) (fun c kn=>
  Sh.rec none (Bool.rec none (uJ (Tr.get undef c off)) (Nat.blt off kn))
   (fun sz=>Bool.rec none (uK (c.toListFrom undef off sz)) (Nat.ble (Nat.add off sz) kn)) (yM P ty)) none) none
def qNil(v:Value):Option Value:=
 match v with
 | .pointer (some p)=>some (.pointer (some p))
 | .func (.func f) fs cs=>some (.func (.func f) fs cs)
 | .func (.yield f) fs cs=>some (.func (.yield f) fs cs)
 | .map r=>some (.map r)
 | .slice p i c=>some (.slice p i c)
 | _=>none
section
variable {P:Program} {ng:Nat}
theorem RV.back{ρ ρ':Inj}(ha:∀b B,ρ b=some B→ρ' b = ρ b){v x:Value}(r:RV ρ v x):∀{v'},RV ρ' v v'→RV ρ v v':=by
 induction r with
 | bool b=>intro v' h;cases h;exact .bool b
 | int k n=>intro v' h;cases h;exact .int k n
 | float k n=>intro v' h;cases h;exact .float k n
 | complex k n m=>intro v' h;cases h;exact .complex k n m
 | string s=>intro v' h;cases h;exact .string s
 | nilPtr=>intro v' h;cases h;exact .nilPtr
 | ptr e=>intro v' h;cases h with
  | ptr e'=>rw [ha _ _ e]at e';exact .ptr e'
 | nilSlice l c e=>intro v' h;cases h with
  | nilSlice _ _ e'=>exact .nilSlice l c e'
 | slice e hc hl ho=>intro v' h;cases h with
  | slice e' hc' hl' ho'=>rw [ha _ _ e]at e';exact .slice e' hc' hl' ho'
  | slice0 e' a'=>rw [ha _ _ e]at e';exact .slice0 e' a'
  | opened e' hl' ho'=>exact absurd rfl hc
 | slice0 e a=>intro v' h;cases h with
  | slice e' hc' hl' ho'=>exact .slice0 e _
  | slice0 e' a'=>exact .slice0 e a'
 | opened e hl ho=>intro v' h;cases h with
  | slice e' hc' hl' ho'=>exact absurd rfl hc'
  | opened e' hl' ho'=>rw [ha _ _ e]at e';exact .opened e' hl' ho'
 | nilMap=>intro v' h;cases h;exact .nilMap
 | map e=>intro v' h;cases h with
  | map e'=>rw [ha _ _ e]at e';exact .map e'
 | func hy hf hc f1 c1 f2 c2 => intro v' h; cases h with
  | func hy' hf' hc' f1' c1'=>
   refine .func hy' hf' hc' (fun i w w' a b=>?_) (fun i w w' a b=>?_)
   · obtain⟨w0,hw0⟩:∃w0,(_:List Value)[i]? = some w0:=⟨_,List.getElem?_eq_getElem (hf ▸ (List.getElem?_eq_some_iff.1 a).1)⟩;exact f2 i w w0 a hw0 (f1' i w w' a b)
   · obtain⟨w0,hw0⟩:∃w0,(_:List Value)[i]? = some w0:=⟨_,List.getElem?_eq_getElem (hc ▸ (List.getElem?_eq_some_iff.1 a).1)⟩;exact c2 i w w0 a hw0 (c1' i w w' a b)
  | yield e=>exact absurd rfl (hy _)
 | yield e=>intro v' h;cases h with
  | func hy' hf' hc' f1' c1'=>exact absurd rfl (hy' _)
  | yield e'=>rw [ha _ _ e]at e';exact .yield e'
 | nilFunc=>intro v' h;cases h;exact .nilFunc
 | iface r ih=>intro v' h;cases h with
  | iface r'=>exact .iface (ih r')
 | nilIface=>intro v' h;cases h;exact .nilIface
 | agg hc c1 ih => intro v' h; cases h with
  | agg hc' c1'=>
   refine .agg hc' fun i w w' a b=>?_;obtain⟨w0,hw0⟩:∃w0,(_:List Value)[i]? = some w0:=⟨_,List.getElem?_eq_getElem (hc ▸ (List.getElem?_eq_some_iff.1 a).1)⟩;exact ih i w w0 a hw0 (c1' i w w' a b)
 | tuple hc c1 ih => intro v' h; cases h with
  | tuple hc' c1'=>
   refine .tuple hc' fun i w w' a b=>?_;obtain⟨w0,hw0⟩:∃w0,(_:List Value)[i]? = some w0:=⟨_,List.getElem?_eq_getElem (hc ▸ (List.getElem?_eq_some_iff.1 a).1)⟩;exact ih i w w0 a hw0 (c1' i w w' a b)
theorem ObjR.back{ρ ρ':Inj}(ha:∀b B,ρ b=some B→ρ' b = ρ b){base:Nat}{B:Bl}{o:AObj}{o0 o':Obj}(r0:ObjR P ng ρ base B o o0)(r:ObjR P ng ρ' base B o o'):ObjR P ng ρ base B o o':=by
 cases r with
 | cells hn hs hk hz hv hb hf =>
  rename_i c n z kd c' el lo hi
  cases r0 with
  | cells hn0 hs0 hk0 hz0 hv0 hb0 hf0=>
   rename_i c0 el0 lo0 hi0;refine .cells hn hs hk hz (fun i v' hi2 e=>?_) hb hf;have hlt:i<c0.size:=by rw[hs0];omega
   exact(hv0 i _ hi2 (Array.getElem?_eq_getElem hlt)).back ha (hv i v' hi2 e)
 | map he hb =>
  cases r0 with
  | map he0 hb0=>
   rename_i es es' clock es0;refine .map ⟨he.1,fun i e e' a b=>?_⟩ hb;obtain⟨e0,hw0⟩:∃e0,es0[i]? = some e0:=⟨_,List.getElem?_eq_getElem (he0.1 ▸ (List.getElem?_eq_some_iff.1 a).1)⟩;obtain⟨k1,k2,k3⟩:=he.2 i e e' a b;obtain⟨q1,q2,q3⟩:=he0.2 i e e0 a hw0;exact⟨k1,q2.back ha k2,k3⟩
 | siter0 hb=>exact .siter0 hb
 | siter hm hb => cases r0 with
  | siter hm0 hb0=>
   rw[ha _ _ hm0]at hm;exact .siter hm hb
 | loop h1 h2 h3 h4 h5 h6 h7 h8 h9 h10 h11 h12 hb =>
  cases r0 with
  | loop g1 g2 g3 g4 g5 g6 g7 g8 g9 g10 g11 g12 gb =>
   rename_i l l' t l0;obtain⟨D,e1,e2⟩:=h7;obtain⟨D0,e3,e4⟩:=g7;rw [ha _ _ e3]at e1;refine .loop h1 h2 h3 h4 h5 h6 ⟨D,e1,e2⟩ ⟨h8.sz,fun i v e=>?_⟩ h9 h10 h11 h12 hb
   have hlt:i<l0.tmps.size:=by
    have:=g8.sz;have h8s:=h8.sz;have:i<l'.tmps.size:=(Array.getElem?_eq_some_iff.1 e).1;omega
   exact(g8.tm i _ (Array.getElem?_eq_getElem hlt)).back ha (h8.tm i v e)
 | ready hb=>exact .ready hb
 | taken hb=>exact .taken hb
 | rows hn hv =>
  rename_i c n c' el fr
  cases r0 with
  | rows hn0 hv0=>
   rename_i c0 el0 fr0;refine .rows hn (fun i v' e hu=>?_);have hlt:i<c0.size:=by have:=(Array.getElem?_eq_some_iff.1 e).1;omega
   exact(hv0 i _ (Array.getElem?_eq_getElem hlt) hu).back ha (hv i v' e hu)
def xF:Value→Bool
 | .int _ _ | .bool _ | .string _ | .nilIface | .nilFunc=>true
 | _=>false
theorem RV.scal{ρ ρ':Inj}{v v':Value}(hv:xF v=true)(r:RV ρ v v'):RV ρ' v v':=by
 cases r <;> first|(cases hv;done)|skip
 · exact .bool _
 · exact .int _ _
 · exact .string _
 · exact .nilFunc
 · exact .nilIface
theorem RV.scals{ρ ρ':Inj}{v v':Value}(hv:xF v=true∨∃l:List Value,v = .tuple ⟨l⟩∧l.all xF=true)(r:RV ρ v v'):RV ρ' v v':=by
 rcases hv with hv|⟨l,rfl,hl⟩
 · exact r.scal hv
 · cases r with
   | tuple hc c1=>exact .tuple hc fun i w w' a b=>(c1 i w w' a b).scal (List.all_eq_true.1 hl w (List.mem_iff_getElem?.2 ⟨i,a⟩))
end
noncomputable def xN(o:AObj)(i:Nat):Option Value:=match o with
 | .cells c n _ _=>if i<n then some (Tr.get undef c i) else none
 | .rows c n=>if i<n∧isU (Tr.get undef c i)=false then some (Tr.get undef c i) else none
 | _=>none
def yF(o:AObj):Option (Nat×Nat×Nat):=match o with
 | .cells _ n z kd=>some (n,z,kd)
 | .rows _ n=>some (n,0,3)
 | _=>none
theorem kd_of{a b c a' b' c':Nat}(h:some (a,b,c)=some (a',b',c')):c=c':=by injection h with h;injection h with _ h;injection h with _ h
noncomputable def mkC(l:List Value)(z kd:Nat):AObj:=.cells (Tr.ofListFrom undef .lF 0 l) l.length z kd
noncomputable def stC(o:AObj)(off:Nat)(vs:List Value):AObj:=match o with
 | .cells c n z kd=>.cells (Tr.ofListFrom undef c off vs) n z kd
 | o=>o
theorem wK(l:List Value)(z kd i:Nat):xN (mkC l z kd) i=l[i]? :=by
 unfold xN mkC;dsimp only;by_cases h:i<l.length
 · rw[if_pos h,Tr.get_ofListFrom,if_pos (by omega)];simp [List.getElem?_eq_getElem h,List.getD_eq_getElem?_getD]
 · rw[if_neg h,List.getElem?_eq_none (by omega)]
theorem wZ(l:List Value)(z kd:Nat):yF (mkC l z kd)=some (l.length,z,kd):=rfl
theorem cellOf_stC(o:AObj)(off:Nat)(vs:List Value){n z kd:Nat}(hi:yF o=some (n,z,kd))(hl:off+vs.length≤n)(hk:kd≠3:=by decide)(i:Nat) :
 xN (stC o off vs) i=if off≤i∧i<off+vs.length then vs[i - off]? else xN o i:=by
 cases o <;> first|(cases hi;done)|(exact absurd (kd_of hi).symm hk)|skip
 rename_i c n' z' kd';injection hi with hi
 injection hi with h1 h2
 subst h1;unfold xN stC;dsimp only;by_cases h:off≤i∧i<off+vs.length
 · rw[if_pos h,if_pos (by omega),Tr.get_ofListFrom,if_pos h];simp [List.getElem?_eq_getElem (show i - off<vs.length by omega),List.getD_eq_getElem?_getD]
 · rw[if_neg h];by_cases h2:i<n'
   · rw[if_pos h2,if_pos h2,Tr.get_ofListFrom,if_neg h]
   · rw[if_neg h2,if_neg h2]
theorem infoOf_stC(o:AObj)(off:Nat)(vs:List Value):yF (stC o off vs)=yF o:=by cases o <;> rfl
noncomputable def zD(h:zB)(b i:Nat):Option Value:=xN (zF h b) i
def rowAt(h:zB)(b off:Nat)(vs:List Value):Prop:=∀j v,vs[j]? = some v→zD h b (off+j)=some v
theorem rowAt.nil(h:zB)(b off:Nat):rowAt h b off []:=fun j v e=>by simp at e
theorem rowAt.cons{h:zB}{b off:Nat}{v:Value}{l:List Value}(hv:zD h b off=some v)(hl:rowAt h b (off+1) l):rowAt h b off (v::l):=fun j w e=>by
 cases j with
 | zero=>simp at e;subst e;exact hv
 | succ j=>have:=hl j w (by simpa using e);rw [← this];congr 1;omega
def Ext(h:zB)(n:Nat)(h':zB)(n':Nat):Prop:=n≤n'∧∀b,b<n→zF h' b=zF h b
section
variable {P:Program} {ng:Nat}
theorem CallTo.pureE{f:FuncId}{args:List Value}{u':Option zJ}{h h':zB}{n n':Nat}{v:Value}(c:CallTo P ng f args false none h n (.ret v) u' h' n')(hs:Ext h n h' n')
(hv:xF v=true∨∃l:List Value,v = .tuple ⟨l⟩∧l.all xF=true)(u:Option zJ):CallTo P ng f args false u h n (.ret v) u h n:=by
 refine⟨c.1,fun ρ base w0 wd args' cs hH ha hu=>?_⟩;obtain⟨ρ',wd',fr,cs',s1,s2,s3,s4,s5,s6,s7⟩:=c.2 ρ base w0 wd args' cs hH ha (fun e=>by cases e)
 have hcs:cs'=cs:=by
  rcases s4 with e|⟨e,_⟩
  · exact e
  · cases e
 subst hcs
 have hlt:∀{b B},ρ b=some B→b<n:=fun {b B} e=>by
  rcases Nat.lt_or_ge b n with h1|h1
  · exact h1
  · rw[hH.dom b h1]at e;cases e
 have hag:∀b B,ρ b=some B→ρ' b = ρ b:=fun b B e=>s3.old b (hlt e);refine⟨ρ,wd',fr,cs',s1,⟨hH.dom,fun b B e hl=>?_,hH.inj,s2.below,s2.size,hH.glob,hH.ngn⟩,⟨Nat.le_refl _,fun _ _=>rfl,fun b B h1 e=>(by rw[hH.dom b h1]at e;cases e),s3.keep,s3.size,fun _ _ e=>e,s3.tape⟩,CsTo.refl _ _,(fun e=>Bool.noConfusion e),s6,?_⟩
 · obtain⟨o0,q1,q2⟩:=hH.obj b B e hl;have live:=hs.2 b (hlt e);obtain⟨o,p1,p2⟩:=s2.obj b B (by rw[hag b B e];exact e) (by rw[live];exact hl);rw [live]at p2;exact⟨o,p1,q2.back hag p2⟩
 · obtain⟨v',y1,y2,y3,y4,y5⟩:=s7;exact⟨v',y1,y2,y3,y4,y5.scals hv⟩
theorem vT{o:AObj}{i:Nat}{v:Value}(h:xN o i=some v):(∃c n z kd,o = .cells c n z kd∧i<n∧Tr.get undef c i=v)∨∃c n,o = .rows c n∧i<n∧Tr.get undef c i=v∧isU v=false:=by
 cases o <;> first|(cases h;done)|skip
 · rename_i c n z kd;unfold xN at h;dsimp only at h;by_cases hi:i<n
   · rw[if_pos hi]at h;injection h with h;exact .inl ⟨c,n,z,kd,rfl,hi,h⟩
   · rw[if_neg hi]at h;cases h
 · rename_i c n;unfold xN at h;dsimp only at h;by_cases hi:i<n∧isU (Tr.get undef c i)=false
   · rw[if_pos hi]at h;injection h with h;exact .inr ⟨c,n,rfl,hi.1,h,by rw[← h];exact hi.2⟩
   · rw[if_neg hi]at h;cases h
theorem xO{a b:Nat}(h:a<b):Nat.blt a b=true:=by rw[Nat.blt_eq];exact h
theorem wQ{a b:Nat}(h:a≤b):Nat.ble a b=true:=Nat.ble_eq_true_of_le h
theorem load_scal{ty:TypeId}{h:zB}{b off:Nat}{v:Value}(hs:yM P ty = .scal)(hc:zD h b off=some v):qLoad P ty h (.pointer (some ⟨b,off,none⟩))=some v:=by
 show onRows (zF h b) (fun c kn=>
  Sh.rec none (Bool.rec none (xA (Tr.get undef c off) some) (Nat.blt off kn))
   (fun sz=>Bool.rec none (some (.agg ⟨c.toListFrom undef off sz⟩)) (Nat.ble (Nat.add off sz) kn)) (yM P ty)) (fun c kn=>
  Sh.rec none (Bool.rec none (uJ (Tr.get undef c off)) (Nat.blt off kn))
   (fun sz=>Bool.rec none (uK (c.toListFrom undef off sz)) (Nat.ble (Nat.add off sz) kn)) (yM P ty)) none=_
 rcases vT hc with⟨c,n,z,kd,e1,e2,e3⟩|⟨c,n,e1,e2,e3,e4⟩
 · rw[e1,hs];show(Bool.rec none (xA (Tr.get undef c off) some) (Nat.blt off n):Option Value)=_;rw [xO e2];show xA (Tr.get undef c off) some=_;rw [yI,e3]
 · rw[e1,hs];show(Bool.rec none (uJ (Tr.get undef c off)) (Nat.blt off n):Option Value)=_;rw [xO e2];show uJ (Tr.get undef c off)=_;rw [e3];exact known1_of e4
theorem row_list{o:AObj}{off:Nat}{vs:List Value}{c:Tr Value}(hc:∀(i:Nat) (v:Value),xN o i=some v→Tr.get undef c i=v)(hr:∀j v,vs[j]? = some v→xN o (off+j)=some v):c.toListFrom undef off vs.length=vs:=by
 apply List.ext_getElem?;intro j;rw [Tr.getElem?_toListFrom];by_cases hj:j<vs.length
 · rw[if_pos hj,List.getElem?_eq_getElem hj];exact congrArg some (hc _ _ (hr j _ (List.getElem?_eq_getElem hj)))
 · rw[if_neg hj,List.getElem?_eq_none (by omega)]
theorem cells_cell{c:Tr Value}{n z kd i:Nat}{v:Value}(h:xN (.cells c n z kd) i=some v):Tr.get undef c i=v:=by
 rcases vT h with⟨c',n',z',kd',e1,e2,e3⟩|⟨c',n',e1,_⟩
 · injection e1 with e1 _ _ _;subst e1;exact e3
 · cases e1
theorem rows_cell{c:Tr Value}{n i:Nat}{v:Value}(h:xN (.rows c n) i=some v):Tr.get undef c i=v∧isU v=false:=by
 rcases vT h with⟨c',n',z',kd',e1,_⟩|⟨c',n',e1,e2,e3,e4⟩
 · cases e1
 · injection e1 with e1 _;subst e1;exact⟨e3,e4⟩
theorem rows_known{c:Tr Value}{n off:Nat}{vs:List Value}(hr:∀j v,vs[j]? = some v→xN (.rows c n) (off+j)=some v):vs.any isU=false:=by
 rw[List.any_eq_false];intro x hx;obtain⟨j,hj⟩:=List.mem_iff_getElem?.1 hx;rw [(rows_cell (hr j x hj)).2];exact Bool.false_ne_true
theorem load_agg{ty:TypeId}{h:zB}{b off sz:Nat}{vs:List Value}(hs:yM P ty = .agg sz)(hl:vs.length=sz)(h0:0<sz)(hr:rowAt h b off vs):qLoad P ty h (.pointer (some ⟨b,off,none⟩))=some (.agg ⟨vs⟩):=by
 have hlast:=hr (sz - 1) (vs[sz - 1]'(by omega)) (List.getElem?_eq_getElem _);unfold rowAt zD at hr
 show onRows (zF h b) (fun c kn=>
  Sh.rec none (Bool.rec none (xA (Tr.get undef c off) some) (Nat.blt off kn))
   (fun sz=>Bool.rec none (some (.agg ⟨c.toListFrom undef off sz⟩)) (Nat.ble (Nat.add off sz) kn)) (yM P ty)) (fun c kn=>
  Sh.rec none (Bool.rec none (uJ (Tr.get undef c off)) (Nat.blt off kn))
   (fun sz=>Bool.rec none (uK (c.toListFrom undef off sz)) (Nat.ble (Nat.add off sz) kn)) (yM P ty)) none=_
 rcases vT hlast with⟨c,n,z,kd,e1,e2,e3⟩|⟨c,n,e1,e2,e3,e4⟩
 · rw[e1]at hr ⊢;rw [hs];show(Bool.rec none (some (.agg ⟨c.toListFrom undef off sz⟩)) (Nat.ble (Nat.add off sz) n):Option Value)=_;rw [wQ (show Nat.add off sz≤n by show off+sz≤n;omega)];show some (Value.agg ⟨c.toListFrom undef off sz⟩)=_;rw [← hl,row_list (fun i v e=>cells_cell e) hr]
 · rw[e1]at hr ⊢;rw [hs];show(Bool.rec none (uK (c.toListFrom undef off sz)) (Nat.ble (Nat.add off sz) n):Option Value)=_;rw [wQ (show Nat.add off sz≤n by show off+sz≤n;omega)];show uK (c.toListFrom undef off sz)=_;rw [← hl,row_list (fun i v e=>(rows_cell e).1) hr];exact knownN_of (rows_known hr)
end
end Go.Ex
