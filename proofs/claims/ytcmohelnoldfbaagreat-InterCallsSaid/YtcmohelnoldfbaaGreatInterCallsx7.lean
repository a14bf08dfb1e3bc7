/- What the law leans on: an executor of the model that is sound, deduction over it, and the walks through the code (part 7 of 13). Conditions: those that each theorem states. -/
import Derived.Test.YtcmohelnoldfbaaGreatInterCallsx6
import Derived.Orders

set_option linter.unusedVariables false
set_option linter.unusedSimpArgs false
namespace Go.Ex
section
variable {P:Program} {ng:Nat} {all:Array Oper} {M:Nat→Nat} {D E:List DOp} {C:Cfg}
variable {pre suf:List Rec} {ts:Fr} {ws:W} {lst:Nat→Prop} {ρ : Inj} {H:zB} {a:Act} {wd:World} {cs:List Frame}
theorem maker_grows{cx:Cx}{r:Rec}(h:RecOK P ng all cx r)(k:r.x.kd=2)(s:r.sk=false):r.w.n<r.w2.n:=by
 cases h with
 | skip=>cases s
 | look hw hkk=>dsimp only at k;omega
 | made=>exact Nat.lt_succ_self _
 | act hw hkk=>exact absurd k hkk.2.2
theorem Inv.at_act(I:Inv P ng all M D E C pre suf ts ws lst ρ H a wd cs)(K:RecPlan all M D){A S:List Rec}{t:Fr}{w:W}(hs:suf=A++S)(hA:RecsOK P ng all C.cx A ts ws t w)(hno:∀q∈A,q.x.kd≠3) :
 In0 P ng (ρ.cut w.n) C.base C.w00 C.b a wd cs C.cx w:=by
 have hwn:ws.n≤w.n:=(yT hA).1;obtain⟨s1,s2,s3⟩:=I.seg K hs hA hno;have hle:=cut_le (ρ := ρ) hwn;exact⟨I.in0.fn,I.in0.kind,I.in0.rd.mono hle,I.in0.rdf,(I.hp _ hwn).congr fun b B e=>let ⟨h1,h2⟩:=xA e;s3 b B h1 h2,by rw[s1];exact I.in0.dr.mono hle,by rw[s2];exact I.in0.ur.mono hle,I.in0.fnd⟩
theorem Inv.no_act(I:Inv P ng all M D E C pre suf ts ws lst ρ H a wd cs)(K:RecPlan all M D){A:List Rec}{S:List Rec}{x:DOp}{rest:List DOp}(hs:suf=A++S)(hD:D=(pre++A).map (·.x)++x::rest)(hk:x.kd=3)(hm:∀b,zN (M x.i) b=true→lst b) :
 (∀q∈A,q.x.kd≠3)∧∀q∈A,lst q.x.i:=by
 have hno:∀q∈A,q.x.kd≠3:=by
  intro q hq h3;have hql:¬lst q.x.i:=I.sl q (by rw[hs];simp [hq]) h3;obtain⟨A1,A2,hA2⟩:=List.append_of_mem hq;have hDq:D=(pre++A1).map (·.x)++q.x::(A2.map (·.x)++x::rest):=by rw[hD,hA2];simp
  obtain⟨l1,l2⟩:=K.later hDq;rcases K.act q.x (by rw[hDq];simp) x (by rw[hD];simp) h3 hk with h|h|h
  · exact l2 h
  · exact hql (hm _ h)
  · rw[l1]at h;cases h
 refine⟨hno,fun q hq=>hm _ ?_⟩;refine K.next (pre.map (·.x)) (A.map (·.x)) x rest (by rw[hD];simp) hk (fun y hy=>?_) q.x (List.mem_map.2 ⟨q,hq,rfl⟩);obtain⟨q',hq',rfl⟩:=List.mem_map.1 hy;exact hno q' hq'
theorem Inv.acted(I:Inv P ng all M D E C pre suf ts ws lst ρ H a wd cs)(K:RecPlan all M D)(hc:∀o∈all.toList,wQ ng (ntm P C.cx.fn) o=true)
{A B:List Rec}{r:Rec}(hs:suf=A++r::B)(hA:RecsOK P ng all C.cx A ts ws r.t r.w)(hk:r.x.kd=3)
(hx:¬lst r.x.i)(hm:∀b,zN (M r.x.i) b=true→lst b){ρ':Inj}{a':Act}{wd':World}{cs':List Frame}{v':Value}
(in0:In0 P ng ρ' C.base C.w00 C.b a' wd' cs' C.cx r.w2)(ha:a'.tmps=a.tmps)(g:Grow (ρ.cut r.w.n) r.w.h r.w.n wd ρ' r.w2.h r.w2.n wd')(hcs:CsTo C.cx.df cs cs')(hv:RV ρ' r.v v') :
 ∃ρ1 H1,Inv P ng all M D E C (pre++A++[r]) B (putF r.t r.x.o.dst r.v) r.w2 (fun i=>lst i∨i=r.x.i) ρ1 H1 (a'.put r.x.o.dst v') wd' cs':=by
 have hwn:ws.n≤r.w.n:=(yT hA).1;have hW0:C.W0.n≤ws.n:=(yT I.r1).1;have hDr:D=(pre++A).map (·.x)++r.x::(B.map (·.x)++E):=by rw[I.dd,hs];simp
 have hrm:r∈pre++suf:=by rw[hs];simp
 have hrD:=I.mem hrm;obtain⟨hno,hAl⟩:=I.no_act K hs hDr hk hm;obtain⟨s1,s2,s3⟩:=I.seg K hs hA hno;have hkA:∀q∈A,q.x.kd≠3∧q.x.kd=zK q.x.o.op:=fun q hq=>⟨hno q hq,K.kd _ (I.mem (by rw[hs];simp [hq]))⟩;obtain⟨_,_,s4,_⟩:=seg_ok hA hkA;have hr2:=I.r2;rw [hs]at hr2;obtain⟨t1,w1,x1,x2⟩:=wJ hr2;have ew:r.w=w1:=recs_end hA x1;subst ew
 have hB:RecsOK P ng all C.cx B (putF r.t r.x.o.dst r.v) r.w2 C.t1 C.w1∧RecOK P ng all C.cx r∧r.t=t1:=by
  cases x2 with
  | cons h1 h2=>exact⟨h2,h1,rfl⟩
 obtain⟨hB,hrok,et⟩:=hB;have hn:=rec_n hrok
 have inB:∀b Bk,r.w.n≤b→ρ b=some Bk→∃q∈B,q.x.kd=2∧q.sk=false∧lst q.x.i∧q.w.n=b:=by
  intro b Bk hb e;obtain⟨q,q1,q2,q3,q4,q5⟩:=I.ex b Bk (by omega) e;rw [hs]at q1;rcases List.mem_append.1 q1 with h|h
  · obtain⟨y1,y2,y3⟩:=(yT hA).2 q h;have:=maker_grows y1 q2 q3;omega
  · rcases List.mem_cons.1 h with h|h
    · rw[h,hk]at q2;cases q2
    · exact⟨q,h,q2,q3,q4,q5⟩
 obtain⟨H1,e1,e2⟩:=glue r.w2.h H r.w2.n (C.w1.n+1)
 have none':∀b,r.w.n≤b→b<r.w2.n→ρ b=none:=by
  intro b h1 h2
  cases e: ρ b with
  | none=>rfl
  | some Bk=>
   obtain⟨q,q1,q2,q3,q4,q5⟩:=inB b Bk h1 e;have:=((yT hB).2 q q1).2.1;omega
 have r1:∀b,b<r.w2.n→(fun b=>if b<r.w2.n then ρ' b else ρ b:Inj) b = ρ' b:=fun b h=>if_pos h;have r2:∀b,r.w2.n≤b→(fun b=>if b<r.w2.n then ρ' b else ρ b:Inj) b = ρ b:=fun b h=>if_neg (by omega);obtain⟨ρ1,r1,r2⟩:∃ρ1:Inj,(∀b,b<r.w2.n→ρ1 b = ρ' b)∧∀b,r.w2.n≤b→ρ1 b = ρ b:=⟨_,r1,r2⟩
 have c1: ρ1.cut r.w2.n = ρ':=by
  funext b
  rcases Nat.lt_or_ge b r.w2.n with h|h
  · rw[yK h,r1 b h]
  · rw[cut_ge h,in0.hp.dom b h]
 obtain⟨hle,hp⟩:=early (fun m hm=>I.hp m (by omega)) hn none' (fun b Bk hb e=>s3 b Bk hb e) in0.hp g r1 r2 e1 (fun b Bk hb e=>by
  obtain⟨q,q1,q2,q3,q4,q5⟩:=inB b Bk (by omega) e;have:=((yT hB).2 q q1).2.2;have:=rec_n ((yT hB).2 q q1).1;exact e2 b hb (by omega))
 have gr:=Grow.early (n0:=C.W0.n) (by omega) (fun m hm=>I.gr m (by omega)) hn (fun b hb=>by rw[s4 b (by omega),I.hh b (by omega)]) g r1 r2 e1
 have hdst:∀q∈pre++suf,lst q.x.i→∀d,q.x.o.dst=some d→r.x.o.dst≠some d:=by
  intro q hq hl d e e2;rcases K.pair q.x (I.mem hq) r.x hrD d e (.inr e2) with h|⟨h,_⟩
  · rw[h]at hl;exact hx hl
  · exact h e2
 have hlt:∀d,r.x.o.dst=some d→d<a'.tmps.size:=by
  intro d e
  have hmem:r.x.o∈all.toList:=by
   have ho:=K.at' r.x hrD;rw [← Array.getElem?_toList]at ho;exact List.mem_iff_getElem?.2 ⟨_,ho⟩
  have:=(Bool.and_eq_true_iff.1 (hc r.x.o hmem)).2;rw [e]at this;have h1:d<ntm P C.cx.fn:=zS this;rw [ha,I.sz];exact Nat.lt_of_lt_of_le h1 I.tm0.le
 have hall:pre++A++[r]++B=pre++suf:=by rw[hs];simp
 refine⟨ρ1,H1,?_,?_,hB,.inr ⟨_,r,rfl,hk⟩,?_,?_,?_,?_,?_,hp,gr,I.cst.trans hcs,e1,?_,?_,?_,?_,I.tm0.mono (cut_mono hle _),(put_size.trans (by rw[ha])).trans I.sz⟩
 · rw[hall];exact I.dd
 · refine wU (wU I.r1 hA) (.cons hrok (.nil _ _))
 · intro q hq;rcases List.mem_append.1 hq with hq|hq
   · rcases List.mem_append.1 hq with hq|hq
     · exact .inl (I.pl q hq)
     · exact .inl (hAl q hq)
   · simp at hq;subst hq;exact .inr rfl
 · intro q hq h3 hl;rcases hl with hl|hl
   · exact I.sl q (by rw[hs];simp [hq]) h3 hl
   · obtain⟨B1,B2,hB2⟩:=List.append_of_mem hq;exact(K.later (x:=r.x) (y:=q.x) (A:=(pre++A).map (·.x)) (B:=B1.map (·.x)) (C:=B2.map (·.x)++E) (by rw[hDr,hB2];simp)).2 hl.symm
 · intro i hi;rw [hall];rcases hi with hi|rfl
   · exact I.only i hi
   · exact⟨r,hrm,rfl⟩
 · intro i hi j hj;rcases hi with hi|rfl
   · exact .inl (I.closed i hi j hj)
   · exact .inl (hm j hj)
 · rw[c1];exact in0.act (put_defers a' _ _)
 · intro q hq q2 q3 q4;obtain⟨y1,y2,y3⟩:=(yT hB).2 q hq;have:=maker_grows y1 q2 q3;rw [e2 _ y2 (by omega)];refine I.mkd q (by rw[hs];simp [hq]) q2 q3 (q4.resolve_right fun e=>?_);obtain⟨B1,B2,hB2⟩:=List.append_of_mem hq;exact(K.later (x:=r.x) (y:=q.x) (A:=(pre++A).map (·.x)) (B:=B1.map (·.x)) (C:=B2.map (·.x)++E) (by rw[hDr,hB2];simp)).2 e.symm
 · intro b Bk hb e;rw [r2 b hb]at e;obtain⟨q,q1,q2,q3,q4,q5⟩:=inB b Bk (by omega) e;exact⟨q,q1,q2,q3,.inl q4,q5⟩
 · intro q hq hl d hd;rw [hall]at hq;by_cases hql:lst q.x.i
   · obtain⟨v2,y1,y2⟩:=I.val q hq hql d hd;exact⟨v2,by rw[put_at (hdst q hq hql d hd),ha];exact y1,y2.mono (cut_mono hle _)⟩
   · have hqr:q=r:=I.uniq K hq hrm (hl.resolve_left hql);subst hqr;exact⟨v',by rw[hd];exact put_self_at (hlt d hd),by rw[c1];exact hv⟩
 · intro d hd;rw [hall]at hd;rw [put_at (hd r hrm (.inr rfl)),ha];exact I.un d fun q hq hl=>hd q hq (.inl hl)
theorem rec_cases{cx:Cx}{r:Rec}(h:RecOK P ng all cx r) :
 (r.sk=true∧wanted all r.t r.x.o.guard=false∧r.v=undef∧r.w2=r.w)∨
 (r.sk=false∧wanted all r.t r.x.o.guard=true∧(r.x.kd=0∨r.x.kd=1)∧yO r.x.o.op P r.t r.w.h=some r.v∧r.w2=r.w)∨
 (r.sk=false∧wanted all r.t r.x.o.guard=true∧r.x.kd=2∧∃v ob,NewVal P ng r.x.o r.t v ob∧r.v=v r.w.n∧r.w2=W.mk r.w.d r.w.u (r.w.h.set .dead ob r.w.n) (r.w.n+1))∨
 (r.sk=false∧wanted all r.t r.x.o.guard=true∧(r.x.kd≠0∧r.x.kd≠1∧r.x.kd≠2)∧OpTo P ng r.x.o cx r.t r.w (.ret r.v) r.w2):=by
 cases h with
 | skip hw=>exact .inl ⟨rfl,hw,rfl,rfl⟩
 | look hw hk hq=>exact .inr (.inl ⟨rfl,hw,hk,hq,rfl⟩)
 | made hw hk hn=>exact .inr (.inr (.inl ⟨rfl,hw,hk,_,_,hn,rfl,rfl⟩))
 | act hw hk ho hn=>exact .inr (.inr (.inr ⟨rfl,hw,hk,ho⟩))
theorem Inv.step(hP:zU ng P=true)(I:Inv P ng all M D E C pre suf ts ws lst ρ H a wd cs)(K:RecPlan all M D)(hc:∀o∈all.toList,wQ ng (ntm P C.cx.fn) o=true)
(hL:yP P (hsOf (pre++suf) [C.W0]).length (hsOf (pre++suf) [C.W0]) (lsOf (pre++suf) [])=true)
{r:Rec}(hr:r∈pre++suf)(hx:¬lst r.x.i)(hm:∀b,zN (M r.x.i) b=true→lst b)(is:List Nat)(kk:List Item) :
 ∃pre' suf' ts' ws' ρ1 H1 a1 wd1 cs1,Inv P ng all M D E C pre' suf' ts' ws' (fun i=>lst i∨i=r.x.i) ρ1 H1 a1 wd1 cs1∧pre'++suf'=pre++suf∧
  Steps P (lone (C.b.atR a (.inRegion all (r.x.i::is)::kk)) cs wd) (lone (C.b.atR a1 (.inRegion all is::kk)) cs1 wd1):=by
 have hrs:r∈suf:=(List.mem_append.1 hr).resolve_left fun h=>hx (I.pl r h);obtain⟨A,B,hs⟩:=List.append_of_mem hrs;have hrD:=I.mem hr;have hat:=K.at' _ hrD;have hDr:D=(pre++A).map (·.x)++r.x::(B.map (·.x)++E):=by rw[I.dd,hs];simp
 have hr2:=I.r2;rw [hs]at hr2;obtain⟨t1,w1,hA,x2⟩:=wJ hr2
 have hB:RecOK P ng all C.cx r∧r.t=t1∧r.w=w1:=by
  cases x2 with
  | cons h1 h2=>exact⟨h1,rfl,rfl⟩
 obtain⟨hrok,et,ew⟩:=hB;subst et ew;obtain⟨hO,hW⟩:=I.looks K hc hs hDr hA hx hm;have hnd:r.x.kd≠3→∀c,r.x.o.op≠.defer c:=fun h3 c e=>h3 (by rw[K.kd _ hrD,e];rfl);have h9:r.x.kd≤3:=by rw[K.kd _ hrD];unfold zK;split <;> (try split) <;> omega
 rcases rec_cases hrok with⟨hsk,hw,hv,hw2⟩|⟨hsk,hw,hk,hq,hw2⟩|⟨hsk,hw,hk,v,ob,hn,hv,hw2⟩|⟨hsk,hw,hk,ho⟩
 · have hstep:Steps P (lone (C.b.atR a (.inRegion all (r.x.i::is)::kk)) cs wd) (lone (C.b.atR (a.put r.x.o.dst undef) (.inRegion all is::kk)) cs wd):=.one (skip_put hat (hW.trans hw));by_cases h3:r.x.kd=3
   · have hno:=(I.no_act K hs hDr h3 hm).1;have hi:=I.at_act K hs hA hno;obtain⟨ρ1,H1,hI⟩:=I.acted K hc hs hA h3 hx hm (v':=undef) (by rw[hw2];exact hi) rfl (by rw[hw2];exact Grow.refl _ _ _ _ hi.hp.dom) (CsTo.refl _ _) (by rw[hv];exact RV.undef _);exact⟨_,_,_,_,ρ1,H1,_,_,_,hI,by rw[hs];simp,hstep⟩
   · have hI:=I.calm K hc hrs h3 (.inr hsk) hx hm (v':=undef) (by rw[hv];exact RV.undef _);exact⟨_,_,_,_,ρ,H,_,_,_,hI,rfl,hstep⟩
 · obtain⟨v',y1,y2⟩:=I.look hP K hL hs hA hsk hk hq hx hm hO;have hI:=I.calm K hc hrs (by omega) (.inl (by omega)) hx hm (v':=v') (by rw[hw2];exact y2);exact⟨_,_,_,_,ρ,H,_,_,_,hI,rfl,.one (step_res (hnd (by omega)) hat (hW.trans hw) (.inl y1))⟩
 · obtain⟨v',wd',ρ1,H1,y1,hI⟩:=I.made K hc hs hA hk hsk hn hv hw2 hx hm hO;exact⟨_,_,_,_,ρ1,H1,_,_,_,hI,rfl,.one (step_res (hnd (by omega)) hat (hW.trans hw) (.inl y1))⟩
 · have h3:r.x.kd=3:=by omega
   have hno:=(I.no_act K hs hDr h3 hm).1;have hi:=I.at_act K hs hA hno;obtain⟨ρ',a',wd',cs',i1,i2,i3,i4,v',i5,i6⟩:=ho _ _ _ _ _ _ _ hi hO all r.x.i is kk hat (hW.trans hw);obtain⟨ρ1,H1,hI⟩:=I.acted K hc hs hA h3 hx hm i1 i2 i3 i4 i5;exact⟨_,_,_,_,ρ1,H1,_,_,_,hI,by rw[hs];simp,i6⟩
end
end Go.Ex
namespace Go.Ex
theorem map_split{α β : Type}{f: α→β}{l:List α}{A:List β}{x: β}{B:List β}(h:l.map f=A++x::B):∃A' x' B',l=A'++x'::B'∧A=A'.map f∧x=f x'∧B=B'.map f:=by
 obtain⟨A',r,e1,e2,e3⟩:=List.map_eq_append_iff.1 h;obtain⟨x',B',e4,e5,e6⟩:=List.map_eq_cons_iff.1 e3;exact⟨A',x',B',by rw[e1,e4],e2.symm,e5.symm,e6.symm⟩
theorem sees_bit{all:Array Oper}{M:Nat→Nat}{x:XOp}(h:XOK all M x){d:Nat}(hd:Sees all x.o d):zN x.lk d=true:=by
 rcases hd with hd|⟨g,b,h1,h2⟩
 · exact h.lk d hd
 · exact h.glk g b d h1 h2
theorem count_map{S:List XOp}{f:XOp→DOp}(hf:∀x,(f x).i=x.i∧(f x).kd=x.kd)(p:Nat→Bool):((S.filter fun x=>Nat.beq x.kd 3).filter fun c=>p c.i).length=(S.map f).countP fun c=>Nat.beq c.kd 3 && p c.i:=by
 rw[List.filter_filter,← List.countP_eq_length_filter,List.countP_map];congr 1
 funext c
 simp only[Function.comp,(hf c).1,(hf c).2];exact Bool.and_comm _ _
theorem PlanOK.recPlan{ops:Array Oper}{M:Nat→Nat}{xl S:List XOp}(h:PlanOK ops M xl S):RecPlan ops M (S.map (dopOf xl (S.filter fun x=>Nat.beq x.kd 3))):=by
 have hf:∀x,(dopOf xl (S.filter fun x=>Nat.beq x.kd 3) x).i=x.i∧(dopOf xl (S.filter fun x=>Nat.beq x.kd 3) x).kd=x.kd:=fun x=>⟨rfl,rfl⟩;have hm:∀x∈xl,x.m=M x.i:=fun x hx=>(h.ok x hx).m;refine⟨?_,?_,?_,?_,?_,?_,?_,?_,?_⟩
 · intro x hx;obtain⟨y,hy,rfl⟩:=List.mem_map.1 hx;exact h.at' y (h.sub y hy)
 · intro x hx;obtain⟨y,hy,rfl⟩:=List.mem_map.1 hx;exact(h.ok y (h.sub y hy)).kd
 · intro x hx b hb;obtain⟨y,hy,rfl⟩:=List.mem_map.1 hx;exact(h.ok y (h.sub y hy)).bits b (by rw[hm y (h.sub y hy)];exact hb)
 · intro A x B e;obtain⟨A',x',B',e1,rfl,rfl,rfl⟩:=map_split e;have hs:=h.sig;rw [e1]at hs;obtain⟨o1,o2⟩:=sig_ord hs;refine⟨fun b hb=>?_,fun y hy=>?_⟩
   · obtain⟨y,hy,e2⟩:=o1 b (by rw[hm x' (h.sub x' (by rw[e1];simp))];exact hb);exact⟨_,List.mem_map.2 ⟨y,hy,rfl⟩,e2⟩
   · obtain⟨y',hy',rfl⟩:=List.mem_map.1 hy;exact o2 y' hy'
 · intro A T x B e hk hT y hy;obtain⟨A',r,e1,e2,e3⟩:=List.map_eq_append_iff.1 e;obtain⟨T',x',B',e4,rfl,rfl,rfl⟩:=map_split e3;have hs:=h.sig;rw [e1,e4]at hs;obtain⟨y',hy',rfl⟩:=List.mem_map.1 hy;have:=sig_next hs hk (fun z hz=>hT _ (List.mem_map.2 ⟨z,hz,rfl⟩)) y' hy';rw [hm x' (h.sub x' (by rw[e1,e4];simp))]at this;exact this
 · intro x hx y hy d hd hs;obtain⟨x',hx',rfl⟩:=List.mem_map.1 hx;obtain⟨y',hy',rfl⟩:=List.mem_map.1 hy;have:=h.pair x' (h.sub x' hx') y' (h.sub y' hy') d hd (hs.imp (fun q=>sees_bit (h.ok y' (h.sub y' hy')) q) id);rw [hm x' (h.sub x' hx'),hm y' (h.sub y' hy')]at this;exact this
 · intro x hx y hy kx ky;obtain⟨x',hx',rfl⟩:=List.mem_map.1 hx;obtain⟨y',hy',rfl⟩:=List.mem_map.1 hy;have:=h.act x' (h.sub x' hx') y' (h.sub y' hy') kx ky;rw [hm x' (h.sub x' hx'),hm y' (h.sub y' hy')]at this;exact this
 · intro x hx;obtain⟨x',hx',rfl⟩:=List.mem_map.1 hx;rw [← count_map hf (fun i=>zN (M (dopOf xl (S.filter fun x=>Nat.beq x.kd 3) x').i) i)];show((S.filter fun x=>Nat.beq x.kd 3).filter fun c=>zN x'.m c.i).length=_;rw [hm x' (h.sub x' hx')];rfl
 · intro x hx;obtain⟨x',hx',rfl⟩:=List.mem_map.1 hx;have e:=count_map hf (S:=S) (fun i=> !zN (M i) x'.i && !Nat.beq i x'.i);refine Nat.le_of_eq (Eq.symm ?_);show((S.filter fun x=>Nat.beq x.kd 3).filter fun c=> !zN c.m x'.i && !Nat.beq c.i x'.i).length=_;refine Eq.trans (congrArg List.length (List.filter_congr fun c hc=>?_)) e;rw [hm c (h.sub c (List.mem_filter.1 hc).1)]
theorem PlanOK.solo{ops:Array Oper}{M:Nat→Nat}{xl S:List XOp}(h:PlanOK ops M xl S){x:DOp}(hx:x∈S.map (dopOf xl (S.filter fun x=>Nat.beq x.kd 3)))(hs:x.solo=true){i:Nat}(hi:i<ops.size) :
 x.i=i∨zN (M x.i) i=true∨zN (M i) x.i=true:=by
 obtain⟨x',hx',rfl⟩:=List.mem_map.1 hx;obtain⟨y,hy,rfl⟩:=h.cov i hi;have hs:(xl.all fun y=>Nat.beq x'.i y.i || zN x'.m y.i || zN y.m x'.i)=true:=hs;have:=List.all_eq_true.1 hs y hy;rw [(h.ok x' (h.sub x' hx')).m,(h.ok y hy).m]at this;simp only[Bool.or_eq_true]at this;rcases this with(e|e)|e
 · exact .inl (zD e)
 · exact .inr (.inl e)
 · exact .inr (.inr e)
theorem PlanOK.un{ops:Array Oper}{M:Nat→Nat}{xl S:List XOp}(h:PlanOK ops M xl S){x y:DOp}(hx:x∈S.map (dopOf xl (S.filter fun x=>Nat.beq x.kd 3)))(hy:y∈S.map (dopOf xl (S.filter fun x=>Nat.beq x.kd 3)))(hk:x.kd=3) :
 (x.un.any fun i=>Nat.beq i y.i)=true↔x.i≠y.i∧zN (M x.i) y.i=false∧zN (M y.i) x.i=false:=by
 obtain⟨x',hx',rfl⟩:=List.mem_map.1 hx;obtain⟨y',hy',rfl⟩:=List.mem_map.1 hy;have ex:=(h.ok x' (h.sub x' hx')).m;have ey:=(h.ok y' (h.sub y' hy')).m
 have step:∀z∈xl,(!(Nat.beq x'.i z.i || zN x'.m z.i || zN z.m x'.i))=true↔x'.i≠z.i∧zN (M x'.i) z.i=false∧zN (M z.i) x'.i=false:=fun z hz=>by
  rw[← ex,← (h.ok z hz).m,Bool.not_eq_true',Bool.or_eq_false_iff,Bool.or_eq_false_iff,and_assoc];refine and_congr_left fun _=>⟨fun e q=>(by rw[q,Nat.beq_refl]at e;cases e),fun q=>?_⟩
  cases e:Nat.beq x'.i z.i with
  | false=>rfl
  | true=>exact absurd (zD e) q
 have hk':x'.kd=3:=hk;show((cond (Nat.beq x'.kd 3) ((xl.filter fun z=> !(Nat.beq x'.i z.i || zN x'.m z.i || zN z.m x'.i)).map fun z=>z.i) []).any fun i=>Nat.beq i y'.i)=true↔x'.i≠y'.i∧zN (M x'.i) y'.i=false∧zN (M y'.i) x'.i=false;rw [hk'];show(((xl.filter fun z=> !(Nat.beq x'.i z.i || zN x'.m z.i || zN z.m x'.i)).map fun z=>z.i).any fun i=>Nat.beq i y'.i)=true↔x'.i≠y'.i∧zN (M x'.i) y'.i=false∧zN (M y'.i) x'.i=false;rw [List.any_eq_true];constructor
 · rintro ⟨i,hi,e⟩
   obtain⟨z,hz,rfl⟩:=List.mem_map.1 hi;obtain⟨z1,z2⟩:=List.mem_filter.1 hz;have:=(step z z1).1 z2;rw [zD e]at this;exact this
 · intro q;exact⟨y'.i,List.mem_map.2 ⟨y',List.mem_filter.2 ⟨h.sub y' hy',(step y' (h.sub y' hy')).2 q⟩,rfl⟩,Nat.beq_refl _⟩
theorem PlanOK.trans{ops:Array Oper}{M:Nat→Nat}{xl S:List XOp}(h:PlanOK ops M xl S){x y:DOp}(hx:x∈S.map (dopOf xl (S.filter fun x=>Nat.beq x.kd 3)))(hy:y∈S.map (dopOf xl (S.filter fun x=>Nat.beq x.kd 3)))(hb:zN (M x.i) y.i=true){b:Nat}(h2:zN (M y.i) b=true):zN (M x.i) b=true:=by
 obtain⟨x',hx',rfl⟩:=List.mem_map.1 hx;obtain⟨y',hy',rfl⟩:=List.mem_map.1 hy;have ex:=(h.ok x' (h.sub x' hx')).m;have ey:=(h.ok y' (h.sub y' hy')).m;have:=h.tr x' (h.sub x' hx') y' (h.sub y' hy');rw [ex,ey]at this;exact this hb b h2
theorem nodup_len:∀{l m:List Nat},l.Nodup→(∀x∈l,x∈m)→l.length≤m.length:=by
 intro l
 induction l with
 | nil=>intro m _ _;exact Nat.zero_le _
 | cons x l ih=>
  intro m hn hs;obtain⟨h1,h2⟩:=List.nodup_cons.1 hn;have hx:=hs x (by simp);have:=ih (m:=m.erase x) h2 fun y hy=>(List.mem_erase_of_ne (fun e=>h1 (by rw[← e];exact hy))).2 (hs y (by simp[hy]));rw [List.length_erase_of_mem hx]at this;have:0<m.length:=List.length_pos_of_mem hx;simp only[List.length_cons];omega
theorem PlanOK.all{ops:Array Oper}{M:Nat→Nat}{xl S:List XOp}(h:PlanOK ops M xl S){i:Nat}(hi:i<ops.size):∃x∈S.map (dopOf xl (S.filter fun x=>Nat.beq x.kd 3)),x.i=i:=by
 have K:=h.recPlan;generalize hD:S.map (dopOf xl (S.filter fun x=>Nat.beq x.kd 3))=D at K
 have hlen:D.length=ops.size:=by rw[← hD,List.length_map];exact h.len
 have hnd:(D.map (·.i)).Nodup:=by
  unfold List.Nodup;rw [List.pairwise_map]
  have key:∀(X Y:List DOp),D=X++Y→Y.Pairwise fun a b=>a.i≠b.i:=by
   intro X Y
   induction Y generalizing X with
   | nil=>intro _;exact .nil
   | cons y Y ih=>
    intro e;refine .cons (fun z hz=>?_) (ih (X++[y]) (by rw[e];simp));obtain⟨Y1,Y2,rfl⟩:=List.append_of_mem hz;exact(K.later e).2
  exact key [] D rfl
 refine Classical.byContradiction fun hno=>?_
 have hsub:∀x∈i::D.map (·.i),x∈List.range ops.size:=by
  intro x hx;rcases List.mem_cons.1 hx with rfl|hx
  · exact List.mem_range.2 hi
  · obtain⟨y,hy,rfl⟩:=List.mem_map.1 hx;have:=K.at' y hy;rcases Nat.lt_or_ge y.i ops.size with h1|h1
    · exact List.mem_range.2 h1
    · rw[Array.getElem?_eq_none h1]at this;cases this
 have:=nodup_len (List.nodup_cons.2 ⟨fun hx=>hno (let ⟨y,hy,e⟩:=List.mem_map.1 hx;⟨y,hy,e⟩),hnd⟩) hsub;simp at this;omega
theorem ready_mem{ops:Array Oper}{listed:Array Bool}{i:Nat}(h:i∈Region.ready .any ops listed) :
 i<ops.size∧listed.getD i true=false∧∃o,ops[i]? = some o∧∀e∈o.after.toList,xQ e=true→listed.getD e.on false=true:=by
 unfold Region.ready at h;obtain⟨h1,h2⟩:=List.mem_filter.1 h;obtain⟨h3,h4⟩:=Bool.and_eq_true_iff.1 h2;refine⟨List.mem_range.1 h1,by simpa using h3,?_⟩
 cases ho:ops[i]? with
 | none=>rw [ho]at h4;cases h4
 | some o=>
  rw[ho]at h4;refine⟨o,rfl,fun e he ha=>?_⟩;have h5:(o.after.all fun e=> !Region.binds .any e || listed.getD e.on false)=true:=h4;rw [Array.all_eq_true_iff_forall_mem]at h5;have:=h5 e (Array.mem_toList_iff.1 he);unfold xQ at ha;rw [ha]at this;simpa using this
theorem ready_mk{ops:Array Oper}{listed:Array Bool}{i:Nat}{o:Oper}(hi:ops[i]? = some o)(h:listed.getD i true=false)(he:∀e∈o.after.toList,xQ e=true→listed.getD e.on false=true):i∈Region.ready .any ops listed:=by
 have hlt:i<ops.size:=by
  rcases Nat.lt_or_ge i ops.size with h1|h1
  · exact h1
  · rw[Array.getElem?_eq_none h1]at hi;cases hi
 unfold Region.ready;refine List.mem_filter.2 ⟨List.mem_range.2 hlt,?_⟩;rw [h,hi];show(o.after.all fun e=> !Region.binds .any e || listed.getD e.on false)=true;rw [Array.all_eq_true_iff_forall_mem];intro e hm
 cases ha:Region.binds .any e with
 | false=>rfl
 | true=>simpa using he e (Array.mem_toList_iff.2 hm) ha
theorem ready_nil{ops:Array Oper}{listed:Array Bool}(hs:listed.size=ops.size)(hedge:∀i o,ops[i]? = some o→∀e∈o.after.toList,xQ e=true→e.on<i)(h:Region.ready .any ops listed=[]) :
 ∀n i,i<n→i<ops.size→listed.getD i false=true:=by
 intro n
 induction n with
 | zero=>intro i hi;omega
 | succ n ih=>
  intro i hi hlt;rcases Nat.lt_or_ge i n with h1|h1
  · exact ih i h1 hlt
  · have:i=n:=by omega
    subst this;have hlt':i<listed.size:=by omega
    have g1:listed.getD i true=listed[i]:=by simp[hlt']
    have g2:listed.getD i false=listed[i]:=by simp[hlt']
    cases e:listed.getD i true with
    | true=>rw [g2,← g1];exact e
    | false =>
     have hm:=ready_mk (ops:=ops) (Array.getElem?_eq_getElem hlt) e fun ed hed ha=>by
      have:=hedge i _ (Array.getElem?_eq_getElem hlt) ed hed ha;exact ih ed.on this (by omega)
     rw[h]at hm;simp at hm
def unlisted(n:Nat)(listed:Array Bool):Nat:=(List.range n).countP fun i=> !listed.getD i true
section
variable {P:Program} {ng:Nat} {all:Array Oper} {M:Nat→Nat} {D E:List DOp} {C:Cfg}
theorem Inv.lst_congr{pre suf:List Rec}{ts:Fr}{ws:W}{lst lst':Nat→Prop}{ρ : Inj}{H:zB}{a:Act}{wd:World}{cs:List Frame}(I:Inv P ng all M D E C pre suf ts ws lst ρ H a wd cs)(h:∀i,lst i↔lst' i) :
 Inv P ng all M D E C pre suf ts ws lst' ρ H a wd cs:=by
 have:lst=lst':=funext fun i=>propext (h i);rw [← this];exact I
theorem draw_go{Goal:Machine→List Item→Prop}(hG:∀m m1 kk,Steps P m m1→Goal m1 kk→Goal m kk)(hP:zU ng P=true)(K:RecPlan all M D)(hc:∀o∈all.toList,wQ ng (ntm P C.cx.fn) o=true)
(hedge:∀i o,all[i]? = some o→∀e∈o.after.toList,xQ e=true→e.on<i)
(hbits:∀i o,all[i]? = some o→∀b,zN (M i) b=true→∃e∈o.after.toList,xQ e=true∧(b=e.on∨zN (M e.on) b=true))
{R:List Rec}(hL:yP P (hsOf R [C.W0]).length (hsOf R [C.W0]) (lsOf R [])=true)
(hnext:∀pre suf ts ws lst ρ H a wd cs,pre++suf=R→Inv P ng all M D E C pre suf ts ws lst ρ H a wd cs→∀i,i<all.size→¬lst i→(∀b,zN (M i) b=true→lst b)→
  (∃r∈R,r.x.i=i)∨∀is kk,Goal (lone (C.b.atR a (.inRegion all (i::is)::kk)) cs wd) kk)
(hend:∀pre suf ts ws lst ρ H a wd cs,pre++suf=R→Inv P ng all M D E C pre suf ts ws lst ρ H a wd cs→(∀i,i<all.size→lst i)→∀kk,Goal (lone (C.b.atR a (.inRegion all []::kk)) cs wd) kk) :
 ∀(fuel t:Nat) (listed:Array Bool) (pre suf:List Rec) (ts:Fr) (ws:W) (ρ : Inj) (H:zB) (a:Act) (wd:World) (cs:List Frame),pre++suf=R→listed.size=all.size→
  Inv P ng all M D E C pre suf ts ws (fun i=>listed.getD i false=true) ρ H a wd cs→unlisted all.size listed≤fuel→
  ∀kk,Goal (lone (C.b.atR a (.inRegion all (Region.linearise.go .any all fuel t listed [])::kk)) cs wd) kk:=by
 have swap:∀{listed:Array Bool} {i:Nat},i<listed.size→listed.getD i true=listed.getD i false:=by
  intro listed i h;simp [h]
 have finish:∀{listed:Array Bool} {pre suf:List Rec} {ts:Fr} {ws:W} {ρ : Inj} {H:zB} {a:Act} {wd:World} {cs:List Frame},pre++suf=R→listed.size=all.size→
  Inv P ng all M D E C pre suf ts ws (fun i=>listed.getD i false=true) ρ H a wd cs→(∀i,i<all.size→listed.getD i false=true)→∀kk,Goal (lone (C.b.atR a (.inRegion all []::kk)) cs wd) kk:=
  fun hR hs I hl kk=>hend _ _ _ _ _ _ _ _ _ _ hR I hl kk
 intro fuel
 induction fuel with
 | zero=>
  intro t listed pre suf ts ws ρ H a wd cs hR hs I hu kk;refine finish hR hs I (fun i hi=>?_) kk;have h0:unlisted all.size listed=0:=by omega
  have:=List.countP_eq_zero.1 h0 i (List.mem_range.2 hi);rw [← swap (by omega)];simpa using this
 | succ fuel ih =>
  intro t listed pre suf ts ws ρ H a wd cs hR hs I hu kk;simp only[Region.linearise.go]
  change Goal (lone (C.b.atR a (.inRegion all (match (Region.ready .any all listed)[t % (Region.ready .any all listed).length]? with
   | some i=>Region.linearise.go .any all fuel (t / (Region.ready .any all listed).length) (listed.setIfInBounds i true) [i]
   | none=>[].reverse)::kk)) cs wd) kk
  cases hi:(Region.ready .any all listed)[t % (Region.ready .any all listed).length]? with
  | none =>
   have hnil:Region.ready .any all listed=[]:=by
    cases hr:Region.ready .any all listed with
    | nil=>rfl
    | cons x xs=>
     rw[hr]at hi;have hlt:t % (x::xs).length<(x::xs).length:=Nat.mod_lt _ (by simp);simp at hi;simp at hlt;omega
   exact finish hR hs I (fun i h=>ready_nil hs hedge hnil (i+1) i (by omega) h) kk
  | some i =>
   simp only[];rw [linearise_go_acc,List.reverse_singleton,List.singleton_append];obtain⟨r1,r2,o,r3,r4⟩:=ready_mem (List.mem_of_getElem? hi)
   have hnl:¬listed.getD i false=true:=by
    rw[← swap (by omega),r2];exact Bool.false_ne_true
   have hm:∀b,zN (M i) b=true→listed.getD b false=true:=by
    intro b hb;obtain⟨e,e1,e2,e3⟩:=hbits i o r3 b hb;have h1:=r4 e e1 e2;rcases e3 with rfl|e3
    · exact h1
    · exact I.closed _ h1 _ e3
   rcases hnext _ _ _ _ _ _ _ _ _ _ hR I i r1 hnl hm with⟨r,hr,rfl⟩|hg
   · obtain⟨pre',suf',ts',ws',ρ1,H1,a1,wd1,cs1,I1,hR1,hst⟩:=I.step hP K hc (by rw[hR];exact hL) (by rw[hR];exact hr) hnl hm
      (Region.linearise.go .any all fuel (t / (Region.ready .any all listed).length) (listed.setIfInBounds r.x.i true) []) kk
     have hs1:(listed.setIfInBounds r.x.i true).size=all.size:=by simpa using hs
     have zF:∀j d,(listed.setIfInBounds r.x.i true).getD j d=if r.x.i=j then true else listed.getD j d:=by
      intro j d;by_cases hj:j<listed.size
      · have hj':j<(listed.setIfInBounds r.x.i true).size:=by simpa using hj
        simp[hj,Array.getElem_setIfInBounds]
      · have hne:r.x.i≠j:=by omega
        simp[hj,hne]
     refine hG _ _ _ hst (ih _ _ pre' suf' ts' ws' ρ1 H1 a1 wd1 cs1 (hR1.trans hR) hs1 (I1.lst_congr fun j=>?_) ?_ kk)
     · rw[zF];by_cases hj:r.x.i=j
       · simp[hj]
       · rw[if_neg hj];exact⟨fun h=>h.resolve_right fun e=>hj e.symm,.inl⟩
     · have:unlisted all.size (listed.setIfInBounds r.x.i true)<unlisted all.size listed:=
        countP_lt (fun j _ h=>by
         rw[zF]at h;by_cases hj:r.x.i=j
         · rw[if_pos hj]at h;cases h
         · rw[if_neg hj]at h;exact h) (List.mem_range.2 r1) (by rw[zF,if_pos rfl];rfl) (by rw[r2];rfl)
       omega
   · exact hg _ kk
end
end Go.Ex
namespace Go.Ex
section
variable {P:Program} {ng:Nat} {all:Array Oper} {M:Nat→Nat} {D E:List DOp} {C:Cfg}
variable {pre suf:List Rec} {ts:Fr} {ws:W} {lst:Nat→Prop} {ρ : Inj} {H:zB} {a:Act} {wd:World} {cs:List Frame}
theorem Inv.all_done(I:Inv P ng all M D E C pre suf ts ws lst ρ H a wd cs)(K:RecPlan all M D)(hl:∀r∈pre++suf,lst r.x.i) :
 In P ng (ρ.cut C.w1.n) C.base C.w00 C.b a wd cs C.cx C.t1 C.w1∧Grow C.ρ0 C.W0.h C.W0.n C.wd0 (ρ.cut C.w1.n) C.w1.h C.w1.n wd:=by
 have hno:∀q∈suf,q.x.kd≠3:=fun q hq h3=>I.sl q hq h3 (hl q (List.mem_append_right _ hq));have hs:suf=suf++[]:=by simp
 have h0:=I.at_act K hs I.r2 hno;have hall:=wU I.r1 I.r2;have hW0:C.W0.n≤ws.n:=(yT I.r1).1;have hkA:∀q∈suf,q.x.kd≠3∧q.x.kd=zK q.x.o.op:=fun q hq=>⟨hno q hq,K.kd _ (I.mem (List.mem_append_right _ hq))⟩;obtain⟨_,_,s4,_⟩:=seg_ok I.r2 hkA;refine⟨h0.toIn ⟨by rw[I.sz];exact I.tm0.sz,fun d v hv=>?_⟩,(I.gr _ (yT I.r2).1).congr fun b hb=>by rw[s4 b (by omega),I.hh b (by omega)]⟩;by_cases hw:∃y∈pre++suf,y.x.o.dst=some d
 · obtain⟨y,hy,hyd⟩:=hw;obtain⟨A1,A2,hsp⟩:=List.append_of_mem hy;have hDy:D=A1.map (·.x)++y.x::(A2.map (·.x)++E):=by rw[I.dd,hsp];simp
   obtain⟨v',q1,q2⟩:=I.val y hy (hl y hy) d hyd;rw [hv]at q1;injection q1 with q1;subst q1
   have hb:=((yT hall).2 y hy).2.2;rw [hsp]at hall
   have h2:fget C.t1 d=y.v:=recs_write hall hyd fun z hz e=>by
    obtain⟨B1,B2,hz2⟩:=List.append_of_mem hz;have hDz:D=A1.map (·.x)++y.x::(B1.map (·.x)++z.x::(B2.map (·.x)++E)):=by rw[hDy,hz2];simp
    obtain⟨_,l4⟩:=K.later hDz;rcases K.pair y.x (by rw[hDz];simp) z.x (by rw[hDz];simp) d hyd (.inr e) with h|⟨h,_⟩
    · exact l4 h
    · exact h e
   rw[h2];exact q2.mono (cut_le hb)
 · have hno':∀r∈pre++suf,r.x.o.dst≠some d:=fun r hr e=>hw ⟨r,hr,e⟩;rw [recs_slot hall hno'];rw [I.un d fun r hr _=>hno' r hr]at hv;exact(I.tm0.tm d v hv).mono (cut_le (yT hall).1)
theorem HeapR.later{base:Nat}{w0:World}{h:zB}{n m:Nat}(r:HeapR P ng ρ base w0 h n wd)(hm:n≤m):HeapR P ng ρ base w0 h m wd:=
 ⟨fun b hb=>r.dom b (by omega),r.obj,r.inj,r.below,r.size,r.glob,by have:=r.ngn;omega⟩
theorem cut_dom{n m:Nat}(h:∀b,n≤b→ρ b=none)(hm:n≤m): ρ.cut m = ρ :=by
 funext b
 rcases Nat.lt_or_ge b m with h1|h1
 · exact yK h1
 · rw[cut_ge h1,h b (by omega)]
theorem recs_det{all:Array Oper}{cx:Cx}:∀{A:List Rec} {t t1 t2:Fr} {w w1 w2:W},RecsOK P ng all cx A t w t1 w1→RecsOK P ng all cx A t w t2 w2→t1=t2∧w1=w2:=by
 intro A
 induction A with
 | nil=>intro t t1 t2 w w1 w2 h h';cases h;cases h';exact⟨rfl,rfl⟩
 | cons r A ih =>
  intro t t1 t2 w w1 w2 h h'
  cases h with
  | cons h hr=>
   cases h' with
   | cons h' hr'=>exact ih hr hr'
theorem recPlan_dry{all:Array Oper}{M:Nat→Nat}{Rx rest L:List DOp}{d:DOp}(hL:L=Rx++d::rest)(K:RecPlan all M L)(hk:d.kd=3)
(htr:∀x∈L,∀y∈L,zN (M x.i) y.i=true→∀b,zN (M y.i) b=true→zN (M x.i) b=true)
(hun:∀y∈L,(d.un.any fun i=>Nat.beq i y.i)=true↔d.i≠y.i∧zN (M d.i) y.i=false∧zN (M y.i) d.i=false) :
 RecPlan all M (Rx++dryOf d.un rest)∧(∀x∈dryOf d.un rest,x∈L∧x.kd≠3∧x.i≠d.i∧zN (M d.i) x.i=false∧zN (M x.i) d.i=false):=by
 have hdL:d∈L:=by rw[hL];simp
 have hrest:∀y∈rest,y∈L∧zN (M d.i) y.i=false∧d.i≠y.i:=by
  intro y hy;obtain⟨S1,S2,hS⟩:=List.append_of_mem hy;obtain⟨l1,l2⟩:=K.later (x:=d) (y:=y) (A:=Rx) (B:=S1) (C:=S2) (by rw[hL,hS]);exact⟨by rw[hL];simp [hy],l1,l2⟩
 have hdry:∀x∈dryOf d.un rest,x∈L∧x.kd≠3∧x.i≠d.i∧zN (M d.i) x.i=false∧zN (M x.i) d.i=false:=by
  intro x hx;obtain⟨x1,x2⟩:=List.mem_filter.1 hx;obtain⟨l0,l1,l2⟩:=hrest x x1;obtain⟨u1,u2,u3⟩:=(hun x l0).1 x2;refine⟨l0,fun h3=>?_,fun e=>u1 e.symm,u2,u3⟩;rcases K.act d hdL x l0 hk h3 with e|e|e
  · exact u1 e
  · rw[u3]at e;cases e
  · rw[u2]at e;cases e
 have hRx:∀x∈Rx,x∈L:=fun x hx=>by rw[hL];simp [hx]
 have hsub:∀x∈Rx++dryOf d.un rest,x∈L:=fun x hx=>(List.mem_append.1 hx).elim (hRx x) fun h=>(hdry x h).1
 have hsl:(Rx++dryOf d.un rest).Sublist L:=by
  rw[hL];exact(List.Sublist.refl Rx).append (.cons _ List.filter_sublist)
 refine⟨⟨fun x hx=>K.at' x (hsub x hx),fun x hx=>K.kd x (hsub x hx),fun x hx=>K.bits x (hsub x hx),?_,?_,fun x hx y hy=>K.pair x (hsub x hx) y (hsub y hy),fun x hx y hy=>K.act x (hsub x hx) y (hsub y hy),?_,?_⟩,hdry⟩
 · intro A x B e;rcases List.append_eq_append_iff.1 e with⟨A1,e1,e2⟩|⟨R1,e1,e2⟩
   ·
    obtain⟨S1,S2,s1,s2,s3⟩:=List.filter_eq_append_iff.1 e2;obtain⟨T1,T2,q1,q2,q3,q4⟩:=List.filter_eq_cons_iff.1 s3;have hx:x∈dryOf d.un rest:=by rw[e2];simp
    obtain⟨_,_,_,_,x5⟩:=hdry x hx;have hl:L=(Rx++d::(S1++T1))++x::T2:=by rw[hL,s1,q1];simp
    obtain⟨k1,k2⟩:=K.ahead _ x _ hl;refine⟨fun b hb=>?_,fun y hy=>?_⟩
    · obtain⟨y,hy,hyb⟩:=k1 b hb;rcases List.mem_append.1 hy with hy|hy
      · exact⟨y,by rw[e1];simp [hy],hyb⟩
      rcases List.mem_cons.1 hy with rfl|hy
      · rw[hyb,hb]at x5;cases x5
      have hyr:y∈rest:=by
       rw[s1,q1];rcases List.mem_append.1 hy with h|h <;> simp[h]
      obtain⟨y0,y1,y2⟩:=hrest y hyr
      have hp:(d.un.any fun i=>Nat.beq i y.i)=true:=(hun y y0).2 ⟨y2,y1,by
       cases hq:zN (M y.i) d.i with
       | false=>rfl
       | true=>
        have:=htr x (hsub x (by rw[e];simp)) y y0 (by rw[hyb];exact hb) _ hq;rw [x5]at this;cases this⟩
      rcases List.mem_append.1 hy with h|h
      · exact⟨y,by rw[e1,← s2];exact List.mem_append_right _ (List.mem_filter.2 ⟨h,hp⟩),hyb⟩
      · exact absurd hp (q2 y h)
    · refine k2 y ?_;rw [e1]at hy;rcases List.mem_append.1 hy with h|h
      · simp[h]
      · rw[← s2]at h;have:=(List.mem_filter.1 h).1;simp [this]
   ·
    cases R1 with
    | nil =>
     have e2':dryOf d.un rest=x::B:=by simpa using e2.symm
     obtain⟨T1,T2,q1,q2,q3,q4⟩:=List.filter_eq_cons_iff.1 e2';have hx:x∈dryOf d.un rest:=by rw[e2'];simp
     obtain⟨_,_,_,_,x5⟩:=hdry x hx;have hA:A=Rx:=by simpa using e1.symm
     have hl:L=(Rx++d::T1)++x::T2:=by rw[hL,q1];simp
     obtain⟨k1,k2⟩:=K.ahead _ x _ hl;refine⟨fun b hb=>?_,fun y hy=>k2 y (by rw[hA]at hy;simp [hy])⟩;obtain⟨y,hy,hyb⟩:=k1 b hb;rcases List.mem_append.1 hy with hy|hy
     · exact⟨y,by rw[hA];exact hy,hyb⟩
     rcases List.mem_cons.1 hy with rfl|hy
     · rw[hyb,hb]at x5;cases x5
     obtain⟨y0,y1,y2⟩:=hrest y (by rw[q1];simp [hy]);refine absurd ((hun y y0).2 ⟨y2,y1,?_⟩) (q2 y hy)
     cases hq:zN (M y.i) d.i with
     | false=>rfl
     | true=>
      have:=htr x (hsub x (by rw[e];simp)) y y0 (by rw[hyb];exact hb) _ hq;rw [x5]at this;cases this
    | cons z R1=>
     injection e2 with e3 e4
     subst e3;exact K.ahead A x (R1++d::rest) (by rw[hL,e1];simp)
 · intro A S x B e h3 hS;have hx:x∉dryOf d.un rest:=fun h=>(hdry x h).2.1 h3
   have:∃B1,Rx=A++(S++x::B1):=by
    rw[← List.append_assoc]at e;rcases List.append_eq_append_iff.1 e with⟨A1,e1,e2⟩|⟨R1,e1,e2⟩
    · exact absurd (by rw[e2];simp) hx
    · cases R1 with
      | nil=>exact absurd (by rw[show dryOf d.un rest=x::B by simpa using e2.symm];simp) hx
      | cons z R1=>injection e2 with e3 e4;subst e3;exact⟨R1,by rw[e1];simp⟩
   obtain⟨B1,hB⟩:=this;exact K.next A S x (B1++d::rest) (by rw[hL,hB];simp) h3 hS
 · intro x hx;rw [K.low x (hsub x hx),hL,List.countP_append,List.countP_append];congr 1
   rw[List.countP_eq_zero.2 fun c hc hp=>?_,List.countP_eq_zero.2 fun c hc hp=>(hdry c hc).2.1 (zD (Bool.and_eq_true_iff.1 hp).1)];obtain⟨p1,p2⟩:=Bool.and_eq_true_iff.1 hp;rcases List.mem_append.1 hx with h|h
   · obtain⟨A1,A2,hA⟩:=List.append_of_mem h;obtain⟨C1,C2,hC⟩:=List.append_of_mem hc;rw [(K.later (x:=x) (y:=c) (A:=A1) (B:=A2++C1) (C:=C2) (by rw[hL,hA,hC];simp)).1]at p2;cases p2
   · obtain⟨_,_,_,_,x5⟩:=hdry x h;rcases List.mem_cons.1 hc with rfl|hc
     · rw[x5]at p2;cases p2
     obtain⟨c0,c1,c2⟩:=hrest c hc;rcases K.act d hdL c c0 hk (zD p1) with e|e|e
     · exact c2 e
     · have:=htr x (hsub x hx) c c0 p2 _ e;rw [x5]at this;cases this
     · rw[c1]at e;cases e
 · intro x hx;exact Nat.le_trans hsl.countP_le (K.high x (hsub x hx))
theorem drew_ok(hP:zU ng P=true)(hmix:P.follows .mixedOrders=true){ops:Array Oper}{L:List DOp}(hpl:plan ops=some L){cx:Cx}{t:Fr}{w:W}{k:KX}(hD:Drew P ng ops cx L t w [w] [] k)(id:Nat) :
 ∃x t' w',k x t' w'=true∧CodeTo P ng (.region id ops true) cx t w x t' w':=by
 obtain⟨M,xl,S,hp,hL⟩:=plan_ok hpl;have K:RecPlan ops M L:=by rw[hL];exact hp.recPlan
 have hsolo:∀x∈L,x.solo=true→∀i,i<ops.size→x.i=i∨zN (M x.i) i=true∨zN (M i) x.i=true:=by
  intro x hx hs i hi;rw [hL]at hx;exact hp.solo hx hs hi
 have hcov:∀i,i<ops.size→∃x∈L,x.i=i:=by
  intro i hi;rw [hL];exact hp.all hi
 have hxl:∀i o,ops[i]? = some o→∃x,x.i=i∧x.o=o∧XOK ops M x:=by
  intro i o ho
  have hlt:i<ops.size:=by
   rcases Nat.lt_or_ge i ops.size with h1|h1
   · exact h1
   · rw[Array.getElem?_eq_none h1]at ho;cases ho
  obtain⟨x,h1,h2⟩:=hp.cov i hlt;have h3:=hp.at' x h1;rw [h2,ho]at h3;exact⟨x,h2,by injection h3 with h3;exact h3.symm,hp.ok x h1⟩
 have hedge:∀i o,ops[i]? = some o→∀e∈o.after.toList,xQ e=true→e.on<i:=by
  intro i o ho e he ha;obtain⟨x,h1,h2,h3⟩:=hxl i o ho;rw [← h1];exact h3.on e (by rw[h2];exact he) ha
 have hbits:∀i o,ops[i]? = some o→∀b,zN (M i) b=true→∃e∈o.after.toList,xQ e=true∧(b=e.on∨zN (M e.on) b=true):=by
  intro i o ho b hb;obtain⟨x,h1,h2,h3⟩:=hxl i o ho;have:=h3.bits b (by rw[h3.m,h1];exact hb);rw [h2]at this;exact this
 have start:∀{D:List DOp} {R:List Rec} {E:List DOp} {t1:Fr} {w1:W},R.map (·.x)++E=D→RecsOK P ng ops cx R t w t1 w1→∀{ρ : Inj} {base:Nat} {w0:World} {b:Frame} {a:Act} {wd:World} {cs:List Frame},In P ng ρ base w0 b a wd cs cx t w→
  Inv P ng ops M D E ⟨t,w,a,wd,cs,ρ,base,w0,b,cx,t1,w1⟩ [] R t w (fun i=>(Array.replicate ops.size false).getD i false=true) ρ w.h a { wd with drawn:=wd.drawn+1 } cs:=by
  intro D R E t1 w1 hR hrecs ρ base w0 b a wd cs hI
  have hf:∀i,¬(Array.replicate ops.size false).getD i false=true:=by
   intro i;by_cases h:i<ops.size <;> simp[h]
  refine⟨hR.symm,.nil t w,hrecs,.inl rfl,fun r hr=>by simp at hr,fun r _ _ h=>hf _ h,fun i h=>absurd h (hf i),fun i h=>absurd h (hf i),?_,?_,?_,CsTo.refl _ _,fun _ _=>rfl,fun r _ _ _ h=>absurd h (hf _),?_,fun r _ h=>absurd h (hf _),fun _ _=>rfl,?_,rfl⟩
  · dsimp only;rw [cut_dom hI.hp.dom (Nat.le_refl _)];exact⟨hI.fn,hI.kind,hI.rd,hI.rdf,hI.hp.drawn _,hI.dr,hI.ur,hI.fnd⟩
  · intro m hm;rw [cut_dom hI.hp.dom hm];exact(hI.hp.later hm).drawn _
  · intro m hm;rw [cut_dom hI.hp.dom hm];exact⟨hm,fun _ _=>rfl,fun b B hb e=>(by rw[hI.hp.dom b hb]at e;cases e),fun _ _ _=>rfl,Nat.le_refl _,fun _ _ e=>e,rfl⟩
  · intro b B hb e;rw [hI.hp.dom b hb]at e;cases e
  · dsimp only;rw [cut_dom hI.hp.dom (Nat.le_refl _)];exact hI.tm
 have unl:unlisted ops.size (Array.replicate ops.size false)≤ops.size:=by
  unfold unlisted;exact Nat.le_trans List.countP_le_length (by simp)
 rcases hD with⟨R,t',w',h1,h2,h3,h4⟩|⟨R,d,rest,c,t1,w1,w2,h1,h2,h3,h4,h5,h6,h7⟩|⟨R,d,rest,c,t1,w1,w2,S,tD,wD,h1,h2,h3,h4,h0,h5,h6,h7,h8,h9⟩
 · refine⟨.normal,t',w',h3,fun hc b kk ρ base w0 a wd cs hI=>?_⟩;have hc':∀o∈ops.toList,wQ ng (ntm P cx.fn) o=true:=List.all_eq_true.1 hc;have I0:=start (E:=[]) (by simpa using h1) h2 hI
   have go:=draw_go (C:=⟨t,w,a,wd,cs,ρ,base,w0,b,cx,t',w'⟩) (E:=[]) (R:=R)
    (Goal:=fun m kk=>∃ρ' a' wd' cs',InE P ng (Lost .normal w') ρ' base w0 b a' wd' cs' cx t' w'∧Grow ρ w.h w.n wd ρ' w'.h w'.n wd'∧CsTo cx.df cs cs'∧Arr P m b kk cs' ρ' a' wd' .normal)
    (fun m m1 kk hst ⟨ρ',a',wd',cs',g1,g2,g3,g4⟩=>⟨ρ',a',wd',cs',g1,g2,g3,g4.of_steps hst⟩) hP K hc' hedge hbits h4 ?_ ?_
    ops.size (wd.tape wd.drawn (.order b.fn id)) _ [] R t w ρ w.h a _ cs rfl (by simp) I0 unl kk
   · have hst:step P (lone (b.atR a (.code (.region id ops true)::kk)) cs wd) = .next (lone (b.atR a (.inRegion ops (Region.schedule (P.follows .mixedOrders) ops (wd.tape wd.drawn (.order b.fn id)))::kk)) cs { wd with drawn:=wd.drawn+1 }):=stepR_region_draw
     have hsch:∀tt,Region.schedule (P.follows .mixedOrders) ops tt=Region.linearise.go .any ops ops.size tt (Array.replicate ops.size false) []:=by
      intro tt;simp only[Region.schedule,hmix,Bool.true_or,if_true];rfl
     rw[hsch]at hst;obtain⟨ρ',a',wd',cs',g1,g2,g3,g4⟩:=go;exact⟨ρ',a',wd',cs',g1,g2,g3,g4.of_steps (.one hst)⟩
   · intro pre suf ts ws lst ρ1 H a1 wd1 cs1 hR I i hi _ _;obtain⟨x,hx1,hx2⟩:=hcov i hi;rw [← h1]at hx1;obtain⟨r,hr,rfl⟩:=List.mem_map.1 hx1;exact .inl ⟨r,hr,hx2⟩
   · intro pre suf ts ws lst ρ1 H a1 wd1 cs1 hR I hall kk
     obtain⟨g1,g2⟩:=I.all_done K fun r hr=>hall _ (by
      have:=K.at' _ (I.mem hr);rcases Nat.lt_or_ge r.x.i ops.size with h1|h1
      · exact h1
      · rw[Array.getElem?_eq_none h1]at this;cases this)
     exact⟨_,a1,wd1,cs1,g1.e,g2,I.cst,.one stepR_region_end⟩
 · refine⟨.panic c,t1,w2,h7,fun hc b kk ρ base w0 a wd cs hI=>?_⟩;have hc':∀o∈ops.toList,wQ ng (ntm P cx.fn) o=true:=List.all_eq_true.1 hc;have I0:=start (E:=d::rest) h1.symm h2 hI;have hdL:d∈L:=by rw[h1];simp
   have hdi:d.i<ops.size:=by
    have:=K.at' _ hdL;rcases Nat.lt_or_ge d.i ops.size with h1|h1
    · exact h1
    · rw[Array.getElem?_eq_none h1]at this;cases this
   have hdR:∀r∈R,r.x.i≠d.i∧zN (M r.x.i) d.i=false:=by
    intro r hr;obtain⟨A,B,hAB⟩:=List.append_of_mem hr;obtain⟨l1,l2⟩:=K.later (x:=r.x) (y:=d) (A:=A.map (·.x)) (B:=B.map (·.x)) (C:=rest) (by rw[h1,hAB];simp);exact⟨l2,l1⟩
   have go:=draw_go (C:=⟨t,w,a,wd,cs,ρ,base,w0,b,cx,t1,w1⟩) (E:=d::rest) (R:=R)
    (Goal:=fun m kk=>∃ρ' a' wd' cs',InE P ng (Lost (.panic c) w2) ρ' base w0 b a' wd' cs' cx t1 w2∧Grow ρ w.h w.n wd ρ' w2.h w2.n wd'∧CsTo cx.df cs cs'∧Arr P m b kk cs' ρ' a' wd' (.panic c))
    (fun m m1 kk hst ⟨ρ',a',wd',cs',g1,g2,g3,g4⟩=>⟨ρ',a',wd',cs',g1,g2,g3,g4.of_steps hst⟩) hP K hc' hedge hbits h6 ?_ ?_
    ops.size (wd.tape wd.drawn (.order b.fn id)) _ [] R t w ρ w.h a _ cs rfl (by simp) I0 unl kk
   · have hst:step P (lone (b.atR a (.code (.region id ops true)::kk)) cs wd) = .next (lone (b.atR a (.inRegion ops (Region.schedule (P.follows .mixedOrders) ops (wd.tape wd.drawn (.order b.fn id)))::kk)) cs { wd with drawn:=wd.drawn+1 }):=stepR_region_draw
     have hsch:∀tt,Region.schedule (P.follows .mixedOrders) ops tt=Region.linearise.go .any ops ops.size tt (Array.replicate ops.size false) []:=by
      intro tt;simp only[Region.schedule,hmix,Bool.true_or,if_true];rfl
     rw[hsch]at hst;obtain⟨ρ',a',wd',cs',g1,g2,g3,g4⟩:=go;exact⟨ρ',a',wd',cs',g1,g2,g3,g4.of_steps (.one hst)⟩
   · intro pre suf ts ws lst ρ1 H a1 wd1 cs1 hR I i hi hnl hm
     have hdn:¬lst d.i:=fun h=>by
      obtain⟨r,hr,e⟩:=I.only _ h;rw [hR]at hr;exact(hdR r hr).1 e
     rcases hsolo d hdL h5 i hi with e|e|e
     · right
       subst e;intro is kk
       have hlR:∀r∈pre++suf,lst r.x.i:=by
        intro r hr
        have hri:r.x.i<ops.size:=by
         have:=K.at' _ (I.mem hr);rcases Nat.lt_or_ge r.x.i ops.size with h1|h1
         · exact h1
         · rw[Array.getElem?_eq_none h1]at this;cases this
        rw[hR]at hr;obtain⟨n1,n2⟩:=hdR r hr;rcases hsolo d hdL h5 _ hri with e|e|e
        · exact absurd e.symm n1
        · exact hm _ e
        · rw[n2]at e;cases e
       obtain⟨g1,g2⟩:=I.all_done K hlR;obtain⟨hO,hW⟩:=I.looks K hc' (A:=suf) (S:=[]) (by simp) I.dd I.r2 hdn hm;obtain⟨ρ',a',wd',cs',i1,i2,i3,i4,c',i5,i6⟩:=h4 _ _ _ _ _ _ _ g1.in0 hO ops d.i is kk (K.at' _ hdL) (hW.trans h3);exact⟨ρ',a',wd',cs',(i1.toIn (by rw[i2];exact g1.tm.mono (i3.le g1.hp.dom))).e,g2.trans i3,I.cst.trans i4,_,c',i5,i6⟩
     · left
       obtain⟨y,hy,e2⟩:=(K.ahead (R.map (·.x)) d rest h1).1 _ e;obtain⟨r,hr,rfl⟩:=List.mem_map.1 hy;exact⟨r,hr,e2⟩
     · exact absurd (hm _ e) hdn
   · intro pre suf ts ws lst ρ1 H a1 wd1 cs1 hR I hall kk;exfalso
     obtain⟨r,hr,e⟩:=I.only _ (hall d.i hdi);rw [hR]at hr;exact(hdR r hr).1 e
 · refine⟨.panic c,t1,w2,h9,fun hc b kk ρ base w0 a wd cs hI=>?_⟩;have hc':∀o∈ops.toList,wQ ng (ntm P cx.fn) o=true:=List.all_eq_true.1 hc;have hdL:d∈L:=by rw[h1];simp
   have hdi:d.i<ops.size:=by
    have:=K.at' _ hdL;rcases Nat.lt_or_ge d.i ops.size with h1|h1
    · exact h1
    · rw[Array.getElem?_eq_none h1]at this;cases this
   obtain⟨K',hS⟩:=recPlan_dry h1 K h0 (fun x hx y hy hb b h2=>by rw[hL]at hx hy;exact hp.trans hx hy hb h2) (fun y hy=>by rw[hL]at hy hdL;exact hp.un hdL hy h0);rw [← h7,← List.map_append]at K';have hS':∀r∈S,r.x∈L∧r.x.kd≠3∧r.x.i≠d.i∧zN (M d.i) r.x.i=false∧zN (M r.x.i) d.i=false:=fun r hr=>hS r.x (by rw[← h7];exact List.mem_map.2 ⟨r,hr,rfl⟩);have I0:=start (D:=(R++S).map (·.x)) (E:=[]) (by simp) (wU h2 h6) hI
   have hdR:∀r∈R,r.x.i≠d.i∧zN (M r.x.i) d.i=false:=by
    intro r hr;obtain⟨A,B,hAB⟩:=List.append_of_mem hr;obtain⟨l1,l2⟩:=K.later (x:=r.x) (y:=d) (A:=A.map (·.x)) (B:=B.map (·.x)) (C:=rest) (by rw[h1,hAB];simp);exact⟨l2,l1⟩
   have hdRS:∀r∈R++S,r.x.i≠d.i:=fun r hr=>(List.mem_append.1 hr).elim (fun h=>(hdR r h).1) fun h=>(hS' r h).2.2.1
   have go:=draw_go (C:=⟨t,w,a,wd,cs,ρ,base,w0,b,cx,tD,wD⟩) (E:=[]) (R:=R++S)
    (Goal:=fun m kk=>∃ρ' a' wd' cs',InE P ng (Lost (.panic c) w2) ρ' base w0 b a' wd' cs' cx t1 w2∧Grow ρ w.h w.n wd ρ' w2.h w2.n wd'∧CsTo cx.df cs cs'∧Arr P m b kk cs' ρ' a' wd' (.panic c))
    (fun m m1 kk hst ⟨ρ',a',wd',cs',g1,g2,g3,g4⟩=>⟨ρ',a',wd',cs',g1,g2,g3,g4.of_steps hst⟩) hP K' hc' hedge hbits h8 ?_ ?_
    ops.size (wd.tape wd.drawn (.order b.fn id)) _ [] (R++S) t w ρ w.h a _ cs rfl (by simp) I0 unl kk
   · have hst:step P (lone (b.atR a (.code (.region id ops true)::kk)) cs wd) = .next (lone (b.atR a (.inRegion ops (Region.schedule (P.follows .mixedOrders) ops (wd.tape wd.drawn (.order b.fn id)))::kk)) cs { wd with drawn:=wd.drawn+1 }):=stepR_region_draw
     have hsch:∀tt,Region.schedule (P.follows .mixedOrders) ops tt=Region.linearise.go .any ops ops.size tt (Array.replicate ops.size false) []:=by
      intro tt;simp only[Region.schedule,hmix,Bool.true_or,if_true];rfl
     rw[hsch]at hst;obtain⟨ρ',a',wd',cs',g1,g2,g3,g4⟩:=go;exact⟨ρ',a',wd',cs',g1,g2,g3,g4.of_steps (.one hst)⟩
   · intro pre suf ts ws lst ρ1 H a1 wd1 cs1 hR I i hi hnl hm
     have hdn:¬lst d.i:=fun h=>by
      obtain⟨r,hr,e⟩:=I.only _ h;rw [hR]at hr;exact hdRS r hr e
     by_cases hid:i=d.i
     · right
       subst hid;intro is kk
       obtain⟨A,hRA,hsuf⟩:∃A,R=pre++A∧suf=A++S:=by
        rcases List.append_eq_append_iff.1 hR with⟨A,e1,e2⟩|⟨A,e1,e2⟩
        · exact⟨A,e1,e2⟩
        · rcases I.last with e|⟨p,r,e3,e4⟩
          · rw[e]at e1;obtain⟨e5,e6⟩:=List.append_eq_nil_iff.1 e1.symm;subst e5 e6;exact⟨[],by rw[e];rfl,by simpa using e2.symm⟩
          · by_cases hA:A=[]
            · subst hA;exact⟨[],by simpa using e1.symm,by simpa using e2.symm⟩
            · exfalso
              have hr:r∈A:=by
               rcases List.eq_nil_or_concat A with h|⟨A',z,rfl⟩
               · exact absurd h hA
               · have e5:p++[r]=(R++A')++[z]:=by rw[← e3,e1,List.append_assoc,List.concat_eq_append]
                 have e6:=List.append_inj_right' e5 rfl;injection e6 with e6
                 rw[e6];simp
              exact(hS' r (by rw[e2];simp [hr])).2.1 e4
       obtain⟨tm,wm,r1,r2⟩:=wJ (by have:=I.r2;rw [hsuf]at this;exact this);obtain⟨rfl,rfl⟩:=recs_det (by rw[hRA];exact wU I.r1 r1) h2
       have hno:∀q∈A,q.x.kd≠3:=by
        intro q hq h3;have hql:¬lst q.x.i:=I.sl q (by rw[hsuf];simp [hq]) h3;have hqR:q∈R:=by rw[hRA];simp [hq]
        obtain⟨n1,n2⟩:=hdR q hqR;rcases K.act q.x (by rw[h1];exact List.mem_append_left _ (List.mem_map.2 ⟨q,hqR,rfl⟩)) d hdL h3 h0 with h|h|h
        · exact n1 h
        · exact hql (hm _ h)
        · rw[n2]at h;cases h
       have g1:=I.at_act K' hsuf r1 hno;obtain⟨hO,hW⟩:=I.looksD K hc' hsuf (by rw[← hRA];exact h1) r1 (fun r hr=>⟨(hS' r hr).1,(hS' r hr).2.2.1,(hS' r hr).2.2.2.1,(hS' r hr).2.2.2.2⟩) hm;obtain⟨ρ',a',wd',cs',i1,i2,i3,i4,c',i5,i6⟩:=h4 _ _ _ _ _ _ _ g1 hO ops d.i is kk (K.at' _ hdL) (hW.trans h3);have hkA:∀q∈A,q.x.kd≠3∧q.x.kd=zK q.x.o.op:=fun q hq=>⟨hno q hq,K'.kd _ (I.mem (List.mem_append_right _ (by rw[hsuf];simp [hq])))⟩;obtain⟨_,_,s4,_⟩:=seg_ok r1 hkA;have hW0:w.n≤ws.n:=(yT I.r1).1
       have gr:Grow ρ w.h w.n wd (ρ1.cut wm.n) wm.h wm.n wd1:=(I.gr _ (yT r1).1).congr fun b hb=>by
        have hb:b<w.n:=hb;rw [s4 b (by omega),I.hh b (by omega)]
       exact⟨ρ',a',wd',cs',⟨i1.fn,i1.kind,i1.rd,i1.rdf,.inl h5,i1.hp,i1.dr,i1.ur,i1.fnd⟩,gr.trans i3,I.cst.trans i4,_,c',i5,i6⟩
     · left
       obtain⟨x,hxL,rfl⟩:=hcov i hi;rw [h1]at hxL;rcases List.mem_append.1 hxL with hx|hx
       · obtain⟨r,hr,rfl⟩:=List.mem_map.1 hx;exact⟨r,List.mem_append_left _ hr,rfl⟩
       rcases List.mem_cons.1 hx with rfl|hx
       · exact absurd rfl hid
       have hxL':x∈L:=by rw[h1];simp [hx]
       obtain⟨S1,S2,hS12⟩:=List.append_of_mem hx;obtain⟨l1,l2⟩:=K.later (x:=d) (y:=x) (A:=R.map (·.x)) (B:=S1) (C:=S2) (by rw[h1,hS12])
       have hun:(d.un.any fun i=>Nat.beq i x.i)=true:=by
        rw[hL]at hdL hxL';refine(hp.un hdL hxL' h0).2 ⟨l2,l1,?_⟩
        cases hq:zN (M x.i) d.i with
        | false=>rfl
        | true=>exact absurd (hm _ hq) hdn
       have hxd:x∈S.map (·.x):=by rw[h7];exact List.mem_filter.2 ⟨hx,hun⟩
       obtain⟨r,hr,rfl⟩:=List.mem_map.1 hxd;exact⟨r,List.mem_append_right _ hr,rfl⟩
   · intro pre suf ts ws lst ρ1 H a1 wd1 cs1 hR I hall kk;exfalso
     obtain⟨r,hr,e⟩:=I.only _ (hall d.i hdi);rw [hR]at hr;exact hdRS r hr e
theorem plan_kd{ops:Array Oper}{L:List DOp}(h:plan ops=some L):∀d∈L,d.kd=zK d.o.op:=by
 obtain⟨M,xl,S,hp,hL⟩:=plan_ok h;rw [hL];exact hp.recPlan.kd
theorem draw_ok(hP:zU ng P=true)(hmix:P.follows .mixedOrders=true):DrawOK P ng:=by
 intro lo hS id ops cx t w k hx
 have hx':(match plan ops with
  | some l=>xdraw P lo cx ops l t w [w] [] k
  | none=>false)=true:=hx
 cases hpl:plan ops with
 | none=>rw [hpl]at hx';cases hx'
 | some L=>
  rw[hpl]at hx';exact drew_ok hP hmix hpl (xdraw_ok hP hS L t w [w] [] k (plan_kd hpl) hx') id
theorem sound(hP:zU ng P=true)(hmix:P.follows .mixedOrders=true)(fuel:Nat):Sound P ng (run P fuel):=sound_run (draw_ok hP hmix) hP fuel
end
end Go.Ex
namespace Go.Ex
noncomputable def heap0:List (Nat×List Value)→zB
 | []=>.lF
 | (g,vs)::r=>(heap0 r).set .dead (.cells (Tr.ofListFrom undef .lF 0 vs) vs.length 0 2) g
noncomputable def cellsB(c:Tr Value):Nat→List Value→Bool
 | _,[]=>true
 | i,v::r=>scalB (Tr.get undef c i) v && cellsB c (Nat.succ i) r
noncomputable def tabB(vs:List Value)(o:AObj):Bool:=
 match o with
 | .cells c n _ kd=>Nat.beq kd 2 && (Nat.beq n vs.length && cellsB c 0 vs)
 | _=>false
noncomputable def tabsB:List (Nat×List Value)→zB→Bool
 | [],_=>true
 | (g,vs)::r,h=>tabB vs (zF h g) && tabsB r h
def isInt:Value→Bool
 | .int _ _=>true
 | _=>false
noncomputable def tabsOK(ng:Nat)(tabs:List (Nat×List Value)):Bool:=tabs.all fun p=>Nat.blt p.1 ng && p.2.all isInt
theorem cellsB_at{c:Tr Value}:∀{vs:List Value} {i j:Nat} {v:Value},cellsB c i vs=true→vs[j]? = some v→Tr.get undef c (i+j)=v:=by
 intro vs
 induction vs with
 | nil=>intro i j v _ h;simp at h
 | cons x vs ih =>
  intro i j v h hj;have h':(scalB (Tr.get undef c i) x && cellsB c (Nat.succ i) vs)=true:=h;obtain⟨h1,h2⟩:=Bool.and_eq_true_iff.1 h'
  cases j with
  | zero=>simp at hj;subst hj;exact xW h1
  | succ j=>
   have:=ih h2 (j:=j) (v:=v) (by simpa using hj);rw [← this];congr 1;omega
theorem heap0_get{tabs:List (Nat×List Value)}{b:Nat}(h:zF (heap0 tabs) b≠.dead):∃vs,(b,vs)∈tabs∧zF (heap0 tabs) b = .cells (Tr.ofListFrom undef .lF 0 vs) vs.length 0 2:=by
 induction tabs with
 | nil=>exact absurd (Tr.get_leaf _ _) h
 | cons p r ih=>
  obtain⟨g,vs⟩:=p;have e:zF (heap0 ((g,vs)::r)) b=if g=b then .cells (Tr.ofListFrom undef .lF 0 vs) vs.length 0 2 else zF (heap0 r) b:=zH _ _ _ _
  by_cases hb:g=b
  · subst hb;exact⟨vs,by simp,by rw[e,if_pos rfl]⟩
  · rw[e,if_neg hb]at h;obtain⟨vs',h1,h2⟩:=ih h;exact⟨vs',by simp[h1],by rw[e,if_neg hb,h2]⟩
theorem tabsB_mem{h:zB}:∀{tabs:List (Nat×List Value)},tabsB tabs h=true→∀p∈tabs,tabB p.2 (zF h p.1)=true:=by
 intro tabs
 induction tabs with
 | nil=>intro _ p hp;simp at hp
 | cons q r ih=>
  intro hB p hp;have h':(tabB q.2 (zF h q.1) && tabsB r h)=true:=hB;obtain⟨h1,h2⟩:=Bool.and_eq_true_iff.1 h';rcases List.mem_cons.1 hp with rfl|hp
  · exact h1
  · exact ih h2 p hp
section
variable {P:Program} {ng:Nat}
theorem tab_obj{ρ ρ':Inj}{base base':Nat}{B:Bl}{vs:List Value}{o:AObj}{o':Obj}(hi:vs.all isInt=true)(ht:tabB vs o=true)(h:ObjR P ng ρ base B o o') :
 ObjR P ng ρ' base' B (.cells (Tr.ofListFrom undef .lF 0 vs) vs.length 0 2) o':=by
 cases h with
 | cells hn hs hk hz hv hb hf=>
  rename_i c n z kd c' el lo hi';have ht':(Nat.beq kd 2 && (Nat.beq n vs.length && cellsB c 0 vs))=true:=ht;obtain⟨t1,t2⟩:=Bool.and_eq_true_iff.1 ht';obtain⟨t2,t3⟩:=Bool.and_eq_true_iff.1 t2;obtain rfl:=zD t1;obtain rfl:=zD t2;refine .cells hn hs (fun _=>hk (by omega)) ⟨fun h=>by omega,fun h=>by omega⟩ (fun i v' hi2 e=>?_) (fun h=>absurd rfl h) (fun h=>absurd rfl h);rw [Tr.get_ofListFrom,if_pos (by omega)];have e1:vs[i]? = some (vs.getD (i - 0) undef):=by simp[List.getElem?_eq_getElem hi2]
  have e2:=cellsB_at t3 e1;rw [Nat.zero_add]at e2;have r:=hv i v' hi2 e;rw [e2]at r;have hint:=List.all_eq_true.1 hi _ (List.mem_iff_getElem?.2 ⟨i,e1⟩);generalize vs.getD (i - 0) undef=x at r hint
  cases x <;> first|(cases hint;done)|skip
  rw[r.of_int];exact .int _ _
 | map=>cases ht
 | loop=>cases ht
 | siter0=>cases ht
 | siter=>cases ht
 | ready=>cases ht
 | taken=>cases ht
 | rows=>cases ht
theorem HeapR.fresh{ρ : Inj}{base:Nat}{w0:World}{h:zB}{n:Nat}{wd:World}(r:HeapR P ng ρ base w0 h n wd){tabs:List (Nat×List Value)}(hok:tabsOK ng tabs=true)(ht:tabsB tabs h=true) :
 HeapR P ng (ρ.cut ng) wd.heap.size wd (heap0 tabs) ng wd:=by
 have hall:=List.all_eq_true.1 hok;refine⟨fun b hb=>cut_ge hb,?_,?_,Go.RowKit.Below.refl _ _,Nat.le_refl _,?_,Nat.le_refl _⟩
 · intro b B e hl;obtain⟨_,e⟩:=xA e;obtain⟨vs,h1,h2⟩:=heap0_get hl;have hb:=tabsB_mem ht _ h1
   have hne:zF h b≠.dead:=fun hd=>by
    dsimp only at hb;rw [hd]at hb;cases hb
   obtain⟨o,q1,q2⟩:=r.obj b B e hne;have hi:=(Bool.and_eq_true_iff.1 (hall _ h1)).2;exact⟨o,q1,by rw[h2];exact tab_obj hi hb q2⟩
 · intro a b A B ea eb la lb hab;obtain⟨_,ea⟩:=xA ea;obtain⟨_,eb⟩:=xA eb;obtain⟨va,h1,_⟩:=heap0_get la;obtain⟨vb,h2,_⟩:=heap0_get lb;have ha:=tabsB_mem ht _ h1;have hb:=tabsB_mem ht _ h2;exact r.inj a b A B ea eb (fun hd=>by dsimp only at ha;rw [hd]at ha;cases ha) (fun hd=>by dsimp only at hb;rw [hd]at hb;cases hb) hab
 · intro g hg;obtain⟨B,e1,e2⟩:=r.glob g hg;exact⟨B,by rw[yK hg];exact e1,e2⟩
theorem HeapR.stay{ρ : Inj}{base:Nat}{w0:World}{h:zB}{n:Nat}{wd wd':World}(r:HeapR P ng ρ base w0 h n wd)(hb:Go.RowKit.Below wd.heap.size wd wd'):HeapR P ng ρ base w0 h n wd'∧Grow ρ h n wd ρ h n wd':=by
 have hlt:∀{c:Nat} {o:Obj},wd.heap[c]? = some o→c<wd.heap.size:=by
  intro c o e;rcases Nat.lt_or_ge c wd.heap.size with h3|h3
  · exact h3
  · rw[Array.getElem?_eq_none h3]at e;cases e
 refine⟨⟨r.dom,fun b B e hl=>?_,r.inj,r.below.trans ⟨hb.os,hb.tape,hb.output,hb.size,fun k hk=>hb.block k (by have:=r.size;omega)⟩,by have:=hb.size;have:=r.size;omega,r.glob,r.ngn⟩,⟨Nat.le_refl _,fun _ _=>rfl,fun b B h1 e=>(by rw[r.dom b h1]at e;cases e),fun c hc _=>hb.block c hc,hb.size,fun _ _ e=>e,hb.tape⟩⟩;obtain⟨o,q1,q2⟩:=r.obj b B e hl;exact⟨o,by rw[hb.block _ (hlt q1)];exact q1,q2⟩
noncomputable def finV(v:Value):KO:=fun o _ _ _=>Out.rec (fun x=>scalB x v) (fun _=>false) o
theorem finV_ret{v:Value}{o:Out}{u:Option zE}{h:zB}{n:Nat}(hf:finV v o u h n=true):o = .ret v:=by
 cases o with
 | ret x=>rw [xW (v:=x) (v':=v) hf]
 | panic c=>cases hf
theorem plains{args:List Value}(h:args.all wP=true)(ρ : Inj):RVs ρ args args:=
 ⟨rfl,fun i v v' e e'=>by
  rw[e]at e';injection e' with e';subst e'
  exact RV.plain (List.all_eq_true.1 h v (List.mem_iff_getElem?.2 ⟨i,e⟩)) ρ⟩
theorem hook_of_run{lo:Lo}(hS:Sound P ng lo){f:FuncId}{args:List Value}{v:Value}{tabs:List (Nat×List Value)}(hok:tabsOK ng tabs=true)(hint:args.all isInt=true)(hv:isInt v=true∨∃b,v = .bool b)
(hx:lo.call f args false none (heap0 tabs) ng (finV v)=true){h:zB}(ht:tabsB tabs h=true)(u:Option zE)(n:Nat):CallTo P ng f args false u h n (.ret v) u h n:=by
 obtain⟨o,u',h',n',hk,hfn,hc⟩:=hS.call _ _ _ _ _ _ _ hx;obtain rfl:=finV_ret hk;refine⟨hfn,fun ρ base w0 wd args' cs hH ha hu=>?_⟩
 have hpl:args'=args:=by
  apply List.ext_getElem?;intro i
  cases e:args[i]? with
  | none=>
   have:=List.getElem?_eq_none_iff.1 e;exact List.getElem?_eq_none (by rw[← ha.1];exact this)
  | some x=>
   obtain⟨x',e1,e2⟩:=ha.at e;have:=List.all_eq_true.1 hint x (List.mem_iff_getElem?.2 ⟨i,e⟩);cases x <;> first|(cases this;done)|skip
   rw[e1,e2.of_int]
 subst hpl
 have hpa:args'.all wP=true:=by
  rw[List.all_eq_true]at hint ⊢;intro x hx;have:=hint x hx;cases x <;> first|(cases this;done)|rfl
 obtain⟨ρ',wd',fr,cs',s1,s2,s3,s4,s5,s6,s7⟩:=hc (ρ.cut ng) wd.heap.size wd wd args' cs (hH.fresh hok ht) (plains hpa _) (fun e=>by cases e)
 have hcs:cs'=cs:=by
  rcases s4 with e|⟨e,_⟩
  · exact e
  · cases e
 subst hcs;obtain⟨k1,k2⟩:=hH.stay s2.below;refine⟨ρ,wd',fr,cs',s1,k1,k2,CsTo.refl _ _,(fun e=>Bool.noConfusion e),s6,?_⟩;obtain⟨v',y1,y2,y3,y4,y5⟩:=s7;refine⟨v',y1,y2,y3,y4,?_⟩;rcases hv with hv|⟨b,rfl⟩
 · cases v <;> first|(cases hv;done)|skip
   rw[y5.of_int];exact .int _ _
 · rw[y5.of_bool];exact .bool _
def TabsIn(w:World)(tabs:List (Nat×List Value)):Prop:=∀p∈tabs,∃el fr,w.heap[p.1]? = some (.cells ⟨p.2⟩ el fr)
theorem init_heap{w:World}{tabs:List (Nat×List Value)}(hok:tabsOK ng tabs=true)(hw:TabsIn w tabs) :
 ∃ρ,HeapR P ng ρ w.heap.size w (heap0 tabs) ng w:=by
 have hall:=List.all_eq_true.1 hok
 let size:Nat→Nat:=fun b=>match w.heap[b]? with|some (.cells cs _ _)=>cs.size|_=>0
 refine⟨fun b=>if b<ng then some ⟨b,size b,0⟩ else none,fun b hb=>if_neg (by omega),?_,?_,Go.RowKit.Below.refl _ _,Nat.le_refl _,?_,Nat.le_refl _⟩
 · intro b B e hl;obtain⟨vs,h1,h2⟩:=heap0_get hl;obtain⟨el,fr,h3⟩:=hw _ h1;have hb:b<ng:=zS (Bool.and_eq_true_iff.1 (hall _ h1)).1;rw [if_pos hb]at e;injection e with e;subst e
   refine⟨_,h3,?_⟩
   have hs:size b=vs.length:=by
    show(match w.heap[b]? with|some (.cells cs _ _)=>cs.size|_=>0)=_;rw [h3];rfl
   rw[h2];obtain⟨lo,hi⟩:=fr;refine .cells (by rw[hs];exact Nat.le_refl _) (by rw[hs];rfl) (fun _=>hs.symm) ⟨fun h=>by omega,fun h=>by omega⟩ (fun i v' hi2 e=>?_) (fun h=>absurd rfl h) (fun h=>absurd rfl h);rw [Tr.get_ofListFrom,if_pos (by omega)];have e1:vs[i]? = some (vs.getD (i - 0) undef):=by simp[List.getElem?_eq_getElem hi2]
   have e2:vs[i]? = some v':=by simpa using e
   rw[e1]at e2;injection e2 with e2;subst e2
   have hint:=List.all_eq_true.1 (Bool.and_eq_true_iff.1 (hall _ h1)).2 _ (List.mem_iff_getElem?.2 ⟨i,e1⟩);generalize vs.getD (i - 0) undef=x at hint
   cases x <;> first|(cases hint;done)|skip
   exact .int _ _
 · intro a b A B ea eb _ _ hab;by_cases ha:a<ng
   · rw[if_pos ha]at ea;by_cases hb:b<ng
     · rw[if_pos hb]at eb;injection ea with ea;injection eb with eb
       rw[← ea,← eb]at hab;exact hab
     · rw[if_neg hb]at eb;cases eb
   · rw[if_neg ha]at ea;cases ea
 · intro g hg;exact⟨_,if_pos hg,rfl⟩
end
end Go.Ex
namespace Go.Ex
section
variable {P:Program} {ng:Nat}
noncomputable def yV(p:Prop):Bool:=@decide p (Classical.propDecidable p)
theorem isSo_iff{p:Prop}:yV p=true↔p:=@decide_eq_true_iff p (Classical.propDecidable p)
theorem args0_eq{t:Fr}{i:Nat}{l:List Value}{k:Fr→Bool}:args0 t i l k=k (Tr.ofListFrom undef t i l):=by
 induction l generalizing t i with
 | nil=>rfl
 | cons v r ih=>
  show(yN v fun v=>fsetK t i v fun t=>args0 t (Nat.succ i) r k)=_;rw [zW];unfold fsetK;rw [Tr.setK_eq,ih];rfl
noncomputable def loS(P:Program)(ng:Nat):Lo where
 code c cx t w k:=yV (∃x t' w',k x t' w'=true∧CodeTo P ng c cx t w x t' w')
 call f args df u h n k:=yV (∃o u' h' n',k o u' h' n'=true∧CallTo P ng f args df u h n o u' h' n')
 round l args h n k:=yV (∃o h' n',k o h' n'=true∧RoundTo P ng l args h n o h' n')
 leave fn mode t w k:=yV (∃o u' h' n',k o u' h' n'=true∧LeaveTo P ng fn mode t w o u' h' n')
theorem loS_code{c:Code}{cx:Cx}{t:Fr}{w:W}{k:KX}:(loS P ng).code c cx t w k=true↔∃x t' w',k x t' w'=true∧CodeTo P ng c cx t w x t' w':=by
 unfold loS;exact isSo_iff
theorem loS_call{f:FuncId}{args:List Value}{df:Bool}{u:Option zE}{h:zB}{n:Nat}{k:KO}:(loS P ng).call f args df u h n k=true↔∃o u' h' n',k o u' h' n'=true∧CallTo P ng f args df u h n o u' h' n':=by
 unfold loS;exact isSo_iff
theorem loS_round{l:Nat}{args:List Value}{h:zB}{n:Nat}{k:Out→zB→Nat→Bool}:(loS P ng).round l args h n k=true↔∃o h' n',k o h' n'=true∧RoundTo P ng l args h n o h' n':=by
 unfold loS;exact isSo_iff
theorem loS_leave{fn:Func}{mode:Option zE}{t:Fr}{w:W}{k:KO}:(loS P ng).leave fn mode t w k=true↔∃o u' h' n',k o u' h' n'=true∧LeaveTo P ng fn mode t w o u' h' n':=by
 unfold loS;exact isSo_iff
theorem vV:Sound P ng (loS P ng) where
  code _ _ _ _ _ h:=loS_code.1 h
  call _ _ _ _ _ _ _ h:=loS_call.1 h
  round _ _ _ _ _ h:=loS_round.1 h
  leave _ _ _ _ _ h:=loS_leave.1 h
 class Fit (P:Program) (ng:Nat):Prop where
  ok:zU ng P=true
  mix:P.follows .mixedOrders=true
theorem sound_one[F:Fit P ng]:Sound P ng (Lo.next P (loS P ng)):=sound_next (draw_ok F.ok F.mix) F.ok vV
noncomputable def FA(l:List (Nat×Value))(t:Fr):Fr:=match l with
 | []=>t
 | p::r=>Tr.set undef p.2 (FA r t) p.1
noncomputable def lk(l:List (Nat×Value))(t:Fr)(i:Nat):Value:=match l with
 | []=>fget t i
 | p::r=>bif Nat.beq p.1 i then p.2 else lk r t i
theorem fget_FA(l:List (Nat×Value))(t:Fr)(i:Nat):fget (FA l t) i=lk l t i:=by
 induction l with
 | nil=>rfl
 | cons p r ih=>
  unfold FA lk fget;rw [Tr.get_set_if];by_cases h:p.1=i
  · rw[if_pos h,h,Nat.beq_refl];rfl
  · have:Nat.beq p.1 i=false:=by
     cases e:Nat.beq p.1 i with
     | false=>rfl
     | true=>exact absurd (Nat.eq_of_beq_eq_true e) h
    rw[if_neg h,this];exact ih
noncomputable def evb(l:List (Nat×Value))(t:Fr)(x:Operand):Value:=match x with
 | .tmp i=>lk l t i
 | .const v=>v
 | .global g=>.pointer (some ⟨g,0,none⟩)
 | .func f=>.func (.func f) #[] #[]
theorem zX(l:List (Nat×Value))(t:Fr)(x:Operand):ev (FA l t) x=evb l t x:=by
 cases x with
 | tmp i=>exact fget_FA l t i
 | _=>rfl
noncomputable def evs(l:List (Nat×Value))(t:Fr):List Operand→List Value
 | []=>[]
 | x::r=>evb l t x::evs l t r
theorem evs_FA(l:List (Nat×Value))(t:Fr)(xs:List Operand):xs.map (ev (FA l t))=evs l t xs:=by
 induction xs with
 | nil=>rfl
 | cons x r ih=>rw [List.map_cons,ih,zX];rfl
theorem fset_FA(l:List (Nat×Value))(t:Fr)(d:Nat)(v:Value)(k:Fr→Bool):fsetK (FA l t) d v k=k (FA ((d,v)::l) t):=by
 unfold fsetK;rw [Tr.setK_eq];rfl
abbrev QX:=AX→Fr→W→Prop
def WC(P:Program)(ng:Nat)(c:Code)(cx:Cx)(t:Fr)(w:W)(Q:QX):Prop:=∃x t' w',Q x t' w'∧CodeTo P ng c cx t w x t' w'
theorem WC.mono{c:Code}{cx:Cx}{t:Fr}{w:W}{Q Q':QX}(h:WC P ng c cx t w Q)(hq:∀x t' w',Q x t' w'→Q' x t' w'):WC P ng c cx t w Q':=by
 obtain⟨x,t',w',q,r⟩:=h;exact⟨x,t',w',hq _ _ _ q,r⟩
noncomputable def soK(Q:QX):KX:=fun x t w=>yV (Q x t w)
theorem WC.lo{c:Code}{cx:Cx}{t:Fr}{w:W}{Q:QX}:(loS P ng).code c cx t w (soK Q)=true↔WC P ng c cx t w Q:=by
 rw[loS_code];constructor
 · rintro ⟨x,t',w',q,r⟩;exact⟨x,t',w',isSo_iff.1 q,r⟩
 · rintro ⟨x,t',w',q,r⟩;exact⟨x,t',w',isSo_iff.2 q,r⟩
theorem wc_of[Fit P ng]{c:Code}{cx:Cx}{t:Fr}{w:W}{Q:QX}(h:xcode P (loS P ng) c cx t w (soK Q)=true):WC P ng c cx t w Q:=by
 obtain⟨x,t',w',q,r⟩:=sound_one.code c cx t w _ h;exact⟨x,t',w',isSo_iff.1 q,r⟩
def seqQ(P:Program)(ng:Nat)(b:Code)(cx:Cx)(Q:QX):QX:=fun x t w=>match x with
 | .normal=>WC P ng b cx t w Q
 | x=>Q x t w
def blkQ(id:Nat)(Q:QX):QX:=fun x t w=>match x with
 | .exit i=>bif Nat.beq i id then Q .normal t w else Q (.exit i) t w
 | x=>Q x t w
def scpQ(Q:QX):QX:=fun x t w=>match x with
 | .goto _=>False
 | x=>Q x t w
theorem wc_seq{a b:Code}{cx:Cx}{t:Fr}{w:W}{Q:QX}(h:WC P ng a cx t w (seqQ P ng b cx Q)):WC P ng (.seq a b) cx t w Q:=by
 obtain⟨x,t1,w1,hk,h1⟩:=h;have ok:∀{N},yB ng N (.seq a b)=true→yB ng N a=true∧yB ng N b=true:=fun h=>Bool.and_eq_true_iff.1 h
 have pass:x≠.normal→CodeTo P ng (.seq a b) cx t w x t1 w1:=fun hx hc fr k=>
  zI (fun _ _ _=>stepR_seq) ((h1 (ok hc).1 fr (.code b::k)).pass hx (fun _ _=>rfl) (fun _ _=>rfl))
 cases x with
 | normal=>
  obtain⟨x2,t2,w2,hk2,h2⟩:=hk;exact⟨x2,t2,w2,hk2,fun hc fr k=>zI (fun _ _ _=>stepR_seq) ((h1 (ok hc).1 fr (.code b::k)).trans (h2 (ok hc).2 fr k))⟩
 | exit i=>exact⟨_,t1,w1,hk,pass AX.noConfusion⟩
 | goto i=>exact⟨_,t1,w1,hk,pass AX.noConfusion⟩
 | ret=>exact⟨_,t1,w1,hk,pass AX.noConfusion⟩
 | panic c=>exact⟨_,t1,w1,hk,pass AX.noConfusion⟩
theorem wc_cond{c:Operand}{a b:Code}{cx:Cx}{t:Fr}{w:W}{Q:QX}{q:Bool}(hq:ev t c = .bool q)(h:WC P ng (if q then a else b) cx t w Q):WC P ng (.cond c a b) cx t w Q:=by
 obtain⟨x,t',w',hk,hc⟩:=h;refine⟨x,t',w',hk,?_⟩;intro hok fr k ρ base w0 ac wd cs hI;obtain⟨o1,o2⟩:=Bool.and_eq_true_iff.1 hok;obtain⟨o2,o3⟩:=Bool.and_eq_true_iff.1 o2;have hr:=ev_rv hI.hp hI.tm o1;rw [hq]at hr;have hr:=hr.of_bool;obtain⟨ρ',a',wd',cs',h1,h2,h3,h4⟩:=hc (by cases q <;> assumption) fr k ρ base w0 ac wd cs hI;exact⟨ρ',a',wd',cs',h1,h2,h3,h4.of_steps (.one (stepR_cond hr))⟩
theorem wc_block{id:Nat}{b:Code}{cx:Cx}{t:Fr}{w:W}{Q:QX}(h:WC P ng b cx t w (blkQ id Q)):WC P ng (.block id b) cx t w Q:=by
 obtain⟨x,t1,w1,hk,h1⟩:=h;have ok:∀{N},yB ng N (.block id b)=true→yB ng N b=true:=fun h=>h
 have pass:x≠.normal→(∀i,x = .exit i→i≠id)→CodeTo P ng (.block id b) cx t w x t1 w1:=fun hx hi hc fr k=>
  zI (fun _ _ _=>stepR_block) ((h1 (ok hc) fr (.inBlock id::k)).pass hx (fun i e=>by
   have:(id == i)=false:=by simpa using fun e2=>hi i e e2.symm
   simp[exitTo,this]) (fun _ _=>rfl))
 cases x with
 | normal=>exact⟨.normal,t1,w1,hk,fun hc fr k=>zI (fun _ _ _=>stepR_block) ((h1 (ok hc) fr (.inBlock id::k)).trans (zI (fun _ _ _=>stepR_inBlock) (xJ fr k cx t1 w1)))⟩
 | exit i =>
  have hk':bif Nat.beq i id then Q .normal t1 w1 else Q (.exit i) t1 w1:=hk
  cases hi:Nat.beq i id with
  | true=>
   rw[hi]at hk';obtain rfl:=zD hi;exact⟨.normal,t1,w1,hk',fun hc fr k=>zI (fun _ _ _=>stepR_block) (leads_block (h1 (ok hc) fr (.inBlock i::k)))⟩
  | false =>
   rw[hi]at hk'
   exact⟨_,t1,w1,hk',pass AX.noConfusion fun j e e2=>by
    injection e with e
    subst e e2;rw [Nat.beq_refl]at hi;cases hi⟩
 | goto i=>exact⟨_,t1,w1,hk,pass AX.noConfusion fun _ e=>by cases e⟩
 | ret=>exact⟨_,t1,w1,hk,pass AX.noConfusion fun _ e=>by cases e⟩
 | panic c=>exact⟨_,t1,w1,hk,pass AX.noConfusion fun _ e=>by cases e⟩
def rndQ(P:Program)(ng:Nat)(b:Code)(cx:Cx)(Q:QX):QX:=fun x t w=>match x with
 | .normal=>WC P ng (.loop b) cx t w Q
 | x=>Q x t w
theorem zV{b:Code}{cx:Cx}{t:Fr}{w:W}{Q:QX}(h:WC P ng b cx t w (rndQ P ng b cx Q)):WC P ng (.loop b) cx t w Q:=by
 obtain⟨x,t1,w1,hk,h1⟩:=h
 have pass:x≠.normal→CodeTo P ng (.loop b) cx t w x t1 w1:=fun hx hc fr k=>
  zI (fun _ _ _=>stepR_loop) ((h1 hc fr (.inLoop b::k)).pass hx (fun _ _=>rfl) (fun _ _=>rfl))
 cases x with
 | normal =>
  obtain⟨x2,t2,w2,hk2,h2⟩:=hk
  exact⟨x2,t2,w2,hk2,fun hc fr k=>zI (fun _ _ _=>stepR_loop)
   ((h1 hc fr (.inLoop b::k)).trans (zI (fun _ _ _=>stepR_inLoop) (leads_unloop (h2 hc fr k))))⟩
 | exit i=>exact⟨_,t1,w1,hk,pass AX.noConfusion⟩
 | goto i=>exact⟨_,t1,w1,hk,pass AX.noConfusion⟩
 | ret=>exact⟨_,t1,w1,hk,pass AX.noConfusion⟩
 | panic c=>exact⟨_,t1,w1,hk,pass AX.noConfusion⟩
theorem wc_scope{b:Code}{cx:Cx}{t:Fr}{w:W}{Q:QX}(h:WC P ng b cx t w (scpQ Q)):WC P ng (.scope b) cx t w Q:=by
 obtain⟨x,t1,w1,hk,h1⟩:=h
 have pass:x≠.normal→(∀l,x≠.goto l)→CodeTo P ng (.scope b) cx t w x t1 w1:=fun hx hg hc fr k=>
  zI (fun _ _ _=>stepR_scope) ((h1 hc fr (.inScope b::k)).pass hx (fun _ _=>rfl) (fun l e=>absurd e (hg l)))
 cases x with
 | normal=>exact⟨.normal,t1,w1,hk,fun hc fr k=>zI (fun _ _ _=>stepR_scope) ((h1 hc fr (.inScope b::k)).trans (zI (fun _ _ _=>stepR_inScope) (xJ fr k cx t1 w1)))⟩
 | exit i=>exact⟨_,t1,w1,hk,pass AX.noConfusion fun _=>AX.noConfusion⟩
 | goto i=>exact hk.elim
 | ret=>exact⟨_,t1,w1,hk,pass AX.noConfusion fun _=>AX.noConfusion⟩
 | panic c=>exact⟨_,t1,w1,hk,pass AX.noConfusion fun _=>AX.noConfusion⟩
theorem wc_skip{cx:Cx}{t:Fr}{w:W}{Q:QX}(h:Q .normal t w):WC P ng .skip cx t w Q:=⟨.normal,t,w,h,fun _ b k=>zI (fun _ _ _=>stepR_skip) (xJ b k cx t w)⟩
theorem wc_label{l:Nat}{cx:Cx}{t:Fr}{w:W}{Q:QX}(h:Q .normal t w):WC P ng (.label l) cx t w Q:=⟨.normal,t,w,h,fun _ b k=>zI (fun _ _ _=>stepR_label) (xJ b k cx t w)⟩
theorem wc_exit[Fit P ng]{id:Nat}{cx:Cx}{t:Fr}{w:W}{Q:QX}(h:Q (.exit id) t w):WC P ng (.exit id) cx t w Q:=wc_of (isSo_iff.2 h)
theorem wc_ret[Fit P ng]{cx:Cx}{t:Fr}{w:W}{Q:QX}(h:Q .ret t w):WC P ng .ret cx t w Q:=wc_of (isSo_iff.2 h)
theorem wc_loop{b:Code}{cx:Cx}{Q:QX}{α : Type}(I: α→Fr→W→Prop)(m: α→Nat)
(step:∀a t w,I a t w→WC P ng b cx t w fun x t' w'=>match x with
  | .normal=>∃a',m a'<m a∧I a' t' w'
  | x=>Q x t' w'):∀a t w,I a t w→WC P ng (.loop b) cx t w Q:=by
 intro a;generalize hm:m a=k
 induction k using Nat.strongRecOn generalizing a with
 | _ k ih =>
  intro t w hI;refine zV ((step a t w hI).mono fun x t' w' q=>?_)
  cases x with
  | normal=>
   obtain⟨a',h1,h2⟩:=q;exact ih (m a') (hm ▸ h1) a' rfl t' w' h2
  | exit i=>exact q
  | goto i=>exact q
  | ret=>exact q
  | panic c=>exact q
def WO(P:Program)(ng:Nat)(all:Array Oper)(l:List Oper)(cx:Cx)(t:Fr)(w:W)(Q:QX):Prop:=xops P (loS P ng) cx all l t w (soK Q)=true
theorem wc_region[Fit P ng]{id:Nat}{ops:Array Oper}{cx:Cx}{t:Fr}{w:W}{Q:QX}(h:WO P ng ops ops.toList cx t w Q):WC P ng (.region id ops false) cx t w Q:=wc_of h
theorem wo_nil{all:Array Oper}{cx:Cx}{t:Fr}{w:W}{Q:QX}(h:Q .normal t w):WO P ng all [] cx t w Q:=isSo_iff.2 h
theorem putT_some(t:Fr)(d:Nat)(v:Value)(k:Fr→Bool):putT t (some d) v k=fsetK t d v k:=rfl
theorem wo_quiet{all:Array Oper}{op:Op}{d:Option Nat}{ty:TypeId}{pos:String}{af:Array Edge}{r:List Oper}{cx:Cx}{t:Fr}{w:W}{Q:QX}{v:Value}(hq:yO op P t w.h=some v)
(h:putT t d v (fun t=>xops P (loS P ng) cx all r t w (soK Q))=true):WO P ng all (⟨d,op,ty,pos,af,none⟩::r) cx t w Q:=by
 show(Option.rec (eff op P (loS P ng) cx t w (fun w v=>putT t d v fun t=>xops P (loS P ng) cx all r t w (soK Q)) fun c w=>soK Q (.panic c) t w) (fun v=>putT t d v fun t=>xops P (loS P ng) cx all r t w (soK Q)) (yO op P t w.h):Bool)=true;rw [hq];exact h
theorem wo_eff{all:Array Oper}{op:Op}{d:Option Nat}{ty:TypeId}{pos:String}{af:Array Edge}{r:List Oper}{cx:Cx}{t:Fr}{w:W}{Q:QX}(hq:yO op P t w.h=none)
(h:eff op P (loS P ng) cx t w (fun w v=>putT t d v fun t=>xops P (loS P ng) cx all r t w (soK Q)) (fun c w=>soK Q (.panic c) t w)=true):WO P ng all (⟨d,op,ty,pos,af,none⟩::r) cx t w Q:=by
 show(Option.rec (eff op P (loS P ng) cx t w (fun w v=>putT t d v fun t=>xops P (loS P ng) cx all r t w (soK Q)) fun c w=>soK Q (.panic c) t w) (fun v=>putT t d v fun t=>xops P (loS P ng) cx all r t w (soK Q)) (yO op P t w.h):Bool)=true;rw [hq];exact h
theorem wo_on{all:Array Oper}{op:Op}{d:Option Nat}{ty:TypeId}{pos:String}{af:Array Edge}{g:Nat×Bool}{r:List Oper}{cx:Cx}{t:Fr}{w:W}{Q:QX}(hg:wanted all t (some g)=true)
(h:WO P ng all (⟨d,op,ty,pos,af,none⟩::r) cx t w Q):WO P ng all (⟨d,op,ty,pos,af,some g⟩::r) cx t w Q:=by
 have h':(Option.rec (eff op P (loS P ng) cx t w (fun w v=>putT t d v fun t=>xops P (loS P ng) cx all r t w (soK Q)) fun c w=>soK Q (.panic c) t w) (fun v=>putT t d v fun t=>xops P (loS P ng) cx all r t w (soK Q)) (yO op P t w.h):Bool)=true:=h;show(Bool.rec (putT t d undef fun t=>xops P (loS P ng) cx all r t w (soK Q)) (Option.rec (eff op P (loS P ng) cx t w (fun w v=>putT t d v fun t=>xops P (loS P ng) cx all r t w (soK Q)) fun c w=>soK Q (.panic c) t w) (fun v=>putT t d v fun t=>xops P (loS P ng) cx all r t w (soK Q)) (yO op P t w.h)) (wanted all t (some g)):Bool)=true;rw [hg];exact h'
theorem wo_off{all:Array Oper}{op:Op}{d:Option Nat}{ty:TypeId}{pos:String}{af:Array Edge}{g:Nat×Bool}{r:List Oper}{cx:Cx}{t:Fr}{w:W}{Q:QX}(hg:wanted all t (some g)=false)
(h:putT t d undef (fun t=>xops P (loS P ng) cx all r t w (soK Q))=true):WO P ng all (⟨d,op,ty,pos,af,some g⟩::r) cx t w Q:=by
 show(Bool.rec (putT t d undef fun t=>xops P (loS P ng) cx all r t w (soK Q)) (Option.rec (eff op P (loS P ng) cx t w (fun w v=>putT t d v fun t=>xops P (loS P ng) cx all r t w (soK Q)) fun c w=>soK Q (.panic c) t w) (fun v=>putT t d v fun t=>xops P (loS P ng) cx all r t w (soK Q)) (yO op P t w.h)) (wanted all t (some g)):Bool)=true;rw [hg];exact h
end
end Go.Ex
