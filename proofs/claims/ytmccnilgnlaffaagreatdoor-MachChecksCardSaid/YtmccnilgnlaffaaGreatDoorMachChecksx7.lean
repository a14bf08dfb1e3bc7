/- What the law leans on, part 7 of 22. Conditions: those that each theorem states. -/
import Derived.Test.YtmccnilgnlaffaaGreatDoorMachChecksx6
import Derived.Orders

set_option linter.unusedVariables false
set_option linter.unusedSimpArgs false
namespace Go.Ex
section
theorem map_split{α β : Type}{f: α→β}{l:List α}{A:List β}{x: β}{B:List β}(h:l.map f=A++x::B):∃A' x' B',l=A'++x'::B'∧A=A'.map f∧x=f x'∧B=B'.map f:=by
 obtain⟨A',r,e1,e2,e3⟩:=List.map_eq_append_iff.1 h;obtain⟨x',B',e4,e5,e6⟩:=List.map_eq_cons_iff.1 e3;exact⟨A',x',B',by rw[e1,e4],e2.symm,e5.symm,e6.symm⟩
theorem sees_bit{all:Array Oper}{M:Nat→Nat}{x:XOp}(h:XOK all M x){d:Nat}(hd:Sees all x.o d):zS x.lk d=true:=by
 rcases hd with hd|⟨g,b,h1,h2⟩
 · exact h.lk d hd
 · exact h.glk g b d h1 h2
theorem count_map{S:List XOp}{f:XOp→DOp}(hf:∀x,(f x).i=x.i∧(f x).kd=x.kd)(p:Nat→Bool):((S.filter λx=>Nat.beq x.kd 3).filter λc=>p c.i).length=(S.map f).countP λc=>Nat.beq c.kd 3 && p c.i:=by
 rw[List.filter_filter,← List.countP_eq_length_filter,List.countP_map];congr 1
 funext c
 simp only[Function.comp,(hf c).1,(hf c).2];exact dN _ _
theorem PlanOK.recPlan{ops:Array Oper}{M:Nat→Nat}{xl S:List XOp}(h:PlanOK ops M xl S):RecPlan ops M (S.map (dopOf xl (S.filter λx=>Nat.beq x.kd 3))):=by
 have hf:∀x,(dopOf xl (S.filter λx=>Nat.beq x.kd 3) x).i=x.i∧(dopOf xl (S.filter λx=>Nat.beq x.kd 3) x).kd=x.kd:=λx=>⟨rfl,rfl⟩;have hm:∀x∈xl,x.m=M x.i:=λx hx=>(h.ok x hx).m;refine⟨?_,?_,?_,?_,?_,?_,?_,?_,?_⟩
 · intro x hx;obtain⟨y,hy,rfl⟩:=ao.1 hx;exact h.at' y (h.sub y hy)
 · intro x hx;obtain⟨y,hy,rfl⟩:=ao.1 hx;exact(h.ok y (h.sub y hy)).kd
 · intro x hx b hb;obtain⟨y,hy,rfl⟩:=ao.1 hx;exact(h.ok y (h.sub y hy)).bits b (by rw[hm y (h.sub y hy)];exact hb)
 · intro A x B e;obtain⟨A',x',B',e1,rfl,rfl,rfl⟩:=map_split e;have hs:=h.sig;rw [e1]at hs;obtain⟨o1,o2⟩:=sig_ord hs;refine⟨λb hb=>?_,λy hy=>?_⟩
   · obtain⟨y,hy,e2⟩:=o1 b (by rw[hm x' (h.sub x' (by rw[e1];simp))];exact hb);exact⟨_,ao.2 ⟨y,hy,rfl⟩,e2⟩
   · obtain⟨y',hy',rfl⟩:=ao.1 hy;exact o2 y' hy'
 · intro A T x B e hk hT y hy;obtain⟨A',r,e1,e2,e3⟩:=List.map_eq_append_iff.1 e;obtain⟨T',x',B',e4,rfl,rfl,rfl⟩:=map_split e3;have hs:=h.sig;rw [e1,e4]at hs;obtain⟨y',hy',rfl⟩:=ao.1 hy;have:=sig_next hs hk (λz hz=>hT _ (ao.2 ⟨z,hz,rfl⟩)) y' hy';rw [hm x' (h.sub x' (by rw[e1,e4];simp))]at this;exact this
 · intro x hx y hy d hd hs;obtain⟨x',eo,rfl⟩:=ao.1 hx;obtain⟨y',hy',rfl⟩:=ao.1 hy;have:=h.pair x' (h.sub x' eo) y' (h.sub y' hy') d hd (hs.imp (λq=>sees_bit (h.ok y' (h.sub y' hy')) q) id);rw [hm x' (h.sub x' eo),hm y' (h.sub y' hy')]at this;exact this
 · intro x hx y hy kx ky;obtain⟨x',eo,rfl⟩:=ao.1 hx;obtain⟨y',hy',rfl⟩:=ao.1 hy;have:=h.act x' (h.sub x' eo) y' (h.sub y' hy') kx ky;rw [hm x' (h.sub x' eo),hm y' (h.sub y' hy')]at this;exact this
 · intro x hx;obtain⟨x',eo,rfl⟩:=ao.1 hx;rw [← count_map hf (λi=>zS (M (dopOf xl (S.filter λx=>Nat.beq x.kd 3) x').i) i)];show((S.filter λx=>Nat.beq x.kd 3).filter λc=>zS x'.m c.i).length=_;rw [hm x' (h.sub x' eo)];rfl
 · intro x hx;obtain⟨x',eo,rfl⟩:=ao.1 hx;have e:=count_map hf (S:=S) (λi=> !zS (M i) x'.i && !Nat.beq i x'.i);refine Nat.le_of_eq (Eq.symm ?_);show((S.filter λx=>Nat.beq x.kd 3).filter λc=> !zS c.m x'.i && !Nat.beq c.i x'.i).length=_;refine Eq.trans (congrArg List.length (List.filter_congr λc hc=>?_)) e;rw [hm c (h.sub c (aV.1 hc).1)]
theorem PlanOK.solo{ops:Array Oper}{M:Nat→Nat}{xl S:List XOp}(h:PlanOK ops M xl S){x:DOp}(hx:x∈S.map (dopOf xl (S.filter λx=>Nat.beq x.kd 3)))(hs:x.solo=true){i:Nat}(hi:i<ops.size) :
 x.i=i∨zS (M x.i) i=true∨zS (M i) x.i=true:=by
 obtain⟨x',eo,rfl⟩:=ao.1 hx;obtain⟨y,hy,rfl⟩:=h.cov i hi;have hs:(xl.all λy=>Nat.beq x'.i y.i || zS x'.m y.i || zS y.m x'.i)=true:=hs;have:=ay.1 hs y hy;rw [(h.ok x' (h.sub x' eo)).m,(h.ok y hy).m]at this;simp only[b8]at this;rcases this with(e|e)|e
 · exact .inl (zE e)
 · exact .inr (.inl e)
 · exact .inr (.inr e)
theorem PlanOK.un{ops:Array Oper}{M:Nat→Nat}{xl S:List XOp}(h:PlanOK ops M xl S){x y:DOp}(hx:x∈S.map (dopOf xl (S.filter λx=>Nat.beq x.kd 3)))(hy:y∈S.map (dopOf xl (S.filter λx=>Nat.beq x.kd 3)))(hk:x.kd=3) :
 (x.un.any λi=>Nat.beq i y.i)=true↔x.i≠y.i∧zS (M x.i) y.i=false∧zS (M y.i) x.i=false:=by
 obtain⟨x',eo,rfl⟩:=ao.1 hx;obtain⟨y',hy',rfl⟩:=ao.1 hy;have ex:=(h.ok x' (h.sub x' eo)).m;have ey:=(h.ok y' (h.sub y' hy')).m
 have step:∀z∈xl,(!(Nat.beq x'.i z.i || zS x'.m z.i || zS z.m x'.i))=true↔x'.i≠z.i∧zS (M x'.i) z.i=false∧zS (M z.i) x'.i=false:=λz hz=>by
  rw[← ex,← (h.ok z hz).m,Bool.not_eq_true',cZ,cZ,and_assoc];refine and_congr_left λ_=>⟨λe q=>(by rw[q,aB]at e;cases e),λq=>?_⟩
  cases e:Nat.beq x'.i z.i with
  | false=>rfl
  | true=>exact absurd (zE e) q
 have eM:x'.kd=3:=hk;show((cond (Nat.beq x'.kd 3) ((xl.filter λz=> !(Nat.beq x'.i z.i || zS x'.m z.i || zS z.m x'.i)).map λz=>z.i) []).any λi=>Nat.beq i y'.i)=true↔x'.i≠y'.i∧zS (M x'.i) y'.i=false∧zS (M y'.i) x'.i=false;rw [eM];show(((xl.filter λz=> !(Nat.beq x'.i z.i || zS x'.m z.i || zS z.m x'.i)).map λz=>z.i).any λi=>Nat.beq i y'.i)=true↔x'.i≠y'.i∧zS (M x'.i) y'.i=false∧zS (M y'.i) x'.i=false;rw [aq];constructor
 · rintro ⟨i,hi,e⟩
   obtain⟨z,hz,rfl⟩:=ao.1 hi;obtain⟨z1,z2⟩:=aV.1 hz;have:=(step z z1).1 z2;rw [zE e]at this;exact this
 · intro q;exact⟨y'.i,ao.2 ⟨y',aV.2 ⟨h.sub y' hy',(step y' (h.sub y' hy')).2 q⟩,rfl⟩,aB _⟩
theorem PlanOK.trans{ops:Array Oper}{M:Nat→Nat}{xl S:List XOp}(h:PlanOK ops M xl S){x y:DOp}(hx:x∈S.map (dopOf xl (S.filter λx=>Nat.beq x.kd 3)))(hy:y∈S.map (dopOf xl (S.filter λx=>Nat.beq x.kd 3)))(hb:zS (M x.i) y.i=true){b:Nat}(h2:zS (M y.i) b=true):zS (M x.i) b=true:=by
 obtain⟨x',eo,rfl⟩:=ao.1 hx;obtain⟨y',hy',rfl⟩:=ao.1 hy;have ex:=(h.ok x' (h.sub x' eo)).m;have ey:=(h.ok y' (h.sub y' hy')).m;have:=h.tr x' (h.sub x' eo) y' (h.sub y' hy');rw [ex,ey]at this;exact this hb b h2
theorem nodup_len:∀{l m:List Nat},l.Nodup→(∀x∈l,x∈m)→l.length≤m.length:=by
 intro l
 induction l with
 | nil=>intro m _ _;exact am _
 | cons x l ih=>
  intro m hn hs;obtain⟨h1,h2⟩:=List.nodup_cons.1 hn;have hx:=hs x (by simp);have:=ih (m:=m.erase x) h2 λy hy=>(List.mem_erase_of_ne (λe=>h1 (by rw[← e];exact hy))).2 (hs y (by simp[hy]));rw [List.length_erase_of_mem hx]at this;have:0<m.length:=List.length_pos_of_mem hx;simp only[a7];omega
theorem PlanOK.all{ops:Array Oper}{M:Nat→Nat}{xl S:List XOp}(h:PlanOK ops M xl S){i:Nat}(hi:i<ops.size):∃x∈S.map (dopOf xl (S.filter λx=>Nat.beq x.kd 3)),x.i=i:=by
 have K:=h.recPlan;generalize hD:S.map (dopOf xl (S.filter λx=>Nat.beq x.kd 3))=D at K
 have ej:D.length=ops.size:=by rw[← hD,aE];exact h.len
 have fk:(D.map (·.i)).Nodup:=by
  unfold List.Nodup;rw [List.pairwise_map]
  have key:∀(X Y:List DOp),D=X++Y→Y.Pairwise λa b=>a.i≠b.i:=by
   intro X Y
   induction Y generalizing X with
   | nil=>intro _;exact .nil
   | cons y Y ih=>
    intro e;refine .cons (λz hz=>?_) (ih (X++[y]) (by rw[e];simp));obtain⟨Y1,Y2,rfl⟩:=aL hz;exact(K.later e).2
  exact key [] D rfl
 refine Classical.byContradiction λdY=>?_
 have ff:∀x∈i::D.map (·.i),x∈List.range ops.size:=by
  intro x hx;rcases aA.1 hx with rfl|hx
  · exact bP.2 hi
  · obtain⟨y,hy,rfl⟩:=ao.1 hx;have:=K.at' y hy;rcases aw y.i ops.size with h1|h1
    · exact bP.2 h1
    · rw[aQ h1]at this;cases this
 have:=nodup_len (List.nodup_cons.2 ⟨λhx=>dY (let ⟨y,hy,e⟩:=ao.1 hx;⟨y,hy,e⟩),fk⟩) ff;simp at this;omega
theorem ready_mem{ops:Array Oper}{listed:Array Bool}{i:Nat}(h:i∈Region.ready .any ops listed) :
 i<ops.size∧listed.getD i true=false∧∃o,ops[i]? = some o∧∀e∈o.after.toList,vN e=true→listed.getD e.on false=true:=by
 unfold Region.ready at h;obtain⟨h1,h2⟩:=aV.1 h;obtain⟨h3,h4⟩:=ad.1 h2;refine⟨bP.1 h1,by simpa using h3,?_⟩
 cases ho:ops[i]? with
 | none=>rw [ho]at h4;cases h4
 | some o=>
  rw[ho]at h4;refine⟨o,rfl,λe he ha=>?_⟩;have h5:(o.after.all λe=> !Region.binds .any e || listed.getD e.on false)=true:=h4;rw [Array.all_eq_true_iff_forall_mem]at h5;have:=h5 e (Array.mem_toList_iff.1 he);unfold vN at ha;rw [ha]at this;simpa using this
theorem ready_mk{ops:Array Oper}{listed:Array Bool}{i:Nat}{o:Oper}(hi:ops[i]? = some o)(h:listed.getD i true=false)(he:∀e∈o.after.toList,vN e=true→listed.getD e.on false=true):i∈Region.ready .any ops listed:=by
 have dV:i<ops.size:=by
  rcases aw i ops.size with h1|h1
  · exact h1
  · rw[aQ h1]at hi;cases hi
 unfold Region.ready;refine aV.2 ⟨bP.2 dV,?_⟩;rw [h,hi];show(o.after.all λe=> !Region.binds .any e || listed.getD e.on false)=true;rw [Array.all_eq_true_iff_forall_mem];intro e hm
 cases ha:Region.binds .any e with
 | false=>rfl
 | true=>simpa using he e (Array.mem_toList_iff.2 hm) ha
theorem ready_nil{ops:Array Oper}{listed:Array Bool}(hs:listed.size=ops.size)(fC:∀i o,ops[i]? = some o→∀e∈o.after.toList,vN e=true→e.on<i)(h:Region.ready .any ops listed=[]) :
 ∀n i,i<n→i<ops.size→listed.getD i false=true:=by
 intro n
 induction n with
 | zero=>intro i hi;omega
 | succ n ih=>
  intro i hi dV;rcases aw i n with h1|h1
  · exact ih i h1 dV
  · have:i=n:=by omega
    subst this;have k8:i<listed.size:=by omega
    have g1:listed.getD i true=listed[i]:=by simp[k8]
    have g2:listed.getD i false=listed[i]:=by simp[k8]
    cases e:listed.getD i true with
    | true=>rw [g2,← g1];exact e
    | false =>
     have hm:=ready_mk (ops:=ops) (aC dV) e λed hed ha=>by
      have:=fC i _ (aC dV) ed hed ha;exact ih ed.on this (by omega)
     rw[h]at hm;simp at hm
def unlisted(n:Nat)(listed:Array Bool):Nat:=(List.range n).countP λi=> !listed.getD i true
section
variable {P:Program} {ng:Nat} {all:Array Oper} {M:Nat→Nat} {D E:List DOp} {C:Cfg}
theorem Inv.lst_congr{pre suf:List Rec}{ts:Fr}{ws:W}{lst lst':Nat→Prop}{ρ : Inj}{H:zB}{a:Act}{wd:World}{cs:List Frame}(I:Inv P ng all M D E C pre suf ts ws lst ρ H a wd cs)(h:∀i,lst i↔lst' i) :
 Inv P ng all M D E C pre suf ts ws lst' ρ H a wd cs:=by
 have:lst=lst':=funext λi=>propext (h i);rw [← this];exact I
theorem draw_go{Goal:Machine→List Item→Prop}(hG:∀m m1 kk,Steps P m m1→Goal m1 kk→Goal m kk)(hP:yG ng P=true)(K:RecPlan all M D)(hc:∀o∈all.toList,uW ng (ntm P C.cx.fn) o=true)
(fC:∀i o,all[i]? = some o→∀e∈o.after.toList,vN e=true→e.on<i)
(gf:∀i o,all[i]? = some o→∀b,zS (M i) b=true→∃e∈o.after.toList,vN e=true∧(b=e.on∨zS (M e.on) b=true))
{R:List Rec}(hL:xO P (hsOf R [C.W0]).length (hsOf R [C.W0]) (lsOf R [])=true)
(hnext:∀pre suf ts ws lst ρ H a wd cs,pre++suf=R→Inv P ng all M D E C pre suf ts ws lst ρ H a wd cs→∀i,i<all.size→¬lst i→(∀b,zS (M i) b=true→lst b)→
  (∃r∈R,r.x.i=i)∨∀is kk,Goal (lone (C.b.atR a (.inRegion all (i::is)::kk)) cs wd) kk)
(hend:∀pre suf ts ws lst ρ H a wd cs,pre++suf=R→Inv P ng all M D E C pre suf ts ws lst ρ H a wd cs→(∀i,i<all.size→lst i)→∀kk,Goal (lone (C.b.atR a (.inRegion all []::kk)) cs wd) kk) :
 ∀(fuel t:Nat) (listed:Array Bool) (pre suf:List Rec) (ts:Fr) (ws:W) (ρ : Inj) (H:zB) (a:Act) (wd:World) (cs:List Frame),pre++suf=R→listed.size=all.size→
  Inv P ng all M D E C pre suf ts ws (λi=>listed.getD i false=true) ρ H a wd cs→unlisted all.size listed≤fuel→
  ∀kk,Goal (lone (C.b.atR a (.inRegion all (Region.linearise.go .any all fuel t listed [])::kk)) cs wd) kk:=by
 have swap:∀{listed:Array Bool} {i:Nat},i<listed.size→listed.getD i true=listed.getD i false:=by
  intro listed i h;simp [h]
 have finish:∀{listed:Array Bool} {pre suf:List Rec} {ts:Fr} {ws:W} {ρ : Inj} {H:zB} {a:Act} {wd:World} {cs:List Frame},pre++suf=R→listed.size=all.size→
  Inv P ng all M D E C pre suf ts ws (λi=>listed.getD i false=true) ρ H a wd cs→(∀i,i<all.size→listed.getD i false=true)→∀kk,Goal (lone (C.b.atR a (.inRegion all []::kk)) cs wd) kk:=
  λhR hs I hl kk=>hend _ _ _ _ _ _ _ _ _ _ hR I hl kk
 intro fuel
 induction fuel with
 | zero=>
  intro t listed pre suf ts ws ρ H a wd cs hR hs I hu kk;refine finish hR hs I (λi hi=>?_) kk;have h0:unlisted all.size listed=0:=by omega
  have:=dp.1 h0 i (bP.2 hi);rw [← swap (by omega)];simpa using this
 | succ fuel ih =>
  intro t listed pre suf ts ws ρ H a wd cs hR hs I hu kk;simp only[Region.linearise.go]
  change Goal (lone (C.b.atR a (.inRegion all (match (Region.ready .any all listed)[t % (Region.ready .any all listed).length]? with
   | some i=>Region.linearise.go .any all fuel (t / (Region.ready .any all listed).length) (listed.setIfInBounds i true) [i]
   | none=>[].reverse)::kk)) cs wd) kk
  cases hi:(Region.ready .any all listed)[t % (Region.ready .any all listed).length]? with
  | none =>
   have hnil:Region.ready .any all listed=[]:=by
    cases hr:Region.ready .any all listed with
    | nil=>rfl
    | cons x xs=>
     rw[hr]at hi;have dV:t % (x::xs).length<(x::xs).length:=Nat.mod_lt _ (by simp);simp at hi;simp at dV;omega
   exact finish hR hs I (λi h=>ready_nil hs fC hnil (i+1) i (by omega) h) kk
  | some i =>
   simp only[];rw [linearise_go_acc,List.reverse_singleton,List.singleton_append];obtain⟨r1,r2,o,r3,r4⟩:=ready_mem (ah hi)
   have gK:¬listed.getD i false=true:=by
    rw[← swap (by omega),r2];exact aM
   have hm:∀b,zS (M i) b=true→listed.getD b false=true:=by
    intro b hb;obtain⟨e,e1,e2,e3⟩:=gf i o r3 b hb;have h1:=r4 e e1 e2;rcases e3 with rfl|e3
    · exact h1
    · exact I.closed _ h1 _ e3
   rcases hnext _ _ _ _ _ _ _ _ _ _ hR I i r1 gK hm with⟨r,hr,rfl⟩|hg
   · obtain⟨pre',suf',ts',ws',ρ1,H1,a1,wd1,cs1,I1,hR1,hst⟩:=I.step hP K hc (by rw[hR];exact hL) (by rw[hR];exact hr) gK hm
      (Region.linearise.go .any all fuel (t / (Region.ready .any all listed).length) (listed.setIfInBounds r.x.i true) []) kk
     have fJ:(listed.setIfInBounds r.x.i true).size=all.size:=by simpa using hs
     have zF:∀j d,(listed.setIfInBounds r.x.i true).getD j d=if r.x.i=j then true else listed.getD j d:=by
      intro j d;by_cases hj:j<listed.size
      · have eV:j<(listed.setIfInBounds r.x.i true).size:=by simpa using hj
        simp[hj,Array.getElem_setIfInBounds]
      · have eh:r.x.i≠j:=by omega
        simp[hj,eh]
     refine hG _ _ _ hst (ih _ _ pre' suf' ts' ws' ρ1 H1 a1 wd1 cs1 (hR1.trans hR) fJ (I1.lst_congr λj=>?_) ?_ kk)
     · rw[zF];by_cases hj:r.x.i=j
       · simp[hj]
       · rw[if_neg hj];exact⟨λh=>h.resolve_right λe=>hj e.symm,.inl⟩
     · have:unlisted all.size (listed.setIfInBounds r.x.i true)<unlisted all.size listed:=
        countP_lt (λj _ h=>by
         rw[zF]at h;by_cases hj:r.x.i=j
         · rw[if_pos hj]at h;cases h
         · rw[if_neg hj]at h;exact h) (bP.2 r1) (by rw[zF,if_pos rfl];rfl) (by rw[r2];rfl)
       omega
   · exact hg _ kk
end
end
section
section
variable {P:Program} {ng:Nat} {all:Array Oper} {M:Nat→Nat} {D E:List DOp} {C:Cfg}
variable {pre suf:List Rec} {ts:Fr} {ws:W} {lst:Nat→Prop} {ρ : Inj} {H:zB} {a:Act} {wd:World} {cs:List Frame}
theorem Inv.all_done(I:Inv P ng all M D E C pre suf ts ws lst ρ H a wd cs)(K:RecPlan all M D)(hl:∀r∈pre++suf,lst r.x.i) :
 In P ng (ρ.cut C.w1.n) C.base C.w00 C.b a wd cs C.cx C.t1 C.w1∧Grow C.ρ0 C.W0.h C.W0.n C.wd0 (ρ.cut C.w1.n) C.w1.h C.w1.n wd:=by
 have dY:∀q∈suf,q.x.kd≠3:=λq hq h3=>I.sl q hq h3 (hl q (a6 _ hq));have hs:suf=suf++[]:=by simp
 have h0:=I.at_act K hs I.r2 dY;have dZ:=tP I.r1 I.r2;have hW0:C.W0.n≤ws.n:=(wC I.r1).1;have l8:∀q∈suf,q.x.kd≠3∧q.x.kd=zQ q.x.o.op:=λq hq=>⟨dY q hq,K.kd _ (I.mem (a6 _ hq))⟩;obtain⟨_,_,s4,_⟩:=seg_ok I.r2 l8;refine⟨h0.toIn ⟨by rw[I.sz];exact I.tm0.sz,λd v hv=>?_⟩,(I.gr _ (wC I.r2).1).congr λb hb=>by rw[s4 b (by omega),I.hh b (by omega)]⟩;by_cases hw:∃y∈pre++suf,y.x.o.dst=some d
 · obtain⟨y,hy,hyd⟩:=hw;obtain⟨A1,A2,hsp⟩:=aL hy;have je:D=A1.map (·.x)++y.x::(A2.map (·.x)++E):=by rw[I.dd,hsp];simp
   obtain⟨v',q1,q2⟩:=I.val y hy (hl y hy) d hyd;rw [hv]at q1;injection q1 with q1;subst q1
   have hb:=((wC dZ).2 y hy).2.2;rw [hsp]at dZ
   have h2:fget C.t1 d=y.v:=recs_write dZ hyd λz hz e=>by
    obtain⟨B1,B2,hz2⟩:=aL hz;have gF:D=A1.map (·.x)++y.x::(B1.map (·.x)++z.x::(B2.map (·.x)++E)):=by rw[je,hz2];simp
    obtain⟨_,l4⟩:=K.later gF;rcases K.pair y.x (by rw[gF];simp) z.x (by rw[gF];simp) d hyd (.inr e) with h|⟨h,_⟩
    · exact l4 h
    · exact h e
   rw[h2];exact q2.mono (cut_le hb)
 · have gP:∀r∈pre++suf,r.x.o.dst≠some d:=λr hr e=>hw ⟨r,hr,e⟩;rw [recs_slot dZ gP];rw [I.un d λr hr _=>gP r hr]at hv;exact(I.tm0.tm d v hv).mono (cut_le (wC dZ).1)
theorem HeapR.later{base:Nat}{w0:World}{h:zB}{n m:Nat}(r:HeapR P ng ρ base w0 h n wd)(hm:n≤m):HeapR P ng ρ base w0 h m wd:=
 ⟨λb hb=>r.dom b (by omega),r.obj,r.inj,r.below,r.size,r.glob,by have:=r.ngn;omega⟩
theorem cut_dom{n m:Nat}(h:∀b,n≤b→ρ b=none)(hm:n≤m): ρ.cut m = ρ :=by
 funext b
 rcases aw b m with h1|h1
 · exact xI h1
 · rw[cut_ge h1,h b (by omega)]
theorem recs_det{all:Array Oper}{cx:Cx}:∀{A:List Rec} {t t1 t2:Fr} {w w1 w2:W},RecsOK P ng all cx A t w t1 w1→RecsOK P ng all cx A t w t2 w2→t1=t2∧w1=w2:=by
 intro A
 induction A with
 | nil=>intro t t1 t2 w w1 w2 h h';cases h;cases h';exact⟨rfl,rfl⟩
 | cons r A ih =>
  intro t t1 t2 w w1 w2 h h'
  cases h with
  | cons h hr=>
   cases h' with
   | cons h' hr'=>exact ih hr hr'
theorem recPlan_dry{all:Array Oper}{M:Nat→Nat}{Rx rest L:List DOp}{d:DOp}(hL:L=Rx++d::rest)(K:RecPlan all M L)(hk:d.kd=3)
(htr:∀x∈L,∀y∈L,zS (M x.i) y.i=true→∀b,zS (M y.i) b=true→zS (M x.i) b=true)
(jh:∀y∈L,(d.un.any λi=>Nat.beq i y.i)=true↔d.i≠y.i∧zS (M d.i) y.i=false∧zS (M y.i) d.i=false) :
 RecPlan all M (Rx++dryOf d.un rest)∧(∀x∈dryOf d.un rest,x∈L∧x.kd≠3∧x.i≠d.i∧zS (M d.i) x.i=false∧zS (M x.i) d.i=false):=by
 have gw:d∈L:=by rw[hL];simp
 have eY:∀y∈rest,y∈L∧zS (M d.i) y.i=false∧d.i≠y.i:=by
  intro y hy;obtain⟨S1,S2,hS⟩:=aL hy;obtain⟨l1,l2⟩:=K.later (x:=d) (y:=y) (A:=Rx) (B:=S1) (C:=S2) (by rw[hL,hS]);exact⟨by rw[hL];simp [hy],l1,l2⟩
 have gy:∀x∈dryOf d.un rest,x∈L∧x.kd≠3∧x.i≠d.i∧zS (M d.i) x.i=false∧zS (M x.i) d.i=false:=by
  intro x hx;obtain⟨x1,x2⟩:=aV.1 hx;obtain⟨l0,l1,l2⟩:=eY x x1;obtain⟨u1,u2,u3⟩:=(jh x l0).1 x2;refine⟨l0,λh3=>?_,λe=>u1 e.symm,u2,u3⟩;rcases K.act d gw x l0 hk h3 with e|e|e
  · exact u1 e
  · rw[u3]at e;cases e
  · rw[u2]at e;cases e
 have hRx:∀x∈Rx,x∈L:=λx hx=>by rw[hL];simp [hx]
 have ff:∀x∈Rx++dryOf d.un rest,x∈L:=λx hx=>(az.1 hx).elim (hRx x) λh=>(gy x h).1
 have hsl:(Rx++dryOf d.un rest).Sublist L:=by
  rw[hL];exact(List.Sublist.refl Rx).append (.cons _ List.filter_sublist)
 refine⟨⟨λx hx=>K.at' x (ff x hx),λx hx=>K.kd x (ff x hx),λx hx=>K.bits x (ff x hx),?_,?_,λx hx y hy=>K.pair x (ff x hx) y (ff y hy),λx hx y hy=>K.act x (ff x hx) y (ff y hy),?_,?_⟩,gy⟩
 · intro A x B e;rcases dh.1 e with⟨A1,e1,e2⟩|⟨R1,e1,e2⟩
   ·
    obtain⟨S1,S2,s1,s2,s3⟩:=List.filter_eq_append_iff.1 e2;obtain⟨T1,T2,q1,q2,q3,q4⟩:=List.filter_eq_cons_iff.1 s3;have hx:x∈dryOf d.un rest:=by rw[e2];simp
    obtain⟨_,_,_,_,x5⟩:=gy x hx;have hl:L=(Rx++d::(S1++T1))++x::T2:=by rw[hL,s1,q1];simp
    obtain⟨k1,k2⟩:=K.ahead _ x _ hl;refine⟨λb hb=>?_,λy hy=>?_⟩
    · obtain⟨y,hy,hyb⟩:=k1 b hb;rcases az.1 hy with hy|hy
      · exact⟨y,by rw[e1];simp [hy],hyb⟩
      rcases aA.1 hy with rfl|hy
      · rw[hyb,hb]at x5;cases x5
      have hyr:y∈rest:=by
       rw[s1,q1];rcases az.1 hy with h|h <;> simp[h]
      obtain⟨y0,y1,y2⟩:=eY y hyr
      have hp:(d.un.any λi=>Nat.beq i y.i)=true:=(jh y y0).2 ⟨y2,y1,by
       cases hq:zS (M y.i) d.i with
       | false=>rfl
       | true=>
        have:=htr x (ff x (by rw[e];simp)) y y0 (by rw[hyb];exact hb) _ hq;rw [x5]at this;cases this⟩
      rcases az.1 hy with h|h
      · exact⟨y,by rw[e1,← s2];exact a6 _ (aV.2 ⟨h,hp⟩),hyb⟩
      · exact absurd hp (q2 y h)
    · refine k2 y ?_;rw [e1]at hy;rcases az.1 hy with h|h
      · simp[h]
      · rw[← s2]at h;have:=(aV.1 h).1;simp [this]
   ·
    cases R1 with
    | nil =>
     have e2':dryOf d.un rest=x::B:=by simpa using e2.symm
     obtain⟨T1,T2,q1,q2,q3,q4⟩:=List.filter_eq_cons_iff.1 e2';have hx:x∈dryOf d.un rest:=by rw[e2'];simp
     obtain⟨_,_,_,_,x5⟩:=gy x hx;have hA:A=Rx:=by simpa using e1.symm
     have hl:L=(Rx++d::T1)++x::T2:=by rw[hL,q1];simp
     obtain⟨k1,k2⟩:=K.ahead _ x _ hl;refine⟨λb hb=>?_,λy hy=>k2 y (by rw[hA]at hy;simp [hy])⟩;obtain⟨y,hy,hyb⟩:=k1 b hb;rcases az.1 hy with hy|hy
     · exact⟨y,by rw[hA];exact hy,hyb⟩
     rcases aA.1 hy with rfl|hy
     · rw[hyb,hb]at x5;cases x5
     obtain⟨y0,y1,y2⟩:=eY y (by rw[q1];simp [hy]);refine absurd ((jh y y0).2 ⟨y2,y1,?_⟩) (q2 y hy)
     cases hq:zS (M y.i) d.i with
     | false=>rfl
     | true=>
      have:=htr x (ff x (by rw[e];simp)) y y0 (by rw[hyb];exact hb) _ hq;rw [x5]at this;cases this
    | cons z R1=>
     injection e2 with e3 e4
     subst e3;exact K.ahead A x (R1++d::rest) (by rw[hL,e1];simp)
 · intro A S x B e h3 hS;have hx:x∉dryOf d.un rest:=λh=>(gy x h).2.1 h3
   have:∃B1,Rx=A++(S++x::B1):=by
    rw[← aN]at e;rcases dh.1 e with⟨A1,e1,e2⟩|⟨R1,e1,e2⟩
    · exact absurd (by rw[e2];simp) hx
    · cases R1 with
      | nil=>exact absurd (by rw[show dryOf d.un rest=x::B by simpa using e2.symm];simp) hx
      | cons z R1=>injection e2 with e3 e4;subst e3;exact⟨R1,by rw[e1];simp⟩
   obtain⟨B1,hB⟩:=this;exact K.next A S x (B1++d::rest) (by rw[hL,hB];simp) h3 hS
 · intro x hx;rw [K.low x (ff x hx),hL,du,du];congr 1
   rw[dp.2 λc hc hp=>?_,dp.2 λc hc hp=>(gy c hc).2.1 (zE (ad.1 hp).1)];obtain⟨p1,p2⟩:=ad.1 hp;rcases az.1 hx with h|h
   · obtain⟨A1,A2,hA⟩:=aL h;obtain⟨C1,C2,hC⟩:=aL hc;rw [(K.later (x:=x) (y:=c) (A:=A1) (B:=A2++C1) (C:=C2) (by rw[hL,hA,hC];simp)).1]at p2;cases p2
   · obtain⟨_,_,_,_,x5⟩:=gy x h;rcases aA.1 hc with rfl|hc
     · rw[x5]at p2;cases p2
     obtain⟨c0,c1,c2⟩:=eY c hc;rcases K.act d gw c c0 hk (zE p1) with e|e|e
     · exact c2 e
     · have:=htr x (ff x hx) c c0 p2 _ e;rw [x5]at this;cases this
     · rw[c1]at e;cases e
 · intro x hx;exact aZ hsl.countP_le (K.high x (ff x hx))
theorem drew_ok(hP:yG ng P=true)(hmix:P.follows .mixedOrders=true){ops:Array Oper}{L:List DOp}(eR:plan ops=some L){cx:Cx}{t:Fr}{w:W}{k:KX}(hD:Drew P ng ops cx L t w [w] [] k)(id:Nat) :
 ∃x t' w',k x t' w'=true∧CodeTo P ng (.region id ops true) cx t w x t' w':=by
 obtain⟨M,xl,S,hp,hL⟩:=plan_ok eR;have K:RecPlan ops M L:=by rw[hL];exact hp.recPlan
 have jH:∀x∈L,x.solo=true→∀i,i<ops.size→x.i=i∨zS (M x.i) i=true∨zS (M i) x.i=true:=by
  intro x hx hs i hi;rw [hL]at hx;exact hp.solo hx hs hi
 have jj:∀i,i<ops.size→∃x∈L,x.i=i:=by
  intro i hi;rw [hL];exact hp.all hi
 have gA:∀i o,ops[i]? = some o→∃x,x.i=i∧x.o=o∧XOK ops M x:=by
  intro i o ho
  have dV:i<ops.size:=by
   rcases aw i ops.size with h1|h1
   · exact h1
   · rw[aQ h1]at ho;cases ho
  obtain⟨x,h1,h2⟩:=hp.cov i dV;have h3:=hp.at' x h1;rw [h2,ho]at h3;exact⟨x,h2,by injection h3 with h3;exact h3.symm,hp.ok x h1⟩
 have fC:∀i o,ops[i]? = some o→∀e∈o.after.toList,vN e=true→e.on<i:=by
  intro i o ho e he ha;obtain⟨x,h1,h2,h3⟩:=gA i o ho;rw [← h1];exact h3.on e (by rw[h2];exact he) ha
 have gf:∀i o,ops[i]? = some o→∀b,zS (M i) b=true→∃e∈o.after.toList,vN e=true∧(b=e.on∨zS (M e.on) b=true):=by
  intro i o ho b hb;obtain⟨x,h1,h2,h3⟩:=gA i o ho;have:=h3.bits b (by rw[h3.m,h1];exact hb);rw [h2]at this;exact this
 have start:∀{D:List DOp} {R:List Rec} {E:List DOp} {t1:Fr} {w1:W},R.map (·.x)++E=D→RecsOK P ng ops cx R t w t1 w1→∀{ρ : Inj} {base:Nat} {w0:World} {b:Frame} {a:Act} {wd:World} {cs:List Frame},In P ng ρ base w0 b a wd cs cx t w→
  Inv P ng ops M D E ⟨t,w,a,wd,cs,ρ,base,w0,b,cx,t1,w1⟩ [] R t w (λi=>(Array.replicate ops.size false).getD i false=true) ρ w.h a { wd with drawn:=wd.drawn+1 } cs:=by
  intro D R E t1 w1 hR hrecs ρ base w0 b a wd cs hI
  have hf:∀i,¬(Array.replicate ops.size false).getD i false=true:=by
   intro i;by_cases h:i<ops.size <;> simp[h]
  refine⟨hR.symm,.nil t w,hrecs,.inl rfl,λr hr=>by simp at hr,λr _ _ h=>hf _ h,λi h=>absurd h (hf i),λi h=>absurd h (hf i),?_,?_,?_,CsTo.refl _ _,λ_ _=>rfl,λr _ _ _ h=>absurd h (hf _),?_,λr _ h=>absurd h (hf _),λ_ _=>rfl,?_,rfl⟩
  · dsimp only;rw [cut_dom hI.hp.dom (ae _)];exact⟨hI.fn,hI.kind,hI.rd,hI.rdf,hI.hp.drawn _,hI.dr,hI.ur,hI.fnd⟩
  · intro m hm;rw [cut_dom hI.hp.dom hm];exact(hI.hp.later hm).drawn _
  · intro m hm;rw [cut_dom hI.hp.dom hm];exact⟨hm,λ_ _=>rfl,λb B hb e=>(by rw[hI.hp.dom b hb]at e;cases e),λ_ _ _=>rfl,ae _,λ_ _ e=>e,rfl⟩
  · intro b B hb e;rw [hI.hp.dom b hb]at e;cases e
  · dsimp only;rw [cut_dom hI.hp.dom (ae _)];exact hI.tm
 have unl:unlisted ops.size (Array.replicate ops.size false)≤ops.size:=by
  unfold unlisted;exact aZ List.countP_le_length (by simp)
 rcases hD with⟨R,t',w',h1,h2,h3,h4⟩|⟨R,d,rest,c,t1,w1,w2,h1,h2,h3,h4,h5,h6,h7⟩|⟨R,d,rest,c,t1,w1,w2,S,tD,wD,h1,h2,h3,h4,h0,h5,h6,h7,h8,h9⟩
 · refine⟨.normal,t',w',h3,λhc b kk ρ base w0 a wd cs hI=>?_⟩;have eS:∀o∈ops.toList,uW ng (ntm P cx.fn) o=true:=ay.1 hc;have I0:=start (E:=[]) (by simpa using h1) h2 hI
   have go:=draw_go (C:=⟨t,w,a,wd,cs,ρ,base,w0,b,cx,t',w'⟩) (E:=[]) (R:=R)
    (Goal:=λm kk=>∃ρ' a' wd' cs',InE P ng (Lost .normal w') ρ' base w0 b a' wd' cs' cx t' w'∧Grow ρ w.h w.n wd ρ' w'.h w'.n wd'∧CsTo cx.df cs cs'∧Arr P m b kk cs' ρ' a' wd' .normal)
    (λm m1 kk hst ⟨ρ',a',wd',cs',g1,g2,g3,g4⟩=>⟨ρ',a',wd',cs',g1,g2,g3,g4.of_steps hst⟩) hP K eS fC gf h4 ?_ ?_
    ops.size (wd.tape wd.drawn (.order b.fn id)) _ [] R t w ρ w.h a _ cs rfl (by simp) I0 unl kk
   · have hst:step P (lone (b.atR a (.code (.region id ops true)::kk)) cs wd) = .next (lone (b.atR a (.inRegion ops (Region.schedule (P.follows .mixedOrders) ops (wd.tape wd.drawn (.order b.fn id)))::kk)) cs { wd with drawn:=wd.drawn+1 }):=stepR_region_draw
     have ik:∀tt,Region.schedule (P.follows .mixedOrders) ops tt=Region.linearise.go .any ops ops.size tt (Array.replicate ops.size false) []:=by
      intro tt;simp only[Region.schedule,hmix,Bool.true_or,if_true];rfl
     rw[ik]at hst;obtain⟨ρ',a',wd',cs',g1,g2,g3,g4⟩:=go;exact⟨ρ',a',wd',cs',g1,g2,g3,g4.of_steps (.one hst)⟩
   · intro pre suf ts ws lst ρ1 H a1 wd1 cs1 hR I i hi _ _;obtain⟨x,jR,hx2⟩:=jj i hi;rw [← h1]at jR;obtain⟨r,hr,rfl⟩:=ao.1 jR;exact .inl ⟨r,hr,hx2⟩
   · intro pre suf ts ws lst ρ1 H a1 wd1 cs1 hR I dZ kk
     obtain⟨g1,g2⟩:=I.all_done K λr hr=>dZ _ (by
      have:=K.at' _ (I.mem hr);rcases aw r.x.i ops.size with h1|h1
      · exact h1
      · rw[aQ h1]at this;cases this)
     exact⟨_,a1,wd1,cs1,g1.e,g2,I.cst,.one stepR_region_end⟩
 · refine⟨.panic c,t1,w2,h7,λhc b kk ρ base w0 a wd cs hI=>?_⟩;have eS:∀o∈ops.toList,uW ng (ntm P cx.fn) o=true:=ay.1 hc;have I0:=start (E:=d::rest) h1.symm h2 hI;have gw:d∈L:=by rw[h1];simp
   have hdi:d.i<ops.size:=by
    have:=K.at' _ gw;rcases aw d.i ops.size with h1|h1
    · exact h1
    · rw[aQ h1]at this;cases this
   have kF:∀r∈R,r.x.i≠d.i∧zS (M r.x.i) d.i=false:=by
    intro r hr;obtain⟨A,B,hAB⟩:=aL hr;obtain⟨l1,l2⟩:=K.later (x:=r.x) (y:=d) (A:=A.map (·.x)) (B:=B.map (·.x)) (C:=rest) (by rw[h1,hAB];simp);exact⟨l2,l1⟩
   have go:=draw_go (C:=⟨t,w,a,wd,cs,ρ,base,w0,b,cx,t1,w1⟩) (E:=d::rest) (R:=R)
    (Goal:=λm kk=>∃ρ' a' wd' cs',InE P ng (Lost (.panic c) w2) ρ' base w0 b a' wd' cs' cx t1 w2∧Grow ρ w.h w.n wd ρ' w2.h w2.n wd'∧CsTo cx.df cs cs'∧Arr P m b kk cs' ρ' a' wd' (.panic c))
    (λm m1 kk hst ⟨ρ',a',wd',cs',g1,g2,g3,g4⟩=>⟨ρ',a',wd',cs',g1,g2,g3,g4.of_steps hst⟩) hP K eS fC gf h6 ?_ ?_
    ops.size (wd.tape wd.drawn (.order b.fn id)) _ [] R t w ρ w.h a _ cs rfl (by simp) I0 unl kk
   · have hst:step P (lone (b.atR a (.code (.region id ops true)::kk)) cs wd) = .next (lone (b.atR a (.inRegion ops (Region.schedule (P.follows .mixedOrders) ops (wd.tape wd.drawn (.order b.fn id)))::kk)) cs { wd with drawn:=wd.drawn+1 }):=stepR_region_draw
     have ik:∀tt,Region.schedule (P.follows .mixedOrders) ops tt=Region.linearise.go .any ops ops.size tt (Array.replicate ops.size false) []:=by
      intro tt;simp only[Region.schedule,hmix,Bool.true_or,if_true];rfl
     rw[ik]at hst;obtain⟨ρ',a',wd',cs',g1,g2,g3,g4⟩:=go;exact⟨ρ',a',wd',cs',g1,g2,g3,g4.of_steps (.one hst)⟩
   · intro pre suf ts ws lst ρ1 H a1 wd1 cs1 hR I i hi gK hm
     have hdn:¬lst d.i:=λh=>by
      obtain⟨r,hr,e⟩:=I.only _ h;rw [hR]at hr;exact(kF r hr).1 e
     rcases jH d gw h5 i hi with e|e|e
     · right
       subst e;intro is kk
       have hlR:∀r∈pre++suf,lst r.x.i:=by
        intro r hr
        have hri:r.x.i<ops.size:=by
         have:=K.at' _ (I.mem hr);rcases aw r.x.i ops.size with h1|h1
         · exact h1
         · rw[aQ h1]at this;cases this
        rw[hR]at hr;obtain⟨n1,n2⟩:=kF r hr;rcases jH d gw h5 _ hri with e|e|e
        · exact absurd e.symm n1
        · exact hm _ e
        · rw[n2]at e;cases e
       obtain⟨g1,g2⟩:=I.all_done K hlR;obtain⟨hO,hW⟩:=I.looks K eS (A:=suf) (S:=[]) (by simp) I.dd I.r2 hdn hm;obtain⟨ρ',a',wd',cs',i1,i2,i3,i4,c',i5,i6⟩:=h4 _ _ _ _ _ _ _ g1.in0 hO ops d.i is kk (K.at' _ gw) (hW.trans h3);exact⟨ρ',a',wd',cs',(i1.toIn (by rw[i2];exact g1.tm.mono (i3.le g1.hp.dom))).e,g2.trans i3,I.cst.trans i4,_,c',i5,i6⟩
     · left
       obtain⟨y,hy,e2⟩:=(K.ahead (R.map (·.x)) d rest h1).1 _ e;obtain⟨r,hr,rfl⟩:=ao.1 hy;exact⟨r,hr,e2⟩
     · exact absurd (hm _ e) hdn
   · intro pre suf ts ws lst ρ1 H a1 wd1 cs1 hR I dZ kk;exfalso
     obtain⟨r,hr,e⟩:=I.only _ (dZ d.i hdi);rw [hR]at hr;exact(kF r hr).1 e
 · refine⟨.panic c,t1,w2,h9,λhc b kk ρ base w0 a wd cs hI=>?_⟩;have eS:∀o∈ops.toList,uW ng (ntm P cx.fn) o=true:=ay.1 hc;have gw:d∈L:=by rw[h1];simp
   have hdi:d.i<ops.size:=by
    have:=K.at' _ gw;rcases aw d.i ops.size with h1|h1
    · exact h1
    · rw[aQ h1]at this;cases this
   obtain⟨K',hS⟩:=recPlan_dry h1 K h0 (λx hx y hy hb b h2=>by rw[hL]at hx hy;exact hp.trans hx hy hb h2) (λy hy=>by rw[hL]at hy gw;exact hp.un gw hy h0);rw [← h7,← aK]at K';have kK:∀r∈S,r.x∈L∧r.x.kd≠3∧r.x.i≠d.i∧zS (M d.i) r.x.i=false∧zS (M r.x.i) d.i=false:=λr hr=>hS r.x (by rw[← h7];exact ao.2 ⟨r,hr,rfl⟩);have I0:=start (D:=(R++S).map (·.x)) (E:=[]) (by simp) (tP h2 h6) hI
   have kF:∀r∈R,r.x.i≠d.i∧zS (M r.x.i) d.i=false:=by
    intro r hr;obtain⟨A,B,hAB⟩:=aL hr;obtain⟨l1,l2⟩:=K.later (x:=r.x) (y:=d) (A:=A.map (·.x)) (B:=B.map (·.x)) (C:=rest) (by rw[h1,hAB];simp);exact⟨l2,l1⟩
   have lH:∀r∈R++S,r.x.i≠d.i:=λr hr=>(az.1 hr).elim (λh=>(kF r h).1) λh=>(kK r h).2.2.1
   have go:=draw_go (C:=⟨t,w,a,wd,cs,ρ,base,w0,b,cx,tD,wD⟩) (E:=[]) (R:=R++S)
    (Goal:=λm kk=>∃ρ' a' wd' cs',InE P ng (Lost (.panic c) w2) ρ' base w0 b a' wd' cs' cx t1 w2∧Grow ρ w.h w.n wd ρ' w2.h w2.n wd'∧CsTo cx.df cs cs'∧Arr P m b kk cs' ρ' a' wd' (.panic c))
    (λm m1 kk hst ⟨ρ',a',wd',cs',g1,g2,g3,g4⟩=>⟨ρ',a',wd',cs',g1,g2,g3,g4.of_steps hst⟩) hP K' eS fC gf h8 ?_ ?_
    ops.size (wd.tape wd.drawn (.order b.fn id)) _ [] (R++S) t w ρ w.h a _ cs rfl (by simp) I0 unl kk
   · have hst:step P (lone (b.atR a (.code (.region id ops true)::kk)) cs wd) = .next (lone (b.atR a (.inRegion ops (Region.schedule (P.follows .mixedOrders) ops (wd.tape wd.drawn (.order b.fn id)))::kk)) cs { wd with drawn:=wd.drawn+1 }):=stepR_region_draw
     have ik:∀tt,Region.schedule (P.follows .mixedOrders) ops tt=Region.linearise.go .any ops ops.size tt (Array.replicate ops.size false) []:=by
      intro tt;simp only[Region.schedule,hmix,Bool.true_or,if_true];rfl
     rw[ik]at hst;obtain⟨ρ',a',wd',cs',g1,g2,g3,g4⟩:=go;exact⟨ρ',a',wd',cs',g1,g2,g3,g4.of_steps (.one hst)⟩
   · intro pre suf ts ws lst ρ1 H a1 wd1 cs1 hR I i hi gK hm
     have hdn:¬lst d.i:=λh=>by
      obtain⟨r,hr,e⟩:=I.only _ h;rw [hR]at hr;exact lH r hr e
     by_cases hid:i=d.i
     · right
       subst hid;intro is kk
       obtain⟨A,hRA,hsuf⟩:∃A,R=pre++A∧suf=A++S:=by
        rcases dh.1 hR with⟨A,e1,e2⟩|⟨A,e1,e2⟩
        · exact⟨A,e1,e2⟩
        · rcases I.last with e|⟨p,r,e3,e4⟩
          · rw[e]at e1;obtain⟨e5,e6⟩:=List.append_eq_nil_iff.1 e1.symm;subst e5 e6;exact⟨[],by rw[e];rfl,by simpa using e2.symm⟩
          · by_cases hA:A=[]
            · subst hA;exact⟨[],by simpa using e1.symm,by simpa using e2.symm⟩
            · exfalso
              have hr:r∈A:=by
               rcases List.eq_nil_or_concat A with h|⟨A',z,rfl⟩
               · exact absurd h hA
               · have e5:p++[r]=(R++A')++[z]:=by rw[← e3,e1,aN,List.concat_eq_append]
                 have e6:=List.append_inj_right' e5 rfl;injection e6 with e6
                 rw[e6];simp
              exact(kK r (by rw[e2];simp [hr])).2.1 e4
       obtain⟨tm,wm,r1,r2⟩:=uM (by have:=I.r2;rw [hsuf]at this;exact this);obtain⟨rfl,rfl⟩:=recs_det (by rw[hRA];exact tP I.r1 r1) h2
       have dY:∀q∈A,q.x.kd≠3:=by
        intro q hq h3;have gk:¬lst q.x.i:=I.sl q (by rw[hsuf];simp [hq]) h3;have hqR:q∈R:=by rw[hRA];simp [hq]
        obtain⟨n1,n2⟩:=kF q hqR;rcases K.act q.x (by rw[h1];exact bf _ (ao.2 ⟨q,hqR,rfl⟩)) d gw h3 h0 with h|h|h
        · exact n1 h
        · exact gk (hm _ h)
        · rw[n2]at h;cases h
       have g1:=I.at_act K' hsuf r1 dY;obtain⟨hO,hW⟩:=I.looksD K eS hsuf (by rw[← hRA];exact h1) r1 (λr hr=>⟨(kK r hr).1,(kK r hr).2.2.1,(kK r hr).2.2.2.1,(kK r hr).2.2.2.2⟩) hm;obtain⟨ρ',a',wd',cs',i1,i2,i3,i4,c',i5,i6⟩:=h4 _ _ _ _ _ _ _ g1 hO ops d.i is kk (K.at' _ gw) (hW.trans h3);have l8:∀q∈A,q.x.kd≠3∧q.x.kd=zQ q.x.o.op:=λq hq=>⟨dY q hq,K'.kd _ (I.mem (a6 _ (by rw[hsuf];simp [hq])))⟩;obtain⟨_,_,s4,_⟩:=seg_ok r1 l8;have hW0:w.n≤ws.n:=(wC I.r1).1
       have gr:Grow ρ w.h w.n wd (ρ1.cut wm.n) wm.h wm.n wd1:=(I.gr _ (wC r1).1).congr λb hb=>by
        have hb:b<w.n:=hb;rw [s4 b (by omega),I.hh b (by omega)]
       exact⟨ρ',a',wd',cs',⟨i1.fn,i1.kind,i1.rd,i1.rdf,.inl h5,i1.hp,i1.dr,i1.ur,i1.fnd⟩,gr.trans i3,I.cst.trans i4,_,c',i5,i6⟩
     · left
       obtain⟨x,hxL,rfl⟩:=jj i hi;rw [h1]at hxL;rcases az.1 hxL with hx|hx
       · obtain⟨r,hr,rfl⟩:=ao.1 hx;exact⟨r,bf _ hr,rfl⟩
       rcases aA.1 hx with rfl|hx
       · exact absurd rfl hid
       have mn:x∈L:=by rw[h1];simp [hx]
       obtain⟨S1,S2,hS12⟩:=aL hx;obtain⟨l1,l2⟩:=K.later (x:=d) (y:=x) (A:=R.map (·.x)) (B:=S1) (C:=S2) (by rw[h1,hS12])
       have jh:(d.un.any λi=>Nat.beq i x.i)=true:=by
        rw[hL]at gw mn;refine(hp.un gw mn h0).2 ⟨l2,l1,?_⟩
        cases hq:zS (M x.i) d.i with
        | false=>rfl
        | true=>exact absurd (hm _ hq) hdn
       have fT:x∈S.map (·.x):=by rw[h7];exact aV.2 ⟨hx,jh⟩
       obtain⟨r,hr,rfl⟩:=ao.1 fT;exact⟨r,a6 _ hr,rfl⟩
   · intro pre suf ts ws lst ρ1 H a1 wd1 cs1 hR I dZ kk;exfalso
     obtain⟨r,hr,e⟩:=I.only _ (dZ d.i hdi);rw [hR]at hr;exact lH r hr e
theorem plan_kd{ops:Array Oper}{L:List DOp}(h:plan ops=some L):∀d∈L,d.kd=zQ d.o.op:=by
 obtain⟨M,xl,S,hp,hL⟩:=plan_ok h;rw [hL];exact hp.recPlan.kd
theorem draw_ok(hP:yG ng P=true)(hmix:P.follows .mixedOrders=true):DrawOK P ng:=by
 intro lo hS id ops cx t w k hx
 have eo:(match plan ops with
  | some l=>xdraw P lo cx ops l t w [w] [] k
  | none=>false)=true:=hx
 cases eR:plan ops with
 | none=>rw [eR]at eo;cases eo
 | some L=>
  rw[eR]at eo;exact drew_ok hP hmix eR (xdraw_ok hP hS L t w [w] [] k (plan_kd eR) eo) id
end
end
section
noncomputable def heap0:List (Nat×List Value)→zB
 | []=>.lF
 | (g,vs)::r=>(heap0 r).set .dead (.cells (Tr.ofListFrom undef .lF 0 vs) vs.length 0 2) g
noncomputable def cellsB(c:Tr Value):Nat→List Value→Bool
 | _,[]=>true
 | i,v::r=>scalB (Tr.get undef c i) v && cellsB c (Nat.succ i) r
noncomputable def tabB(vs:List Value)(o:AObj):Bool:=
 match o with
 | .cells c n _ kd=>Nat.beq kd 2 && (Nat.beq n vs.length && cellsB c 0 vs)
 | _=>false
noncomputable def tabsB:List (Nat×List Value)→zB→Bool
 | [],_=>true
 | (g,vs)::r,h=>tabB vs (zF h g) && tabsB r h
def isInt:Value→Bool
 | .int _ _=>true
 | _=>false
noncomputable def tabsOK(ng:Nat)(tabs:List (Nat×List Value)):Bool:=tabs.all λp=>Nat.blt p.1 ng && p.2.all isInt
theorem cellsB_at{c:Tr Value}:∀{vs:List Value} {i j:Nat} {v:Value},cellsB c i vs=true→vs[j]? = some v→Tr.get undef c (i+j)=v:=by
 intro vs
 induction vs with
 | nil=>intro i j v _ h;simp at h
 | cons x vs ih =>
  intro i j v h hj;have h':(scalB (Tr.get undef c i) x && cellsB c (Nat.succ i) vs)=true:=h;obtain⟨h1,h2⟩:=ad.1 h'
  cases j with
  | zero=>simp at hj;subst hj;exact scalB_eq h1
  | succ j=>
   have:=ih h2 (j:=j) (v:=v) (by simpa using hj);rw [← this];congr 1;omega
theorem heap0_get{tabs:List (Nat×List Value)}{b:Nat}(h:zF (heap0 tabs) b≠.dead):∃vs,(b,vs)∈tabs∧zF (heap0 tabs) b = .cells (Tr.ofListFrom undef .lF 0 vs) vs.length 0 2:=by
 induction tabs with
 | nil=>exact absurd (Tr.get_leaf _ _) h
 | cons p r ih=>
  obtain⟨g,vs⟩:=p;have e:zF (heap0 ((g,vs)::r)) b=if g=b then .cells (Tr.ofListFrom undef .lF 0 vs) vs.length 0 2 else zF (heap0 r) b:=zH _ _ _ _
  by_cases hb:g=b
  · subst hb;exact⟨vs,by simp,by rw[e,if_pos rfl]⟩
  · rw[e,if_neg hb]at h;obtain⟨vs',h1,h2⟩:=ih h;exact⟨vs',by simp[h1],by rw[e,if_neg hb,h2]⟩
theorem tabsB_mem{h:zB}:∀{tabs:List (Nat×List Value)},tabsB tabs h=true→∀p∈tabs,tabB p.2 (zF h p.1)=true:=by
 intro tabs
 induction tabs with
 | nil=>intro _ p hp;simp at hp
 | cons q r ih=>
  intro hB p hp;have h':(tabB q.2 (zF h q.1) && tabsB r h)=true:=hB;obtain⟨h1,h2⟩:=ad.1 h';rcases aA.1 hp with rfl|hp
  · exact h1
  · exact ih h2 p hp
section
variable {P:Program} {ng:Nat}
theorem tab_obj{ρ ρ':Inj}{base base':Nat}{B:Bl}{vs:List Value}{o:AObj}{o':Obj}(hi:vs.all isInt=true)(ht:tabB vs o=true)(h:ObjR P ng ρ base B o o') :
 ObjR P ng ρ' base' B (.cells (Tr.ofListFrom undef .lF 0 vs) vs.length 0 2) o':=by
 cases h with
 | cells hn hs hk hz hv hb hf=>
  rename_i c n z kd c' el lo fy;have ht':(Nat.beq kd 2 && (Nat.beq n vs.length && cellsB c 0 vs))=true:=ht;obtain⟨t1,t2⟩:=ad.1 ht';obtain⟨t2,t3⟩:=ad.1 t2;obtain rfl:=zE t1;obtain rfl:=zE t2;refine .cells hn hs (λ_=>hk (by omega)) ⟨λh=>by omega,λh=>by omega⟩ (λi v' fc e=>?_) (λh=>absurd rfl h) (λh=>absurd rfl h);rw [Tr.get_ofListFrom,if_pos (by omega)];have e1:vs[i]? = some (vs.getD (i - 0) undef):=by simp[aa fc]
  have e2:=cellsB_at t3 e1;rw [aG]at e2;have r:=hv i v' fc e;rw [e2]at r;have fA:=ay.1 hi _ (aj.2 ⟨i,e1⟩);generalize vs.getD (i - 0) undef=x at r fA
  cases x <;> first|(cases fA;done)|skip
  rw[r.of_int];exact .int _ _
 | map=>cases ht
 | loop=>cases ht
 | siter0=>cases ht
 | siter=>cases ht
 | ready=>cases ht
 | taken=>cases ht
 | rows=>cases ht
theorem HeapR.fresh{ρ : Inj}{base:Nat}{w0:World}{h:zB}{n:Nat}{wd:World}(r:HeapR P ng ρ base w0 h n wd){tabs:List (Nat×List Value)}(hok:tabsOK ng tabs=true)(ht:tabsB tabs h=true) :
 HeapR P ng (ρ.cut ng) wd.heap.size wd (heap0 tabs) ng wd:=by
 have dZ:=ay.1 hok;refine⟨λb hb=>cut_ge hb,?_,?_,Go.RowKit.Below.refl _ _,ae _,?_,ae _⟩
 · intro b B e hl;obtain⟨_,e⟩:=wJ e;obtain⟨vs,h1,h2⟩:=heap0_get hl;have hb:=tabsB_mem ht _ h1
   have eh:zF h b≠.dead:=λhd=>by
    dsimp only at hb;rw [hd]at hb;cases hb
   obtain⟨o,q1,q2⟩:=r.obj b B e eh;have hi:=(ad.1 (dZ _ h1)).2;exact⟨o,q1,by rw[h2];exact tab_obj hi hb q2⟩
 · intro a b A B ea eb la lb hab;obtain⟨_,ea⟩:=wJ ea;obtain⟨_,eb⟩:=wJ eb;obtain⟨va,h1,_⟩:=heap0_get la;obtain⟨vb,h2,_⟩:=heap0_get lb;have ha:=tabsB_mem ht _ h1;have hb:=tabsB_mem ht _ h2;exact r.inj a b A B ea eb (λhd=>by dsimp only at ha;rw [hd]at ha;cases ha) (λhd=>by dsimp only at hb;rw [hd]at hb;cases hb) hab
 · intro g hg;obtain⟨B,e1,e2⟩:=r.glob g hg;exact⟨B,by rw[xI hg];exact e1,e2⟩
theorem HeapR.stay{ρ : Inj}{base:Nat}{w0:World}{h:zB}{n:Nat}{wd wd':World}(r:HeapR P ng ρ base w0 h n wd)(hb:Go.RowKit.Below wd.heap.size wd wd'):HeapR P ng ρ base w0 h n wd'∧Grow ρ h n wd ρ h n wd':=by
 have dV:∀{c:Nat} {o:Obj},wd.heap[c]? = some o→c<wd.heap.size:=by
  intro c o e;rcases aw c wd.heap.size with h3|h3
  · exact h3
  · rw[aQ h3]at e;cases e
 refine⟨⟨r.dom,λb B e hl=>?_,r.inj,r.below.trans ⟨hb.os,hb.tape,hb.output,hb.size,λk hk=>hb.block k (by have:=r.size;omega)⟩,by have:=hb.size;have:=r.size;omega,r.glob,r.ngn⟩,⟨ae _,λ_ _=>rfl,λb B h1 e=>(by rw[r.dom b h1]at e;cases e),λc hc _=>hb.block c hc,hb.size,λ_ _ e=>e,hb.tape⟩⟩;obtain⟨o,q1,q2⟩:=r.obj b B e hl;exact⟨o,by rw[hb.block _ (dV q1)];exact q1,q2⟩
noncomputable def finV(v:Value):KO:=λo _ _ _=>Out.rec (λx=>scalB x v) (λ_=>false) o
theorem finV_ret{v:Value}{o:Out}{u:Option zI}{h:zB}{n:Nat}(hf:finV v o u h n=true):o = .ret v:=by
 cases o with
 | ret x=>rw [scalB_eq (v:=x) (v':=v) hf]
 | panic c=>cases hf
theorem plains{args:List Value}(h:args.all uV=true)(ρ : Inj):RVs ρ args args:=
 ⟨rfl,λi v v' e e'=>by
  rw[e]at e';injection e' with e';subst e'
  exact RV.plain (ay.1 h v (aj.2 ⟨i,e⟩)) ρ⟩
theorem hook_of_run{lo:Lo}(hS:Sound P ng lo){f:FuncId}{args:List Value}{v:Value}{tabs:List (Nat×List Value)}(hok:tabsOK ng tabs=true)(fA:args.all isInt=true)(hv:isInt v=true∨∃b,v = .bool b)
(hx:lo.call f args false none (heap0 tabs) ng (finV v)=true){h:zB}(ht:tabsB tabs h=true)(u:Option zI)(n:Nat):CallTo P ng f args false u h n (.ret v) u h n:=by
 obtain⟨o,u',h',n',hk,hfn,hc⟩:=hS.call _ _ _ _ _ _ _ hx;obtain rfl:=finV_ret hk;refine⟨hfn,fun ρ base w0 wd args' cs hH ha hu=>?_⟩
 have eR:args'=args:=by
  apply cV;intro i
  cases e:args[i]? with
  | none=>
   have:=List.getElem?_eq_none_iff.1 e;exact an (by rw[← ha.1];exact this)
  | some x=>
   obtain⟨x',e1,e2⟩:=ha.at e;have:=ay.1 fA x (aj.2 ⟨i,e⟩);cases x <;> first|(cases this;done)|skip
   rw[e1,e2.of_int]
 subst eR
 have hpa:args'.all uV=true:=by
  rw[ay]at fA ⊢;intro x hx;have:=fA x hx;cases x <;> first|(cases this;done)|rfl
 obtain⟨ρ',wd',fr,cs',s1,s2,s3,s4,s5,s6,s7⟩:=hc (ρ.cut ng) wd.heap.size wd wd args' cs (hH.fresh hok ht) (plains hpa _) (λe=>by cases e)
 have eX:cs'=cs:=by
  rcases s4 with e|⟨e,_⟩
  · exact e
  · cases e
 subst eX;obtain⟨k1,k2⟩:=hH.stay s2.below;refine⟨ρ,wd',fr,cs',s1,k1,k2,CsTo.refl _ _,(λe=>Bool.noConfusion e),s6,?_⟩;obtain⟨v',y1,y2,y3,y4,y5⟩:=s7;refine⟨v',y1,y2,y3,y4,?_⟩;rcases hv with hv|⟨b,rfl⟩
 · cases v <;> first|(cases hv;done)|skip
   rw[y5.of_int];exact .int _ _
 · rw[y5.of_bool];exact .bool _
def rT(w:World)(tabs:List (Nat×List Value)):Prop:=∀p∈tabs,∃el fr,w.heap[p.1]? = some (.cells ⟨p.2⟩ el fr)
end
end
section
section
variable {P:Program} {ng:Nat}
noncomputable def xJ(p:Prop):Bool:=@decide p (Classical.propDecidable p)
theorem isSo_iff{p:Prop}:xJ p=true↔p:=@decide_eq_true_iff p (Classical.propDecidable p)
theorem args0_eq{t:Fr}{i:Nat}{l:List Value}{k:Fr→Bool}:args0 t i l k=k (Tr.ofListFrom undef t i l):=by
 induction l generalizing t i with
 | nil=>rfl
 | cons v r ih=>
  show(xM v λv=>fsetK t i v λt=>args0 t (Nat.succ i) r k)=_;rw [yH];unfold fsetK;rw [Tr.setK_eq,ih];rfl
noncomputable def loS(P:Program)(ng:Nat):Lo where
 code c cx t w k:=xJ (∃x t' w',k x t' w'=true∧CodeTo P ng c cx t w x t' w')
 call f args df u h n k:=xJ (∃o u' h' n',k o u' h' n'=true∧CallTo P ng f args df u h n o u' h' n')
 round l args h n k:=xJ (∃o h' n',k o h' n'=true∧RoundTo P ng l args h n o h' n')
 leave fn mode t w k:=xJ (∃o u' h' n',k o u' h' n'=true∧LeaveTo P ng fn mode t w o u' h' n')
theorem loS_code{c:Code}{cx:Cx}{t:Fr}{w:W}{k:KX}:(loS P ng).code c cx t w k=true↔∃x t' w',k x t' w'=true∧CodeTo P ng c cx t w x t' w':=by
 unfold loS;exact isSo_iff
theorem loS_call{f:FuncId}{args:List Value}{df:Bool}{u:Option zI}{h:zB}{n:Nat}{k:KO}:(loS P ng).call f args df u h n k=true↔∃o u' h' n',k o u' h' n'=true∧CallTo P ng f args df u h n o u' h' n':=by
 unfold loS;exact isSo_iff
theorem loS_round{l:Nat}{args:List Value}{h:zB}{n:Nat}{k:Out→zB→Nat→Bool}:(loS P ng).round l args h n k=true↔∃o h' n',k o h' n'=true∧RoundTo P ng l args h n o h' n':=by
 unfold loS;exact isSo_iff
theorem loS_leave{fn:Func}{mode:Option zI}{t:Fr}{w:W}{k:KO}:(loS P ng).leave fn mode t w k=true↔∃o u' h' n',k o u' h' n'=true∧LeaveTo P ng fn mode t w o u' h' n':=by
 unfold loS;exact isSo_iff
theorem rU:Sound P ng (loS P ng) where
  code _ _ _ _ _ h:=loS_code.1 h
  call _ _ _ _ _ _ _ h:=loS_call.1 h
  round _ _ _ _ _ h:=loS_round.1 h
  leave _ _ _ _ _ h:=loS_leave.1 h
 class Fit (P:Program) (ng:Nat):Prop where
  ok:yG ng P=true
  mix:P.follows .mixedOrders=true
theorem sound_one[F:Fit P ng]:Sound P ng (Lo.next P (loS P ng)):=sound_next (draw_ok F.ok F.mix) F.ok rU
noncomputable def FA(l:List (Nat×Value))(t:Fr):Fr:=match l with
 | []=>t
 | p::r=>Tr.set undef p.2 (FA r t) p.1
noncomputable def lk(l:List (Nat×Value))(t:Fr)(i:Nat):Value:=match l with
 | []=>fget t i
 | p::r=>bif Nat.beq p.1 i then p.2 else lk r t i
theorem fget_FA(l:List (Nat×Value))(t:Fr)(i:Nat):fget (FA l t) i=lk l t i:=by
 induction l with
 | nil=>rfl
 | cons p r ih=>
  unfold FA lk fget;rw [Tr.get_set_if];by_cases h:p.1=i
  · rw[if_pos h,h,aB];rfl
  · have:Nat.beq p.1 i=false:=by
     cases e:Nat.beq p.1 i with
     | false=>rfl
     | true=>exact absurd (dC e) h
    rw[if_neg h,this];exact ih
noncomputable def evb(l:List (Nat×Value))(t:Fr)(x:Operand):Value:=match x with
 | .tmp i=>lk l t i
 | .const v=>v
 | .global g=>.pointer (some ⟨g,0,none⟩)
 | .func f=>.func (.func f) #[] #[]
theorem yM(l:List (Nat×Value))(t:Fr)(x:Operand):ev (FA l t) x=evb l t x:=by
 cases x with
 | tmp i=>exact fget_FA l t i
 | _=>rfl
noncomputable def evs(l:List (Nat×Value))(t:Fr):List Operand→List Value
 | []=>[]
 | x::r=>evb l t x::evs l t r
theorem evs_FA(l:List (Nat×Value))(t:Fr)(xs:List Operand):xs.map (ev (FA l t))=evs l t xs:=by
 induction xs with
 | nil=>rfl
 | cons x r ih=>rw [bE,ih,yM];rfl
theorem fset_FA(l:List (Nat×Value))(t:Fr)(d:Nat)(v:Value)(k:Fr→Bool):fsetK (FA l t) d v k=k (FA ((d,v)::l) t):=by
 unfold fsetK;rw [Tr.setK_eq];rfl
abbrev QX:=AX→Fr→W→Prop
def WC(P:Program)(ng:Nat)(c:Code)(cx:Cx)(t:Fr)(w:W)(Q:QX):Prop:=∃x t' w',Q x t' w'∧CodeTo P ng c cx t w x t' w'
theorem WC.mono{c:Code}{cx:Cx}{t:Fr}{w:W}{Q Q':QX}(h:WC P ng c cx t w Q)(hq:∀x t' w',Q x t' w'→Q' x t' w'):WC P ng c cx t w Q':=by
 obtain⟨x,t',w',q,r⟩:=h;exact⟨x,t',w',hq _ _ _ q,r⟩
noncomputable def soK(Q:QX):KX:=λx t w=>xJ (Q x t w)
theorem WC.lo{c:Code}{cx:Cx}{t:Fr}{w:W}{Q:QX}:(loS P ng).code c cx t w (soK Q)=true↔WC P ng c cx t w Q:=by
 rw[loS_code];constructor
 · rintro ⟨x,t',w',q,r⟩;exact⟨x,t',w',isSo_iff.1 q,r⟩
 · rintro ⟨x,t',w',q,r⟩;exact⟨x,t',w',isSo_iff.2 q,r⟩
theorem wc_of[Fit P ng]{c:Code}{cx:Cx}{t:Fr}{w:W}{Q:QX}(h:xcode P (loS P ng) c cx t w (soK Q)=true):WC P ng c cx t w Q:=by
 obtain⟨x,t',w',q,r⟩:=sound_one.code c cx t w _ h;exact⟨x,t',w',isSo_iff.1 q,r⟩
def seqQ(P:Program)(ng:Nat)(b:Code)(cx:Cx)(Q:QX):QX:=λx t w=>match x with
 | .normal=>WC P ng b cx t w Q
 | x=>Q x t w
def blkQ(id:Nat)(Q:QX):QX:=λx t w=>match x with
 | .exit i=>bif Nat.beq i id then Q .normal t w else Q (.exit i) t w
 | x=>Q x t w
def scpQ(Q:QX):QX:=λx t w=>match x with
 | .goto _=>False
 | x=>Q x t w
theorem wc_seq{a b:Code}{cx:Cx}{t:Fr}{w:W}{Q:QX}(h:WC P ng a cx t w (seqQ P ng b cx Q)):WC P ng (.seq a b) cx t w Q:=by
 obtain⟨x,t1,w1,hk,h1⟩:=h;have ok:∀{N},yV ng N (.seq a b)=true→yV ng N a=true∧yV ng N b=true:=λh=>ad.1 h
 have pass:x≠.normal→CodeTo P ng (.seq a b) cx t w x t1 w1:=λhx hc fr k=>
  zN (λ_ _ _=>stepR_seq) ((h1 (ok hc).1 fr (.code b::k)).pass hx (λ_ _=>rfl) (λ_ _=>rfl))
 cases x with
 | normal=>
  obtain⟨x2,t2,w2,hk2,h2⟩:=hk;exact⟨x2,t2,w2,hk2,λhc fr k=>zN (λ_ _ _=>stepR_seq) ((h1 (ok hc).1 fr (.code b::k)).trans (h2 (ok hc).2 fr k))⟩
 | exit i=>exact⟨_,t1,w1,hk,pass AX.noConfusion⟩
 | goto i=>exact⟨_,t1,w1,hk,pass AX.noConfusion⟩
 | ret=>exact⟨_,t1,w1,hk,pass AX.noConfusion⟩
 | panic c=>exact⟨_,t1,w1,hk,pass AX.noConfusion⟩
theorem wc_cond{c:Operand}{a b:Code}{cx:Cx}{t:Fr}{w:W}{Q:QX}{q:Bool}(hq:ev t c = .bool q)(h:WC P ng (if q then a else b) cx t w Q):WC P ng (.cond c a b) cx t w Q:=by
 obtain⟨x,t',w',hk,hc⟩:=h;refine⟨x,t',w',hk,?_⟩;intro hok fr k ρ base w0 ac wd cs hI;obtain⟨o1,o2⟩:=ad.1 hok;obtain⟨o2,o3⟩:=ad.1 o2;have hr:=ev_rv hI.hp hI.tm o1;rw [hq]at hr;have hr:=hr.of_bool;obtain⟨ρ',a',wd',cs',h1,h2,h3,h4⟩:=hc (by cases q <;> assumption) fr k ρ base w0 ac wd cs hI;exact⟨ρ',a',wd',cs',h1,h2,h3,h4.of_steps (.one (stepR_cond hr))⟩
theorem wc_block{id:Nat}{b:Code}{cx:Cx}{t:Fr}{w:W}{Q:QX}(h:WC P ng b cx t w (blkQ id Q)):WC P ng (.block id b) cx t w Q:=by
 obtain⟨x,t1,w1,hk,h1⟩:=h;have ok:∀{N},yV ng N (.block id b)=true→yV ng N b=true:=λh=>h
 have pass:x≠.normal→(∀i,x = .exit i→i≠id)→CodeTo P ng (.block id b) cx t w x t1 w1:=λhx hi hc fr k=>
  zN (λ_ _ _=>stepR_block) ((h1 (ok hc) fr (.inBlock id::k)).pass hx (λi e=>by
   have:(id == i)=false:=by simpa using λe2=>hi i e e2.symm
   simp[exitTo,this]) (λ_ _=>rfl))
 cases x with
 | normal=>exact⟨.normal,t1,w1,hk,λhc fr k=>zN (λ_ _ _=>stepR_block) ((h1 (ok hc) fr (.inBlock id::k)).trans (zN (λ_ _ _=>stepR_inBlock) (wU fr k cx t1 w1)))⟩
 | exit i =>
  have eM:bif Nat.beq i id then Q .normal t1 w1 else Q (.exit i) t1 w1:=hk
  cases hi:Nat.beq i id with
  | true=>
   rw[hi]at eM;obtain rfl:=zE hi;exact⟨.normal,t1,w1,eM,λhc fr k=>zN (λ_ _ _=>stepR_block) (leads_block (h1 (ok hc) fr (.inBlock i::k)))⟩
  | false =>
   rw[hi]at eM
   exact⟨_,t1,w1,eM,pass AX.noConfusion λj e e2=>by
    injection e with e
    subst e e2;rw [aB]at hi;cases hi⟩
 | goto i=>exact⟨_,t1,w1,hk,pass AX.noConfusion λ_ e=>by cases e⟩
 | ret=>exact⟨_,t1,w1,hk,pass AX.noConfusion λ_ e=>by cases e⟩
 | panic c=>exact⟨_,t1,w1,hk,pass AX.noConfusion λ_ e=>by cases e⟩
def rndQ(P:Program)(ng:Nat)(b:Code)(cx:Cx)(Q:QX):QX:=λx t w=>match x with
 | .normal=>WC P ng (.loop b) cx t w Q
 | x=>Q x t w
theorem wc_loop1{b:Code}{cx:Cx}{t:Fr}{w:W}{Q:QX}(h:WC P ng b cx t w (rndQ P ng b cx Q)):WC P ng (.loop b) cx t w Q:=by
 obtain⟨x,t1,w1,hk,h1⟩:=h
 have pass:x≠.normal→CodeTo P ng (.loop b) cx t w x t1 w1:=λhx hc fr k=>
  zN (λ_ _ _=>stepR_loop) ((h1 hc fr (.inLoop b::k)).pass hx (λ_ _=>rfl) (λ_ _=>rfl))
 cases x with
 | normal =>
  obtain⟨x2,t2,w2,hk2,h2⟩:=hk
  exact⟨x2,t2,w2,hk2,λhc fr k=>zN (λ_ _ _=>stepR_loop)
   ((h1 hc fr (.inLoop b::k)).trans (zN (λ_ _ _=>stepR_inLoop) (leads_unloop (h2 hc fr k))))⟩
 | exit i=>exact⟨_,t1,w1,hk,pass AX.noConfusion⟩
 | goto i=>exact⟨_,t1,w1,hk,pass AX.noConfusion⟩
 | ret=>exact⟨_,t1,w1,hk,pass AX.noConfusion⟩
 | panic c=>exact⟨_,t1,w1,hk,pass AX.noConfusion⟩
theorem wc_scope{b:Code}{cx:Cx}{t:Fr}{w:W}{Q:QX}(h:WC P ng b cx t w (scpQ Q)):WC P ng (.scope b) cx t w Q:=by
 obtain⟨x,t1,w1,hk,h1⟩:=h
 have pass:x≠.normal→(∀l,x≠.goto l)→CodeTo P ng (.scope b) cx t w x t1 w1:=λhx hg hc fr k=>
  zN (λ_ _ _=>stepR_scope) ((h1 hc fr (.inScope b::k)).pass hx (λ_ _=>rfl) (λl e=>absurd e (hg l)))
 cases x with
 | normal=>exact⟨.normal,t1,w1,hk,λhc fr k=>zN (λ_ _ _=>stepR_scope) ((h1 hc fr (.inScope b::k)).trans (zN (λ_ _ _=>stepR_inScope) (wU fr k cx t1 w1)))⟩
 | exit i=>exact⟨_,t1,w1,hk,pass AX.noConfusion λ_=>AX.noConfusion⟩
 | goto i=>exact hk.elim
 | ret=>exact⟨_,t1,w1,hk,pass AX.noConfusion λ_=>AX.noConfusion⟩
 | panic c=>exact⟨_,t1,w1,hk,pass AX.noConfusion λ_=>AX.noConfusion⟩
theorem wc_skip{cx:Cx}{t:Fr}{w:W}{Q:QX}(h:Q .normal t w):WC P ng .skip cx t w Q:=⟨.normal,t,w,h,λ_ b k=>zN (λ_ _ _=>stepR_skip) (wU b k cx t w)⟩
theorem wc_label{l:Nat}{cx:Cx}{t:Fr}{w:W}{Q:QX}(h:Q .normal t w):WC P ng (.label l) cx t w Q:=⟨.normal,t,w,h,λ_ b k=>zN (λ_ _ _=>stepR_label) (wU b k cx t w)⟩
theorem wc_exit[Fit P ng]{id:Nat}{cx:Cx}{t:Fr}{w:W}{Q:QX}(h:Q (.exit id) t w):WC P ng (.exit id) cx t w Q:=wc_of (isSo_iff.2 h)
theorem wc_ret[Fit P ng]{cx:Cx}{t:Fr}{w:W}{Q:QX}(h:Q .ret t w):WC P ng .ret cx t w Q:=wc_of (isSo_iff.2 h)
theorem wc_loop{b:Code}{cx:Cx}{Q:QX}{α : Type}(I: α→Fr→W→Prop)(m: α→Nat)
(step:∀a t w,I a t w→WC P ng b cx t w λx t' w'=>match x with
  | .normal=>∃a',m a'<m a∧I a' t' w'
  | x=>Q x t' w'):∀a t w,I a t w→WC P ng (.loop b) cx t w Q:=by
 intro a;generalize hm:m a=k
 induction k using Nat.strongRecOn generalizing a with
 | _ k ih =>
  intro t w hI;refine wc_loop1 ((step a t w hI).mono λx t' w' q=>?_)
  cases x with
  | normal=>
   obtain⟨a',h1,h2⟩:=q;exact ih (m a') (hm ▸ h1) a' rfl t' w' h2
  | exit i=>exact q
  | goto i=>exact q
  | ret=>exact q
  | panic c=>exact q
def WO(P:Program)(ng:Nat)(all:Array Oper)(l:List Oper)(cx:Cx)(t:Fr)(w:W)(Q:QX):Prop:=xops P (loS P ng) cx all l t w (soK Q)=true
theorem wc_region[Fit P ng]{id:Nat}{ops:Array Oper}{cx:Cx}{t:Fr}{w:W}{Q:QX}(h:WO P ng ops ops.toList cx t w Q):WC P ng (.region id ops false) cx t w Q:=wc_of h
theorem wo_nil{all:Array Oper}{cx:Cx}{t:Fr}{w:W}{Q:QX}(h:Q .normal t w):WO P ng all [] cx t w Q:=isSo_iff.2 h
theorem putT_some(t:Fr)(d:Nat)(v:Value)(k:Fr→Bool):putT t (some d) v k=fsetK t d v k:=rfl
theorem wo_quiet{all:Array Oper}{op:Op}{d:Option Nat}{ty:TypeId}{pos:String}{af:Array Edge}{r:List Oper}{cx:Cx}{t:Fr}{w:W}{Q:QX}{v:Value}(hq:xN op P t w.h=some v)
(h:putT t d v (λt=>xops P (loS P ng) cx all r t w (soK Q))=true):WO P ng all (⟨d,op,ty,pos,af,none⟩::r) cx t w Q:=by
 show(Option.rec (eff op P (loS P ng) cx t w (λw v=>putT t d v λt=>xops P (loS P ng) cx all r t w (soK Q)) λc w=>soK Q (.panic c) t w) (λv=>putT t d v λt=>xops P (loS P ng) cx all r t w (soK Q)) (xN op P t w.h):Bool)=true;rw [hq];exact h
theorem wo_eff{all:Array Oper}{op:Op}{d:Option Nat}{ty:TypeId}{pos:String}{af:Array Edge}{r:List Oper}{cx:Cx}{t:Fr}{w:W}{Q:QX}(hq:xN op P t w.h=none)
(h:eff op P (loS P ng) cx t w (λw v=>putT t d v λt=>xops P (loS P ng) cx all r t w (soK Q)) (λc w=>soK Q (.panic c) t w)=true):WO P ng all (⟨d,op,ty,pos,af,none⟩::r) cx t w Q:=by
 show(Option.rec (eff op P (loS P ng) cx t w (λw v=>putT t d v λt=>xops P (loS P ng) cx all r t w (soK Q)) λc w=>soK Q (.panic c) t w) (λv=>putT t d v λt=>xops P (loS P ng) cx all r t w (soK Q)) (xN op P t w.h):Bool)=true;rw [hq];exact h
theorem wo_on{all:Array Oper}{op:Op}{d:Option Nat}{ty:TypeId}{pos:String}{af:Array Edge}{g:Nat×Bool}{r:List Oper}{cx:Cx}{t:Fr}{w:W}{Q:QX}(hg:wanted all t (some g)=true)
(h:WO P ng all (⟨d,op,ty,pos,af,none⟩::r) cx t w Q):WO P ng all (⟨d,op,ty,pos,af,some g⟩::r) cx t w Q:=by
 have h':(Option.rec (eff op P (loS P ng) cx t w (λw v=>putT t d v λt=>xops P (loS P ng) cx all r t w (soK Q)) λc w=>soK Q (.panic c) t w) (λv=>putT t d v λt=>xops P (loS P ng) cx all r t w (soK Q)) (xN op P t w.h):Bool)=true:=h;show(Bool.rec (putT t d undef λt=>xops P (loS P ng) cx all r t w (soK Q)) (Option.rec (eff op P (loS P ng) cx t w (λw v=>putT t d v λt=>xops P (loS P ng) cx all r t w (soK Q)) λc w=>soK Q (.panic c) t w) (λv=>putT t d v λt=>xops P (loS P ng) cx all r t w (soK Q)) (xN op P t w.h)) (wanted all t (some g)):Bool)=true;rw [hg];exact h'
theorem wo_off{all:Array Oper}{op:Op}{d:Option Nat}{ty:TypeId}{pos:String}{af:Array Edge}{g:Nat×Bool}{r:List Oper}{cx:Cx}{t:Fr}{w:W}{Q:QX}(hg:wanted all t (some g)=false)
(h:putT t d undef (λt=>xops P (loS P ng) cx all r t w (soK Q))=true):WO P ng all (⟨d,op,ty,pos,af,some g⟩::r) cx t w Q:=by
 show(Bool.rec (putT t d undef λt=>xops P (loS P ng) cx all r t w (soK Q)) (Option.rec (eff op P (loS P ng) cx t w (λw v=>putT t d v λt=>xops P (loS P ng) cx all r t w (soK Q)) λc w=>soK Q (.panic c) t w) (λv=>putT t d v λt=>xops P (loS P ng) cx all r t w (soK Q)) (xN op P t w.h)) (wanted all t (some g)):Bool)=true;rw [hg];exact h
end
end
section
noncomputable def qLoad(P:Program)(ty:TypeId)(h:zB)(v:Value):Option Value:=
 onPtr v (λb off=>onRows (zF h b) (λc kn=>
  Sh.rec none (Bool.rec none (xM (Tr.get undef c off) some) (Nat.blt off kn))
   (λsz=>Bool.rec none (some (.agg ⟨c.toListFrom undef off sz⟩)) (Nat.ble (Nat.add off sz) kn)) (yJ P ty)) (λc kn=>
  Sh.rec none (Bool.rec none (rK (Tr.get undef c off)) (Nat.blt off kn))
   (λsz=>Bool.rec none (rL (c.toListFrom undef off sz)) (Nat.ble (Nat.add off sz) kn)) (yJ P ty)) none) none
def qNil(v:Value):Option Value:=
 match v with
 | .pointer (some p)=>some (.pointer (some p))
 | .func (.func f) fs cs=>some (.func (.func f) fs cs)
 | .func (.yield f) fs cs=>some (.func (.yield f) fs cs)
 | .map r=>some (.map r)
 | .slice p i c=>some (.slice p i c)
 | _=>none
section
variable {P:Program} {ng:Nat}
theorem RV.back{ρ ρ':Inj}(ha:∀b B,ρ b=some B→ρ' b = ρ b){v x:Value}(r:RV ρ v x):∀{v'},RV ρ' v v'→RV ρ v v':=by
 induction r with
 | bool b=>intro v' h;cases h;exact .bool b
 | int k n=>intro v' h;cases h;exact .int k n
 | float k n=>intro v' h;cases h;exact .float k n
 | complex k n m=>intro v' h;cases h;exact .complex k n m
 | string s=>intro v' h;cases h;exact .string s
 | nilPtr=>intro v' h;cases h;exact .nilPtr
 | ptr e=>intro v' h;cases h with
  | ptr e'=>rw [ha _ _ e]at e';exact .ptr e'
 | nilSlice l c e=>intro v' h;cases h with
  | nilSlice _ _ e'=>exact .nilSlice l c e'
 | slice e hc hl ho=>intro v' h;cases h with
  | slice e' eS fQ fP=>rw [ha _ _ e]at e';exact .slice e' eS fQ fP
  | slice0 e' a'=>rw [ha _ _ e]at e';exact .slice0 e' a'
  | opened e' fQ fP=>exact absurd rfl hc
 | slice0 e a=>intro v' h;cases h with
  | slice e' eS fQ fP=>exact .slice0 e _
  | slice0 e' a'=>exact .slice0 e a'
 | opened e hl ho=>intro v' h;cases h with
  | slice e' eS fQ fP=>exact absurd rfl eS
  | opened e' fQ fP=>rw [ha _ _ e]at e';exact .opened e' fQ fP
 | nilMap=>intro v' h;cases h;exact .nilMap
 | map e=>intro v' h;cases h with
  | map e'=>rw [ha _ _ e]at e';exact .map e'
 | func hy hf hc f1 c1 f2 c2 => intro v' h; cases h with
  | func hy' hf' eS f1' c1'=>
   refine .func hy' hf' eS (λi w w' a b=>?_) (λi w w' a b=>?_)
   · obtain⟨w0,gt⟩:∃w0,(_:List Value)[i]? = some w0:=⟨_,aa (hf ▸ (ab.1 a).1)⟩;exact f2 i w w0 a gt (f1' i w w' a b)
   · obtain⟨w0,gt⟩:∃w0,(_:List Value)[i]? = some w0:=⟨_,aa (hc ▸ (ab.1 a).1)⟩;exact c2 i w w0 a gt (c1' i w w' a b)
  | yield e=>exact absurd rfl (hy _)
 | yield e=>intro v' h;cases h with
  | func hy' hf' eS f1' c1'=>exact absurd rfl (hy' _)
  | yield e'=>rw [ha _ _ e]at e';exact .yield e'
 | nilFunc=>intro v' h;cases h;exact .nilFunc
 | iface r ih=>intro v' h;cases h with
  | iface r'=>exact .iface (ih r')
 | nilIface=>intro v' h;cases h;exact .nilIface
 | agg hc c1 ih => intro v' h; cases h with
  | agg eS c1'=>
   refine .agg eS λi w w' a b=>?_;obtain⟨w0,gt⟩:∃w0,(_:List Value)[i]? = some w0:=⟨_,aa (hc ▸ (ab.1 a).1)⟩;exact ih i w w0 a gt (c1' i w w' a b)
 | tuple hc c1 ih => intro v' h; cases h with
  | tuple eS c1'=>
   refine .tuple eS λi w w' a b=>?_;obtain⟨w0,gt⟩:∃w0,(_:List Value)[i]? = some w0:=⟨_,aa (hc ▸ (ab.1 a).1)⟩;exact ih i w w0 a gt (c1' i w w' a b)
theorem ObjR.back{ρ ρ':Inj}(ha:∀b B,ρ b=some B→ρ' b = ρ b){base:Nat}{B:Bl}{o:AObj}{o0 o':Obj}(r0:ObjR P ng ρ base B o o0)(r:ObjR P ng ρ' base B o o'):ObjR P ng ρ base B o o':=by
 cases r with
 | cells hn hs hk hz hv hb hf =>
  rename_i c n z kd c' el lo hi
  cases r0 with
  | cells gh hs0 hk0 hz0 lL fF hf0=>
   rename_i c0 el0 lo0 hi0;refine .cells hn hs hk hz (λi v' fc e=>?_) hb hf;have dV:i<c0.size:=by rw[hs0];omega
   exact(lL i _ fc (aC dV)).back ha (hv i v' fc e)
 | map he hb =>
  cases r0 with
  | map kH fF=>
   rename_i es es' clock es0;refine .map ⟨he.1,λi e e' a b=>?_⟩ hb;obtain⟨e0,gt⟩:∃e0,es0[i]? = some e0:=⟨_,aa (kH.1 ▸ (ab.1 a).1)⟩;obtain⟨k1,k2,k3⟩:=he.2 i e e' a b;obtain⟨q1,q2,q3⟩:=kH.2 i e e0 a gt;exact⟨k1,q2.back ha k2,k3⟩
 | siter0 hb=>exact .siter0 hb
 | siter hm hb => cases r0 with
  | siter fx fF=>
   rw[ha _ _ fx]at hm;exact .siter hm hb
 | loop h1 h2 h3 h4 h5 h6 h7 h8 h9 ft h11 h12 hb =>
  cases r0 with
  | loop g1 g2 g3 g4 g5 g6 g7 g8 g9 g10 g11 g12 gb =>
   rename_i l l' t l0;obtain⟨D,e1,e2⟩:=h7;obtain⟨D0,e3,e4⟩:=g7;rw [ha _ _ e3]at e1;refine .loop h1 h2 h3 h4 h5 h6 ⟨D,e1,e2⟩ ⟨h8.sz,λi v e=>?_⟩ h9 ft h11 h12 hb
   have dV:i<l0.tmps.size:=by
    have:=g8.sz;have h8s:=h8.sz;have:i<l'.tmps.size:=(bI.1 e).1;omega
   exact(g8.tm i _ (aC dV)).back ha (h8.tm i v e)
 | ready hb=>exact .ready hb
 | taken hb=>exact .taken hb
 | rows hn hv =>
  rename_i c n c' el fr
  cases r0 with
  | rows gh lL=>
   rename_i c0 el0 fr0;refine .rows hn (λi v' e hu=>?_);have dV:i<c0.size:=by have:=(bI.1 e).1;omega
   exact(lL i _ (aC dV) hu).back ha (hv i v' e hu)
def xU:Value→Bool
 | .int _ _ | .bool _ | .string _ | .nilIface | .nilFunc=>true
 | _=>false
theorem RV.scal{ρ ρ':Inj}{v v':Value}(hv:xU v=true)(r:RV ρ v v'):RV ρ' v v':=by
 cases r <;> first|(cases hv;done)|skip
 · exact .bool _
 · exact .int _ _
 · exact .string _
 · exact .nilFunc
 · exact .nilIface
theorem RV.scals{ρ ρ':Inj}{v v':Value}(hv:xU v=true∨∃l:List Value,v = .tuple ⟨l⟩∧l.all xU=true)(r:RV ρ v v'):RV ρ' v v':=by
 rcases hv with hv|⟨l,rfl,hl⟩
 · exact r.scal hv
 · cases r with
   | tuple hc c1=>exact .tuple hc λi w w' a b=>(c1 i w w' a b).scal (ay.1 hl w (aj.2 ⟨i,a⟩))
end
noncomputable def xR(o:AObj)(i:Nat):Option Value:=match o with
 | .cells c n _ _=>if i<n then some (Tr.get undef c i) else none
 | .rows c n=>if i<n∧isU (Tr.get undef c i)=false then some (Tr.get undef c i) else none
 | _=>none
def yZ(o:AObj):Option (Nat×Nat×Nat):=match o with
 | .cells _ n z kd=>some (n,z,kd)
 | .rows _ n=>some (n,0,3)
 | _=>none
theorem kd_of{a b c a' b' c':Nat}(h:some (a,b,c)=some (a',b',c')):c=c':=by injection h with h;injection h with _ h;injection h with _ h
noncomputable def mkC(l:List Value)(z kd:Nat):AObj:=.cells (Tr.ofListFrom undef .lF 0 l) l.length z kd
noncomputable def stC(o:AObj)(off:Nat)(vs:List Value):AObj:=match o with
 | .cells c n z kd=>.cells (Tr.ofListFrom undef c off vs) n z kd
 | o=>o
theorem vO(l:List Value)(z kd i:Nat):xR (mkC l z kd) i=l[i]? :=by
 unfold xR mkC;dsimp only;by_cases h:i<l.length
 · rw[if_pos h,Tr.get_ofListFrom,if_pos (by omega)];simp [aa h,aU]
 · rw[if_neg h,an (by omega)]
theorem uN(l:List Value)(z kd:Nat):yZ (mkC l z kd)=some (l.length,z,kd):=rfl
theorem cellOf_stC(o:AObj)(off:Nat)(vs:List Value){n z kd:Nat}(hi:yZ o=some (n,z,kd))(hl:off+vs.length≤n)(hk:kd≠3:=by decide)(i:Nat) :
 xR (stC o off vs) i=if off≤i∧i<off+vs.length then vs[i - off]? else xR o i:=by
 cases o <;> first|(cases hi;done)|(exact absurd (kd_of hi).symm hk)|skip
 rename_i c n' z' kd';injection hi with hi
 injection hi with h1 h2
 subst h1;unfold xR stC;dsimp only;by_cases h:off≤i∧i<off+vs.length
 · rw[if_pos h,if_pos (by omega),Tr.get_ofListFrom,if_pos h];simp [aa (show i - off<vs.length by omega),aU]
 · rw[if_neg h];by_cases h2:i<n'
   · rw[if_pos h2,if_pos h2,Tr.get_ofListFrom,if_neg h]
   · rw[if_neg h2,if_neg h2]
theorem rV(o:AObj)(off:Nat)(vs:List Value):yZ (stC o off vs)=yZ o:=by cases o <;> rfl
noncomputable def zC(h:zB)(b i:Nat):Option Value:=xR (zF h b) i
def rowAt(h:zB)(b off:Nat)(vs:List Value):Prop:=∀j v,vs[j]? = some v→zC h b (off+j)=some v
theorem rowAt.nil(h:zB)(b off:Nat):rowAt h b off []:=λj v e=>by simp at e
theorem rowAt.cons{h:zB}{b off:Nat}{v:Value}{l:List Value}(hv:zC h b off=some v)(hl:rowAt h b (off+1) l):rowAt h b off (v::l):=λj w e=>by
 cases j with
 | zero=>simp at e;subst e;exact hv
 | succ j=>have:=hl j w (by simpa using e);rw [← this];congr 1;omega
def Ext(h:zB)(n:Nat)(h':zB)(n':Nat):Prop:=n≤n'∧∀b,b<n→zF h' b=zF h b
section
variable {P:Program} {ng:Nat}
theorem CallTo.pureE{f:FuncId}{args:List Value}{u':Option zI}{h h':zB}{n n':Nat}{v:Value}(c:CallTo P ng f args false none h n (.ret v) u' h' n')(hs:Ext h n h' n')
(hv:xU v=true∨∃l:List Value,v = .tuple ⟨l⟩∧l.all xU=true)(u:Option zI):CallTo P ng f args false u h n (.ret v) u h n:=by
 refine⟨c.1,fun ρ base w0 wd args' cs hH ha hu=>?_⟩;obtain⟨ρ',wd',fr,cs',s1,s2,s3,s4,s5,s6,s7⟩:=c.2 ρ base w0 wd args' cs hH ha (λe=>by cases e)
 have eX:cs'=cs:=by
  rcases s4 with e|⟨e,_⟩
  · exact e
  · cases e
 subst eX
 have dV:∀{b B},ρ b=some B→b<n:=fun {b B} e=>by
  rcases aw b n with h1|h1
  · exact h1
  · rw[hH.dom b h1]at e;cases e
 have hag:∀b B,ρ b=some B→ρ' b = ρ b:=λb B e=>s3.old b (dV e);refine⟨ρ,wd',fr,cs',s1,⟨hH.dom,λb B e hl=>?_,hH.inj,s2.below,s2.size,hH.glob,hH.ngn⟩,⟨ae _,λ_ _=>rfl,λb B h1 e=>(by rw[hH.dom b h1]at e;cases e),s3.keep,s3.size,λ_ _ e=>e,s3.tape⟩,CsTo.refl _ _,(λe=>Bool.noConfusion e),s6,?_⟩
 · obtain⟨o0,q1,q2⟩:=hH.obj b B e hl;have live:=hs.2 b (dV e);obtain⟨o,p1,p2⟩:=s2.obj b B (by rw[hag b B e];exact e) (by rw[live];exact hl);rw [live]at p2;exact⟨o,p1,q2.back hag p2⟩
 · obtain⟨v',y1,y2,y3,y4,y5⟩:=s7;exact⟨v',y1,y2,y3,y4,y5.scals hv⟩
theorem sG{o:AObj}{i:Nat}{v:Value}(h:xR o i=some v):(∃c n z kd,o = .cells c n z kd∧i<n∧Tr.get undef c i=v)∨∃c n,o = .rows c n∧i<n∧Tr.get undef c i=v∧isU v=false:=by
 cases o <;> first|(cases h;done)|skip
 · rename_i c n z kd;unfold xR at h;dsimp only at h;by_cases hi:i<n
   · rw[if_pos hi]at h;injection h with h;exact .inl ⟨c,n,z,kd,rfl,hi,h⟩
   · rw[if_neg hi]at h;cases h
 · rename_i c n;unfold xR at h;dsimp only at h;by_cases hi:i<n∧isU (Tr.get undef c i)=false
   · rw[if_pos hi]at h;injection h with h;exact .inr ⟨c,n,rfl,hi.1,h,by rw[← h];exact hi.2⟩
   · rw[if_neg hi]at h;cases h
theorem xE{a b:Nat}(h:a<b):Nat.blt a b=true:=by rw[Nat.blt_eq];exact h
theorem uF{a b:Nat}(h:a≤b):Nat.ble a b=true:=cL h
theorem load_scal{ty:TypeId}{h:zB}{b off:Nat}{v:Value}(hs:yJ P ty = .scal)(hc:zC h b off=some v):qLoad P ty h (.pointer (some ⟨b,off,none⟩))=some v:=by
 show onRows (zF h b) (λc kn=>
  Sh.rec none (Bool.rec none (xM (Tr.get undef c off) some) (Nat.blt off kn))
   (λsz=>Bool.rec none (some (.agg ⟨c.toListFrom undef off sz⟩)) (Nat.ble (Nat.add off sz) kn)) (yJ P ty)) (λc kn=>
  Sh.rec none (Bool.rec none (rK (Tr.get undef c off)) (Nat.blt off kn))
   (λsz=>Bool.rec none (rL (c.toListFrom undef off sz)) (Nat.ble (Nat.add off sz) kn)) (yJ P ty)) none=_
 rcases sG hc with⟨c,n,z,kd,e1,e2,e3⟩|⟨c,n,e1,e2,e3,e4⟩
 · rw[e1,hs];show(Bool.rec none (xM (Tr.get undef c off) some) (Nat.blt off n):Option Value)=_;rw [xE e2];show xM (Tr.get undef c off) some=_;rw [yH,e3]
 · rw[e1,hs];show(Bool.rec none (rK (Tr.get undef c off)) (Nat.blt off n):Option Value)=_;rw [xE e2];show rK (Tr.get undef c off)=_;rw [e3];exact known1_of e4
theorem row_list{o:AObj}{off:Nat}{vs:List Value}{c:Tr Value}(hc:∀(i:Nat) (v:Value),xR o i=some v→Tr.get undef c i=v)(hr:∀j v,vs[j]? = some v→xR o (off+j)=some v):c.toListFrom undef off vs.length=vs:=by
 apply cV;intro j;rw [Tr.getElem?_toListFrom];by_cases hj:j<vs.length
 · rw[if_pos hj,aa hj];exact congrArg some (hc _ _ (hr j _ (aa hj)))
 · rw[if_neg hj,an (by omega)]
theorem cells_cell{c:Tr Value}{n z kd i:Nat}{v:Value}(h:xR (.cells c n z kd) i=some v):Tr.get undef c i=v:=by
 rcases sG h with⟨c',n',z',kd',e1,e2,e3⟩|⟨c',n',e1,_⟩
 · injection e1 with e1 _ _ _;subst e1;exact e3
 · cases e1
theorem rows_cell{c:Tr Value}{n i:Nat}{v:Value}(h:xR (.rows c n) i=some v):Tr.get undef c i=v∧isU v=false:=by
 rcases sG h with⟨c',n',z',kd',e1,_⟩|⟨c',n',e1,e2,e3,e4⟩
 · cases e1
 · injection e1 with e1 _;subst e1;exact⟨e3,e4⟩
theorem rows_known{c:Tr Value}{n off:Nat}{vs:List Value}(hr:∀j v,vs[j]? = some v→xR (.rows c n) (off+j)=some v):vs.any isU=false:=by
 rw[List.any_eq_false];intro x hx;obtain⟨j,hj⟩:=aj.1 hx;rw [(rows_cell (hr j x hj)).2];exact aM
theorem load_agg{ty:TypeId}{h:zB}{b off sz:Nat}{vs:List Value}(hs:yJ P ty = .agg sz)(hl:vs.length=sz)(h0:0<sz)(hr:rowAt h b off vs):qLoad P ty h (.pointer (some ⟨b,off,none⟩))=some (.agg ⟨vs⟩):=by
 have jB:=hr (sz - 1) (vs[sz - 1]'(by omega)) (aa _);unfold rowAt zC at hr
 show onRows (zF h b) (λc kn=>
  Sh.rec none (Bool.rec none (xM (Tr.get undef c off) some) (Nat.blt off kn))
   (λsz=>Bool.rec none (some (.agg ⟨c.toListFrom undef off sz⟩)) (Nat.ble (Nat.add off sz) kn)) (yJ P ty)) (λc kn=>
  Sh.rec none (Bool.rec none (rK (Tr.get undef c off)) (Nat.blt off kn))
   (λsz=>Bool.rec none (rL (c.toListFrom undef off sz)) (Nat.ble (Nat.add off sz) kn)) (yJ P ty)) none=_
 rcases sG jB with⟨c,n,z,kd,e1,e2,e3⟩|⟨c,n,e1,e2,e3,e4⟩
 · rw[e1]at hr ⊢;rw [hs];show(Bool.rec none (some (.agg ⟨c.toListFrom undef off sz⟩)) (Nat.ble (Nat.add off sz) n):Option Value)=_;rw [uF (show Nat.add off sz≤n by show off+sz≤n;omega)];show some (Value.agg ⟨c.toListFrom undef off sz⟩)=_;rw [← hl,row_list (λi v e=>cells_cell e) hr]
 · rw[e1]at hr ⊢;rw [hs];show(Bool.rec none (rL (c.toListFrom undef off sz)) (Nat.ble (Nat.add off sz) n):Option Value)=_;rw [uF (show Nat.add off sz≤n by show off+sz≤n;omega)];show rL (c.toListFrom undef off sz)=_;rw [← hl,row_list (λi v e=>(rows_cell e).1) hr];exact knownN_of (rows_known hr)
end
end
section
theorem isSo_bool(b:Bool):xJ (b=true)=b:=by cases h:xJ (b=true) with
  | true=>exact(isSo_iff.1 h).symm
  | false => cases b with
    | true=>rw [isSo_iff.2 rfl]at h;cases h
    | false=>rfl
 class Stp (A:Prop) (B:outParam Prop):Prop where
  ok:B→A
theorem st{A B:Prop}[s:Stp A B](h:B):A:=s.ok h
def Ob{α : Type}(A: α→Prop)(K: α→Prop):Prop:=∃a,A a∧K a
def Ob1(A K:Prop):Prop:=A∧K
def Wh{α : Type}(x y: α):Prop:=x=y
def Ch(z:Bool)(A B:Prop):Prop:=(z=true→A)∧(z=false→B)
def Ev(l:List (Nat×Value))(t:Fr)(x:Operand)(v:Value):Prop:=evb l t x=v
def Evs(l:List (Nat×Value))(t:Fr):List Operand→List Value→Prop
 | [],vs=>vs=[]
 | x::r,vs=>∃v vr,vs=v::vr∧Ev l t x v∧Evs l t r vr
theorem Evs.eq{l:List (Nat×Value)}{t:Fr}:∀{xs:List Operand} {vs:List Value},Evs l t xs vs→evs l t xs=vs:=by
 intro xs
 induction xs with
 | nil=>intro vs h;exact h.symm
 | cons x r ih=>
  rintro vs ⟨v,vr,rfl,h1,h2⟩
  unfold evs;rw [ih h2,show evb l t x=v from h1]
def Gv(all:Array Oper)(l:List (Nat×Value))(t:Fr)(g:Nat)(b z:Bool):Prop:=∃i,dstOf all g=some i∧(lk l t i = .bool z∨(lk l t i=undef∧z = !b))
section
variable {P:Program} {ng:Nat}
def OpB0(P:Program)(ng:Nat)(op:Op)(cx:Cx)(t:Fr)(w:W)(K:W→Value→Prop)(Kp:zI→W→Prop):Prop:=
 match xN op P t w.h with
 | some v=>K w v
 | none=>eff op P (loS P ng) cx t w (λw v=>xJ (K w v)) (λc w=>xJ (Kp c w))=true
def OpB(P:Program)(ng:Nat)(op:Op)(cx:Cx)(t:Fr)(w:W)(K:W→Value→Prop)(Kp:zI→W→Prop):Prop:=OpB0 P ng op cx t w K Kp∧True
theorem opB_q{op:Op}{cx:Cx}{t:Fr}{w:W}{K:W→Value→Prop}{Kp:zI→W→Prop}{v:Value}(h:xN op P t w.h=some v)(k:K w v):OpB P ng op cx t w K Kp:=by refine⟨?_,trivial⟩;unfold OpB0;rw [h];exact k
def opQ(P:Program)(ng:Nat)(all:Array Oper)(d:Option Nat)(r:List Oper)(cx:Cx)(l:List (Nat×Value))(t:Fr)(Q:QX):W→Value→Prop:=λw v=>match d with
 | some i=>WO P ng all r cx (FA ((i,v)::l) t) w Q
 | none=>WO P ng all r cx (FA l t) w Q
def opP(l:List (Nat×Value))(t:Fr)(Q:QX):zI→W→Prop:=λc w=>Q (.panic c) (FA l t) w
theorem wo_cons{all:Array Oper}{op:Op}{d:Option Nat}{ty:TypeId}{pos:String}{af:Array Edge}{r:List Oper}{cx:Cx}{l:List (Nat×Value)}{t:Fr}{w:W}{Q:QX}
(h:OpB P ng op cx (FA l t) w (opQ P ng all d r cx l t Q) (opP l t Q)):WO P ng all (⟨d,op,ty,pos,af,none⟩::r) cx (FA l t) w Q:=by
 have hk:(λw v=>xJ (opQ P ng all d r cx l t Q w v))=λw v=>putT (FA l t) d v λt=>xops P (loS P ng) cx all r t w (soK Q):=by
  funext w v
  cases d with
  | none=>exact isSo_bool _
  | some i=>rw [putT_some,fset_FA];exact isSo_bool _
 replace h:=h.1;unfold OpB0 at h
 cases hq:xN op P (FA l t) w.h with
 | some v=>
  rw[hq]at h;refine wo_quiet hq ?_;rw [← congrFun (congrFun hk w) v];exact isSo_iff.2 h
 | none=>
  rw[hq]at h;refine wo_eff hq ?_;rw [← hk];exact h
theorem Gv.wants{all:Array Oper}{l:List (Nat×Value)}{t:Fr}{g:Nat}{z b:Bool}(h:Gv all l t g b z):wanted all (FA l t) (some (g,b))=(z == b):=by
 obtain⟨i,h1,h2⟩:=h;show(Option.rec false (λd=>onBool (fget (FA l t) d) (λz=>Bool.rec (Bool.rec true false b) b z) false) (dstOf all g):Bool)=_;rw [h1];show onBool (fget (FA l t) i) _ false=_;rw [fget_FA];rcases h2 with h2|⟨h2,rfl⟩
 · rw[h2];cases z <;> cases b <;> rfl
 · rw[h2];cases b <;> rfl
section
variable {cx:Cx} {t:Fr} {l:List (Nat×Value)} {w:W} {Q:QX}
instance {a b:Code}:Stp (WC P ng (.seq a b) cx t w Q) (WC P ng a cx t w (seqQ P ng b cx Q)):=⟨wc_seq⟩
instance {id:Nat} {b:Code}:Stp (WC P ng (.block id b) cx t w Q) (WC P ng b cx t w (blkQ id Q)):=⟨wc_block⟩
instance {b:Code}:Stp (WC P ng (.scope b) cx t w Q) (WC P ng b cx t w (scpQ Q)):=⟨wc_scope⟩
instance:Stp (WC P ng .skip cx t w Q) (Q .normal t w):=⟨wc_skip⟩
instance {i:Nat}:Stp (WC P ng (.label i) cx t w Q) (Q .normal t w):=⟨wc_label⟩
instance [Fit P ng] {i:Nat}:Stp (WC P ng (.exit i) cx t w Q) (Q (.exit i) t w):=⟨wc_exit⟩
instance [Fit P ng]:Stp (WC P ng .ret cx t w Q) (Q .ret t w):=⟨wc_ret⟩
instance [Fit P ng] {id:Nat} {ops:List Oper}:Stp (WC P ng (.region id ops.toArray false) cx t w Q) (WO P ng ops.toArray ops cx t w Q):=⟨λh=>wc_region (by simpa using h)⟩
instance {c:Operand} {a b:Code}:Stp (WC P ng (.cond c a b) cx (FA l t) w Q) (Ob (λz=>Ev l t c (.bool z)) λz=>Ch z (WC P ng a cx (FA l t) w Q) (WC P ng b cx (FA l t) w Q)):=
 ⟨λ⟨z,h1,h2,h3⟩=>wc_cond (q:=z) ((yM l t c).trans h1) (by cases z with
  | true=>exact h2 rfl
  | false=>exact h3 rfl)⟩
instance {b:Code}:Stp (seqQ P ng b cx Q .normal t w) (WC P ng b cx t w Q):=⟨id⟩
instance {b:Code} {i:Nat}:Stp (seqQ P ng b cx Q (.exit i) t w) (Q (.exit i) t w):=⟨id⟩
instance {b:Code}:Stp (seqQ P ng b cx Q .ret t w) (Q .ret t w):=⟨id⟩
instance {b:Code} {c:zI}:Stp (seqQ P ng b cx Q (.panic c) t w) (Q (.panic c) t w):=⟨id⟩
instance {i:Nat}:Stp (blkQ i Q .normal t w) (Q .normal t w):=⟨id⟩
instance {i j:Nat}:Stp (blkQ i Q (.exit j) t w) (Ob (Wh (Nat.beq j i)) λz=>Ch z (Q .normal t w) (Q (.exit j) t w)):=
 ⟨λ⟨z,h1,h2,h3⟩=>by
  show bif Nat.beq j i then Q .normal t w else Q (.exit j) t w;rw [show Nat.beq j i=z from h1]
  cases z with
  | true=>exact h2 rfl
  | false=>exact h3 rfl⟩
instance {i:Nat}:Stp (blkQ i Q .ret t w) (Q .ret t w):=⟨id⟩
instance {i:Nat} {c:zI}:Stp (blkQ i Q (.panic c) t w) (Q (.panic c) t w):=⟨id⟩
instance:Stp (scpQ Q .normal t w) (Q .normal t w):=⟨id⟩
instance {i:Nat}:Stp (scpQ Q (.exit i) t w) (Q (.exit i) t w):=⟨id⟩
instance:Stp (scpQ Q .ret t w) (Q .ret t w):=⟨id⟩
instance {c:zI}:Stp (scpQ Q (.panic c) t w) (Q (.panic c) t w):=⟨id⟩
instance {all:Array Oper}:Stp (WO P ng all [] cx t w Q) (Q .normal t w):=⟨wo_nil⟩
instance {all:Array Oper} {op:Op} {d:Option Nat} {ty:TypeId} {pos:String} {af:Array Edge} {r:List Oper}:Stp (WO P ng all (⟨d,op,ty,pos,af,none⟩::r) cx (FA l t) w Q) (OpB P ng op cx (FA l t) w (opQ P ng all d r cx l t Q) (opP l t Q)):=⟨wo_cons⟩
instance {all:Array Oper} {op:Op} {d:Option Nat} {ty:TypeId} {pos:String} {af:Array Edge} {g:Nat} {r:List Oper}:Stp (WO P ng all (⟨d,op,ty,pos,af,some (g,true)⟩::r) cx (FA l t) w Q)
 (Ob (λz=>Gv all l t g true z) λz=>Ch z (OpB P ng op cx (FA l t) w (opQ P ng all d r cx l t Q) (opP l t Q)) (opQ P ng all d r cx l t Q w undef)):=
 ⟨λ⟨z,h1,h2,h3⟩=>by
  cases z with
  | true=>exact wo_on (h1.wants) (wo_cons (h2 rfl))
  | false=>
   refine wo_off (h1.wants) ?_;have h:=h3 rfl
   cases d with
   | none=>exact h
   | some i=>rw [putT_some,fset_FA];exact h⟩
instance {all:Array Oper} {op:Op} {d:Option Nat} {ty:TypeId} {pos:String} {af:Array Edge} {g:Nat} {r:List Oper}:Stp (WO P ng all (⟨d,op,ty,pos,af,some (g,false)⟩::r) cx (FA l t) w Q)
 (Ob (λz=>Gv all l t g false z) λz=>Ch z (opQ P ng all d r cx l t Q w undef) (OpB P ng op cx (FA l t) w (opQ P ng all d r cx l t Q) (opP l t Q))):=
 ⟨λ⟨z,h1,h2,h3⟩=>by
  cases z with
  | false=>exact wo_on (h1.wants) (wo_cons (h3 rfl))
  | true=>
   refine wo_off (h1.wants) ?_;have h:=h2 rfl
   cases d with
   | none=>exact h
   | some i=>rw [putT_some,fset_FA];exact h⟩
instance {all:Array Oper} {i:Nat} {r:List Oper} {v:Value}:Stp (opQ P ng all (some i) r cx l t Q w v) (WO P ng all r cx (FA ((i,v)::l) t) w Q):=⟨id⟩
instance {all:Array Oper} {r:List Oper} {v:Value}:Stp (opQ P ng all none r cx l t Q w v) (WO P ng all r cx (FA l t) w Q):=⟨id⟩
instance {c:zI}:Stp (opP l t Q c w) (Q (.panic c) (FA l t) w):=⟨id⟩
end
end
end
end Go.Ex
