/- What the law leans on, part 6 of 22. Conditions: those that each theorem states. -/
import Derived.Test.YtmccnilgnlaffaaGreatDoorMachChecksx5

set_option linter.unusedVariables false
set_option linter.unusedSimpArgs false
namespace Go.Ex
section
theorem sigB_head{x:XOp}{r:List XOp}{sm pm:Nat}(h:sigB (x::r) sm pm=true) :
 (∀b,zS x.m b=true→zS sm b=true)∧zS sm x.i=false∧
 (x.kd=3→(∀b,zS pm b=true→zS x.m b=true)∧sigB r (Nat.lor sm (Nat.shiftLeft 1 x.i)) 0=true)∧
 (x.kd≠3→sigB r (Nat.lor sm (Nat.shiftLeft 1 x.i)) (Nat.lor pm (Nat.shiftLeft 1 x.i))=true):=by
 simp only[sigB]at h
 cases h1:Nat.beq (Nat.land x.m sm) x.m with
 | false=>rw [h1]at h;cases h
 | true =>
  rw[h1]at h;dsimp only at h
  cases h2:zS sm x.i with
  | true=>rw [h2]at h;cases h
  | false=>
   rw[h2]at h;dsimp only at h;refine⟨λb hb=>land_sub h1 hb,rfl,λhk=>?_,λhk=>?_⟩
   · rw[hk]at h;have h:(Bool.rec false (sigB r (Nat.lor sm (Nat.shiftLeft 1 x.i)) 0) (Nat.beq (Nat.land x.m pm) pm):Bool)=true:=h
     cases h3:Nat.beq (Nat.land x.m pm) pm with
     | false=>rw [h3]at h;cases h
     | true =>
      rw[h3]at h;refine⟨λb hb=>?_,h⟩
      have e:Nat.land pm x.m=pm:=by
       have:=zE h3;show pm &&& x.m=pm;rw [Nat.and_comm];exact this
      exact land_sub (a:=pm) (by rw[e];exact aB pm) hb
   · have eM:Nat.beq x.kd 3=false:=by
      cases e:Nat.beq x.kd 3 with
      | false=>rfl
      | true=>exact absurd (zE e) hk
     rw[eM]at h;exact h
theorem sigB_app:∀{pre rest:List XOp} {sm pm:Nat},sigB (pre++rest) sm pm=true→
 ∃sm' pm',sigB rest sm' pm'=true∧(∀b,zS sm' b=true↔(zS sm b=true∨∃y∈pre,y.i=b))∧
  ((∀y∈pre,y.kd≠3)→∀b,(zS pm b=true∨∃y∈pre,y.i=b)→zS pm' b=true):=by
 intro pre
 induction pre with
 | nil=>intro rest sm pm h;exact⟨sm,pm,h,λb=>by simp,λ_ b hb=>by simpa using hb⟩
 | cons x pre ih =>
  intro rest sm pm h;obtain⟨_,_,h3,h4⟩:=sigB_head h
  have bits:∀{m b},zS (Nat.lor m (Nat.shiftLeft 1 x.i)) b=true↔(zS m b=true∨x.i=b):=by
   intro m b;rw [lor_bit,one_bit,b8];exact⟨λh=>h.imp id zE,λh=>h.imp id λe=>by rw[e];exact aB b⟩
  have key:∀{pm2},sigB (pre++rest) (Nat.lor sm (Nat.shiftLeft 1 x.i)) pm2=true→(x.kd≠3→pm2=Nat.lor pm (Nat.shiftLeft 1 x.i))→
   ∃sm' pm',sigB rest sm' pm'=true∧(∀b,zS sm' b=true↔(zS sm b=true∨∃y∈x::pre,y.i=b))∧
    ((∀y∈x::pre,y.kd≠3)→∀b,(zS pm b=true∨∃y∈x::pre,y.i=b)→zS pm' b=true):=by
   intro pm2 hs hp;obtain⟨sm',pm',a1,a2,a3⟩:=ih hs;refine⟨sm',pm',a1,λb=>?_,λdZ b hb=>?_⟩
   · rw[a2,bits];simp only[aA];constructor
     · rintro ((h|h)|⟨y,h1,h2⟩)
       · exact .inl h
       · exact .inr ⟨x,.inl rfl,h⟩
       · exact .inr ⟨y,.inr h1,h2⟩
     · rintro (h|⟨y,rfl|h1,h2⟩)
       · exact .inl (.inl h)
       · exact .inl (.inr h2)
       · exact .inr ⟨y,h1,h2⟩
   · have e:=hp (dZ x (by simp));refine a3 (λy hy=>dZ y (by simp[hy])) b ?_;rw [e,bits];rcases hb with h|⟨y,h1,h2⟩
     · exact .inl (.inl h)
     · rcases aA.1 h1 with rfl|h1
       · exact .inl (.inr h2)
       · exact .inr ⟨y,h1,h2⟩
  by_cases hk:x.kd=3
  · exact key (h3 hk).2 (λe=>absurd hk e)
  · exact key (h4 hk) (λ_=>rfl)
theorem sig_ord{pre post:List XOp}{x:XOp}(h:sigB (pre++x::post) 0 0=true):(∀b,zS x.m b=true→∃y∈pre,y.i=b)∧(∀y∈pre,y.i≠x.i):=by
 obtain⟨sm,pm,h1,h2,_⟩:=sigB_app h;obtain⟨h3,h4,_,_⟩:=sigB_head h1;have z:∀b,¬zS 0 b=true:=λb e=>by rw[bitB_eq,de]at e;cases e
 refine⟨λb hb=>((h2 b).1 (h3 b hb)).resolve_left (z b),λy hy e=>?_⟩;have:=(h2 x.i).2 (.inr ⟨y,hy,e⟩);rw [h4]at this;cases this
theorem sig_next{pre seg post:List XOp}{c:XOp}(h:sigB (pre++(seg++c::post)) 0 0=true)(hc:c.kd=3)(hs:∀y∈seg,y.kd≠3):∀y∈seg,zS c.m y.i=true:=by
 obtain⟨sm,pm,h1,_,_⟩:=sigB_app h;obtain⟨sm2,pm2,h2,_,h3⟩:=sigB_app h1;obtain⟨_,_,h4,_⟩:=sigB_head h2;exact λy hy=>(h4 hc).1 _ (h3 hs _ (.inr ⟨y,hy,rfl⟩))
end
section
theorem allB_ok{α : Type}{f: α→Bool}:∀{l:List α},allB f l=true→∀x∈l,f x=true:=by
 intro l
 induction l with
 | nil=>intro _ x hx;simp at hx
 | cons y l ih =>
  intro h x hx;have h':(Bool.rec false (allB f l) (f y):Bool)=true:=h
  cases hf:f y with
  | false=>rw [hf]at h';cases h'
  | true=>
   rw[hf]at h';rcases aA.1 hx with rfl|hx
   · exact hf
   · exact ih h' x hx
theorem sigmaFrom_mem:∀{acts rest:List XOp} {x:XOp},x∈uU rest acts→x∈rest∨x∈acts:=by
 intro acts
 induction acts with
 | nil=>intro rest x h;exact .inl h
 | cons c cs ih=>
  intro rest x h;simp only[uU,az,aA,aV]at h;rcases h with⟨h,_⟩|rfl|h
  · exact .inl h
  · exact .inr (by simp)
  · rcases ih h with h|h
    · exact .inl (aV.1 h).1
    · exact .inr (by simp[h])
structure PlanOK (ops:Array Oper) (M:Nat→Nat) (xl S:List XOp):Prop where
 at':∀x∈xl,ops[x.i]? = some x.o
 ok:∀x∈xl,XOK ops M x
 cov:∀i,i<ops.size→∃x∈xl,x.i=i
 sub:∀x∈S,x∈xl
 sig:sigB S 0 0=true
 len:S.length=ops.size
 pair:∀x∈xl,∀y∈xl,∀d,x.o.dst=some d→(zS y.lk d=true∨y.o.dst=some d)→x.i=y.i∨(y.o.dst≠some d∧(zS y.m x.i=true∨zS x.m y.i=true))
 act:∀x∈xl,∀y∈xl,x.kd=3→y.kd=3→x.i=y.i∨zS y.m x.i=true∨zS x.m y.i=true
 tr:∀x∈xl,∀y∈xl,zS x.m y.i=true→∀b,zS y.m b=true→zS x.m b=true
theorem dst_bit{o:Option Tmp}{d:Nat}:zS (dstMask o) d=true↔o=some d:=by
 cases o with
 | none=>
  show zS 0 d=true↔_;rw [bitB_eq,de];simp
 | some t=>
  show zS (Nat.shiftLeft 1 t) d=true↔_;rw [one_bit];exact⟨λh=>by rw[zE h],λh=>by injection h with h;rw [h];exact aB d⟩
theorem land_zero{a b d:Nat}(h:Nat.beq (Nat.land a b) 0=true)(ha:zS a d=true):zS b d=false:=by
 have h:a &&& b=0:=zE h;rw [bitB_eq]at ha ⊢;have:(a &&& b).testBit d=false:=by rw[h,de]
 rw[cH,ha]at this;simpa using this
theorem plan_ok{ops:Array Oper}{L:List DOp}(h:plan ops=some L) :
 ∃M xl S,PlanOK ops M xl S∧L=S.map (dopOf xl (S.filter λx=>Nat.beq x.kd 3)):=by
 unfold plan at h
 cases hx:xlist ops ops.toList 0 .lF with
 | none=>rw [hx]at h;cases h
 | some xl =>
  rw[hx]at h;dsimp only at h;obtain⟨M,_,ej,jL⟩:=xlist_ok hx;generalize hA:xl.filter (λx=>Nat.beq x.kd 3)=acts at h
  unfold planOf at h
  cases hc:(pairsOK xl && actsOK acts && Nat.beq (uU xl acts).length ops.toList.length && sigB (uU xl acts) 0 0 && transOK xl) with
  | false=>rw [hc]at h;cases h
  | true =>
   rw[hc]at h;dsimp only[cond]at h;injection h with h
   simp only[bO]at hc;obtain⟨⟨⟨⟨c1,c2⟩,c3⟩,c4⟩,c5⟩:=hc
   have hact:∀x,x∈acts→x∈xl∧x.kd=3:=by
    intro x hx;rw [← hA]at hx;obtain⟨h1,h2⟩:=aV.1 hx;exact⟨h1,zE h2⟩
   have d8:∀x∈uU xl acts,x∈xl:=by
    intro x hx;rcases sigmaFrom_mem hx with h|h
    · exact h
    · exact(hact x h).1
   have gA:∀x∈xl,ops[x.i]? = some x.o∧XOK ops M x:=by
    intro x hx;obtain⟨q,hq⟩:=aj.1 hx
    have dV:q<ops.toList.length:=by
     rcases aw q xl.length with h5|h5
     · omega
     · rw[an h5]at hq;cases hq
    obtain⟨x',f1,f2,f3,f4⟩:=jL q _ (aa dV);rw [hq]at f1;injection f1 with f1;subst f1
    refine⟨?_,f4⟩;rw [f3,aG,f2,← aJ];exact aa dV
   have jj:∀i,i<ops.size→∃x∈xl,x.i=i:=by
    intro i hi;obtain⟨x',f1,_,f3,_⟩:=jL i _ (aa (by simpa using hi));exact⟨x',aj.2 ⟨i,f1⟩,by omega⟩
   refine⟨M,xl,uU xl acts,⟨λx hx=>(gA x hx).1,λx hx=>(gA x hx).2,jj,d8,c4,by simpa using zE c3,?_,?_,λx hx y hy hb b h2=>by
    have h3:=allB_ok (allB_ok c5 x hx) y hy;have h4:(Bool.rec true (Nat.beq (Nat.land y.m x.m) y.m) (zS x.m y.i):Bool)=true:=h3;rw [hb]at h4;exact land_sub h4 h2⟩,h.symm⟩
   · intro x hx y hy d hd hl;have kx:=(gA x hx).2;have ky:=(gA y hy).2;have dx:zS x.ds d=true:=by rw[kx.ds];exact dst_bit.2 hd
     have dy:zS (Nat.lor y.lk y.ds) d=true:=by
      rw[lor_bit,b8];exact hl.imp id λh=>by rw[ky.ds];exact dst_bit.2 h
     have eh:Nat.beq x.ds 0=false:=by
      cases e:Nat.beq x.ds 0 with
      | false=>rfl
      | true=>
       rw[zE e,bitB_eq,de]at dx;cases dx
     have hp:=allB_ok (allB_ok c1 x (aV.2 ⟨hx,by rw[eh];rfl⟩)) y hy;unfold pairOK at hp
     cases e:Nat.beq (Nat.land x.ds (Nat.lor y.lk y.ds)) 0 with
     | true=>
      have:=land_zero e dx;rw [dy]at this;cases this
     | false=>
      rw[e]at hp;have hp:(Nat.beq x.i y.i || (Nat.beq (Nat.land x.ds y.ds) 0 && (zS y.m x.i || zS x.m y.i)))=true:=hp;simp only[b8,bO]at hp;rcases hp with hp|⟨hp1,kP⟩
      · exact .inl (zE hp)
      · refine .inr ⟨λe2=>?_,kP⟩;have:=land_zero hp1 dx;rw [ky.ds,dst_bit.2 e2]at this;cases this
   · intro x hx y hy kx ky;have mx:x∈acts:=by rw[← hA];exact aV.2 ⟨hx,by rw[kx];rfl⟩
     have my:y∈acts:=by rw[← hA];exact aV.2 ⟨hy,by rw[ky];rfl⟩
     have:=allB_ok (allB_ok c2 x mx) y my;simp only[b8]at this;rcases this with(h|h)|h
     · exact .inl (zE h)
     · exact .inr (.inl h)
     · exact .inr (.inr h)
end
section
structure Rec where
 x:DOp
 t:Fr
 w:W
 sk:Bool
 v:Value
 w2:W
section
variable (P:Program) (ng:Nat) (all:Array Oper) (cx:Cx)
inductive RecOK:Rec→Prop
 | skip {x:DOp} {t:Fr} {w:W} (hw:wanted all t x.o.guard=false):RecOK ⟨x,t,w,true,undef,w⟩
 | look {x:DOp} {t:Fr} {w:W} {v:Value} (hw:wanted all t x.o.guard=true) (hk:x.kd=0∨x.kd=1) (hq:xN x.o.op P t w.h=some v):RecOK ⟨x,t,w,false,v,w⟩
 | made {x:DOp} {t:Fr} {w:W} {v:Nat→Value} {ob:AObj} (hw:wanted all t x.o.guard=true) (hk:x.kd=2) (hn:NewVal P ng x.o t v ob) :
  RecOK ⟨x,t,w,false,v w.n,W.mk w.d w.u (w.h.set .dead ob w.n) (w.n+1)⟩
 | act {x:DOp} {t:Fr} {w w2:W} {v:Value} (hw:wanted all t x.o.guard=true) (hk:x.kd≠0∧x.kd≠1∧x.kd≠2) (ho:OpTo P ng x.o cx t w (.ret v) w2) (hn:w.n≤w2.n):RecOK ⟨x,t,w,false,v,w2⟩
inductive RecsOK:List Rec→Fr→W→Fr→W→Prop
 | nil (t:Fr) (w:W):RecsOK [] t w t w
 | cons {r:Rec} {R:List Rec} {t':Fr} {w':W} (h:RecOK P ng all cx r) (hr:RecsOK R (putF r.t r.x.o.dst r.v) r.w2 t' w'):RecsOK (r::R) r.t r.w t' w'
end
def hsOf:List Rec→List W→List W
 | [],hs=>hs
 | r::R,hs=>hsOf R (cond (Nat.beq r.x.kd 3) (r.w2::hs) hs)
def lsOf:List Rec→List Look→List Look
 | [],ls=>ls
 | r::R,ls=>lsOf R (cond (!r.sk && (Nat.beq r.x.kd 1 && !Nat.beq r.x.low r.x.high)) (⟨r.x.o.op,r.t,r.v,r.x.low,r.x.high⟩::ls) ls)
section
variable {P:Program} {ng:Nat} {all:Array Oper} {cx:Cx}
def DrewG(P:Program)(ng:Nat)(all:Array Oper)(cx:Cx)(pan:DOp→List DOp→Fr→W→List W→List Look→zI→W→Bool)(L:List DOp)(t:Fr)(w:W)(hs:List W)(ls:List Look)(k:KX):Prop:=
 (∃R t' w',R.map (·.x)=L∧RecsOK P ng all cx R t w t' w'∧k .normal t' w'=true∧xO P (hsOf R hs).length (hsOf R hs) (lsOf R ls)=true)∨
 (∃R d rest c t1 w1 w2,L=R.map (·.x)++d::rest∧RecsOK P ng all cx R t w t1 w1∧wanted all t1 d.o.guard=true∧OpTo P ng d.o cx t1 w1 (.panic c) w2∧d.kd=3∧pan d rest t1 w1 (hsOf R hs) (lsOf R ls) c w2=true)
def Drew(P:Program)(ng:Nat)(all:Array Oper)(cx:Cx)(L:List DOp)(t:Fr)(w:W)(hs:List W)(ls:List Look)(k:KX):Prop:=
 (∃R t' w',R.map (·.x)=L∧RecsOK P ng all cx R t w t' w'∧k .normal t' w'=true∧xO P (hsOf R hs).length (hsOf R hs) (lsOf R ls)=true)∨
 (∃R d rest c t1 w1 w2,L=R.map (·.x)++d::rest∧RecsOK P ng all cx R t w t1 w1∧wanted all t1 d.o.guard=true∧OpTo P ng d.o cx t1 w1 (.panic c) w2∧d.solo=true∧
  xO P (hsOf R hs).length (hsOf R hs) (lsOf R ls)=true∧k (.panic c) t1 w2=true)∨
 (∃R d rest c t1 w1 w2 S tD wD,L=R.map (·.x)++d::rest∧RecsOK P ng all cx R t w t1 w1∧wanted all t1 d.o.guard=true∧OpTo P ng d.o cx t1 w1 (.panic c) w2∧d.kd=3∧w2.d=[]∧RecsOK P ng all cx S t1 w1 tD wD∧S.map (·.x)=dryOf d.un rest∧
  xO P (hsOf (R++S) hs).length (hsOf (R++S) hs) (lsOf (R++S) ls)=true∧k (.panic c) t1 w2=true)
theorem DrewG.cons{pan:DOp→List DOp→Fr→W→List W→List Look→zI→W→Bool}{r:Rec}{L:List DOp}{hs:List W}{ls:List Look}{k:KX}(h:RecOK P ng all cx r)
(d:DrewG P ng all cx pan L (putF r.t r.x.o.dst r.v) r.w2 (cond (Nat.beq r.x.kd 3) (r.w2::hs) hs) (cond (!r.sk && (Nat.beq r.x.kd 1 && !Nat.beq r.x.low r.x.high)) (⟨r.x.o.op,r.t,r.v,r.x.low,r.x.high⟩::ls) ls) k) :
 DrewG P ng all cx pan (r.x::L) r.t r.w hs ls k:=by
 rcases d with⟨R,t',w',h1,h2,h3,h4⟩|⟨R,d,rest,c,t1,w1,w2,h1,h2,h3,h4,h5,h6⟩
 · exact .inl ⟨r::R,t',w',by simp[h1],.cons h h2,h3,h4⟩
 · exact .inr ⟨r::R,d,rest,c,t1,w1,w2,by simp[h1],.cons h h2,h3,h4,h5,h6⟩
theorem new_ok{lo:Lo}(hP:yG ng P=true){o:Oper}{t:Fr}{w:W}{k:KV}{kp:KP}(hk:zQ o.op=2)(hx:eff o.op P lo cx t w k kp=true) :
 ∃v ob,NewVal P ng o t v ob∧k (W.mk w.d w.u (w.h.set .dead ob w.n) (w.n+1)) (v w.n)=true:=by
 cases d7:o.op with
 | insert _ _ _ _=>rw [d7]at hk;cases hk
 | store _ _ _=>rw [d7]at hk;cases hk
 | mapUpdate _ _ _ _=>rw [d7]at hk;cases hk
 | defer _=>rw [d7]at hk;cases hk
 | panic _=>rw [d7]at hk;cases hk
 | range _ _=>rw [d7]at hk;cases hk
 | next _ _=>rw [d7]at hk;cases hk
 | entry _=>rw [d7]at hk;cases hk
 | alloc el=>exact alloc_ok hP d7 hx
 | box el x=>exact box_ok d7 hx
 | buildSlice ty len parts=>exact buildSlice_ok hP d7 hx
 | makeMap ty r=>exact makeMap_ok d7 hx
 | makeSlice ty l c=>exact makeSlice_ok hP d7 hx
 | call c=>
  rw[d7]at hk;obtain⟨callee,asz,ts⟩:=c
  cases callee with
  | builtin b=>cases b <;> cases hk
  | value f=>cases hk
  | invoke r m=>cases hk
 | _=>rw [d7]at hx;exact(aM hx).elim
theorem xdrawG_ok{lo:Lo}(pan:DOp→List DOp→Fr→W→List W→List Look→zI→W→Bool)(hP:yG ng P=true)(hS:Sound P ng lo):∀(L:List DOp) (t:Fr) (w:W) (hs:List W) (ls:List Look) (k:KX),(∀d∈L,d.kd=zQ d.o.op)→wX P lo cx all pan L t w hs ls k=true→DrewG P ng all cx pan L t w hs ls k:=by
 intro L
 induction L with
 | nil=>
  intro t w hs ls k _ h;simp only[wX,bO]at h;exact .inl ⟨[],t,w,rfl,.nil t w,h.1,h.2⟩
 | cons x L ih =>
  intro t w hs ls k hkd h;have ir:∀d∈L,d.kd=zQ d.o.op:=λd hd=>hkd d (by simp[hd]);have hx:=hkd x (by simp);simp only[wX]at h
  cases hw:wanted all t x.o.guard with
  | false=>
   rw[hw]at h;exact DrewG.cons (.skip hw) (ih _ _ _ _ _ ir (rS h))
  | true=>
   rw[hw]at h;dsimp only at h;split at h
   · rename_i hk;split at h
     · rename_i v hq
       have:=DrewG.cons (r:=⟨x,t,w,false,v,w⟩) (hs:=hs) (ls:=ls) (.look hw (.inl hk) hq) (by
        have:=ih _ _ _ _ _ ir (rS h);dsimp only;rw [hk];exact this)
       exact this
     · cases h
   · rename_i hk;split at h
     · rename_i v hq
       have:=DrewG.cons (r:=⟨x,t,w,false,v,w⟩) (hs:=hs) (ls:=ls) (k:=k) (.look hw (.inr hk) hq) (by
        have:=ih _ _ _ _ _ ir (rS h);dsimp only;rw [hk];cases kO:Nat.beq x.low x.high <;> rw[kO]at this <;> exact this)
       exact this
     · cases h
   · rename_i hk;obtain⟨v,ob,h1,h2⟩:=new_ok hP (by rw[← hx,hk]) h;have:=ih _ _ _ _ _ ir (rS h2)
     exact DrewG.cons (r:=⟨x,t,w,false,v w.n,W.mk w.d w.u (w.h.set .dead ob w.n) (w.n+1)⟩) (.made hw hk h1) (by
      dsimp only;rw [hk];exact this)
   · rename_i hk0 hk1 hk2;obtain⟨out,w2,h1,h2⟩:=eff_ok hP hS h
     have jS:x.kd=3:=by
      have h9:zQ x.o.op≤3:=by unfold zQ;split <;> (try split) <;> omega
      have a0:x.kd≠0:=hk0;have a1:x.kd≠1:=hk1;have a2:x.kd≠2:=hk2;omega
     cases out with
     | ret v =>
      have fl:cond (Nat.ble w.n w2.n) (putT t x.o.dst v λt'=>wX P lo cx all pan L t' w2 (w2::hs) ls k) false=true:=h1
      cases lr:Nat.ble w.n w2.n with
      | false=>rw [lr]at fl;cases fl
      | true=>
      rw[lr]at fl;dsimp only[cond]at fl;have:=ih _ _ _ _ _ ir (rS fl)
      exact DrewG.cons (r:=⟨x,t,w,false,v,w2⟩) (.act hw ⟨hk0,hk1,hk2⟩ h2 (yK lr)) (by
       dsimp only;rw [jS];exact this)
     | panic c=>
      exact .inr ⟨[],x,L,c,t,w,w2,rfl,.nil t w,hw,h2,jS,h1⟩
theorem hsOf_two:∀(R S:List Rec) (hs:List W),hsOf (R++S) hs=hsOf S (hsOf R hs):=by
 intro R
 induction R with
 | nil=>intro S hs;rfl
 | cons r R ih=>intro S hs;exact ih S _
theorem lsOf_two:∀(R S:List Rec) (ls:List Look),lsOf (R++S) ls=lsOf S (lsOf R ls):=by
 intro R
 induction R with
 | nil=>intro S ls;rfl
 | cons r R ih=>intro S ls;exact ih S _
theorem xdraw_ok{lo:Lo}(hP:yG ng P=true)(hS:Sound P ng lo):∀(L:List DOp) (t:Fr) (w:W) (hs:List W) (ls:List Look) (k:KX),(∀d∈L,d.kd=zQ d.o.op)→xdraw P lo cx all L t w hs ls k=true→Drew P ng all cx L t w hs ls k:=by
 intro L t w hs ls k hkd h;rcases xdrawG_ok (panD P lo cx all k) hP hS L t w hs ls k hkd h with h|⟨R,d,rest,c,t1,w1,w2,h1,h2,h3,h4,h5,h6⟩
 · exact .inl h
 · unfold panD at h6
   cases fJ:d.solo with
   | true=>
    rw[fJ]at h6
    cases hl:xO P (hsOf R hs).length (hsOf R hs) (lsOf R ls) with
    | true=>rw [hl]at h6;exact .inr (.inl ⟨R,d,rest,c,t1,w1,w2,h1,h2,h3,h4,fJ,hl,h6⟩)
    | false=>rw [hl]at h6;cases h6
   | false =>
    rw[fJ]at h6;dsimp only[cond]at h6
    cases hd:w2.d with
    | cons _ _=>rw [hd]at h6;cases h6
    | nil=>
     rw[hd]at h6;rcases xdrawG_ok _ hP hS (dryOf d.un rest) t1 w1 _ _ _ (λy hy=>hkd y (by rw[h1];exact a6 _ (aT _ (aV.1 hy).1))) h6 with⟨S,tD,wD,g1,g2,g3,g4⟩|⟨_,_,_,_,_,_,_,_,_,_,_,_,g⟩
     · exact .inr (.inr ⟨R,d,rest,c,t1,w1,w2,S,tD,wD,h1,h2,h3,h4,h5,hd,g2,g1,by rw[hsOf_two,lsOf_two];exact g4,g3⟩)
     · cases g
end
end
section
def Inj.cut(ρ : Inj)(m:Nat):Inj:=λb=>if b<m then ρ b else none
theorem xI{ρ : Inj}{m b:Nat}(h:b<m):(ρ.cut m) b = ρ b:=by simp[Inj.cut,h]
theorem cut_ge{ρ : Inj}{m b:Nat}(h:m≤b):(ρ.cut m) b=none:=by simp[Inj.cut,Nat.not_lt.2 h]
theorem wJ{ρ : Inj}{m b:Nat}{B:Bl}(e:(ρ.cut m) b=some B):b<m∧ρ b=some B:=by
 rcases aw b m with h1|h1
 · rw[xI h1]at e;exact⟨h1,e⟩
 · rw[cut_ge h1]at e;cases e
theorem cut_le{ρ : Inj}{m m':Nat}(h:m≤m'):(ρ.cut m).le (ρ.cut m'):=by
 intro b B e;obtain⟨h1,h2⟩:=wJ e;rw [xI (by omega)];exact h2
theorem cut_mono{ρ ρ':Inj}(h: ρ.le ρ')(m:Nat):(ρ.cut m).le (ρ'.cut m):=by
 intro b B e;obtain⟨h1,h2⟩:=wJ e;rw [xI h1];exact h _ _ h2
theorem glue(h1 h2:zB)(m:Nat):∀N,∃h:zB,(∀b,b<m→zF h b=zF h1 b)∧(∀b,m≤b→b<N→zF h b=zF h2 b):=by
 intro N
 induction N with
 | zero=>exact⟨h1,λ_ _=>rfl,λ_ _ h=>absurd h (aD _)⟩
 | succ N ih=>
  obtain⟨h,e1,e2⟩:=ih;by_cases hm:m≤N
  · refine⟨h.set .dead (zF h2 N) N,λb hb=>?_,λb hb hN=>?_⟩
    · rw[zH,if_neg (by omega)];exact e1 b hb
    · rw[zH];by_cases gz:N=b
      · subst gz;rw [if_pos rfl]
      · rw[if_neg gz];exact e2 b hb (by omega)
  · exact⟨h,e1,λb hb hN=>absurd hb (by omega)⟩
section
variable {P:Program} {ng:Nat}
theorem HeapR.congr{ρ : Inj}{base:Nat}{w0:World}{h h':zB}{n:Nat}{wd:World}(r:HeapR P ng ρ base w0 h n wd)(e:∀b B,ρ b=some B→zF h' b=zF h b):HeapR P ng ρ base w0 h' n wd where
 dom:=r.dom
 obj b B hb hl:=by rw[e b B hb]at hl ⊢;exact r.obj b B hb hl
 inj a b A B ha hb la lb hab:=by rw[e a A ha]at la;rw [e b B hb]at lb;exact r.inj a b A B ha hb la lb hab
 below:=r.below
 size:=r.size
 glob:=r.glob
 ngn:=r.ngn
theorem Grow.congr{ρ0:Inj}{h0:zB}{n0:Nat}{wd0:World}{ρ : Inj}{h h':zB}{n:Nat}{wd:World}(g:Grow ρ0 h0 n0 wd0 ρ h n wd)(e:∀b,b<n0→zF h' b=zF h b):Grow ρ0 h0 n0 wd0 ρ h' n wd where
 nn:=g.nn
 old:=g.old
 new:=g.new
 keep:=g.keep
 size:=g.size
 dead b hb hd:=by rw[e b hb];exact g.dead b hb hd
 tape:=g.tape
theorem HeapR.push{ρ : Inj}{base:Nat}{w0:World}{h:zB}{n:Nat}{wd:World}(r:HeapR P ng ρ base w0 h n wd)(o':Obj):HeapR P ng ρ base w0 h n { wd with heap:=wd.heap.push o' } where
 dom:=r.dom
 obj b B hb hl:=by
  obtain⟨o,e1,e2⟩:=r.obj b B hb hl;refine⟨o,?_,e2⟩;have:=r.lt hb hl;show(wd.heap.push o')[B.b]? = _;rw [bX,if_neg (by omega)];exact e1
 inj:=r.inj
 below:=r.below.trans ⟨rfl,rfl,rfl,by simp,λk hk=>by
  have:=r.size;show(wd.heap.push o')[k]? = _;rw [bX,if_neg (by omega)]⟩
 size:=by have:=r.size;simp;omega
 glob:=r.glob
 ngn:=r.ngn
theorem HeapR.add{ρ : Inj}{base:Nat}{w0:World}{h:zB}{n:Nat}{wd:World}(r:HeapR P ng ρ base w0 h n wd){x:Nat}(hx: ρ x=none)(hxn:x<n)(o:AObj)(o':Obj)(B:Bl)(hB:B.b=wd.heap.size)
(hr:ObjR P ng (ρ.put x B) base B o o'):HeapR P ng (ρ.put x B) base w0 (h.set .dead o x) n { wd with heap:=wd.heap.push o' }:=by
 have hle:=Inj.le_put B hx;have r2:=r.push o';refine⟨?_,?_,?_,r2.below,r2.size,?_,r2.ngn⟩
 · intro b hb;have:b≠x:=by omega
   simp[Inj.put,this];exact r.dom b (by omega)
 · intro b C e hl;by_cases hb:b=x
   · subst hb;simp [Inj.put]at e;subst e;refine⟨o',by simp[hB],?_⟩;rw [zH];simpa using hr
   · have e': ρ b=some C:=by simpa [Inj.put,hb] using e
     rw[zH,if_neg (λx=>hb x.symm)]at hl ⊢;obtain⟨ob,h1,h2⟩:=r2.obj b C e' hl;exact⟨ob,h1,h2.mono hle⟩
 · intro a b A C ea eb ha hb hab
   have lt:∀y X,y≠x→(ρ.put x B) y=some X→zF (h.set .dead o x) y≠.dead→X.b<wd.heap.size:=by
    intro y X hy ex hlx;have ex': ρ y=some X:=by simpa [Inj.put,hy] using ex
    rw[zH,if_neg (λz=>hy z.symm)]at hlx;exact r.lt ex' hlx
   by_cases h1:a=x
   · by_cases h2:b=x
     · rw[h1,h2]
     · have:=lt b C h2 eb hb;subst h1;simp [Inj.put]at ea;subst ea;omega
   · by_cases h2:b=x
     · have:=lt a A h1 ea ha;subst h2;simp [Inj.put]at eb;subst eb;omega
     · rw[zH,if_neg (λy=>h1 y.symm)]at ha;rw [zH,if_neg (λy=>h2 y.symm)]at hb;exact r.inj a b A C (by simpa [Inj.put,h1] using ea) (by simpa [Inj.put,h2] using eb) ha hb hab
 · intro g hg;obtain⟨G,e1,e2⟩:=r.glob g hg;exact⟨G,hle _ _ e1,e2⟩
theorem Grow.push{ρ0:Inj}{h0:zB}{n0:Nat}{wd0:World}{ρ : Inj}{h:zB}{n:Nat}{wd:World}(g:Grow ρ0 h0 n0 wd0 ρ h n wd)(o':Obj):Grow ρ0 h0 n0 wd0 ρ h n { wd with heap:=wd.heap.push o' } where
 nn:=g.nn
 old:=g.old
 new:=g.new
 keep c hc hn:=by
  have:=g.size;show(wd.heap.push o')[c]? = _;rw [bX,if_neg (by omega)];exact g.keep c hc hn
 size:=by have:=g.size;simp;omega
 dead:=g.dead
 tape:=g.tape
theorem Grow.add{ρ0:Inj}{h0:zB}{n0:Nat}{wd0:World}{ρ : Inj}{h:zB}{n:Nat}{wd:World}(g:Grow ρ0 h0 n0 wd0 ρ h n wd){x:Nat}(hx0:n0≤x)(o:AObj)(o':Obj)(B:Bl)(hB:B.b=wd.heap.size) :
 Grow ρ0 h0 n0 wd0 (ρ.put x B) (h.set .dead o x) n { wd with heap:=wd.heap.push o' } where
 nn:=g.nn
 old b hb:=by
  have:b≠x:=by omega
  simp[Inj.put,this];exact g.old b hb
 new b C hb e:=by
  by_cases h1:b=x
  · subst h1;simp [Inj.put]at e;subst e;have:=g.size;exact .inl (by omega)
  · exact g.new b C hb (by simpa [Inj.put,h1] using e)
 keep:=(g.push o').keep
 size:=(g.push o').size
 dead b hb hd:=by rw[zH,if_neg (by omega)];exact g.dead b hb hd
 tape:=g.tape
theorem put_cut_ge{ρ : Inj}{x m:Nat}(B:Bl)(h:m≤x):(ρ.put x B).cut m = ρ.cut m:=by
 funext b
 by_cases hb:b<m
 · rw[xI hb,xI hb];have:b≠x:=by omega
   simp[Inj.put,this]
 · rw[cut_ge (by omega),cut_ge (by omega)]
theorem put_cut_lt{ρ : Inj}{x m:Nat}(B:Bl)(h:x<m):(ρ.put x B).cut m=(ρ.cut m).put x B:=by
 funext b
 by_cases hx:b=x
 · subst hx;rw [xI h];simp [Inj.put]
 · by_cases hb:b<m
   · rw[xI hb];simp [Inj.put,hx,xI hb]
   · rw[cut_ge (by omega)];simp [Inj.put,hx,cut_ge (Nat.le_of_not_lt hb)]
theorem put_cut_succ{ρ : Inj}{x:Nat}(B:Bl):(ρ.put x B).cut (x+1)=(ρ.cut x).put x B:=by
 funext b
 by_cases hx:b=x
 · subst hx;rw [xI (by omega)];simp [Inj.put]
 · by_cases hb:b<x
   · rw[xI (by omega)];simp [Inj.put,hx,xI hb]
   · rw[cut_ge (by omega)];simp [Inj.put,hx,cut_ge (Nat.le_of_not_lt hb)]
theorem early{ρ ρ':Inj}{base:Nat}{w0:World}{H hq h2:zB}{nq n2:Nat}{wd wd':World}
(hp:∀m,nq≤m→HeapR P ng (ρ.cut m) base w0 H m wd)(hn:nq≤n2)(none':∀b,nq≤b→b<n2→ρ b=none)
(hH:∀b B,b<nq→ρ b=some B→zF hq b=zF H b)
(h2':HeapR P ng ρ' base w0 h2 n2 wd')(g:Grow (ρ.cut nq) hq nq wd ρ' h2 n2 wd')
{ρ1:Inj}(r1:∀b,b<n2→ρ1 b = ρ' b)(r2:∀b,n2≤b→ρ1 b = ρ b){H1:zB}(e1:∀b,b<n2→zF H1 b=zF h2 b)(e2:∀b B,n2≤b→ρ b=some B→zF H1 b=zF H b) :
 ρ.le ρ1∧∀m,n2≤m→HeapR P ng (ρ1.cut m) base w0 H1 m wd':=by
 have hle: ρ.le ρ1:=by
  intro b B e;rcases aw b n2 with h|h
  · rcases aw b nq with h'|h'
    · rw[r1 b h,g.old b h',xI h'];exact e
    · rw[none' b h' h]at e;cases e
  · rw[r2 b h];exact e
 have c1: ρ1.cut n2 = ρ':=by
  funext b
  rcases aw b n2 with h|h
  · rw[xI h,r1 b h]
  · rw[cut_ge h,h2'.dom b h]
 refine⟨hle,λm hm=>?_⟩;have hpm:=hp m (by omega)
 have old:∀b B,n2≤b→b<m→ρ b=some B→zF H b≠.dead→∃o,wd'.heap[B.b]? = some o∧wd.heap[B.b]? = some o∧B.b<wd.heap.size∧ObjR P ng (ρ.cut m) base B (zF H b) o:=by
  intro b B hb hbm e hl;have ec:(ρ.cut m) b=some B:=by rw[xI hbm];exact e
  obtain⟨o,q1,q2⟩:=hpm.obj b B ec hl;have dV:=hpm.lt ec hl;refine⟨o,?_,q1,dV,q2⟩;rw [g.keep B.b dV ?_,q1];intro b' B' e' fQ eK;obtain⟨l1,e''⟩:=wJ e';rw [hH b' B' l1 e'']at fQ;have:=hpm.inj b' b B' B (by rw[xI (by omega)];exact e'') ec fQ hl eK;omega
 have mixed:∀a b A B,a<n2→n2≤b→b<m→ρ' a=some A→zF h2 a≠.dead→ρ b=some B→zF H b≠.dead→A.b≠B.b:=by
  intro a b A B ha hb hbm ea la eb lb hab;obtain⟨_,_,_,dV,_⟩:=old b B hb hbm eb lb;have ec:(ρ.cut m) b=some B:=by rw[xI hbm];exact eb
  rcases aw a nq with h|h
  · rw[g.old a h,xI h]at ea;have la':zF H a≠.dead:=λhd=>la (g.dead a h (by rw[hH a A h ea];exact hd));have:=hpm.inj a b A B (by rw[xI (by omega)];exact ea) ec la' lb hab;omega
  · rcases g.new a A h ea with h4|⟨a',A',ha',ea',hab',la'⟩
    · omega
    · obtain⟨_,ea''⟩:=wJ ea';rw [hH a' A' ha' ea'']at la';have:=hpm.inj a' b A' B (by rw[xI (by omega)];exact ea'') ec la' lb (hab'.trans hab);omega
 refine⟨λb hb=>cut_ge hb,?_,?_,h2'.below,h2'.size,?_,by have:=h2'.ngn;omega⟩
 · intro b B e hl;obtain⟨hbm,e⟩:=wJ e;rcases aw b n2 with h|h
   · rw[r1 b h]at e;rw [e1 b h]at hl ⊢;obtain⟨o,q1,q2⟩:=h2'.obj b B e hl;refine⟨o,q1,q2.mono ?_⟩;rw [← c1];exact cut_le hm
   · rw[r2 b h]at e;rw [e2 b B h e]at hl ⊢;obtain⟨o,q1,_,_,q2⟩:=old b B h hbm e hl;exact⟨o,q1,q2.mono (cut_mono hle m)⟩
 · intro a b A B ea eb la lb hab;obtain⟨ham,ea⟩:=wJ ea;obtain⟨hbm,eb⟩:=wJ eb;rcases aw a n2 with h|h
   · rw[r1 a h]at ea;rw [e1 a h]at la;rcases aw b n2 with h'|h'
     · rw[r1 b h']at eb;rw [e1 b h']at lb;exact h2'.inj a b A B ea eb la lb hab
     · rw[r2 b h']at eb;rw [e2 b B h' eb]at lb;exact absurd hab (mixed a b A B h h' hbm ea la eb lb)
   · rw[r2 a h]at ea;rw [e2 a A h ea]at la;rcases aw b n2 with h'|h'
     · rw[r1 b h']at eb;rw [e1 b h']at lb;exact absurd hab.symm (mixed b a B A h' h ham eb lb ea la)
     · rw[r2 b h']at eb;rw [e2 b B h' eb]at lb;exact hpm.inj a b A B (by rw[xI ham];exact ea) (by rw[xI hbm];exact eb) la lb hab
 · intro g' hg;obtain⟨G,q1,q2⟩:=h2'.glob g' hg;have hgn:g'<n2:=by have:=h2'.ngn;omega
   exact⟨G,by rw[xI (by omega),r1 g' hgn];exact q1,q2⟩
theorem Grow.early{ρ0:Inj}{h0:zB}{n0:Nat}{wd0:World}{ρ ρ':Inj}{H hq h2:zB}{nq n2:Nat}{wd wd':World}(gh:n0≤nq)
(gr:∀m,nq≤m→Grow ρ0 h0 n0 wd0 (ρ.cut m) H m wd)(hn:nq≤n2)
(hH:∀b,b<n0→zF hq b=zF H b)(g:Grow (ρ.cut nq) hq nq wd ρ' h2 n2 wd')
{ρ1:Inj}(r1:∀b,b<n2→ρ1 b = ρ' b)(r2:∀b,n2≤b→ρ1 b = ρ b){H1:zB}(e1:∀b,b<n2→zF H1 b=zF h2 b) :
 ∀m,n2≤m→Grow ρ0 h0 n0 wd0 (ρ1.cut m) H1 m wd':=by
 intro m hm;have t:Grow ρ0 h0 n0 wd0 ρ' h2 n2 wd':=((gr nq (ae _)).congr hH).trans g;refine⟨by omega,λb hb=>?_,λb B hb e=>?_,t.keep,t.size,λb hb hd=>?_,t.tape⟩
 · rw[xI (by omega),r1 b (by omega)];exact t.old b hb
 · obtain⟨hbm,e⟩:=wJ e;rcases aw b n2 with h|h
   · rw[r1 b h]at e;exact t.new b B hb e
   · rw[r2 b h]at e;exact(gr m (by omega)).new b B hb (by rw[xI hbm];exact e)
 · rw[e1 b (by omega)];exact t.dead b hb hd
end
end
section
section
variable {P:Program} {ng:Nat} {all:Array Oper} {cx:Cx}
theorem uM:∀{A B:List Rec} {t t':Fr} {w w':W},RecsOK P ng all cx (A++B) t w t' w'→∃t1 w1,RecsOK P ng all cx A t w t1 w1∧RecsOK P ng all cx B t1 w1 t' w':=by
 intro A
 induction A with
 | nil=>intro B t t' w w' h;exact⟨t,w,.nil t w,h⟩
 | cons r A ih =>
  intro B t t' w w' h
  cases h with
  | cons h hr=>
   obtain⟨t1,w1,h1,h2⟩:=ih hr;exact⟨t1,w1,.cons h h1,h2⟩
theorem tP:∀{A B:List Rec} {t t1 t':Fr} {w w1 w':W},RecsOK P ng all cx A t w t1 w1→RecsOK P ng all cx B t1 w1 t' w'→RecsOK P ng all cx (A++B) t w t' w':=by
 intro A
 induction A with
 | nil=>intro B t t1 t' w w1 w' h h';cases h;exact h'
 | cons r A ih=>
  intro B t t1 t' w w1 w' h h'
  cases h with
  | cons h hr=>exact .cons h (ih hr h')
theorem recs_end:∀{A:List Rec} {t t1 t2:Fr} {w w1 w2:W},RecsOK P ng all cx A t w t1 w1→RecsOK P ng all cx A t w t2 w2→w1=w2:=by
 intro A
 induction A with
 | nil=>intro t t1 t2 w w1 w2 h h';cases h;cases h';rfl
 | cons r A ih =>
  intro t t1 t2 w w1 w2 h h'
  cases h with
  | cons h hr=>cases h' with
   | cons h' hr'=>exact ih hr hr'
theorem rec_n{r:Rec}(h:RecOK P ng all cx r):r.w.n≤r.w2.n:=by
 cases h with
 | skip=>exact ae _
 | look=>exact ae _
 | made=>exact cy _
 | act _ _ _ hn=>exact hn
theorem wC:∀{R:List Rec} {t t':Fr} {w w':W},RecsOK P ng all cx R t w t' w'→w.n≤w'.n∧∀r∈R,RecOK P ng all cx r∧w.n≤r.w.n∧r.w2.n≤w'.n:=by
 intro R
 induction R with
 | nil=>intro t t' w w' h;cases h;exact⟨ae _,λr hr=>by simp at hr⟩
 | cons r R ih =>
  intro t t' w w' h
  cases h with
  | cons h hr=>
   obtain⟨h1,h2⟩:=ih hr;have h3:=rec_n h;refine⟨by omega,λr' hr'=>?_⟩;rcases aA.1 hr' with rfl|hr'
   · exact⟨h,ae _,h1⟩
   · obtain⟨h4,h5,h6⟩:=h2 r' hr';exact⟨h4,by omega,h6⟩
theorem fget_putF(t:Fr)(dst:Option Tmp)(v:Value)(d:Nat):fget (putF t dst v) d=if dst=some d then v else fget t d:=by
 cases dst with
 | none=>rfl
 | some e=>
  unfold putF fget;dsimp only;rw [Tr.get_set_if];by_cases h:e=d
  · subst h;simp
  · rw[if_neg h,if_neg (λe2=>h (by injection e2))]
theorem recs_slot{d:Nat}:∀{R:List Rec} {t t':Fr} {w w':W},RecsOK P ng all cx R t w t' w'→(∀r∈R,r.x.o.dst≠some d)→fget t' d=fget t d:=by
 intro R
 induction R with
 | nil=>intro t t' w w' h _;cases h;rfl
 | cons r R ih =>
  intro t t' w w' h hd
  cases h with
  | cons h hr=>
   rw[ih hr (λr' hr'=>hd r' (by simp[hr'])),fget_putF,if_neg (hd r (by simp))]
theorem recs_write{d:Nat}{A B:List Rec}{r:Rec}{t t':Fr}{w w':W}(h:RecsOK P ng all cx (A++r::B) t w t' w')(hr:r.x.o.dst=some d)(hB:∀y∈B,y.x.o.dst≠some d):fget t' d=r.v:=by
 obtain⟨t1,w1,_,h2⟩:=uM h
 cases h2 with
 | cons h hr'=>rw [recs_slot hr' hB,fget_putF,if_pos hr]
end
end
section
def Sees(all:Array Oper)(o:Oper)(d:Nat):Prop:=.tmp d∈o.op.operands.toList∨∃g b,o.guard=some (g,b)∧dstOf all g=some d
structure RecPlan (all:Array Oper) (M:Nat→Nat) (D:List DOp):Prop where
 at':∀x∈D,all[x.i]? = some x.o
 kd:∀x∈D,x.kd=zQ x.o.op
 bits:∀x∈D,∀b,zS (M x.i) b=true→∃e∈x.o.after.toList,vN e=true∧(b=e.on∨zS (M e.on) b=true)
 ahead:∀A x B,D=A++x::B→(∀b,zS (M x.i) b=true→∃y∈A,y.i=b)∧(∀y∈A,y.i≠x.i)
 next:∀A S x B,D=A++(S++x::B)→x.kd=3→(∀y∈S,y.kd≠3)→∀y∈S,zS (M x.i) y.i=true
 pair:∀x∈D,∀y∈D,∀d,x.o.dst=some d→(Sees all y.o d∨y.o.dst=some d)→x.i=y.i∨(y.o.dst≠some d∧(zS (M y.i) x.i=true∨zS (M x.i) y.i=true))
 act:∀x∈D,∀y∈D,x.kd=3→y.kd=3→x.i=y.i∨zS (M y.i) x.i=true∨zS (M x.i) y.i=true
 low:∀x∈D,x.low=D.countP λc=>Nat.beq c.kd 3 && zS (M x.i) c.i
 high:∀x∈D,(D.countP λc=>Nat.beq c.kd 3 && (!zS (M c.i) x.i && !Nat.beq c.i x.i))≤x.high
section
variable {all:Array Oper} {M:Nat→Nat} {D:List DOp}
theorem RecPlan.later(K:RecPlan all M D){A B C:List DOp}{x y:DOp}(h:D=A++x::(B++y::C)):zS (M x.i) y.i=false∧x.i≠y.i:=by
 obtain⟨h1,h2⟩:=K.ahead A x _ h;obtain⟨_,h4⟩:=K.ahead (A++x::B) y C (by rw[h];simp);refine⟨?_,h4 x (by simp)⟩
 cases e:zS (M x.i) y.i with
 | false=>rfl
 | true=>
  obtain⟨z,hz,ez⟩:=h1 _ e;exact absurd ez (h4 z (by simp[hz]))
end
structure Cfg where
 t0:Fr
 W0:W
 a0:Act
 wd0:World
 cs0:List Frame
 ρ0:Inj
 base:Nat
 w00:World
 b:Frame
 cx:Cx
 t1:Fr
 w1:W
section
variable (P:Program) (ng:Nat) (all:Array Oper) (M:Nat→Nat) (D E:List DOp) (C:Cfg)
structure Inv (pre suf:List Rec) (ts:Fr) (ws:W) (lst:Nat→Prop) (ρ : Inj) (H:zB) (a:Act) (wd:World) (cs:List Frame):Prop where
 dd:D=(pre++suf).map (·.x)++E
 r1:RecsOK P ng all C.cx pre C.t0 C.W0 ts ws
 r2:RecsOK P ng all C.cx suf ts ws C.t1 C.w1
 last:pre=[]∨∃p r,pre=p++[r]∧r.x.kd=3
 pl:∀r∈pre,lst r.x.i
 sl:∀r∈suf,r.x.kd=3→¬lst r.x.i
 only:∀i,lst i→∃r∈pre++suf,r.x.i=i
 closed:∀i,lst i→∀j,zS (M i) j=true→lst j
 in0:In0 P ng (ρ.cut ws.n) C.base C.w00 C.b a wd cs C.cx ws
 hp:∀m,ws.n≤m→HeapR P ng (ρ.cut m) C.base C.w00 H m wd
 gr:∀m,ws.n≤m→Grow C.ρ0 C.W0.h C.W0.n C.wd0 (ρ.cut m) H m wd
 cst:CsTo C.cx.df C.cs0 cs
 hh:∀b,b<ws.n→zF H b=zF ws.h b
 mkd:∀r∈suf,r.x.kd=2→r.sk=false→lst r.x.i→zF H r.w.n=zF r.w2.h r.w.n
 ex:∀b B,ws.n≤b→ρ b=some B→∃r∈suf,r.x.kd=2∧r.sk=false∧lst r.x.i∧r.w.n=b
 val:∀r∈pre++suf,lst r.x.i→∀d,r.x.o.dst=some d→∃v',a.tmps[d]? = some v'∧RV (ρ.cut r.w2.n) r.v v'
 un:∀d,(∀r∈pre++suf,lst r.x.i→r.x.o.dst≠some d)→a.tmps[d]? = C.a0.tmps[d]?
 tm0:TmR (ρ.cut C.W0.n) (ntm P C.cx.fn) C.t0 C.a0.tmps
 sz:a.tmps.size=C.a0.tmps.size
variable {P ng all M D E C}
variable {pre suf:List Rec} {ts:Fr} {ws:W} {lst:Nat→Prop} {ρ : Inj} {H:zB} {a:Act} {wd:World} {cs:List Frame}
theorem Inv.slot(I:Inv P ng all M D E C pre suf ts ws lst ρ H a wd cs)(K:RecPlan all M D){A S:List Rec}{x:DOp}{rest:List DOp}{t:Fr}{w:W}(hs:suf=A++S)
(hD:D=(pre++A).map (·.x)++x::rest)(hA:RecsOK P ng all C.cx A ts ws t w)(hx:¬lst x.i)(hm:∀b,zS (M x.i) b=true→lst b){d:Nat}(hd:Sees all x.o d){v:Value}(hv:a.tmps[d]? = some v) :
 RV (ρ.cut w.n) (fget t d) v:=by
 have dZ:RecsOK P ng all C.cx (pre++A) C.t0 C.W0 t w:=tP I.r1 hA
 have eY:S.map (·.x)++E=x::rest:=by
  have e:=I.dd;rw [hs,hD,← aN,aK (l₁:=pre++A),aN]at e;exact(List.append_cancel_left e).symm
 have iW:x∈D:=by rw[hD];simp
 obtain⟨ha1,ha2⟩:=K.ahead _ x rest hD;by_cases hw:∃y∈pre++A,y.x.o.dst=some d
 · obtain⟨y,hy,hyd⟩:=hw;obtain⟨A1,A2,hsp⟩:=aL hy;have je:D=A1.map (·.x)++y.x::(A2.map (·.x)++x::rest):=by rw[hD,hsp];simp
   obtain⟨l1,l2⟩:=K.later je
   have hyl:lst y.x.i:=by
    rcases K.pair y.x (by rw[je];simp) x iW d hyd (.inl hd) with h|⟨_,h|h⟩
    · exact absurd h l2
    · exact hm _ h
    · rw[l1]at h;cases h
   obtain⟨v',q1,q2⟩:=I.val y (by rw[hs,← aN];exact bf _ hy) hyl d hyd;rw [hv]at q1;injection q1 with q1;subst q1
   rw[hsp]at dZ
   have h2:fget t d=y.v:=recs_write dZ hyd λz hz e=>by
    obtain⟨B1,B2,hz2⟩:=aL hz;have gF:D=A1.map (·.x)++y.x::(B1.map (·.x)++z.x::(B2.map (·.x)++x::rest)):=by rw[je,hz2];simp
    obtain⟨_,l4⟩:=K.later gF;rcases K.pair y.x (by rw[gF];simp) z.x (by rw[gF];simp) d hyd (.inr e) with h|⟨h,_⟩
    · exact l4 h
    · exact h e
   rw[h2];have:=((wC dZ).2 y (by simp)).2.2;exact q2.mono (cut_le this)
 · have dY:∀r∈pre++A,r.x.o.dst≠some d:=λr hr e=>hw ⟨r,hr,e⟩;rw [recs_slot dZ dY]
   have jh:a.tmps[d]? = C.a0.tmps[d]? :=I.un d λr hr hl e=>by
    rw[hs,← aN]at hr;rcases az.1 hr with hr|hr
    · exact dY r hr e
    have d8:r.x∈x::rest:=by rw[← eY];exact bf _ (ao.2 ⟨r,hr,rfl⟩)
    rcases aA.1 d8 with h|h
    · rw[h]at hl;exact hx hl
    · obtain⟨B1,B2,hz2⟩:=aL h;have gF:D=(pre++A).map (·.x)++x::(B1++r.x::B2):=by rw[hD,hz2]
      obtain⟨l3,l4⟩:=K.later gF;rcases K.pair r.x (by rw[gF];simp) x iW d e (.inl hd) with h|⟨_,h|h⟩
      · exact l4 h.symm
      · rw[l3]at h;cases h
      · exact hx (I.closed _ hl _ h)
   rw[jh]at hv;exact(I.tm0.tm d v hv).mono (cut_le (wC dZ).1)
theorem Inv.slotD(I:Inv P ng all M D E C pre suf ts ws lst ρ H a wd cs){L:List DOp}(K:RecPlan all M L){A S:List Rec}{x:DOp}{rest:List DOp}{t:Fr}{w:W}(hs:suf=A++S)
(hD:L=(pre++A).map (·.x)++x::rest)(hA:RecsOK P ng all C.cx A ts ws t w)(hS:∀r∈S,r.x∈L∧r.x.i≠x.i∧zS (M x.i) r.x.i=false∧zS (M r.x.i) x.i=false)(hm:∀b,zS (M x.i) b=true→lst b){d:Nat}(hd:Sees all x.o d){v:Value}(hv:a.tmps[d]? = some v) :
 RV (ρ.cut w.n) (fget t d) v:=by
 have dZ:RecsOK P ng all C.cx (pre++A) C.t0 C.W0 t w:=tP I.r1 hA;have iW:x∈L:=by rw[hD];simp
 by_cases hw:∃y∈pre++A,y.x.o.dst=some d
 · obtain⟨y,hy,hyd⟩:=hw;obtain⟨A1,A2,hsp⟩:=aL hy;have je:L=A1.map (·.x)++y.x::(A2.map (·.x)++x::rest):=by rw[hD,hsp];simp
   obtain⟨l1,l2⟩:=K.later je
   have hyl:lst y.x.i:=by
    rcases K.pair y.x (by rw[je];simp) x iW d hyd (.inl hd) with h|⟨_,h|h⟩
    · exact absurd h l2
    · exact hm _ h
    · rw[l1]at h;cases h
   obtain⟨v',q1,q2⟩:=I.val y (by rw[hs,← aN];exact bf _ hy) hyl d hyd;rw [hv]at q1;injection q1 with q1;subst q1
   rw[hsp]at dZ
   have h2:fget t d=y.v:=recs_write dZ hyd λz hz e=>by
    obtain⟨B1,B2,hz2⟩:=aL hz;have gF:L=A1.map (·.x)++y.x::(B1.map (·.x)++z.x::(B2.map (·.x)++x::rest)):=by rw[je,hz2];simp
    obtain⟨_,l4⟩:=K.later gF;rcases K.pair y.x (by rw[gF];simp) z.x (by rw[gF];simp) d hyd (.inr e) with h|⟨h,_⟩
    · exact l4 h
    · exact h e
   rw[h2];have:=((wC dZ).2 y (by simp)).2.2;exact q2.mono (cut_le this)
 · have dY:∀r∈pre++A,r.x.o.dst≠some d:=λr hr e=>hw ⟨r,hr,e⟩;rw [recs_slot dZ dY]
   have jh:a.tmps[d]? = C.a0.tmps[d]? :=I.un d λr hr hl e=>by
    rw[hs,← aN]at hr;rcases az.1 hr with hr|hr
    · exact dY r hr e
    obtain⟨s1,s2,s3,s4⟩:=hS r hr;rcases K.pair r.x s1 x iW d e (.inl hd) with h|⟨_,h|h⟩
    · exact s2 h
    · rw[s3]at h;cases h
    · rw[s4]at h;cases h
   rw[jh]at hv;exact(I.tm0.tm d v hv).mono (cut_le (wC dZ).1)
theorem ev_one{N m:Nat}{h:zB}(hH:HeapR P ng ρ C.base C.w00 h m wd){t:Fr}{x:Operand}(hx:opnOK ng N x=true)(hN:N≤a.tmps.size)(hs:∀d,x = .tmp d→∀v,a.tmps[d]? = some v→RV ρ (fget t d) v):RV ρ (ev t x) (a.eval x):=by
 cases x with
 | tmp i=>
  have hi:i<N:=zU hx;have dV:i<a.tmps.size:=aO hi hN;have h:=hs i rfl a.tmps[i] (aC dV);show RV ρ (fget t i) (a.tmps.getD i undef);rw [Array.getD,dif_pos dV];exact h
 | const v=>exact RV.plain hx ρ
 | global g=>
  obtain⟨B,e1,e2⟩:=hH.glob g (zU hx);have:=RV.ptr (o:=0) e1;rw [e2]at this;exact this
 | func f=>exact .func (by intro l;exact Fn.noConfusion) rfl rfl (by intro i v v' e;simp at e) (by intro i v v' e;simp at e)
theorem Inv.looks(I:Inv P ng all M D E C pre suf ts ws lst ρ H a wd cs)(K:RecPlan all M D)(hc:∀o∈all.toList,uW ng (ntm P C.cx.fn) o=true){A S:List Rec}{x:DOp}{rest:List DOp}{t:Fr}{w:W}(hs:suf=A++S)
(hD:D=(pre++A).map (·.x)++x::rest)(hA:RecsOK P ng all C.cx A ts ws t w)(hx:¬lst x.i)(hm:∀b,zS (M x.i) b=true→lst b) :
 OpsR (ρ.cut w.n) t a x.o∧Region.wanted x.o (yielded all a.tmps)=wanted all t x.o.guard:=by
 have dZ:RecsOK P ng all C.cx (pre++A) C.t0 C.W0 t w:=tP I.r1 hA;have gv:ws.n≤w.n:=(wC hA).1;have iW:x∈D:=by rw[hD];simp
 have d8:∀{g:Nat} {o:Oper},all[g]? = some o→o∈all.toList:=λho=>by rw[← aJ]at ho;exact aj.2 ⟨_,ho⟩
 have hN:ntm P C.cx.fn≤a.tmps.size:=by rw[I.sz];exact I.tm0.le
 refine⟨λy hy=>?_,wanted_ok λg q hg d hd=>?_⟩
 · refine ev_one (I.hp w.n gv) (ay.1 (ad.1 (hc x.o (d8 (K.at' x iW)))).1 y hy) hN λd e v hv=>?_;subst e;exact I.slot K hs hD hA hx hm (.inl hy) hv
 · have dV:d<ntm P C.cx.fn:=by
    unfold dstOf at hd
    cases ho:all[g]? with
    | none=>rw [ho]at hd;cases hd
    | some og=>
     rw[ho]at hd;have:=(ad.1 (hc og (d8 ho))).2;dsimp only at hd;rw [hd]at this;exact zU this
   have d5:d<a.tmps.size:=aO dV hN;have e1:=aC d5;exact⟨a.tmps[d],e1,(I.slot K hs hD hA hx hm (.inr ⟨g,q,hg,hd⟩) e1).boolOf⟩
theorem Inv.looksD(I:Inv P ng all M D E C pre suf ts ws lst ρ H a wd cs){L:List DOp}(K:RecPlan all M L)(hc:∀o∈all.toList,uW ng (ntm P C.cx.fn) o=true){A S:List Rec}{x:DOp}{rest:List DOp}{t:Fr}{w:W}(hs:suf=A++S)
(hD:L=(pre++A).map (·.x)++x::rest)(hA:RecsOK P ng all C.cx A ts ws t w)(hS:∀r∈S,r.x∈L∧r.x.i≠x.i∧zS (M x.i) r.x.i=false∧zS (M r.x.i) x.i=false)(hm:∀b,zS (M x.i) b=true→lst b) :
 OpsR (ρ.cut w.n) t a x.o∧Region.wanted x.o (yielded all a.tmps)=wanted all t x.o.guard:=by
 have dZ:RecsOK P ng all C.cx (pre++A) C.t0 C.W0 t w:=tP I.r1 hA;have gv:ws.n≤w.n:=(wC hA).1;have iW:x∈L:=by rw[hD];simp
 have d8:∀{g:Nat} {o:Oper},all[g]? = some o→o∈all.toList:=λho=>by rw[← aJ]at ho;exact aj.2 ⟨_,ho⟩
 have hN:ntm P C.cx.fn≤a.tmps.size:=by rw[I.sz];exact I.tm0.le
 refine⟨λy hy=>?_,wanted_ok λg q hg d hd=>?_⟩
 · refine ev_one (I.hp w.n gv) (ay.1 (ad.1 (hc x.o (d8 (K.at' x iW)))).1 y hy) hN λd e v hv=>?_;subst e;exact I.slotD K hs hD hA hS hm (.inl hy) hv
 · have dV:d<ntm P C.cx.fn:=by
    unfold dstOf at hd
    cases ho:all[g]? with
    | none=>rw [ho]at hd;cases hd
    | some og=>
     rw[ho]at hd;have:=(ad.1 (hc og (d8 ho))).2;dsimp only at hd;rw [hd]at this;exact zU this
   have d5:d<a.tmps.size:=aO dV hN;have e1:=aC d5;exact⟨a.tmps[d],e1,(I.slotD K hs hD hA hS hm (.inr ⟨g,q,hg,hd⟩) e1).boolOf⟩
end
end
section
theorem quiet_free{o:Op}(hk:zQ o=0)(P:Program)(t:Fr)(h h':zB):xN o P t h=xN o P t h':=by
 cases o with
 | call c=>
  obtain⟨callee,asz,ts⟩:=c
  cases callee with
  | builtin b=>cases b <;> cases hk
  | value f=>cases hk
  | invoke r m=>cases hk
 | load _ _=>cases hk
 | lookup _ _ _ _=>cases hk
 | slice _ _ _ _ _=>cases hk
 | _=>rfl
theorem blkLt_ptr{n:Nat}{a:Addr}(h:blkLt n (.pointer (some a))=true):a.block<n:=zU h
theorem blkLt_slice{n l c:Nat}{a:Addr}(h:blkLt n (.slice (some a) l c)=true):a.block<n:=zU h
theorem blkLt_map{n r:Nat}(h:blkLt n (.map (some r))=true):r<n:=zU h
theorem quiet_at{o:Op}(hk:zQ o=1)(P:Program)(t:Fr){n:Nat}(hl:lookLt n o t=true){h h':zB}(e:∀b,b<n→zF h' b=zF h b):xN o P t h'=xN o P t h:=by
 cases o with
 | load ty x =>
  have hl:blkLt n (ev t x)=true:=hl;show onPtr (ev t x) _ none=onPtr (ev t x) _ none;generalize ev t x=v at hl
  cases v with
  | pointer a =>
   cases a with
   | none=>rfl
   | some a =>
    obtain⟨b,off,s⟩:=a
    cases s with
    | some s=>rfl
    | none=>
     have:=e b (blkLt_ptr hl);unfold zF at this;show onRows (zF h' b) _ _ none=onRows (zF h b) _ _ none;unfold zF;rw [this]
  | _=>rfl
 | lookup ty x key ok =>
  have hl:blkLt n (ev t x)=true:=hl;show yX P h' ty (ev t x) (ev t key) ok=yX P h ty (ev t x) (ev t key) ok;generalize ev t x=v at hl
  cases v with
  | map r =>
   cases r with
   | none=>rfl
   | some r=>
    have:=e r (blkLt_map hl);unfold yX;simp only[this]
  | _=>rfl
 | slice ty x lo hi mx =>
  have hl:blkLt n (ev t x)=true:=hl;show wW P h' ty (ev t x) (lo.map (ev t)) (hi.map (ev t)) (mx.map (ev t))=wW P h ty (ev t x) (lo.map (ev t)) (hi.map (ev t)) (mx.map (ev t));generalize ev t x=v at hl
  unfold wW
  cases und P ty with
  | none=>rfl
  | some d =>
   cases v with
   | slice a l c =>
    cases a with
    | none=>cases d <;> rfl
    | some a =>
     have:=e a.block (blkLt_slice hl);obtain⟨b,off,s⟩:=a
     cases s with
     | some s=>cases d <;> rfl
     | none=>
      have this:zF h' b=zF h b:=this;cases d <;> simp only[this]
   | pointer a =>
    cases a with
    | none=>cases d <;> rfl
    | some a=>
     obtain⟨b,off,s⟩:=a;cases s <;> cases d <;> rfl
   | _=>cases d <;> rfl
 | call c =>
  obtain⟨callee,asz,ts⟩:=c
  cases callee with
  | value f=>cases hk
  | invoke r m=>cases hk
  | builtin b =>
   show quietB P b ts.toList (asz.toList.map (ev t)) h'=quietB P b ts.toList (asz.toList.map (ev t)) h;have hl:(match asz.toList with|x::_=>blkLt n (ev t x)|[]=>true)=true:=hl;generalize asz.toList=l at hl ⊢
   generalize ts.toList=tl
   cases b <;> first|rfl|skip
   cases l with
   | nil=>rfl
   | cons x l =>
    cases tl with
    | nil=>rfl
    | cons ty tl =>
     have hl:blkLt n (ev t x)=true:=hl;show aLen P h' ty (ev t x)=aLen P h ty (ev t x);generalize ev t x=v at hl
     unfold aLen
     cases und P ty with
     | none=>rfl
     | some d =>
      cases v with
      | map r =>
       cases r with
       | none=>cases d <;> rfl
       | some r=>
        have:=e r (blkLt_map hl);cases d <;> simp only[this]
      | _=>cases d <;> rfl
 | makeMap t r=>cases r <;> cases hk
 | _=>cases hk
theorem two_of{α : Type}{l:List α}{x y: α}(hx:x∈l)(hy:y∈l):x=y∨(∃A B C,l=A++x::(B++y::C))∨∃A B C,l=A++y::(B++x::C):=by
 obtain⟨A,B,rfl⟩:=aL hx;rcases az.1 hy with h|h
 · obtain⟨A1,A2,rfl⟩:=aL h;exact .inr (.inr ⟨A1,A2,B,by simp⟩)
 · rcases aA.1 h with h|h
   · exact .inl h.symm
   · obtain⟨B1,B2,rfl⟩:=aL h;exact .inr (.inl ⟨A,B1,B2,rfl⟩)
section
variable {P:Program} {ng:Nat} {all:Array Oper} {M:Nat→Nat} {D E:List DOp} {C:Cfg}
variable {pre suf:List Rec} {ts:Fr} {ws:W} {lst:Nat→Prop} {ρ : Inj} {H:zB} {a:Act} {wd:World} {cs:List Frame}
theorem Inv.uniq(I:Inv P ng all M D E C pre suf ts ws lst ρ H a wd cs)(K:RecPlan all M D){r r':Rec}(h:r∈pre++suf)(h':r'∈pre++suf)(e:r.x.i=r'.x.i):r=r':=by
 rcases two_of h h' with h1|⟨X,Y,Z,h1⟩|⟨X,Y,Z,h1⟩
 · exact h1
 · exact absurd e (K.later (A:=X.map (·.x)) (B:=Y.map (·.x)) (C:=Z.map (·.x)++E) (by rw[I.dd,h1];simp)).2
 · exact absurd e.symm (K.later (A:=X.map (·.x)) (B:=Y.map (·.x)) (C:=Z.map (·.x)++E) (by rw[I.dd,h1];simp)).2
theorem put_at{a:Act}{o:Option Tmp}{v:Value}{d:Nat}(h:o≠some d):(a.put o v).tmps[d]? = a.tmps[d]? :=by
 cases o with
 | none=>rfl
 | some e=>
  have:e≠d:=λq=>h (by rw[q]);simp [Act.put,Array.getElem?_setIfInBounds_ne this]
theorem put_self_at{a:Act}{v:Value}{d:Nat}(h:d<a.tmps.size):(a.put (some d) v).tmps[d]? = some v:=by
 simp[Act.put,h]
theorem put_size{a:Act}{o:Option Tmp}{v:Value}:(a.put o v).tmps.size=a.tmps.size:=by
 cases o <;> simp[Act.put]
theorem Inv.note(I:Inv P ng all M D E C pre suf ts ws lst ρ H a wd cs)(K:RecPlan all M D)(hc:∀o∈all.toList,uW ng (ntm P C.cx.fn) o=true){r:Rec}(hr:r∈suf)(h3:r.x.kd≠3)
(hx:¬lst r.x.i)(hm:∀b,zS (M r.x.i) b=true→lst b){ρ1:Inj}{H1:zB}{wd1:World}{v':Value}(hle: ρ.le ρ1)(hv:RV (ρ1.cut r.w2.n) r.v v')
(in0:In0 P ng (ρ1.cut ws.n) C.base C.w00 C.b a wd1 cs C.cx ws)(hp:∀m,ws.n≤m→HeapR P ng (ρ1.cut m) C.base C.w00 H1 m wd1)(gr:∀m,ws.n≤m→Grow C.ρ0 C.W0.h C.W0.n C.wd0 (ρ1.cut m) H1 m wd1)
(hh:∀b,b<ws.n→zF H1 b=zF ws.h b)(mkd:∀q∈suf,q.x.kd=2→q.sk=false→(lst q.x.i∨q=r)→zF H1 q.w.n=zF q.w2.h q.w.n)
(ex:∀b B,ws.n≤b→ρ1 b=some B→∃q∈suf,q.x.kd=2∧q.sk=false∧(lst q.x.i∨q=r)∧q.w.n=b) :
 Inv P ng all M D E C pre suf ts ws (λi=>lst i∨i=r.x.i) ρ1 H1 (a.put r.x.o.dst v') wd1 cs:=by
 have hrm:r∈pre++suf:=a6 _ hr;have gp:r.x∈D:=by rw[I.dd];exact bf _ (ao.2 ⟨r,hrm,rfl⟩)
 have gC:∀q∈pre++suf,lst q.x.i→∀d,q.x.o.dst=some d→r.x.o.dst≠some d:=by
  intro q hq hl d e e2;have hqD:q.x∈D:=by rw[I.dd];exact bf _ (ao.2 ⟨q,hq,rfl⟩)
  rcases K.pair q.x hqD r.x gp d e (.inr e2) with h|⟨h,_⟩
  · rw[h]at hl;exact hx hl
  · exact h e2
 have dV:∀d,r.x.o.dst=some d→d<a.tmps.size:=by
  intro d e
  have d8:r.x.o∈all.toList:=by
   have ho:=K.at' r.x gp;rw [← aJ]at ho;exact aj.2 ⟨_,ho⟩
  have:=(ad.1 (hc r.x.o d8)).2;rw [e]at this;have h1:d<ntm P C.cx.fn:=zU this;rw [I.sz];exact aO h1 I.tm0.le
 refine⟨I.dd,I.r1,I.r2,I.last,λq hq=>.inl (I.pl q hq),?_,?_,?_,in0.act (put_defers a _ _),hp,gr,I.cst,hh,?_,?_,?_,?_,I.tm0.mono (cut_mono hle _),put_size.trans I.sz⟩
 · intro q hq hk hl;rcases hl with hl|hl
   · exact I.sl q hq hk hl
   · have:=I.uniq K (a6 _ hq) hrm hl;rw [this]at hk;exact h3 hk
 · intro i hi;rcases hi with hi|rfl
   · exact I.only i hi
   · exact⟨r,hrm,rfl⟩
 · intro i hi j hj;rcases hi with hi|rfl
   · exact .inl (I.closed i hi j hj)
   · exact .inl (hm j hj)
 · intro q hq h2 hsk hl;refine mkd q hq h2 hsk ?_;rcases hl with hl|hl
   · exact .inl hl
   · exact .inr (I.uniq K (a6 _ hq) hrm hl)
 · intro b B hb e;obtain⟨q,q1,q2,q3,q4,q5⟩:=ex b B hb e;exact⟨q,q1,q2,q3,q4.imp id (λe=>by rw[e]),q5⟩
 · intro q hq hl d hd;by_cases gk:lst q.x.i
   · obtain⟨v2,e1,e2⟩:=I.val q hq gk d hd;exact⟨v2,by rw[put_at (gC q hq gk d hd)];exact e1,e2.mono (cut_mono hle _)⟩
   · have hqr:q=r:=I.uniq K hq hrm (hl.resolve_left gk);subst hqr;exact⟨v',by rw[hd];exact put_self_at (dV d hd),hv⟩
 · intro d hd;rw [put_at (hd r hrm (.inr rfl))];exact I.un d λq hq hl=>hd q hq (.inl hl)
theorem Inv.calm(I:Inv P ng all M D E C pre suf ts ws lst ρ H a wd cs)(K:RecPlan all M D)(hc:∀o∈all.toList,uW ng (ntm P C.cx.fn) o=true){r:Rec}(hr:r∈suf)(h3:r.x.kd≠3)(h2:r.x.kd≠2∨r.sk=true)
(hx:¬lst r.x.i)(hm:∀b,zS (M r.x.i) b=true→lst b){v':Value}(hv:RV (ρ.cut r.w2.n) r.v v') :
 Inv P ng all M D E C pre suf ts ws (λi=>lst i∨i=r.x.i) ρ H (a.put r.x.o.dst v') wd cs:=
 I.note K hc hr h3 hx hm (Inj.le.refl ρ) hv I.in0 I.hp I.gr I.hh
  (λq hq q2 q3 q4=>I.mkd q hq q2 q3 (q4.resolve_right λe=>by
   subst e;rcases h2 with h2|h2
   · exact h2 q2
   · rw[h2]at q3;cases q3))
  (λb B hb e=>let ⟨q,q1,q2,q3,q4,q5⟩:=I.ex b B hb e;⟨q,q1,q2,q3,.inl q4,q5⟩)
end
end
section
theorem hsOf_app:∀(A B:List Rec) (hs:List W),hsOf (A++B) hs=hsOf B (hsOf A hs):=by
 intro A
 induction A with
 | nil=>intro B hs;rfl
 | cons r A ih=>intro B hs;exact ih B _
theorem hsOf_ends:∀(R:List Rec) (hs:List W),∃X,hsOf R hs=X++hs:=by
 intro R
 induction R with
 | nil=>intro hs;exact⟨[],rfl⟩
 | cons r R ih=>
  intro hs;obtain⟨X,e⟩:=ih (cond (Nat.beq r.x.kd 3) (r.w2::hs) hs)
  cases h:Nat.beq r.x.kd 3 with
  | true=>exact⟨X++[r.w2],by rw[h]at e;show hsOf R (cond (Nat.beq r.x.kd 3) (r.w2::hs) hs)=_;rw [h,e];simp⟩
  | false=>exact⟨X,by rw[h]at e;show hsOf R (cond (Nat.beq r.x.kd 3) (r.w2::hs) hs)=_;rw [h,e];rfl⟩
theorem hsOf_len:∀(R:List Rec) (hs:List W),(hsOf R hs).length=(R.map (·.x)).countP (λc=>Nat.beq c.kd 3)+hs.length:=by
 intro R
 induction R with
 | nil=>intro hs;simp [hsOf]
 | cons r R ih=>
  intro hs;show(hsOf R (cond (Nat.beq r.x.kd 3) (r.w2::hs) hs)).length=_;rw [ih];cases h:Nat.beq r.x.kd 3 <;> simp[h];omega
theorem lsOf_keep:∀(R:List Rec) (ls:List Look) (l:Look),l∈ls→l∈lsOf R ls:=by
 intro R
 induction R with
 | nil=>intro ls l h;exact h
 | cons r R ih=>
  intro ls l h;refine ih _ l ?_
  cases (!r.sk && (Nat.beq r.x.kd 1 && !Nat.beq r.x.low r.x.high)) with
  | true=>exact aT _ h
  | false=>exact h
theorem lsOf_mem:∀(R:List Rec) (ls:List Look) (r:Rec),r∈R→r.sk=false→r.x.kd=1→r.x.low≠r.x.high→(⟨r.x.o.op,r.t,r.v,r.x.low,r.x.high⟩:Look)∈lsOf R ls:=by
 intro R
 induction R with
 | nil=>intro ls r h;simp at h
 | cons q R ih=>
  intro ls r h h1 h2 h3;rcases aA.1 h with rfl|h
  · refine lsOf_keep R _ _ ?_
    have e:Nat.beq r.x.low r.x.high=false:=by
     cases e:Nat.beq r.x.low r.x.high with
     | false=>rfl
     | true=>exact absurd (zE e) h3
    rw[h1,h2,e];exact aY
  · exact ih _ r h h1 h2 h3
theorem looksOK_mem{P:Program}{k:Nat}{hs:List W}:∀{ls:List Look},xO P k hs ls=true→∀l∈ls,sV P l k hs=true:=by
 intro ls
 induction ls with
 | nil=>intro _ l h;simp at h
 | cons q ls ih=>
  intro h l hl;have h':(sV P q k hs && xO P k hs ls)=true:=h;obtain⟨h1,h2⟩:=ad.1 h';rcases aA.1 hl with rfl|hl
  · exact h1
  · exact ih h2 l hl
theorem le_ble{a b:Nat}(h:a≤b):Nat.ble a b=true:=by rw[Nat.ble_eq];exact h
theorem lookOK_at{P:Program}{l:Look}:∀{X:List W} {w:W} {Y:List W},sV P l (X++w::Y).length (X++w::Y)=true→l.low≤Y.length→Y.length≤l.high→
 lookLt w.n l.o l.t=true∧∃v,xN l.o P l.t w.h=some v∧sameB v l.v=true:=by
 intro X
 induction X with
 | nil =>
  intro w Y h h1 h2
  have h':((cond (Nat.ble l.low Y.length && Nat.ble Y.length l.high) (lookLt w.n l.o l.t && (match xN l.o P l.t w.h with
   | some v=>sameB v l.v
   | none=>false)) true) && sV P l Y.length Y)=true:=h
  obtain⟨h3,_⟩:=ad.1 h';rw [le_ble h1,le_ble h2]at h3
  obtain⟨h4,h5⟩:=ad.1 (show(lookLt w.n l.o l.t && (match xN l.o P l.t w.h with
   | some v=>sameB v l.v
   | none=>false))=true from h3)
  refine⟨h4,?_⟩
  cases hq:xN l.o P l.t w.h with
  | none=>rw [hq]at h5;cases h5
  | some v=>rw [hq]at h5;exact⟨v,rfl,h5⟩
 | cons q X ih =>
  intro w Y h h1 h2
  have h':((cond (Nat.ble l.low (X++w::Y).length && Nat.ble (X++w::Y).length l.high) (lookLt q.n l.o l.t && (match xN l.o P l.t q.h with
   | some v=>sameB v l.v
   | none=>false)) true) && sV P l (X++w::Y).length (X++w::Y))=true:=h
  exact ih (ad.1 h').2 h1 h2
theorem scalB_eq{v v':Value}(h:scalB v v'=true):v=v':=by
 unfold scalB at h;split at h <;> try (first|rfl|(exact absurd h aM))
 · rename_i a b;cases a <;> cases b <;> first|rfl|cases h
 · obtain⟨h1,h2⟩:=ad.1 h;rw [wO]at h2;rw [vZ h1,of_decide_eq_true h2]
 · rename_i a b;rw [tV]at h;have e:=eq_of_beq h;obtain⟨⟨a⟩⟩:=a;obtain⟨⟨b⟩⟩:=b;have e:a=b:=e;rw [e]
 · obtain⟨h1,h2⟩:=ad.1 h;rw [zE h1,zE h2]
 · obtain⟨h1,h2⟩:=ad.1 h;rw [zE h1,zE h2]
 · obtain⟨h1,h4⟩:=ad.1 h;obtain⟨h1,h3⟩:=ad.1 h1;obtain⟨h1,h2⟩:=ad.1 h1;rw [zE h1,zE h2,zE h3,zE h4]
 · rw[zE h]
theorem scalsB_eq:∀{l l':List Value},sU l l'=true→l=l':=by
 intro l
 induction l with
 | nil=>intro l' h;cases l' with
  | nil=>rfl
  | cons b l'=>cases h
 | cons a l ih => intro l' h; cases l' with
  | nil=>cases h
  | cons b l'=>
   have h':(scalB a b && sU l l')=true:=h;obtain⟨h1,h2⟩:=ad.1 h';rw [scalB_eq h1,ih h2]
theorem sameB_eq{v v':Value}(h:sameB v v'=true):v=v':=by
 unfold sameB at h;split at h
 · rename_i a b;have e:=scalsB_eq h;obtain⟨a⟩:=a;obtain⟨b⟩:=b;have e:a=b:=e;rw [e]
 · rename_i a b;have e:=scalsB_eq h;obtain⟨a⟩:=a;obtain⟨b⟩:=b;have e:a=b:=e;rw [e]
 · rename_i f a b g c d;obtain⟨h1,h2⟩:=ad.1 h;obtain⟨h2,h3⟩:=ad.1 h2;have e1:=scalsB_eq h2;have e2:=scalsB_eq h3;obtain⟨a⟩:=a;obtain⟨b⟩:=b;obtain⟨c⟩:=c;obtain⟨d⟩:=d;have e1:a=c:=e1;have e2:b=d:=e2;rw [zE h1,e1,e2]
 · exact scalB_eq h
theorem countP_lt{α : Type}{p q: α→Bool}{l:List α}(h:∀x∈l,p x=true→q x=true){c: α}(hc:c∈l)(hp:p c=false)(hq:q c=true):l.countP p<l.countP q:=by
 obtain⟨A,B,rfl⟩:=aL hc;have h1:A.countP p≤A.countP q:=cN λx hx=>h x (by simp[hx]);have h2:B.countP p≤B.countP q:=cN λx hx=>h x (by simp[hx]);simp only[du,List.countP_cons,hp,hq];simp;omega
section
variable {P:Program} {ng:Nat} {all:Array Oper} {M:Nat→Nat} {D E:List DOp} {C:Cfg}
variable {pre suf:List Rec} {ts:Fr} {ws:W} {lst:Nat→Prop} {ρ : Inj} {H:zB} {a:Act} {wd:World} {cs:List Frame}
theorem seg_ok{cx:Cx}:∀{A:List Rec} {t t':Fr} {w w':W},RecsOK P ng all cx A t w t' w'→(∀r∈A,r.x.kd≠3∧r.x.kd=zQ r.x.o.op)→
 w'.d=w.d∧w'.u=w.u∧(∀b,b<w.n→zF w'.h b=zF w.h b)∧∀r∈A,r.x.kd=2→r.sk=false→zF w'.h r.w.n=zF r.w2.h r.w.n:=by
 intro A
 induction A with
 | nil=>intro t t' w w' h _;cases h;exact⟨rfl,rfl,λ_ _=>rfl,λr hr=>by simp at hr⟩
 | cons r A ih =>
  intro t t' w w' h hk;have eM:∀r∈A,r.x.kd≠3∧r.x.kd=zQ r.x.o.op:=λq hq=>hk q (by simp[hq]);obtain⟨k3,kk⟩:=hk r (by simp)
  cases h with
  | cons hr jr =>
   obtain⟨i1,i2,i3,i4⟩:=ih jr eM
   have key:r.w2.d=r.w.d∧r.w2.u=r.w.u∧(∀b,b<r.w.n→zF r.w2.h b=zF r.w.h b)∧(r.x.kd=2→r.sk=false→r.w.n<r.w2.n):=by
    cases hr with
    | skip=>exact⟨rfl,rfl,λ_ _=>rfl,λ_ h=>by cases h⟩
    | look hw fU=>exact⟨rfl,rfl,λ_ _=>rfl,λh=>by dsimp only at h;omega⟩
    | made hw fU hn=>exact⟨rfl,rfl,λb hb=>by dsimp only at hb ⊢;rw [zH,if_neg (by omega)],λ_ _=>aS _⟩
    | act hw fU ho hn=>
     exfalso
     rename_i x t w w2 v;have h9:zQ x.o.op≤3:=by unfold zQ;split <;> (try split) <;> omega
     dsimp only at k3 kk;omega
   obtain⟨k1,k2,k4,k5⟩:=key;have hn:=rec_n hr;refine⟨i1.trans k1,i2.trans k2,λb hb=>(i3 b (by omega)).trans (k4 b hb),λq hq h2 hsk=>?_⟩;rcases aA.1 hq with rfl|hq
   · exact i3 _ (k5 h2 hsk)
   · exact i4 q hq h2 hsk
theorem maker_uniq{cx:Cx}{R:List Rec}{t t':Fr}{w w':W}(h:RecsOK P ng all cx R t w t' w'){r r':Rec}(hr:r∈R)(hr':r'∈R)(k:r.x.kd=2)(k':r'.x.kd=2)(s:r.sk=false)(s':r'.sk=false)(e:r.w.n=r'.w.n):r=r':=by
 have grow:∀{r:Rec},RecOK P ng all cx r→r.x.kd=2→r.sk=false→r.w.n<r.w2.n:=by
  intro r h k s
  cases h with
  | skip=>cases s
  | look hw fU=>dsimp only at k;omega
  | made=>exact aS _
  | act hw fU=>exact absurd k fU.2.2
 have key:∀{r r':Rec} {X Y Z:List Rec},r.x.kd=2→r.sk=false→R=X++r::(Y++r'::Z)→r.w.n<r'.w.n:=by
  intro r r' X Y Z k s hR;rw [hR]at h;obtain⟨t1,w1,_,h2⟩:=uM h
  cases h2 with
  | cons h3 h4=>
   have h5:=grow h3 k s;have h6:=((wC h4).2 r' (by simp)).2.1;omega
 rcases two_of hr hr' with h1|⟨X,Y,Z,h1⟩|⟨X,Y,Z,h1⟩
 · exact h1
 · have:=key k s h1;omega
 · have:=key k' s' h1;omega
theorem Inv.seg(I:Inv P ng all M D E C pre suf ts ws lst ρ H a wd cs)(K:RecPlan all M D){A S:List Rec}{t:Fr}{w:W}(hs:suf=A++S)(hA:RecsOK P ng all C.cx A ts ws t w)(h3:∀r∈A,r.x.kd≠3) :
 w.d=ws.d∧w.u=ws.u∧∀b B,b<w.n→ρ b=some B→zF w.h b=zF H b:=by
 have hD:∀r∈A,r.x∈D:=λr hr=>by rw[I.dd];exact bf _ (ao.2 ⟨r,by rw[hs];simp [hr],rfl⟩)
 obtain⟨s1,s2,s3,s4⟩:=seg_ok hA λr hr=>⟨h3 r hr,K.kd _ (hD r hr)⟩;refine⟨s1,s2,λb B hb e=>?_⟩;rcases aw b ws.n with h|h
 · rw[s3 b h,I.hh b h]
 · obtain⟨q,q1,q2,q3,q4,q5⟩:=I.ex b B h e;have hr2:=I.r2;rw [hs]at hr2;obtain⟨t1,w1,x1,x2⟩:=uM hr2
   have hqA:q∈A:=by
    rw[hs]at q1;rcases az.1 q1 with h|h
    · exact h
    · exfalso
      have h6:=((wC x2).2 q h).2.1;have e1:=recs_end hA x1;rw [← e1]at h6;omega
   subst q5;rw [s4 q hqA q2 q3,I.mkd q q1 q2 q3 q4]
end
end
section
section
variable {P:Program} {ng:Nat} {all:Array Oper} {M:Nat→Nat} {D E:List DOp} {C:Cfg}
variable {pre suf:List Rec} {ts:Fr} {ws:W} {lst:Nat→Prop} {ρ : Inj} {H:zB} {a:Act} {wd:World} {cs:List Frame}
theorem Inv.mem(I:Inv P ng all M D E C pre suf ts ws lst ρ H a wd cs){r:Rec}(h:r∈pre++suf):r.x∈D:=by
 rw[I.dd];exact bf _ (ao.2 ⟨r,h,rfl⟩)
theorem Inv.head(I:Inv P ng all M D E C pre suf ts ws lst ρ H a wd cs):∃Y,hsOf pre [C.W0]=ws::Y∧Y.length=(pre.map (·.x)).countP (λc=>Nat.beq c.kd 3):=by
 rcases I.last with h|⟨p,r,h,h3⟩
 · subst h;have:=I.r1;cases this
   exact⟨[],rfl,rfl⟩
 · have h1:=I.r1;rw [h]at h1;obtain⟨t1,w1,_,h2⟩:=uM h1
   cases h2 with
   | cons h3' h4=>
    cases h4
    refine⟨hsOf p [C.W0],?_,?_⟩
    · rw[h,hsOf_app];show cond (Nat.beq r.x.kd 3) (r.w2::hsOf p [C.W0]) (hsOf p [C.W0])=_;rw [h3];rfl
    · rw[h,hsOf_len];simp [h3]
theorem Inv.look(hP:yG ng P=true)(I:Inv P ng all M D E C pre suf ts ws lst ρ H a wd cs)(K:RecPlan all M D)
(hL:xO P (hsOf (pre++suf) [C.W0]).length (hsOf (pre++suf) [C.W0]) (lsOf (pre++suf) [])=true)
{A B:List Rec}{r:Rec}(hs:suf=A++r::B)(hA:RecsOK P ng all C.cx A ts ws r.t r.w)(hsk:r.sk=false)(hk:r.x.kd=0∨r.x.kd=1)(hq:xN r.x.o.op P r.t r.w.h=some r.v)
(hx:¬lst r.x.i)(hm:∀b,zS (M r.x.i) b=true→lst b)(hO:OpsR (ρ.cut r.w.n) r.t a r.x.o) :
 ∃v',(execOp a.eval r.x.o).run P wd = .ok (.value v') wd∧RV (ρ.cut r.w.n) r.v v':=by
 have gv:ws.n≤r.w.n:=(wC hA).1;have hrm:r∈pre++suf:=by rw[hs];simp
 have gp:=I.mem hrm;have hkd:=K.kd _ gp;have iR:D=(pre++A).map (·.x)++r.x::(B.map (·.x)++E):=by rw[I.dd,hs];simp
 rcases hk with hk|hk
 · rw[quiet_free (hkd.symm.trans hk) P r.t r.w.h H]at hq;exact quiet_ok hP (I.hp _ gv) hO hq
 by_cases kO:r.x.low=r.x.high
 ·
  have dY:∀q∈A,q.x.kd≠3:=by
   intro q hqA h3;have gk:¬lst q.x.i:=I.sl q (by rw[hs];simp [hqA]) h3;obtain⟨A1,A2,hA2⟩:=aL hqA;have lh:D=(pre++A1).map (·.x)++q.x::(A2.map (·.x)++r.x::(B.map (·.x)++E)):=by rw[iR,hA2];simp
   obtain⟨l1,l2⟩:=K.later lh
   have dV:=countP_lt (l:=D) (p:=λc=>Nat.beq c.kd 3 && zS (M r.x.i) c.i) (q:=λc=>Nat.beq c.kd 3 && (!zS (M c.i) r.x.i && !Nat.beq c.i r.x.i)) (c:=q.x)
    (λc hc hp=>by
     obtain⟨p1,p2⟩:=ad.1 hp
     have b1:zS (M c.i) r.x.i=false∧c.i≠r.x.i:=by
      rcases two_of hc gp with e|⟨X,Y,Z,e⟩|⟨X,Y,Z,e⟩
      · exfalso
        rw[e,hk]at p1;cases p1
      · exact K.later e
      · rw[(K.later e).1]at p2;cases p2
     have b2:Nat.beq c.i r.x.i=false:=by
      cases e:Nat.beq c.i r.x.i with
      | false=>rfl
      | true=>exact absurd (zE e) b1.2
     simp only[p1,b1.1,b2];rfl)
    (by rw[lh];simp)
    (by
     have:zS (M r.x.i) q.x.i=false:=by
      cases e:zS (M r.x.i) q.x.i with
      | false=>rfl
      | true=>exact absurd (hm _ e) gk
     simp only[this,cn])
    (by
     have b2:Nat.beq q.x.i r.x.i=false:=by
      cases e:Nat.beq q.x.i r.x.i with
      | false=>rfl
      | true=>exact absurd (zE e) l2
     simp only[h3,l1,b2];rfl)
   rw[← K.low _ gp]at dV;have:=K.high _ gp;omega
  obtain⟨_,_,s3⟩:=I.seg K hs hA dY;exact quiet_ok hP ((I.hp _ gv).congr λb B e=>let ⟨h1,h2⟩:=wJ e;s3 b B h1 h2) hO hq
 ·
  have d8:=lsOf_mem (pre++suf) [] r hrm hsk hk kO;have hl:=looksOK_mem hL _ d8;obtain⟨Y,hY1,hY2⟩:=I.head;obtain⟨X,hX⟩:=hsOf_ends suf (hsOf pre [C.W0]);rw [hsOf_app,hX,hY1]at hl
  have split:∀p:DOp→Bool,D.countP p=(pre.map (·.x)).countP p+((suf.map (·.x))++E).countP p:=by
   intro p;rw [I.dd,aK,aN,du]
  have fH:r.x.low≤Y.length:=by
   rw[K.low _ gp,split,hY2]
   have z:((suf.map (·.x))++E).countP (λc=>Nat.beq c.kd 3 && zS (M r.x.i) c.i)=0:=by
    rw[dp];intro c hc hp;obtain⟨p1,p2⟩:=ad.1 hp;have fQ:=hm _ p2;rcases az.1 hc with hc|hc
    · obtain⟨q,hq1,rfl⟩:=ao.1 hc;exact I.sl q hq1 (zE p1) fQ
    · obtain⟨E1,E2,hE⟩:=aL hc;rw [(K.later (x:=r.x) (y:=c) (A:=(pre++A).map (·.x)) (B:=B.map (·.x)++E1) (C:=E2) (by rw[iR,hE];simp)).1]at p2;cases p2
   rw[z];exact aZ (Nat.le_of_eq (Nat.add_zero _)) (cN λc _ hp=>(ad.1 hp).1)
  have lT:Y.length≤r.x.high:=by
   refine aZ ?_ (K.high _ gp);rw [split,hY2];refine aZ (cN λc hc hp=>?_) (Nat.le_add_right _ _);obtain⟨q,hq1,rfl⟩:=ao.1 hc;have gk:=I.pl q hq1
   have b1:zS (M q.x.i) r.x.i=false:=by
    cases e:zS (M q.x.i) r.x.i with
    | false=>rfl
    | true=>exact absurd (I.closed _ gk _ e) hx
   have b2:Nat.beq q.x.i r.x.i=false:=by
    cases e:Nat.beq q.x.i r.x.i with
    | false=>rfl
    | true=>rw [zE e]at gk;exact absurd gk hx
   simp only[hp,b1,b2];rfl
  obtain⟨k1,v,k2,k3⟩:=lookOK_at hl fH lT;have hv:v=r.v:=sameB_eq k3;subst hv;have k2:xN r.x.o.op P r.t ws.h=some r.v:=k2;rw [← quiet_at (h':=H) (hkd.symm.trans hk) P r.t k1 I.hh]at k2;exact quiet_ok hP (I.hp _ gv) hO k2
theorem Inv.made(I:Inv P ng all M D E C pre suf ts ws lst ρ H a wd cs)(K:RecPlan all M D)(hc:∀o∈all.toList,uW ng (ntm P C.cx.fn) o=true)
{A B:List Rec}{r:Rec}{v:Nat→Value}{ob:AObj}(hs:suf=A++r::B)(hA:RecsOK P ng all C.cx A ts ws r.t r.w)(hk:r.x.kd=2)(hsk:r.sk=false)(hn:NewVal P ng r.x.o r.t v ob)
(hv:r.v=v r.w.n)(hw2:r.w2=W.mk r.w.d r.w.u (r.w.h.set .dead ob r.w.n) (r.w.n+1))
(hx:¬lst r.x.i)(hm:∀b,zS (M r.x.i) b=true→lst b)(hO:OpsR (ρ.cut r.w.n) r.t a r.x.o) :
 ∃v' wd' ρ1 H1,(execOp a.eval r.x.o).run P wd = .ok (.value v') wd'∧
  Inv P ng all M D E C pre suf ts ws (λi=>lst i∨i=r.x.i) ρ1 H1 (a.put r.x.o.dst v') wd' cs:=by
 have gv:ws.n≤r.w.n:=(wC hA).1;have hW0:C.W0.n≤ws.n:=(wC I.r1).1;have hr:r∈suf:=by rw[hs];simp
 obtain⟨Bl,o',v',b1,b2,b3,b4⟩:=hn (ρ.cut r.w.n) C.base C.w00 a wd H r.w.n hO (I.hp _ gv)
 have jF: ρ r.w.n=none:=by
  cases e: ρ r.w.n with
  | none=>rfl
  | some B=>
   obtain⟨q,q1,q2,q3,q4,q5⟩:=I.ex _ B gv e;have:=maker_uniq I.r2 q1 hr q2 hk q3 hsk q5;rw [this]at q4;exact absurd q4 hx
 have hle:=Inj.le_put Bl jF
 have gV:RV ((ρ.put r.w.n Bl).cut r.w2.n) r.v v':=by
  rw[hw2];show RV ((ρ.put r.w.n Bl).cut (r.w.n+1)) r.v v';rw [put_cut_succ,hv];exact b3
 refine⟨v',_,ρ.put r.w.n Bl,H.set .dead ob r.w.n,b2,I.note K hc hr (by omega) hx hm hle gV ?_ ?_ ?_ ?_ ?_ ?_⟩
 · rw[put_cut_ge Bl gv];exact⟨I.in0.fn,I.in0.kind,I.in0.rd,I.in0.rdf,I.in0.hp.push o',I.in0.dr,I.in0.ur,I.in0.fnd⟩
 · intro m iS;rcases aw r.w.n m with h|h
   · rw[put_cut_lt Bl h];refine(I.hp m iS).add (by rw[xI h];exact jF) h ob o' Bl b1 (b4.mono ?_);intro b B e;by_cases hb:b=r.w.n
     · simpa [Inj.put,hb] using e
     · simp[Inj.put,hb]at e ⊢;exact cut_le (Nat.le_of_lt h) _ _ e
   · rw[put_cut_ge Bl h]
     exact((I.hp m iS).push o').congr λb B e=>by
      have:=(wJ e).1;rw [zH,if_neg (by omega)]
 · intro m iS;rcases aw r.w.n m with h|h
   · rw[put_cut_lt Bl h];exact(I.gr m iS).add (by omega) ob o' Bl b1
   · rw[put_cut_ge Bl h];exact((I.gr m iS).push o').congr λb e=>by rw[zH,if_neg (by omega)]
 · intro b hb;rw [zH,if_neg (by omega)];exact I.hh b hb
 · intro q hq q2 q3 q4;rw [zH];by_cases h:r.w.n=q.w.n
   · have:=maker_uniq I.r2 hr hq hk q2 hsk q3 h;subst this;rw [if_pos rfl,hw2];show ob=zF (r.w.h.set .dead ob r.w.n) r.w.n;rw [zH,if_pos rfl]
   · rw[if_neg h];rcases q4 with q4|q4
     · exact I.mkd q hq q2 q3 q4
     · subst q4;exact absurd rfl h
 · intro b B hb e;by_cases h:b=r.w.n
   · exact⟨r,hr,hk,hsk,.inr rfl,h.symm⟩
   · obtain⟨q,q1,q2,q3,q4,q5⟩:=I.ex b B hb (by simpa [Inj.put,h] using e);exact⟨q,q1,q2,q3,.inl q4,q5⟩
end
end
section
section
variable {P:Program} {ng:Nat} {all:Array Oper} {M:Nat→Nat} {D E:List DOp} {C:Cfg}
variable {pre suf:List Rec} {ts:Fr} {ws:W} {lst:Nat→Prop} {ρ : Inj} {H:zB} {a:Act} {wd:World} {cs:List Frame}
theorem maker_grows{cx:Cx}{r:Rec}(h:RecOK P ng all cx r)(k:r.x.kd=2)(s:r.sk=false):r.w.n<r.w2.n:=by
 cases h with
 | skip=>cases s
 | look hw fU=>dsimp only at k;omega
 | made=>exact aS _
 | act hw fU=>exact absurd k fU.2.2
theorem Inv.at_act(I:Inv P ng all M D E C pre suf ts ws lst ρ H a wd cs)(K:RecPlan all M D){A S:List Rec}{t:Fr}{w:W}(hs:suf=A++S)(hA:RecsOK P ng all C.cx A ts ws t w)(dY:∀q∈A,q.x.kd≠3) :
 In0 P ng (ρ.cut w.n) C.base C.w00 C.b a wd cs C.cx w:=by
 have gv:ws.n≤w.n:=(wC hA).1;obtain⟨s1,s2,s3⟩:=I.seg K hs hA dY;have hle:=cut_le (ρ := ρ) gv;exact⟨I.in0.fn,I.in0.kind,I.in0.rd.mono hle,I.in0.rdf,(I.hp _ gv).congr λb B e=>let ⟨h1,h2⟩:=wJ e;s3 b B h1 h2,by rw[s1];exact I.in0.dr.mono hle,by rw[s2];exact I.in0.ur.mono hle,I.in0.fnd⟩
theorem Inv.no_act(I:Inv P ng all M D E C pre suf ts ws lst ρ H a wd cs)(K:RecPlan all M D){A:List Rec}{S:List Rec}{x:DOp}{rest:List DOp}(hs:suf=A++S)(hD:D=(pre++A).map (·.x)++x::rest)(hk:x.kd=3)(hm:∀b,zS (M x.i) b=true→lst b) :
 (∀q∈A,q.x.kd≠3)∧∀q∈A,lst q.x.i:=by
 have dY:∀q∈A,q.x.kd≠3:=by
  intro q hq h3;have gk:¬lst q.x.i:=I.sl q (by rw[hs];simp [hq]) h3;obtain⟨A1,A2,hA2⟩:=aL hq;have lh:D=(pre++A1).map (·.x)++q.x::(A2.map (·.x)++x::rest):=by rw[hD,hA2];simp
  obtain⟨l1,l2⟩:=K.later lh;rcases K.act q.x (by rw[lh];simp) x (by rw[hD];simp) h3 hk with h|h|h
  · exact l2 h
  · exact gk (hm _ h)
  · rw[l1]at h;cases h
 refine⟨dY,λq hq=>hm _ ?_⟩;refine K.next (pre.map (·.x)) (A.map (·.x)) x rest (by rw[hD];simp) hk (λy hy=>?_) q.x (ao.2 ⟨q,hq,rfl⟩);obtain⟨q',hq',rfl⟩:=ao.1 hy;exact dY q' hq'
theorem Inv.acted(I:Inv P ng all M D E C pre suf ts ws lst ρ H a wd cs)(K:RecPlan all M D)(hc:∀o∈all.toList,uW ng (ntm P C.cx.fn) o=true)
{A B:List Rec}{r:Rec}(hs:suf=A++r::B)(hA:RecsOK P ng all C.cx A ts ws r.t r.w)(hk:r.x.kd=3)
(hx:¬lst r.x.i)(hm:∀b,zS (M r.x.i) b=true→lst b){ρ':Inj}{a':Act}{wd':World}{cs':List Frame}{v':Value}
(in0:In0 P ng ρ' C.base C.w00 C.b a' wd' cs' C.cx r.w2)(ha:a'.tmps=a.tmps)(g:Grow (ρ.cut r.w.n) r.w.h r.w.n wd ρ' r.w2.h r.w2.n wd')(eX:CsTo C.cx.df cs cs')(hv:RV ρ' r.v v') :
 ∃ρ1 H1,Inv P ng all M D E C (pre++A++[r]) B (putF r.t r.x.o.dst r.v) r.w2 (λi=>lst i∨i=r.x.i) ρ1 H1 (a'.put r.x.o.dst v') wd' cs':=by
 have gv:ws.n≤r.w.n:=(wC hA).1;have hW0:C.W0.n≤ws.n:=(wC I.r1).1;have iR:D=(pre++A).map (·.x)++r.x::(B.map (·.x)++E):=by rw[I.dd,hs];simp
 have hrm:r∈pre++suf:=by rw[hs];simp
 have gp:=I.mem hrm;obtain⟨dY,kN⟩:=I.no_act K hs iR hk hm;obtain⟨s1,s2,s3⟩:=I.seg K hs hA dY;have l8:∀q∈A,q.x.kd≠3∧q.x.kd=zQ q.x.o.op:=λq hq=>⟨dY q hq,K.kd _ (I.mem (by rw[hs];simp [hq]))⟩;obtain⟨_,_,s4,_⟩:=seg_ok hA l8;have hr2:=I.r2;rw [hs]at hr2;obtain⟨t1,w1,x1,x2⟩:=uM hr2;have ew:r.w=w1:=recs_end hA x1;subst ew
 have hB:RecsOK P ng all C.cx B (putF r.t r.x.o.dst r.v) r.w2 C.t1 C.w1∧RecOK P ng all C.cx r∧r.t=t1:=by
  cases x2 with
  | cons h1 h2=>exact⟨h2,h1,rfl⟩
 obtain⟨hB,hrok,et⟩:=hB;have hn:=rec_n hrok
 have inB:∀b Bk,r.w.n≤b→ρ b=some Bk→∃q∈B,q.x.kd=2∧q.sk=false∧lst q.x.i∧q.w.n=b:=by
  intro b Bk hb e;obtain⟨q,q1,q2,q3,q4,q5⟩:=I.ex b Bk (by omega) e;rw [hs]at q1;rcases az.1 q1 with h|h
  · obtain⟨y1,y2,y3⟩:=(wC hA).2 q h;have:=maker_grows y1 q2 q3;omega
  · rcases aA.1 h with h|h
    · rw[h,hk]at q2;cases q2
    · exact⟨q,h,q2,q3,q4,q5⟩
 obtain⟨H1,e1,e2⟩:=glue r.w2.h H r.w2.n (C.w1.n+1)
 have none':∀b,r.w.n≤b→b<r.w2.n→ρ b=none:=by
  intro b h1 h2
  cases e: ρ b with
  | none=>rfl
  | some Bk=>
   obtain⟨q,q1,q2,q3,q4,q5⟩:=inB b Bk h1 e;have:=((wC hB).2 q q1).2.1;omega
 have r1:∀b,b<r.w2.n→(λb=>if b<r.w2.n then ρ' b else ρ b:Inj) b = ρ' b:=λb h=>if_pos h;have r2:∀b,r.w2.n≤b→(λb=>if b<r.w2.n then ρ' b else ρ b:Inj) b = ρ b:=λb h=>if_neg (by omega);obtain⟨ρ1,r1,r2⟩:∃ρ1:Inj,(∀b,b<r.w2.n→ρ1 b = ρ' b)∧∀b,r.w2.n≤b→ρ1 b = ρ b:=⟨_,r1,r2⟩
 have c1: ρ1.cut r.w2.n = ρ':=by
  funext b
  rcases aw b r.w2.n with h|h
  · rw[xI h,r1 b h]
  · rw[cut_ge h,in0.hp.dom b h]
 obtain⟨hle,hp⟩:=early (λm hm=>I.hp m (by omega)) hn none' (λb Bk hb e=>s3 b Bk hb e) in0.hp g r1 r2 e1 (λb Bk hb e=>by
  obtain⟨q,q1,q2,q3,q4,q5⟩:=inB b Bk (by omega) e;have:=((wC hB).2 q q1).2.2;have:=rec_n ((wC hB).2 q q1).1;exact e2 b hb (by omega))
 have gr:=Grow.early (n0:=C.W0.n) (by omega) (λm hm=>I.gr m (by omega)) hn (λb hb=>by rw[s4 b (by omega),I.hh b (by omega)]) g r1 r2 e1
 have gC:∀q∈pre++suf,lst q.x.i→∀d,q.x.o.dst=some d→r.x.o.dst≠some d:=by
  intro q hq hl d e e2;rcases K.pair q.x (I.mem hq) r.x gp d e (.inr e2) with h|⟨h,_⟩
  · rw[h]at hl;exact hx hl
  · exact h e2
 have dV:∀d,r.x.o.dst=some d→d<a'.tmps.size:=by
  intro d e
  have d8:r.x.o∈all.toList:=by
   have ho:=K.at' r.x gp;rw [← aJ]at ho;exact aj.2 ⟨_,ho⟩
  have:=(ad.1 (hc r.x.o d8)).2;rw [e]at this;have h1:d<ntm P C.cx.fn:=zU this;rw [ha,I.sz];exact aO h1 I.tm0.le
 have dZ:pre++A++[r]++B=pre++suf:=by rw[hs];simp
 refine⟨ρ1,H1,?_,?_,hB,.inr ⟨_,r,rfl,hk⟩,?_,?_,?_,?_,?_,hp,gr,I.cst.trans eX,e1,?_,?_,?_,?_,I.tm0.mono (cut_mono hle _),(put_size.trans (by rw[ha])).trans I.sz⟩
 · rw[dZ];exact I.dd
 · refine tP (tP I.r1 hA) (.cons hrok (.nil _ _))
 · intro q hq;rcases az.1 hq with hq|hq
   · rcases az.1 hq with hq|hq
     · exact .inl (I.pl q hq)
     · exact .inl (kN q hq)
   · simp at hq;subst hq;exact .inr rfl
 · intro q hq h3 hl;rcases hl with hl|hl
   · exact I.sl q (by rw[hs];simp [hq]) h3 hl
   · obtain⟨B1,B2,hB2⟩:=aL hq;exact(K.later (x:=r.x) (y:=q.x) (A:=(pre++A).map (·.x)) (B:=B1.map (·.x)) (C:=B2.map (·.x)++E) (by rw[iR,hB2];simp)).2 hl.symm
 · intro i hi;rw [dZ];rcases hi with hi|rfl
   · exact I.only i hi
   · exact⟨r,hrm,rfl⟩
 · intro i hi j hj;rcases hi with hi|rfl
   · exact .inl (I.closed i hi j hj)
   · exact .inl (hm j hj)
 · rw[c1];exact in0.act (put_defers a' _ _)
 · intro q hq q2 q3 q4;obtain⟨y1,y2,y3⟩:=(wC hB).2 q hq;have:=maker_grows y1 q2 q3;rw [e2 _ y2 (by omega)];refine I.mkd q (by rw[hs];simp [hq]) q2 q3 (q4.resolve_right λe=>?_);obtain⟨B1,B2,hB2⟩:=aL hq;exact(K.later (x:=r.x) (y:=q.x) (A:=(pre++A).map (·.x)) (B:=B1.map (·.x)) (C:=B2.map (·.x)++E) (by rw[iR,hB2];simp)).2 e.symm
 · intro b Bk hb e;rw [r2 b hb]at e;obtain⟨q,q1,q2,q3,q4,q5⟩:=inB b Bk (by omega) e;exact⟨q,q1,q2,q3,.inl q4,q5⟩
 · intro q hq hl d hd;rw [dZ]at hq;by_cases gk:lst q.x.i
   · obtain⟨v2,y1,y2⟩:=I.val q hq gk d hd;exact⟨v2,by rw[put_at (gC q hq gk d hd),ha];exact y1,y2.mono (cut_mono hle _)⟩
   · have hqr:q=r:=I.uniq K hq hrm (hl.resolve_left gk);subst hqr;exact⟨v',by rw[hd];exact put_self_at (dV d hd),by rw[c1];exact hv⟩
 · intro d hd;rw [dZ]at hd;rw [put_at (hd r hrm (.inr rfl)),ha];exact I.un d λq hq hl=>hd q hq (.inl hl)
theorem rec_cases{cx:Cx}{r:Rec}(h:RecOK P ng all cx r) :
 (r.sk=true∧wanted all r.t r.x.o.guard=false∧r.v=undef∧r.w2=r.w)∨
 (r.sk=false∧wanted all r.t r.x.o.guard=true∧(r.x.kd=0∨r.x.kd=1)∧xN r.x.o.op P r.t r.w.h=some r.v∧r.w2=r.w)∨
 (r.sk=false∧wanted all r.t r.x.o.guard=true∧r.x.kd=2∧∃v ob,NewVal P ng r.x.o r.t v ob∧r.v=v r.w.n∧r.w2=W.mk r.w.d r.w.u (r.w.h.set .dead ob r.w.n) (r.w.n+1))∨
 (r.sk=false∧wanted all r.t r.x.o.guard=true∧(r.x.kd≠0∧r.x.kd≠1∧r.x.kd≠2)∧OpTo P ng r.x.o cx r.t r.w (.ret r.v) r.w2):=by
 cases h with
 | skip hw=>exact .inl ⟨rfl,hw,rfl,rfl⟩
 | look hw hk hq=>exact .inr (.inl ⟨rfl,hw,hk,hq,rfl⟩)
 | made hw hk hn=>exact .inr (.inr (.inl ⟨rfl,hw,hk,_,_,hn,rfl,rfl⟩))
 | act hw hk ho hn=>exact .inr (.inr (.inr ⟨rfl,hw,hk,ho⟩))
theorem Inv.step(hP:yG ng P=true)(I:Inv P ng all M D E C pre suf ts ws lst ρ H a wd cs)(K:RecPlan all M D)(hc:∀o∈all.toList,uW ng (ntm P C.cx.fn) o=true)
(hL:xO P (hsOf (pre++suf) [C.W0]).length (hsOf (pre++suf) [C.W0]) (lsOf (pre++suf) [])=true)
{r:Rec}(hr:r∈pre++suf)(hx:¬lst r.x.i)(hm:∀b,zS (M r.x.i) b=true→lst b)(is:List Nat)(kk:List Item) :
 ∃pre' suf' ts' ws' ρ1 H1 a1 wd1 cs1,Inv P ng all M D E C pre' suf' ts' ws' (λi=>lst i∨i=r.x.i) ρ1 H1 a1 wd1 cs1∧pre'++suf'=pre++suf∧
  Steps P (lone (C.b.atR a (.inRegion all (r.x.i::is)::kk)) cs wd) (lone (C.b.atR a1 (.inRegion all is::kk)) cs1 wd1):=by
 have jr:r∈suf:=(az.1 hr).resolve_left λh=>hx (I.pl r h);obtain⟨A,B,hs⟩:=aL jr;have gp:=I.mem hr;have jL:=K.at' _ gp;have iR:D=(pre++A).map (·.x)++r.x::(B.map (·.x)++E):=by rw[I.dd,hs];simp
 have hr2:=I.r2;rw [hs]at hr2;obtain⟨t1,w1,hA,x2⟩:=uM hr2
 have hB:RecOK P ng all C.cx r∧r.t=t1∧r.w=w1:=by
  cases x2 with
  | cons h1 h2=>exact⟨h1,rfl,rfl⟩
 obtain⟨hrok,et,ew⟩:=hB;subst et ew;obtain⟨hO,hW⟩:=I.looks K hc hs iR hA hx hm;have fk:r.x.kd≠3→∀c,r.x.o.op≠.defer c:=λh3 c e=>h3 (by rw[K.kd _ gp,e];rfl);have h9:r.x.kd≤3:=by rw[K.kd _ gp];unfold zQ;split <;> (try split) <;> omega
 rcases rec_cases hrok with⟨hsk,hw,hv,hw2⟩|⟨hsk,hw,hk,hq,hw2⟩|⟨hsk,hw,hk,v,ob,hn,hv,hw2⟩|⟨hsk,hw,hk,ho⟩
 · have jA:Steps P (lone (C.b.atR a (.inRegion all (r.x.i::is)::kk)) cs wd) (lone (C.b.atR (a.put r.x.o.dst undef) (.inRegion all is::kk)) cs wd):=.one (skip_put jL (hW.trans hw));by_cases h3:r.x.kd=3
   · have dY:=(I.no_act K hs iR h3 hm).1;have hi:=I.at_act K hs hA dY;obtain⟨ρ1,H1,hI⟩:=I.acted K hc hs hA h3 hx hm (v':=undef) (by rw[hw2];exact hi) rfl (by rw[hw2];exact Grow.refl _ _ _ _ hi.hp.dom) (CsTo.refl _ _) (by rw[hv];exact RV.undef _);exact⟨_,_,_,_,ρ1,H1,_,_,_,hI,by rw[hs];simp,jA⟩
   · have hI:=I.calm K hc jr h3 (.inr hsk) hx hm (v':=undef) (by rw[hv];exact RV.undef _);exact⟨_,_,_,_,ρ,H,_,_,_,hI,rfl,jA⟩
 · obtain⟨v',y1,y2⟩:=I.look hP K hL hs hA hsk hk hq hx hm hO;have hI:=I.calm K hc jr (by omega) (.inl (by omega)) hx hm (v':=v') (by rw[hw2];exact y2);exact⟨_,_,_,_,ρ,H,_,_,_,hI,rfl,.one (step_res (fk (by omega)) jL (hW.trans hw) (.inl y1))⟩
 · obtain⟨v',wd',ρ1,H1,y1,hI⟩:=I.made K hc hs hA hk hsk hn hv hw2 hx hm hO;exact⟨_,_,_,_,ρ1,H1,_,_,_,hI,rfl,.one (step_res (fk (by omega)) jL (hW.trans hw) (.inl y1))⟩
 · have h3:r.x.kd=3:=by omega
   have dY:=(I.no_act K hs iR h3 hm).1;have hi:=I.at_act K hs hA dY;obtain⟨ρ',a',wd',cs',i1,i2,i3,i4,v',i5,i6⟩:=ho _ _ _ _ _ _ _ hi hO all r.x.i is kk jL (hW.trans hw);obtain⟨ρ1,H1,hI⟩:=I.acted K hc hs hA h3 hx hm i1 i2 i3 i4 i5;exact⟨_,_,_,_,ρ1,H1,_,_,_,hI,by rw[hs];simp,i6⟩
end
end
end Go.Ex
