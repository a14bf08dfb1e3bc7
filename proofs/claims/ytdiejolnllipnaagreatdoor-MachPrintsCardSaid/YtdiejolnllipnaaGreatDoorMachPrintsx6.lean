/- What the law leans on, part 6 of 24. Conditions: those that each theorem states. -/
import Derived.Test.YtdiejolnllipnaaGreatDoorMachPrintsx5

set_option linter.unusedVariables false
set_option linter.unusedSimpArgs false
namespace Go.Ex
section
theorem ready_nil{ops:Array Oper}{listed:Array Bool}(hs:listed.size=ops.size)(hedge:∀(i:Nat) o,ops.toList[i]? = some o->∀d∈dps o,d<i)(h:Region.ready .any ops listed=[]) :
 ∀n i,i<n->i<ops.size->listed.getD i false=true:=by
 intro n
 induction n with
 | zero=>intro i hi;omega
 | succ n ih=>
  intro i hi eD;rcases aS i n with h1|h1
  . exact ih i h1 eD
  . have:i=n:=by omega
    subst this;have hlt':i<listed.size:=by omega
    cases e:listed.getD i true with
    | true=>simpa [hlt'] using e
    | false =>
     have hm:i∈Region.ready .any ops listed:=mem_ready.2 ⟨e,_,aF eD,λed hed ha=>by
      have:=hedge i _ (by rw[aO];exact aF eD) ed.on (aB.2 ⟨ed,b7.2 ⟨Array.mem_toList_iff.2 hed,ha⟩,rfl⟩);exact ih ed.on this qJ⟩
     rw[h]at hm;cases hm
def unl(n:Nat)(listed:Array Bool):Nat:=(List.range n).countP λi=> !listed.getD i true
section
variable {P:Program} {ng:Nat} {all:Array Oper} {cx:Cx} {t0:Fr} {W0:W} {ρ0:Inj} {base:Nat} {w0 wd0:World} {a0:Act} {cs0:List Frame} {b:Frame}
variable {F:List Rec} {L E:List DOp}
theorem draw_go{Goal:Machine->List Item->Prop}(hG:∀m m1 kk,Steps P m m1->Goal m1 kk->Goal m kk)(hP:xC ng P=true)(hK:Plan all L)(hat:∀y∈L,all[y.i]? = some y.o)(hR:L.reverse=E++xs F)(hF:Past P ng all cx t0 W0 F)
(hc:∀o∈all.toList,operOK ng (ntm P cx.fn) o=true)(hd0:∀b,W0.n<=b->ρ0 b=none)(tm0:TmR ρ0 (ntm P cx.fn) t0 a0.tmps)(hE:E=[]\/∃rest d,E=rest++[d]/\d.ac=true)
(hstop:∀rest d,E=rest++[d]->∀lst ρ a wd cs,Inv P ng all cx t0 W0 ρ0 base w0 wd0 a0 cs0 b F lst ρ a wd cs->¬lst d.i->(∀e∈dps d.o,lst e)->∀is kk,Goal (lone (b.atR a (.inRegion all (d.i::is)::kk)) cs wd) kk)
(hend:E=[]->∀lst ρ a wd cs,Inv P ng all cx t0 W0 ρ0 base w0 wd0 a0 cs0 b F lst ρ a wd cs->(∀r∈F,lst r.x.i)->∀kk,Goal (lone (b.atR a (.inRegion all []::kk)) cs wd) kk) :
 ∀(fuel t:Nat) (listed:Array Bool) (S R:List Rec) (ρ : Inj) (a:Act) (wd:World) (cs:List Frame),F=S++R->(S=[]\/∃S' c,S=S'++[c]/\c.x.ac=true)->listed.size=all.size->
  Inv P ng all cx t0 W0 ρ0 base w0 wd0 a0 cs0 b R (λi=>listed.getD i false=true) ρ a wd cs->unl all.size listed<=fuel->
  ∀kk,Goal (lone (b.atR a (.inRegion all (Region.linearise.go .any all fuel t listed [])::kk)) cs wd) kk:=by
 have swap:∀{listed:Array Bool} {i:Nat},i<listed.size->listed.getD i true=listed.getD i false:=by
  intro listed i h;simp [h]
 have lt:∀y∈L,y.i<all.size:=λy hy=>(bA.1 (hat y hy)).1
 have far:∀{R:List Rec} {lst:Nat->Prop} {B:List DOp} {c:DOp},L.reverse=B++c::xs R->(∀i,lst i->∃r∈R,r.x.i=i)->c.ac=true->∀y∈B,¬∀d∈dps y.o,lst d:=by
  intro R lst B c e only hk y hy h;obtain⟨d,h1,h2⟩:=((hK.at e).2.2.2.2.1 hk).1 y (bP.2 hy);obtain⟨r,h3,h4⟩:=only d (h d h1);exact h2 r.x (aB.2 ⟨r,h3,rfl⟩) h4
 have notyet:∀{R:List Rec} {lst:Nat->Prop} {B:List DOp} {c:DOp},L.reverse=B++c::xs R->(∀i,lst i->∃r∈R,r.x.i=i)->¬lst c.i:=by
  intro R lst B c e only h;obtain⟨r,h3,h4⟩:=only _ h;exact((hK.at e).1 r.x (aB.2 ⟨r,h3,rfl⟩)).1 h4
 have finish:∀{listed:Array Bool} {S R:List Rec} {ρ : Inj} {a:Act} {wd:World} {cs:List Frame},F=S++R->(S=[]\/∃S' c,S=S'++[c]/\c.x.ac=true)->
  Inv P ng all cx t0 W0 ρ0 base w0 wd0 a0 cs0 b R (λi=>listed.getD i false=true) ρ a wd cs->(∀i,i<all.size->listed.getD i false=true)->∀kk,Goal (lone (b.atR a (.inRegion all []::kk)) cs wd) kk:=by
  intro listed S R ρ a wd cs hS hS2 I hl kk;have no:∀{B c},L.reverse=B++c::xs R->False:=fun {B c} e=>notyet e I.only (hl _ (lt c (bP.1 (by rw[e];simp))));rcases hS2 with rfl|⟨S',c,rfl,_⟩
  . rw[bF]at hS;subst hS;rcases hE with e|⟨rest,d,e,_⟩
    . exact hend e _ _ _ _ _ I (λr hr=>hl _ (lt r.x (bP.1 (by rw[hR];exact bQ _ (aB.2 ⟨r,hr,rfl⟩))))) kk
    . exact(no (B:=rest) (c:=d) (by rw[hR,e];simp)).elim
  . exact(no (B:=E++xs S') (c:=c.x) (by rw[hR,hS];simp)).elim
 intro fuel
 induction fuel with
 | zero=>
  intro t listed S R ρ a wd cs hS hS2 hs I hu kk;refine finish hS hS2 I (λi hi=>?_) kk;have:=List.countP_eq_zero.1 (show unl all.size listed=0 by omega) i (bU.2 hi);rw [<- swap qJ];simpa using this
 | succ fuel ih =>
  intro t listed S R ρ a wd cs hS hS2 hs I hu kk;simp only[Region.linearise.go]
  change Goal (lone (b.atR a (.inRegion all (match (Region.ready .any all listed)[t % (Region.ready .any all listed).length]? with
   | some i=>Region.linearise.go .any all fuel (t / (Region.ready .any all listed).length) (listed.setIfInBounds i true) [i]
   | none=>[].reverse)::kk)) cs wd) kk
  cases hi:(Region.ready .any all listed)[t % (Region.ready .any all listed).length]? with
  | none =>
   have hnil:Region.ready .any all listed=[]:=by
    cases hr:Region.ready .any all listed with
    | nil=>rfl
    | cons x xs=>
     rw[hr]at hi;have eD:t % (x::xs).length<(x::xs).length:=Nat.mod_lt _ qL;rw [aa eD]at hi;cases hi
   exact finish hS hS2 I (λi h=>ready_nil hs (λi o ho=>(hK.1 i (bU.2 (by
    have:=(ab.1 ho).1;simpa using this))).2 o (by rw[ho];simp)) hnil (i+1) i qJ  h) kk
  | some i =>
   simp only[];rw [linearise_go_acc,List.reverse_singleton,List.singleton_append];obtain⟨r2,o,r3,r4⟩:=mem_ready.1 (ae hi);have r1:i<all.size:=(bA.1 r3).1;obtain⟨y,hy,rfl⟩:=(hK.1 i (bU.2 r1)).1;have hyo:o=y.o:=by have:=hat y hy;rw [r3]at this;injection this
   subst hyo;have gN:¬listed.getD y.i false=true:=by rw[<- swap qJ,r2];exact aU
   have hd:∀d∈dps y.o,listed.getD d false=true:=by
    intro d hd;obtain⟨e,h1,rfl⟩:=aB.1 hd;obtain⟨h1,h2⟩:=b7.1 h1;exact r4 e (Array.mem_toList_iff.1 h1) h2
   have on:∀{S1 R1:List Rec} {ρ1:Inj} {a1:Act} {wd1:World} {cs1:List Frame},F=S1++R1->Inv P ng all cx t0 W0 ρ0 base w0 wd0 a0 cs0 b R1 (λi=>listed.getD i false=true\/i=y.i) ρ1 a1 wd1 cs1->
    Goal (lone (b.atR a1 (.inRegion all (Region.linearise.go .any all fuel (t / (Region.ready .any all listed).length) (listed.setIfInBounds y.i true) [])::kk)) cs1 wd1) kk:=by
    intro S1 R1 ρ1 a1 wd1 cs1 hS1 I1
    have zG:∀j d,(listed.setIfInBounds y.i true).getD j d=if y.i=j then true else listed.getD j d:=by
     intro j d;by_cases hj:j<listed.size
     . have fy:j<(listed.setIfInBounds y.i true).size:=by simpa using hj
       simp[hj,Array.getElem_setIfInBounds]
     . have eJ:y.i≠j:=by omega
       simp[hj,eJ]
    have el:(λi=>listed.getD i false=true\/i=y.i)=λi=>(listed.setIfInBounds y.i true).getD i false=true:=by
     funext j
     rw[zG];by_cases hj:y.i=j
     . simp[hj]
     . rw[if_neg hj];exact propext ⟨λh=>h.resolve_right λe=>hj e.symm,.inl⟩
    rw[el]at I1;obtain⟨S2,R2,h1,h2,I2⟩:=Inv.advs hK hR hF _ rfl hS1 I1;refine ih _ _ S2 R2 _ _ _ _ h1 h2 (by simpa using hs) I2 ?_ kk
    have:unl all.size (listed.setIfInBounds y.i true)<unl all.size listed:=by
     have hm:y.i∈List.range all.size:=bU.2 r1;unfold unl;obtain⟨l1,l2,e⟩:=bR hm;rw [e,List.countP_append,List.countP_append,cQ,cQ,zG,if_pos rfl,r2]
     have le:∀l:List Nat,l.countP (λi=> !(listed.setIfInBounds y.i true).getD i true)<=l.countP λi=> !listed.getD i true:=λl=>List.countP_mono_left λj _ h=>by
      rw[zG]at h;by_cases hj:y.i=j
      . rw[if_pos hj]at h;cases h
      . rwa [if_neg hj]at h
     have:=le l1;have:=le l2;simp only[Bool.not_true,d9,if_true,bz,if_false];omega
    omega
   have hyR:y∈E\/(∃r∈S,r.x=y)\/∃r∈R,r.x=y:=by
    have:=bP.2 hy;rw [hR,hS]at this;rcases aA.1 this with h|h
    . exact .inl h
    . obtain⟨r,h1,h2⟩:=aB.1 h;exact .inr ((aA.1 h1).imp (λh=>⟨r,h,h2⟩) λh=>⟨r,h,h2⟩)
   rcases hS2 with rfl|⟨S',c,rfl,hc3⟩
   . rw[bF]at hS;subst hS;rcases hyR with h|⟨r,h,_⟩|⟨r,h,rfl⟩
     . rcases hE with e|⟨rest,d,e,hd3⟩
       . rw[e]at h;cases h
       . have e2:L.reverse=rest++d::xs F:=by rw[hR,e];simp
         rw[e]at h;rcases aA.1 h with h|h
         . exact absurd hd (far e2 I.only hd3 y h)
         . obtain rfl:=aq.1 h;exact hstop rest _ e _ _ _ _ _ I gN hd _ kk
     . cases h
     . obtain⟨ρ1,a1,wd1,I1,st⟩:=I.late hP hd0 tm0 hK hR hc h r3 gN hd;exact hG _ _ _ (.one (st _ kk)) (on (S1:=[]) rfl I1)
   . have e2:L.reverse=(E++xs S')++c.x::xs R:=by rw[hR,hS];simp
     have nf:y∈E++xs S'->False:=λh=>far e2 I.only hc3 y h hd;rcases hyR with h|⟨r,h,rfl⟩|⟨r,h,rfl⟩
     . exact(nf (cg _ h)).elim
     . rcases aA.1 h with h|h
       . exact(nf (bQ _ (aB.2 ⟨r,h,rfl⟩))).elim
       . obtain rfl:=aq.1 h;have hS':F=S'++r::R:=by rw[hS];simp
         obtain⟨ρ1,a1,wd1,cs1,I1,st⟩:=I.more hd0 tm0 hK (E:=E++xs S') (by rw[hR,hS'];simp) hc (hS' ▸ hF).drop hc3 r3 gN hd (Region.linearise.go .any all fuel (t / (Region.ready .any all listed).length) (listed.setIfInBounds r.x.i true) []) kk;exact hG _ _ _ st (on hS' I1)
     . obtain⟨ρ1,a1,wd1,I1,st⟩:=I.late hP hd0 tm0 hK (E:=E++xs (S'++[c])) (by rw[hR,hS];simp) hc h r3 gN hd;exact hG _ _ _ (.one (st _ kk)) (on hS I1)
theorem drawn_ok(hP:xC ng P=true)(hmix:P.follows .mixedOrders=true)(hK:Plan all L)(hat:∀y∈L,all[y.i]? = some y.o){t:Fr}{w:W}(hR:L.reverse=E++xs F)(hF:Past P ng all cx t w F){x:AX}{w':W}
(h:(E=[]/\x = .normal/\w'=stW w F)\/∃rest d c,E=rest++[d]/\d.ac=true/\wanted all (stT t F) d.o.guard=true/\OpTo P ng d.o cx (stT t F) (stW w F) (.panic c) w'/\(d.so=true\/w'.d=[])/\x = .panic c)(id:Nat) :
 CodeTo P ng (.region id all true) cx t w x (stT t F) w':=by
 intro hc b kk ρ base w0 a wd cs hI;have fE:∀o∈all.toList,operOK ng (ntm P cx.fn) o=true:=aH.1 hc
 have hf:∀i,¬(Array.replicate all.size false).getD i false=true:=by
  intro i;by_cases h:i<all.size <;> simp[h]
 have I0:Inv P ng all cx t w ρ base w0 wd a cs b [] (λi=>(Array.replicate all.size false).getD i false=true) ρ a { wd with drawn:=wd.drawn+1 } cs:=
  ⟨trivial,λi h=>absurd h (hf i),λr hr=>(by cases hr),λi _ _ h=>absurd h (hf i),⟨hI.fn,hI.kind,hI.rd,hI.rdf,hI.hp.drawn _,hI.dr,hI.ur,hI.fnd⟩,λr hr=>(by cases hr),
   (Grow.refl _ _ _ _ hI.hp.dom).drawn _,CsTo.refl _ _,λr hr=>(by cases hr),λ_ _=>rfl,rfl⟩
 obtain⟨S,R,h1,h2,I1⟩:=Inv.advs hK hR hF _ rfl (bS F).symm I0
 have unl0:unl all.size (Array.replicate all.size false)<=all.size:=by
  unfold unl;exact aW List.countP_le_length qL 
 have hst:step P (lone (b.atR a (.code (.region id all true)::kk)) cs wd) = .next (lone (b.atR a (.inRegion all (Region.linearise.go .any all all.size (wd.tape wd.drawn (.order b.fn id)) (Array.replicate all.size false) [])::kk)) cs { wd with drawn:=wd.drawn+1 }):=by
  have e:∀tt,Region.schedule (P.follows .mixedOrders) all tt=Region.linearise.go .any all all.size tt (Array.replicate all.size false) []:=by
   intro tt;simp only[Region.schedule,hmix,Bool.true_or,if_true];rfl
  rw[<- e];exact stepR_region_draw
 have go:=draw_go (Goal:=λm kk=>∃ρ' a' wd' cs',InE P ng (Lost x w') ρ' base w0 b a' wd' cs' cx (stT t F) w'/\Grow ρ w.h w.n wd ρ' w'.h w'.n wd'/\CsTo cx.df cs cs'/\Arr P m b kk cs' ρ' a' wd' x)
  (λm m1 kk hst ⟨ρ',a',wd',cs',g1,g2,g3,g4⟩=>⟨ρ',a',wd',cs',g1,g2,g3,g4.of_steps hst⟩) hP hK hat hR hF fE hI.hp.dom hI.tm
  (by
   rcases h with⟨e,_⟩|⟨rest,d,c,e,e2,_⟩
   . exact .inl e
   . exact .inr ⟨rest,d,e,e2⟩) ?_ ?_ all.size (wd.tape wd.drawn (.order b.fn id)) _ S R ρ a _ cs h1 h2 qL  I1 unl0 kk
 . obtain⟨ρ',a',wd',cs',g1,g2,g3,g4⟩:=go;exact⟨ρ',a',wd',cs',g1,g2,g3,g4.of_steps (.one hst)⟩
 . intro rest d e lst ρ1 a1 wd1 cs1 I gN hd is kk;rcases h with⟨e',_⟩|⟨rest',d',c,e',hk,hw,ho,hl,rfl⟩
   . rw[e']at e;simp at e
   . rw[e']at e;obtain rfl:d'=d:=by have:=(List.append_inj' e rfl).2;injection this
     have hA:L.reverse=rest'++d'::xs F:=by rw[hR,e'];simp
     obtain⟨hO,hW⟩:=I.looks hI.hp.dom hI.tm hK hR fE hA (λ_ h=>h) I.past (hat _ (bP.1 (by rw[hA];simp))) gN hd;obtain⟨ρ',a',wd',cs',i1,i2,i3,i4,c',i5,i6⟩:=ho _ _ _ _ _ _ _ I.in0 hO all d'.i is kk (hat _ (bP.1 (by rw[hA];simp))) (hW.trans hw);refine⟨ρ',a',wd',cs',⟨i1.fn,i1.kind,i1.rd,i1.rdf,?_,i1.hp,i1.dr,i1.ur,i1.fnd⟩,I.gr.trans i3,I.cst.trans i4,_,c',i5,i6⟩;rcases hl with hl|hl
     . refine .inr ?_;rw [i2];refine(I.tmr hI.hp.dom hI.tm hK hR λr hr=>?_).mono (i3.le I.in0.hp.dom);have hm:=(hK.at hA).2.2.2.1 hl r.x (aB.2 ⟨r,hr,rfl⟩)
       rcases clo_ok (lst:=λi=>lst i\/i=d'.i) (λs o ho hs e he=>by
        rcases hs with hs|rfl
        . exact .inl (I.closed s o ho hs e he)
        . rw[aO,hat _ (bP.1 (by rw[hA];simp))]at ho;injection ho with ho
          subst ho;exact .inl (hd e he)) _ _ (λs hs=>.inr (aq.1 hs)) _ hm with h|h
       . exact h
       . exact absurd h ((hK.at hA).1 r.x (aB.2 ⟨r,hr,rfl⟩)).1
     . exact .inl hl
 . intro e lst ρ1 a1 wd1 cs1 I eH kk;rcases h with⟨_,rfl,rfl⟩|⟨rest,d,c,e',_⟩
   . exact⟨_,a1,wd1,cs1,(I.in0.toIn (I.tmr hI.hp.dom hI.tm hK hR eH)).e,I.gr,I.cst,.one stepR_region_end⟩
   . rw[e']at e;simp at e
end
end
section
noncomputable def scalB(v v':Value):Bool:=
 match v,v' with
 | .bool a,.bool b=>cond a b (!b)
 | .int k a,.int k' b=>tJ k k' && ieqB a b
 | .string a,.string b=>vT a.data.toList b.data.toList
 | .pointer none,.pointer none=>true
 | .pointer (some ⟨b,o,none⟩),.pointer (some ⟨b',o',none⟩)=>Nat.beq b b' && Nat.beq o o'
 | .slice none l c,.slice none l' c'=>Nat.beq l l' && Nat.beq c c'
 | .slice (some ⟨b,o,none⟩) l c,.slice (some ⟨b',o',none⟩) l' c'=>Nat.beq b b' && Nat.beq o o' && Nat.beq l l' && Nat.beq c c'
 | .map none,.map none=>true
 | .map (some a),.map (some b)=>Nat.beq a b
 | .nilFunc,.nilFunc=>true
 | .nilIface,.nilIface=>true
 | _,_=>false
theorem scalB_eq{v v':Value}(h:scalB v v'=true):v=v':=by
 unfold scalB at h;split at h <;> try (first|rfl|(exact absurd h aU))
 . rename_i a b;cases a <;> cases b <;> first|rfl|cases h
 . obtain⟨h1,h2⟩:=ak.1 h;rw [wQ]at h2;rw [sG h1,of_decide_eq_true h2]
 . rename_i a b;rw [tV]at h;have e:=eq_of_beq h;obtain⟨⟨a⟩⟩:=a;obtain⟨⟨b⟩⟩:=b;have e:a=b:=e;rw [e]
 . obtain⟨h1,h2⟩:=ak.1 h;rw [zT h1,zT h2]
 . obtain⟨h1,h2⟩:=ak.1 h;rw [zT h1,zT h2]
 . obtain⟨h1,h4⟩:=ak.1 h;obtain⟨h1,h3⟩:=ak.1 h1;obtain⟨h1,h2⟩:=ak.1 h1;rw [zT h1,zT h2,zT h3,zT h4]
 . rw[zT h]
section
variable {P:Program} {ng:Nat}
theorem HeapR.stay{ρ : Inj}{base:Nat}{w0:World}{h:zB}{n:Nat}{wd wd':World}(r:HeapR P ng ρ base w0 h n wd)(hb:Go.RowKit.Below wd.heap.size wd wd'):HeapR P ng ρ base w0 h n wd'/\Grow ρ h n wd ρ h n wd':=by
 have eD:∀{c:Nat} {o:Obj},wd.heap[c]? = some o->c<wd.heap.size:=by
  intro c o e;rcases aS c wd.heap.size with h3|h3
  . exact h3
  . rw[bG h3]at e;cases e
 refine⟨⟨r.dom,λb B e hl=>?_,r.inj,r.below.trans ⟨hb.os,hb.tape,hb.output,hb.size,λk hk=>hb.block k (by have:=r.size;omega)⟩,by have:=hb.size;have:=r.size;omega,r.glob,r.ngn⟩,⟨ad _,λ_ _=>rfl,λb B h1 e=>(by rw[r.dom b h1]at e;cases e),λc hc _=>hb.block c hc,hb.size,λ_ _ e=>e,hb.tape⟩⟩;obtain⟨o,q1,q2⟩:=r.obj b B e hl;exact⟨o,by rw[hb.block _ (eD q1)];exact q1,q2⟩
noncomputable def finV(v:Value):KO:=λo _ _ _=>Out.rec (λx=>scalB x v) (λ_=>false) o
theorem finV_ret{v:Value}{o:Out}{u:Option zK}{h:zB}{n:Nat}(hf:finV v o u h n=true):o = .ret v:=by
 cases o with
 | ret x=>rw [scalB_eq (v:=x) (v':=v) hf]
 | panic c=>cases hf
def rY(w:World)(tabs:List (Nat×List Value)):Prop:=∀p∈tabs,∃el fr,w.heap[p.1]? = some (.cells ⟨p.2⟩ el fr)
end
end
section
section
variable {P:Program} {ng:Nat}
noncomputable def wE(p:Prop):Bool:=@decide p (Classical.propDecidable p)
theorem isSo_iff{p:Prop}:wE p=true↔p:=@decide_eq_true_iff p (Classical.propDecidable p)
theorem args0_eq{t:Fr}{i:Nat}{l:List Value}{k:Fr->Bool}:args0 t i l k=k (Tr.ofListFrom undef t i l):=by
 induction l generalizing t i with
 | nil=>rfl
 | cons v r ih=>
  show(xU v λv=>fsetK t i v λt=>args0 t (Nat.succ i) r k)=_;rw [yN];unfold fsetK;rw [Tr.setK_eq,ih];rfl
noncomputable def loS(P:Program)(ng:Nat):Lo where
 code c cx t w k:=wE (∃x t' w',k x t' w'=true/\CodeTo P ng c cx t w x t' w')
 call f args df u h n k:=wE (∃o u' h' n',k o u' h' n'=true/\CallTo P ng f args df u h n o u' h' n')
 round l args h n k:=wE (∃o h' n',k o h' n'=true/\RoundTo P ng l args h n o h' n')
 leave fn mode t w k:=wE (∃o u' h' n',k o u' h' n'=true/\LeaveTo P ng fn mode t w o u' h' n')
theorem loS_code{c:Code}{cx:Cx}{t:Fr}{w:W}{k:KX}:(loS P ng).code c cx t w k=true↔∃x t' w',k x t' w'=true/\CodeTo P ng c cx t w x t' w':=by
 unfold loS;exact isSo_iff
theorem loS_call{f:FuncId}{args:List Value}{df:Bool}{u:Option zK}{h:zB}{n:Nat}{k:KO}:(loS P ng).call f args df u h n k=true↔∃o u' h' n',k o u' h' n'=true/\CallTo P ng f args df u h n o u' h' n':=by
 unfold loS;exact isSo_iff
theorem loS_round{l:Nat}{args:List Value}{h:zB}{n:Nat}{k:Out->zB->Nat->Bool}:(loS P ng).round l args h n k=true↔∃o h' n',k o h' n'=true/\RoundTo P ng l args h n o h' n':=by
 unfold loS;exact isSo_iff
theorem loS_leave{fn:Func}{mode:Option zK}{t:Fr}{w:W}{k:KO}:(loS P ng).leave fn mode t w k=true↔∃o u' h' n',k o u' h' n'=true/\LeaveTo P ng fn mode t w o u' h' n':=by
 unfold loS;exact isSo_iff
theorem sJ:Sound P ng (loS P ng) where
  code _ _ _ _ _ h:=loS_code.1 h
  call _ _ _ _ _ _ _ h:=loS_call.1 h
  round _ _ _ _ _ h:=loS_round.1 h
  leave _ _ _ _ _ h:=loS_leave.1 h
 class Fit (P:Program) (ng:Nat):Prop where
  ok:xC ng P=true
  mix:P.follows .mixedOrders=true
theorem sound_one[F:Fit P ng]:Sound P ng (Lo.next P (loS P ng)):=sound_next F.ok sJ
noncomputable def FA(l:List (Nat×Value))(t:Fr):Fr:=match l with
 | []=>t
 | p::r=>Tr.set undef p.2 (FA r t) p.1
noncomputable def lk(l:List (Nat×Value))(t:Fr)(i:Nat):Value:=match l with
 | []=>fget t i
 | p::r=>bif Nat.beq p.1 i then p.2 else lk r t i
theorem fget_FA(l:List (Nat×Value))(t:Fr)(i:Nat):fget (FA l t) i=lk l t i:=by
 induction l with
 | nil=>rfl
 | cons p r ih=>
  unfold FA lk fget;rw [Tr.get_set_if];by_cases h:p.1=i
  . rw[if_pos h,h,aR];rfl
  . have:Nat.beq p.1 i=false:=by
     cases e:Nat.beq p.1 i with
     | false=>rfl
     | true=>exact absurd (de e) h
    rw[if_neg h,this];exact ih
noncomputable def evb(l:List (Nat×Value))(t:Fr)(x:Operand):Value:=match x with
 | .tmp i=>lk l t i
 | .const v=>v
 | .global g=>.pointer (some ⟨g,0,none⟩)
 | .func f=>.func (.func f) #[] #[]
theorem xA(l:List (Nat×Value))(t:Fr)(x:Operand):ev (FA l t) x=evb l t x:=by
 cases x with
 | tmp i=>exact fget_FA l t i
 | _=>rfl
noncomputable def evs(l:List (Nat×Value))(t:Fr):List Operand->List Value
 | []=>[]
 | x::r=>evb l t x::evs l t r
theorem evs_FA(l:List (Nat×Value))(t:Fr)(xs:List Operand):xs.map (ev (FA l t))=evs l t xs:=by
 induction xs with
 | nil=>rfl
 | cons x r ih=>rw [bJ,ih,xA];rfl
theorem fset_FA(l:List (Nat×Value))(t:Fr)(d:Nat)(v:Value)(k:Fr->Bool):fsetK (FA l t) d v k=k (FA ((d,v)::l) t):=by
 unfold fsetK;rw [Tr.setK_eq];rfl
abbrev QX:=AX->Fr->W->Prop
def WC(P:Program)(ng:Nat)(c:Code)(cx:Cx)(t:Fr)(w:W)(Q:QX):Prop:=∃x t' w',Q x t' w'/\CodeTo P ng c cx t w x t' w'
theorem WC.mono{c:Code}{cx:Cx}{t:Fr}{w:W}{Q Q':QX}(h:WC P ng c cx t w Q)(hq:∀x t' w',Q x t' w'->Q' x t' w'):WC P ng c cx t w Q':=by
 obtain⟨x,t',w',q,r⟩:=h;exact⟨x,t',w',hq _ _ _ q,r⟩
noncomputable def soK(Q:QX):KX:=λx t w=>wE (Q x t w)
theorem WC.lo{c:Code}{cx:Cx}{t:Fr}{w:W}{Q:QX}:(loS P ng).code c cx t w (soK Q)=true↔WC P ng c cx t w Q:=by
 rw[loS_code];constructor
 . rintro ⟨x,t',w',q,r⟩;exact⟨x,t',w',isSo_iff.1 q,r⟩
 . rintro ⟨x,t',w',q,r⟩;exact⟨x,t',w',isSo_iff.2 q,r⟩
theorem wc_of[Fit P ng]{c:Code}{cx:Cx}{t:Fr}{w:W}{Q:QX}(h:xcode P (loS P ng) c cx t w (soK Q)=true):WC P ng c cx t w Q:=by
 obtain⟨x,t',w',q,r⟩:=sound_one.code c cx t w _ h;exact⟨x,t',w',isSo_iff.1 q,r⟩
def seqQ(P:Program)(ng:Nat)(b:Code)(cx:Cx)(Q:QX):QX:=λx t w=>match x with
 | .normal=>WC P ng b cx t w Q
 | x=>Q x t w
def blkQ(id:Nat)(Q:QX):QX:=λx t w=>match x with
 | .exit i=>bif Nat.beq i id then Q .normal t w else Q (.exit i) t w
 | x=>Q x t w
def scpQ(Q:QX):QX:=λx t w=>match x with
 | .goto _=>False
 | x=>Q x t w
theorem wc_seq{a b:Code}{cx:Cx}{t:Fr}{w:W}{Q:QX}(h:WC P ng a cx t w (seqQ P ng b cx Q)):WC P ng (.seq a b) cx t w Q:=by
 obtain⟨x,t1,w1,hk,h1⟩:=h;have ok:∀{N},yZ ng N (.seq a b)=true->yZ ng N a=true/\yZ ng N b=true:=λh=>ak.1 h
 have pass:x≠.normal->CodeTo P ng (.seq a b) cx t w x t1 w1:=λhx hc fr k=>
  zP (λ_ _ _=>stepR_seq) ((h1 (ok hc).1 fr (.code b::k)).pass hx (λ_ _=>rfl) (λ_ _=>rfl))
 cases x with
 | normal=>
  obtain⟨x2,t2,w2,hk2,h2⟩:=hk;exact⟨x2,t2,w2,hk2,λhc fr k=>zP (λ_ _ _=>stepR_seq) ((h1 (ok hc).1 fr (.code b::k)).trans (h2 (ok hc).2 fr k))⟩
 | exit i=>exact⟨_,t1,w1,hk,pass AX.noConfusion⟩
 | goto i=>exact⟨_,t1,w1,hk,pass AX.noConfusion⟩
 | ret=>exact⟨_,t1,w1,hk,pass AX.noConfusion⟩
 | panic c=>exact⟨_,t1,w1,hk,pass AX.noConfusion⟩
theorem wc_cond{c:Operand}{a b:Code}{cx:Cx}{t:Fr}{w:W}{Q:QX}{q:Bool}(hq:ev t c = .bool q)(h:WC P ng (if q then a else b) cx t w Q):WC P ng (.cond c a b) cx t w Q:=by
 obtain⟨x,t',w',hk,hc⟩:=h;refine⟨x,t',w',hk,?_⟩;intro hok fr k ρ base w0 ac wd cs hI;obtain⟨o1,o2⟩:=ak.1 hok;obtain⟨o2,o3⟩:=ak.1 o2;have hr:=ev_rv hI.hp hI.tm o1;rw [hq]at hr;have hr:=hr.of_bool;obtain⟨ρ',a',wd',cs',h1,h2,h3,h4⟩:=hc (by cases q <;> assumption) fr k ρ base w0 ac wd cs hI;exact⟨ρ',a',wd',cs',h1,h2,h3,h4.of_steps (.one (stepR_cond hr))⟩
theorem wc_block{id:Nat}{b:Code}{cx:Cx}{t:Fr}{w:W}{Q:QX}(h:WC P ng b cx t w (blkQ id Q)):WC P ng (.block id b) cx t w Q:=by
 obtain⟨x,t1,w1,hk,h1⟩:=h;have ok:∀{N},yZ ng N (.block id b)=true->yZ ng N b=true:=λh=>h
 have pass:x≠.normal->(∀i,x = .exit i->i≠id)->CodeTo P ng (.block id b) cx t w x t1 w1:=λhx hi hc fr k=>
  zP (λ_ _ _=>stepR_block) ((h1 (ok hc) fr (.inBlock id::k)).pass hx (λi e=>by
   have:(id == i)=false:=by simpa using λe2=>hi i e e2.symm
   simp[exitTo,this]) (λ_ _=>rfl))
 cases x with
 | normal=>exact⟨.normal,t1,w1,hk,λhc fr k=>zP (λ_ _ _=>stepR_block) ((h1 (ok hc) fr (.inBlock id::k)).trans (zP (λ_ _ _=>stepR_inBlock) (wV fr k cx t1 w1)))⟩
 | exit i =>
  have hk':bif Nat.beq i id then Q .normal t1 w1 else Q (.exit i) t1 w1:=hk
  cases hi:Nat.beq i id with
  | true=>
   rw[hi]at hk';obtain rfl:=zT hi;exact⟨.normal,t1,w1,hk',λhc fr k=>zP (λ_ _ _=>stepR_block) (leads_block (h1 (ok hc) fr (.inBlock i::k)))⟩
  | false =>
   rw[hi]at hk'
   exact⟨_,t1,w1,hk',pass AX.noConfusion λj e e2=>by
    injection e with e
    subst e e2;rw [aR]at hi;cases hi⟩
 | goto i=>exact⟨_,t1,w1,hk,pass AX.noConfusion λ_ e=>by cases e⟩
 | ret=>exact⟨_,t1,w1,hk,pass AX.noConfusion λ_ e=>by cases e⟩
 | panic c=>exact⟨_,t1,w1,hk,pass AX.noConfusion λ_ e=>by cases e⟩
def rndQ(P:Program)(ng:Nat)(b:Code)(cx:Cx)(Q:QX):QX:=λx t w=>match x with
 | .normal=>WC P ng (.loop b) cx t w Q
 | x=>Q x t w
theorem wc_loop1{b:Code}{cx:Cx}{t:Fr}{w:W}{Q:QX}(h:WC P ng b cx t w (rndQ P ng b cx Q)):WC P ng (.loop b) cx t w Q:=by
 obtain⟨x,t1,w1,hk,h1⟩:=h
 have pass:x≠.normal->CodeTo P ng (.loop b) cx t w x t1 w1:=λhx hc fr k=>
  zP (λ_ _ _=>stepR_loop) ((h1 hc fr (.inLoop b::k)).pass hx (λ_ _=>rfl) (λ_ _=>rfl))
 cases x with
 | normal =>
  obtain⟨x2,t2,w2,hk2,h2⟩:=hk
  exact⟨x2,t2,w2,hk2,λhc fr k=>zP (λ_ _ _=>stepR_loop)
   ((h1 hc fr (.inLoop b::k)).trans (zP (λ_ _ _=>stepR_inLoop) (leads_unloop (h2 hc fr k))))⟩
 | exit i=>exact⟨_,t1,w1,hk,pass AX.noConfusion⟩
 | goto i=>exact⟨_,t1,w1,hk,pass AX.noConfusion⟩
 | ret=>exact⟨_,t1,w1,hk,pass AX.noConfusion⟩
 | panic c=>exact⟨_,t1,w1,hk,pass AX.noConfusion⟩
theorem wc_scope{b:Code}{cx:Cx}{t:Fr}{w:W}{Q:QX}(h:WC P ng b cx t w (scpQ Q)):WC P ng (.scope b) cx t w Q:=by
 obtain⟨x,t1,w1,hk,h1⟩:=h
 have pass:x≠.normal->(∀l,x≠.goto l)->CodeTo P ng (.scope b) cx t w x t1 w1:=λhx hg hc fr k=>
  zP (λ_ _ _=>stepR_scope) ((h1 hc fr (.inScope b::k)).pass hx (λ_ _=>rfl) (λl e=>absurd e (hg l)))
 cases x with
 | normal=>exact⟨.normal,t1,w1,hk,λhc fr k=>zP (λ_ _ _=>stepR_scope) ((h1 hc fr (.inScope b::k)).trans (zP (λ_ _ _=>stepR_inScope) (wV fr k cx t1 w1)))⟩
 | exit i=>exact⟨_,t1,w1,hk,pass AX.noConfusion λ_=>AX.noConfusion⟩
 | goto i=>exact hk.elim
 | ret=>exact⟨_,t1,w1,hk,pass AX.noConfusion λ_=>AX.noConfusion⟩
 | panic c=>exact⟨_,t1,w1,hk,pass AX.noConfusion λ_=>AX.noConfusion⟩
theorem wc_skip{cx:Cx}{t:Fr}{w:W}{Q:QX}(h:Q .normal t w):WC P ng .skip cx t w Q:=⟨.normal,t,w,h,λ_ b k=>zP (λ_ _ _=>stepR_skip) (wV b k cx t w)⟩
theorem wc_label{l:Nat}{cx:Cx}{t:Fr}{w:W}{Q:QX}(h:Q .normal t w):WC P ng (.label l) cx t w Q:=⟨.normal,t,w,h,λ_ b k=>zP (λ_ _ _=>stepR_label) (wV b k cx t w)⟩
theorem wc_exit[Fit P ng]{id:Nat}{cx:Cx}{t:Fr}{w:W}{Q:QX}(h:Q (.exit id) t w):WC P ng (.exit id) cx t w Q:=wc_of (isSo_iff.2 h)
theorem wc_ret[Fit P ng]{cx:Cx}{t:Fr}{w:W}{Q:QX}(h:Q .ret t w):WC P ng .ret cx t w Q:=wc_of (isSo_iff.2 h)
theorem wc_loop{b:Code}{cx:Cx}{Q:QX}{α : Type}(I: α->Fr->W->Prop)(m: α->Nat)
(step:∀a t w,I a t w->WC P ng b cx t w λx t' w'=>match x with
  | .normal=>∃a',m a'<m a/\I a' t' w'
  | x=>Q x t' w'):∀a t w,I a t w->WC P ng (.loop b) cx t w Q:=by
 intro a;generalize hm:m a=k
 induction k using Nat.strongRecOn generalizing a with
 | _ k ih =>
  intro t w hI;refine wc_loop1 ((step a t w hI).mono λx t' w' q=>?_)
  cases x with
  | normal=>
   obtain⟨a',h1,h2⟩:=q;exact ih (m a') (hm ▸ h1) a' rfl t' w' h2
  | exit i=>exact q
  | goto i=>exact q
  | ret=>exact q
  | panic c=>exact q
def WO(P:Program)(ng:Nat)(all:Array Oper)(l:List Oper)(cx:Cx)(t:Fr)(w:W)(Q:QX):Prop:=xops P (loS P ng) cx all l t w (soK Q)=true
theorem wc_region[Fit P ng]{id:Nat}{ops:Array Oper}{cx:Cx}{t:Fr}{w:W}{Q:QX}(h:WO P ng ops ops.toList cx t w Q):WC P ng (.region id ops false) cx t w Q:=wc_of h
theorem wo_nil{all:Array Oper}{cx:Cx}{t:Fr}{w:W}{Q:QX}(h:Q .normal t w):WO P ng all [] cx t w Q:=isSo_iff.2 h
theorem putT_some(t:Fr)(d:Nat)(v:Value)(k:Fr->Bool):putT t (some d) v k=fsetK t d v k:=rfl
theorem wo_quiet{all:Array Oper}{op:Op}{d:Option Nat}{ty:TypeId}{pos:String}{af:Array Edge}{r:List Oper}{cx:Cx}{t:Fr}{w:W}{Q:QX}{v:Value}(hq:uF op P t w.h=some v)
(h:putT t d v (λt=>xops P (loS P ng) cx all r t w (soK Q))=true):WO P ng all (⟨d,op,ty,pos,af,none⟩::r) cx t w Q:=by
 show(Option.rec (eff op P (loS P ng) cx t w (λw v=>putT t d v λt=>xops P (loS P ng) cx all r t w (soK Q)) λc w=>soK Q (.panic c) t w) (λv=>putT t d v λt=>xops P (loS P ng) cx all r t w (soK Q)) (uF op P t w.h):Bool)=true;rw [hq];exact h
theorem wo_eff{all:Array Oper}{op:Op}{d:Option Nat}{ty:TypeId}{pos:String}{af:Array Edge}{r:List Oper}{cx:Cx}{t:Fr}{w:W}{Q:QX}(hq:uF op P t w.h=none)
(h:eff op P (loS P ng) cx t w (λw v=>putT t d v λt=>xops P (loS P ng) cx all r t w (soK Q)) (λc w=>soK Q (.panic c) t w)=true):WO P ng all (⟨d,op,ty,pos,af,none⟩::r) cx t w Q:=by
 show(Option.rec (eff op P (loS P ng) cx t w (λw v=>putT t d v λt=>xops P (loS P ng) cx all r t w (soK Q)) λc w=>soK Q (.panic c) t w) (λv=>putT t d v λt=>xops P (loS P ng) cx all r t w (soK Q)) (uF op P t w.h):Bool)=true;rw [hq];exact h
theorem wo_on{all:Array Oper}{op:Op}{d:Option Nat}{ty:TypeId}{pos:String}{af:Array Edge}{g:Nat×Bool}{r:List Oper}{cx:Cx}{t:Fr}{w:W}{Q:QX}(hg:wanted all t (some g)=true)
(h:WO P ng all (⟨d,op,ty,pos,af,none⟩::r) cx t w Q):WO P ng all (⟨d,op,ty,pos,af,some g⟩::r) cx t w Q:=by
 have h':(Option.rec (eff op P (loS P ng) cx t w (λw v=>putT t d v λt=>xops P (loS P ng) cx all r t w (soK Q)) λc w=>soK Q (.panic c) t w) (λv=>putT t d v λt=>xops P (loS P ng) cx all r t w (soK Q)) (uF op P t w.h):Bool)=true:=h;show(Bool.rec (putT t d undef λt=>xops P (loS P ng) cx all r t w (soK Q)) (Option.rec (eff op P (loS P ng) cx t w (λw v=>putT t d v λt=>xops P (loS P ng) cx all r t w (soK Q)) λc w=>soK Q (.panic c) t w) (λv=>putT t d v λt=>xops P (loS P ng) cx all r t w (soK Q)) (uF op P t w.h)) (wanted all t (some g)):Bool)=true;rw [hg];exact h'
theorem wo_off{all:Array Oper}{op:Op}{d:Option Nat}{ty:TypeId}{pos:String}{af:Array Edge}{g:Nat×Bool}{r:List Oper}{cx:Cx}{t:Fr}{w:W}{Q:QX}(hg:wanted all t (some g)=false)
(h:putT t d undef (λt=>xops P (loS P ng) cx all r t w (soK Q))=true):WO P ng all (⟨d,op,ty,pos,af,some g⟩::r) cx t w Q:=by
 show(Bool.rec (putT t d undef λt=>xops P (loS P ng) cx all r t w (soK Q)) (Option.rec (eff op P (loS P ng) cx t w (λw v=>putT t d v λt=>xops P (loS P ng) cx all r t w (soK Q)) λc w=>soK Q (.panic c) t w) (λv=>putT t d v λt=>xops P (loS P ng) cx all r t w (soK Q)) (uF op P t w.h)) (wanted all t (some g)):Bool)=true;rw [hg];exact h
end
end
section
noncomputable def qLoad(P:Program)(ty:TypeId)(h:zB)(v:Value):Option Value:=
 onPtr v (λb off=>onRows (zG h b) (λc kn=>
  Sh.rec none (Bool.rec none (xU (Tr.get undef c off) some) (Nat.blt off kn))
   (λsz=>Bool.rec none (some (.agg ⟨c.toListFrom undef off sz⟩)) (Nat.ble (Nat.add off sz) kn)) (yP P ty)) (λc kn=>
  Sh.rec none (Bool.rec none (rS (Tr.get undef c off)) (Nat.blt off kn))
   (λsz=>Bool.rec none (rT (c.toListFrom undef off sz)) (Nat.ble (Nat.add off sz) kn)) (yP P ty)) none) none
def qNil(v:Value):Option Value:=
 match v with
 | .pointer (some p)=>some (.pointer (some p))
 | .func (.func f) fs cs=>some (.func (.func f) fs cs)
 | .func (.yield f) fs cs=>some (.func (.yield f) fs cs)
 | .map r=>some (.map r)
 | .slice p i c=>some (.slice p i c)
 | _=>none
section
variable {P:Program} {ng:Nat}
theorem RV.back{ρ ρ':Inj}(ha:∀b B,ρ b=some B->ρ' b = ρ b){v x:Value}(r:RV ρ v x):∀{v'},RV ρ' v v'->RV ρ v v':=by
 induction r with
 | bool b=>intro v' h;cases h;exact .bool b
 | int k n=>intro v' h;cases h;exact .int k n
 | float k n=>intro v' h;cases h;exact .float k n
 | complex k n m=>intro v' h;cases h;exact .complex k n m
 | string s=>intro v' h;cases h;exact .string s
 | nilPtr=>intro v' h;cases h;exact .nilPtr
 | ptr e=>intro v' h;cases h with
  | ptr e'=>rw [ha _ _ e]at e';exact .ptr e'
 | nilSlice l c e=>intro v' h;cases h with
  | nilSlice _ _ e'=>exact .nilSlice l c e'
 | slice e hc hl ho=>intro v' h;cases h with
  | slice e' fE hl' gm=>rw [ha _ _ e]at e';exact .slice e' fE hl' gm
  | slice0 e' a'=>rw [ha _ _ e]at e';exact .slice0 e' a'
  | opened e' hl' gm=>exact absurd rfl hc
 | slice0 e a=>intro v' h;cases h with
  | slice e' fE hl' gm=>exact .slice0 e _
  | slice0 e' a'=>exact .slice0 e a'
 | opened e hl ho=>intro v' h;cases h with
  | slice e' fE hl' gm=>exact absurd rfl fE
  | opened e' hl' gm=>rw [ha _ _ e]at e';exact .opened e' hl' gm
 | nilMap=>intro v' h;cases h;exact .nilMap
 | map e=>intro v' h;cases h with
  | map e'=>rw [ha _ _ e]at e';exact .map e'
 | func hy hf hc f1 c1 f2 c2 => intro v' h; cases h with
  | func mR hf' fE f1' c1'=>
   refine .func mR hf' fE (λi w w' a b=>?_) (λi w w' a b=>?_)
   . obtain⟨w0,gM⟩:∃w0,(_:List Value)[i]? = some w0:=⟨_,aa (hf ▸ (ab.1 a).1)⟩;exact f2 i w w0 a gM (f1' i w w' a b)
   . obtain⟨w0,gM⟩:∃w0,(_:List Value)[i]? = some w0:=⟨_,aa (hc ▸ (ab.1 a).1)⟩;exact c2 i w w0 a gM (c1' i w w' a b)
  | yield e=>exact absurd rfl (hy _)
 | yield e=>intro v' h;cases h with
  | func mR hf' fE f1' c1'=>exact absurd rfl (mR _)
  | yield e'=>rw [ha _ _ e]at e';exact .yield e'
 | nilFunc=>intro v' h;cases h;exact .nilFunc
 | iface r ih=>intro v' h;cases h with
  | iface r'=>exact .iface (ih r')
 | nilIface=>intro v' h;cases h;exact .nilIface
 | agg hc c1 ih => intro v' h; cases h with
  | agg fE c1'=>
   refine .agg fE λi w w' a b=>?_;obtain⟨w0,gM⟩:∃w0,(_:List Value)[i]? = some w0:=⟨_,aa (hc ▸ (ab.1 a).1)⟩;exact ih i w w0 a gM (c1' i w w' a b)
 | tuple hc c1 ih => intro v' h; cases h with
  | tuple fE c1'=>
   refine .tuple fE λi w w' a b=>?_;obtain⟨w0,gM⟩:∃w0,(_:List Value)[i]? = some w0:=⟨_,aa (hc ▸ (ab.1 a).1)⟩;exact ih i w w0 a gM (c1' i w w' a b)
theorem ObjR.back{ρ ρ':Inj}(ha:∀b B,ρ b=some B->ρ' b = ρ b){base:Nat}{B:Bl}{o:AObj}{o0 o':Obj}(r0:ObjR P ng ρ base B o o0)(r:ObjR P ng ρ' base B o o'):ObjR P ng ρ base B o o':=by
 cases r with
 | cells hn hs hk hz hv hb hf =>
  rename_i c n z kd c' el lo hi
  cases r0 with
  | cells gt hs0 hk0 hz0 mO ff hf0=>
   rename_i c0 el0 lo0 hi0;refine .cells hn hs hk hz (λi v' fh e=>?_) hb hf;have eD:i<c0.size:=by rw[hs0];omega
   exact(mO i _ fh (aF eD)).back ha (hv i v' fh e)
 | map he hb =>
  cases r0 with
  | map lj ff=>
   rename_i es es' clock es0;refine .map ⟨he.1,λi e e' a b=>?_⟩ hb;obtain⟨e0,gM⟩:∃e0,es0[i]? = some e0:=⟨_,aa (lj.1 ▸ (ab.1 a).1)⟩;obtain⟨k1,k2,k3⟩:=he.2 i e e' a b;obtain⟨q1,q2,q3⟩:=lj.2 i e e0 a gM;exact⟨k1,q2.back ha k2,k3⟩
 | siter0 hb=>exact .siter0 hb
 | siter hm hb => cases r0 with
  | siter fG ff=>
   rw[ha _ _ fG]at hm;exact .siter hm hb
 | loop h1 h2 h3 h4 h5 h6 h7 h8 h9 fM h11 h12 hb =>
  cases r0 with
  | loop g1 g2 g3 g4 g5 g6 g7 g8 g9 g10 g11 g12 gb =>
   rename_i l l' t l0;obtain⟨D,e1,e2⟩:=h7;obtain⟨D0,e3,e4⟩:=g7;rw [ha _ _ e3]at e1;refine .loop h1 h2 h3 h4 h5 h6 ⟨D,e1,e2⟩ ⟨h8.sz,λi v e=>?_⟩ h9 fM h11 h12 hb
   have eD:i<l0.tmps.size:=by
    have:=g8.sz;have h8s:=h8.sz;have:i<l'.tmps.size:=(bA.1 e).1;omega
   exact(g8.tm i _ (aF eD)).back ha (h8.tm i v e)
 | ready hb=>exact .ready hb
 | taken hb=>exact .taken hb
 | rows hn hv =>
  rename_i c n c' el fr
  cases r0 with
  | rows gt mO=>
   rename_i c0 el0 fr0;refine .rows hn (λi v' e hu=>?_);have eD:i<c0.size:=by have:=(bA.1 e).1;omega
   exact(mO i _ (aF eD) hu).back ha (hv i v' e hu)
def xW:Value->Bool
 | .int _ _ | .bool _ | .string _ | .nilIface | .nilFunc=>true
 | _=>false
theorem RV.scal{ρ ρ':Inj}{v v':Value}(hv:xW v=true)(r:RV ρ v v'):RV ρ' v v':=by
 cases r <;> first|(cases hv;done)|skip
 . exact .bool _
 . exact .int _ _
 . exact .string _
 . exact .nilFunc
 . exact .nilIface
theorem RV.scals{ρ ρ':Inj}{v v':Value}(hv:xW v=true\/∃l:List Value,v = .tuple ⟨l⟩/\l.all xW=true)(r:RV ρ v v'):RV ρ' v v':=by
 rcases hv with hv|⟨l,rfl,hl⟩
 . exact r.scal hv
 . cases r with
   | tuple hc c1=>exact .tuple hc λi w w' a b=>(c1 i w w' a b).scal (aH.1 hl w (aj.2 ⟨i,a⟩))
end
noncomputable def wR(o:AObj)(i:Nat):Option Value:=match o with
 | .cells c n _ _=>if i<n then some (Tr.get undef c i) else none
 | .rows c n=>if i<n/\isU (Tr.get undef c i)=false then some (Tr.get undef c i) else none
 | _=>none
def yC(o:AObj):Option (Nat×Nat×Nat):=match o with
 | .cells _ n z kd=>some (n,z,kd)
 | .rows _ n=>some (n,0,3)
 | _=>none
theorem kd_of{a b c a' b' c':Nat}(h:some (a,b,c)=some (a',b',c')):c=c':=by injection h with h;injection h with _ h;injection h with _ h
noncomputable def mkC(l:List Value)(z kd:Nat):AObj:=.cells (Tr.ofListFrom undef .lF 0 l) l.length z kd
noncomputable def stC(o:AObj)(off:Nat)(vs:List Value):AObj:=match o with
 | .cells c n z kd=>.cells (Tr.ofListFrom undef c off vs) n z kd
 | o=>o
theorem wW(l:List Value)(z kd i:Nat):wR (mkC l z kd) i=l[i]? :=by
 unfold wR mkC;dsimp only;by_cases h:i<l.length
 . rw[if_pos h,Tr.get_ofListFrom,if_pos qJ];simp [aa h,aZ]
 . rw[if_neg h,aw qJ]
theorem vK(l:List Value)(z kd:Nat):yC (mkC l z kd)=some (l.length,z,kd):=rfl
theorem cellOf_stC(o:AObj)(off:Nat)(vs:List Value){n z kd:Nat}(hi:yC o=some (n,z,kd))(hl:off+vs.length<=n)(hk:kd≠3:=by decide)(i:Nat) :
 wR (stC o off vs) i=if off<=i/\i<off+vs.length then vs[i - off]? else wR o i:=by
 cases o <;> first|(cases hi;done)|(exact absurd (kd_of hi).symm hk)|skip
 rename_i c n' z' kd';injection hi with hi
 injection hi with h1 h2
 subst h1;unfold wR stC;dsimp only;by_cases h:off<=i/\i<off+vs.length
 . rw[if_pos h,if_pos qJ,Tr.get_ofListFrom,if_pos h];simp [aa (show i - off<vs.length by omega),aZ]
 . rw[if_neg h];by_cases h2:i<n'
   . rw[if_pos h2,if_pos h2,Tr.get_ofListFrom,if_neg h]
   . rw[if_neg h2,if_neg h2]
theorem sA(o:AObj)(off:Nat)(vs:List Value):yC (stC o off vs)=yC o:=by cases o <;> rfl
noncomputable def zD(h:zB)(b i:Nat):Option Value:=wR (zG h b) i
def rowAt(h:zB)(b off:Nat)(vs:List Value):Prop:=∀j v,vs[j]? = some v->zD h b (off+j)=some v
theorem rowAt.nil(h:zB)(b off:Nat):rowAt h b off []:=λj v e=>by simp at e
theorem rowAt.cons{h:zB}{b off:Nat}{v:Value}{l:List Value}(hv:zD h b off=some v)(hl:rowAt h b (off+1) l):rowAt h b off (v::l):=λj w e=>by
 cases j with
 | zero=>simp at e;subst e;exact hv
 | succ j=>have:=hl j w (by simpa using e);rw [<- this];congr 1;omega
def Ext(h:zB)(n:Nat)(h':zB)(n':Nat):Prop:=n<=n'/\∀b,b<n->zG h' b=zG h b
section
variable {P:Program} {ng:Nat}
theorem CallTo.pureE{f:FuncId}{args:List Value}{u':Option zK}{h h':zB}{n n':Nat}{v:Value}(c:CallTo P ng f args false none h n (.ret v) u' h' n')(hs:Ext h n h' n')
(hv:xW v=true\/∃l:List Value,v = .tuple ⟨l⟩/\l.all xW=true)(u:Option zK):CallTo P ng f args false u h n (.ret v) u h n:=by
 refine⟨c.1,fun ρ base w0 wd args' cs hH ha hu=>?_⟩;obtain⟨ρ',wd',fr,cs',s1,s2,s3,s4,s5,s6,s7⟩:=c.2 ρ base w0 wd args' cs hH ha (λe=>by cases e)
 have fI:cs'=cs:=by
  rcases s4 with e|⟨e,_⟩
  . exact e
  . cases e
 subst fI
 have eD:∀{b B},ρ b=some B->b<n:=fun {b B} e=>by
  rcases aS b n with h1|h1
  . exact h1
  . rw[hH.dom b h1]at e;cases e
 have hag:∀b B,ρ b=some B->ρ' b = ρ b:=λb B e=>s3.old b (eD e);refine⟨ρ,wd',fr,cs',s1,⟨hH.dom,λb B e hl=>?_,hH.inj,s2.below,s2.size,hH.glob,hH.ngn⟩,⟨ad _,λ_ _=>rfl,λb B h1 e=>(by rw[hH.dom b h1]at e;cases e),s3.keep,s3.size,λ_ _ e=>e,s3.tape⟩,CsTo.refl _ _,(λe=>Bool.noConfusion e),s6,?_⟩
 . obtain⟨o0,q1,q2⟩:=hH.obj b B e hl;have live:=hs.2 b (eD e);obtain⟨o,p1,p2⟩:=s2.obj b B (by rw[hag b B e];exact e) (by rw[live];exact hl);rw [live]at p2;exact⟨o,p1,q2.back hag p2⟩
 . obtain⟨v',y1,y2,y3,y4,y5⟩:=s7;exact⟨v',y1,y2,y3,y4,y5.scals hv⟩
theorem sK{o:AObj}{i:Nat}{v:Value}(h:wR o i=some v):(∃c n z kd,o = .cells c n z kd/\i<n/\Tr.get undef c i=v)\/∃c n,o = .rows c n/\i<n/\Tr.get undef c i=v/\isU v=false:=by
 cases o <;> first|(cases h;done)|skip
 . rename_i c n z kd;unfold wR at h;dsimp only at h;by_cases hi:i<n
   . rw[if_pos hi]at h;injection h with h;exact .inl ⟨c,n,z,kd,rfl,hi,h⟩
   . rw[if_neg hi]at h;cases h
 . rename_i c n;unfold wR at h;dsimp only at h;by_cases hi:i<n/\isU (Tr.get undef c i)=false
   . rw[if_pos hi]at h;injection h with h;exact .inr ⟨c,n,rfl,hi.1,h,by rw[<- h];exact hi.2⟩
   . rw[if_neg hi]at h;cases h
theorem xV{a b:Nat}(h:a<b):Nat.blt a b=true:=by rw[Nat.blt_eq];exact h
theorem vC{a b:Nat}(h:a<=b):Nat.ble a b=true:=db h
theorem load_scal{ty:TypeId}{h:zB}{b off:Nat}{v:Value}(hs:yP P ty = .scal)(hc:zD h b off=some v):qLoad P ty h (.pointer (some ⟨b,off,none⟩))=some v:=by
 show onRows (zG h b) (λc kn=>
  Sh.rec none (Bool.rec none (xU (Tr.get undef c off) some) (Nat.blt off kn))
   (λsz=>Bool.rec none (some (.agg ⟨c.toListFrom undef off sz⟩)) (Nat.ble (Nat.add off sz) kn)) (yP P ty)) (λc kn=>
  Sh.rec none (Bool.rec none (rS (Tr.get undef c off)) (Nat.blt off kn))
   (λsz=>Bool.rec none (rT (c.toListFrom undef off sz)) (Nat.ble (Nat.add off sz) kn)) (yP P ty)) none=_
 rcases sK hc with⟨c,n,z,kd,e1,e2,e3⟩|⟨c,n,e1,e2,e3,e4⟩
 . rw[e1,hs];show(Bool.rec none (xU (Tr.get undef c off) some) (Nat.blt off n):Option Value)=_;rw [xV e2];show xU (Tr.get undef c off) some=_;rw [yN,e3]
 . rw[e1,hs];show(Bool.rec none (rS (Tr.get undef c off)) (Nat.blt off n):Option Value)=_;rw [xV e2];show rS (Tr.get undef c off)=_;rw [e3];exact known1_of e4
theorem row_list{o:AObj}{off:Nat}{vs:List Value}{c:Tr Value}(hc:∀(i:Nat) (v:Value),wR o i=some v->Tr.get undef c i=v)(hr:∀j v,vs[j]? = some v->wR o (off+j)=some v):c.toListFrom undef off vs.length=vs:=by
 apply dy;intro j;rw [Tr.getElem?_toListFrom];by_cases hj:j<vs.length
 . rw[if_pos hj,aa hj];exact congrArg some (hc _ _ (hr j _ (aa hj)))
 . rw[if_neg hj,aw qJ]
theorem cells_cell{c:Tr Value}{n z kd i:Nat}{v:Value}(h:wR (.cells c n z kd) i=some v):Tr.get undef c i=v:=by
 rcases sK h with⟨c',n',z',kd',e1,e2,e3⟩|⟨c',n',e1,_⟩
 . injection e1 with e1 _ _ _;subst e1;exact e3
 . cases e1
theorem rows_cell{c:Tr Value}{n i:Nat}{v:Value}(h:wR (.rows c n) i=some v):Tr.get undef c i=v/\isU v=false:=by
 rcases sK h with⟨c',n',z',kd',e1,_⟩|⟨c',n',e1,e2,e3,e4⟩
 . cases e1
 . injection e1 with e1 _;subst e1;exact⟨e3,e4⟩
theorem rows_known{c:Tr Value}{n off:Nat}{vs:List Value}(hr:∀j v,vs[j]? = some v->wR (.rows c n) (off+j)=some v):vs.any isU=false:=by
 rw[List.any_eq_false];intro x hx;obtain⟨j,hj⟩:=aj.1 hx;rw [(rows_cell (hr j x hj)).2];exact aU
theorem load_agg{ty:TypeId}{h:zB}{b off sz:Nat}{vs:List Value}(hs:yP P ty = .agg sz)(hl:vs.length=sz)(h0:0<sz)(hr:rowAt h b off vs):qLoad P ty h (.pointer (some ⟨b,off,none⟩))=some (.agg ⟨vs⟩):=by
 have gX:=hr (sz - 1) (vs[sz - 1]' qJ) (aa _);unfold rowAt zD at hr
 show onRows (zG h b) (λc kn=>
  Sh.rec none (Bool.rec none (xU (Tr.get undef c off) some) (Nat.blt off kn))
   (λsz=>Bool.rec none (some (.agg ⟨c.toListFrom undef off sz⟩)) (Nat.ble (Nat.add off sz) kn)) (yP P ty)) (λc kn=>
  Sh.rec none (Bool.rec none (rS (Tr.get undef c off)) (Nat.blt off kn))
   (λsz=>Bool.rec none (rT (c.toListFrom undef off sz)) (Nat.ble (Nat.add off sz) kn)) (yP P ty)) none=_
 rcases sK gX with⟨c,n,z,kd,e1,e2,e3⟩|⟨c,n,e1,e2,e3,e4⟩
 . rw[e1]at hr ⊢;rw [hs];show(Bool.rec none (some (.agg ⟨c.toListFrom undef off sz⟩)) (Nat.ble (Nat.add off sz) n):Option Value)=_;rw [vC (show Nat.add off sz<=n by show off+sz<=n;omega)];show some (Value.agg ⟨c.toListFrom undef off sz⟩)=_;rw [<- hl,row_list (λi v e=>cells_cell e) hr]
 . rw[e1]at hr ⊢;rw [hs];show(Bool.rec none (rT (c.toListFrom undef off sz)) (Nat.ble (Nat.add off sz) n):Option Value)=_;rw [vC (show Nat.add off sz<=n by show off+sz<=n;omega)];show rT (c.toListFrom undef off sz)=_;rw [<- hl,row_list (λi v e=>(rows_cell e).1) hr];exact knownN_of (rows_known hr)
end
end
section
theorem isSo_bool(b:Bool):wE (b=true)=b:=by cases h:wE (b=true) with
  | true=>exact(isSo_iff.1 h).symm
  | false => cases b with
    | true=>rw [isSo_iff.2 rfl]at h;cases h
    | false=>rfl
 class Stp (A:Prop) (B:outParam Prop):Prop where
  ok:B->A
theorem st{A B:Prop}[s:Stp A B](h:B):A:=s.ok h
def Ob{α : Type}(A: α->Prop)(K: α->Prop):Prop:=∃a,A a/\K a
def Ob1(A K:Prop):Prop:=A/\K
def Wh{α : Type}(x y: α):Prop:=x=y
def Ch(z:Bool)(A B:Prop):Prop:=(z=true->A)/\(z=false->B)
def Ev(l:List (Nat×Value))(t:Fr)(x:Operand)(v:Value):Prop:=evb l t x=v
def Evs(l:List (Nat×Value))(t:Fr):List Operand->List Value->Prop
 | [],vs=>vs=[]
 | x::r,vs=>∃v vr,vs=v::vr/\Ev l t x v/\Evs l t r vr
theorem Evs.eq{l:List (Nat×Value)}{t:Fr}:∀{xs:List Operand} {vs:List Value},Evs l t xs vs->evs l t xs=vs:=by
 intro xs
 induction xs with
 | nil=>intro vs h;exact h.symm
 | cons x r ih=>
  rintro vs ⟨v,vr,rfl,h1,h2⟩
  unfold evs;rw [ih h2,show evb l t x=v from h1]
def Gv(all:Array Oper)(l:List (Nat×Value))(t:Fr)(g:Nat)(b z:Bool):Prop:=∃i,dstOf all g=some i/\(lk l t i = .bool z\/(lk l t i=undef/\z = !b))
section
variable {P:Program} {ng:Nat}
def OpB0(P:Program)(ng:Nat)(op:Op)(cx:Cx)(t:Fr)(w:W)(K:W->Value->Prop)(Kp:zK->W->Prop):Prop:=
 match uF op P t w.h with
 | some v=>K w v
 | none=>eff op P (loS P ng) cx t w (λw v=>wE (K w v)) (λc w=>wE (Kp c w))=true
def OpB(P:Program)(ng:Nat)(op:Op)(cx:Cx)(t:Fr)(w:W)(K:W->Value->Prop)(Kp:zK->W->Prop):Prop:=OpB0 P ng op cx t w K Kp/\True
theorem opB_q{op:Op}{cx:Cx}{t:Fr}{w:W}{K:W->Value->Prop}{Kp:zK->W->Prop}{v:Value}(h:uF op P t w.h=some v)(k:K w v):OpB P ng op cx t w K Kp:=by refine⟨?_,trivial⟩;unfold OpB0;rw [h];exact k
def opQ(P:Program)(ng:Nat)(all:Array Oper)(d:Option Nat)(r:List Oper)(cx:Cx)(l:List (Nat×Value))(t:Fr)(Q:QX):W->Value->Prop:=λw v=>match d with
 | some i=>WO P ng all r cx (FA ((i,v)::l) t) w Q
 | none=>WO P ng all r cx (FA l t) w Q
def opP(l:List (Nat×Value))(t:Fr)(Q:QX):zK->W->Prop:=λc w=>Q (.panic c) (FA l t) w
theorem wo_cons{all:Array Oper}{op:Op}{d:Option Nat}{ty:TypeId}{pos:String}{af:Array Edge}{r:List Oper}{cx:Cx}{l:List (Nat×Value)}{t:Fr}{w:W}{Q:QX}
(h:OpB P ng op cx (FA l t) w (opQ P ng all d r cx l t Q) (opP l t Q)):WO P ng all (⟨d,op,ty,pos,af,none⟩::r) cx (FA l t) w Q:=by
 have hk:(λw v=>wE (opQ P ng all d r cx l t Q w v))=λw v=>putT (FA l t) d v λt=>xops P (loS P ng) cx all r t w (soK Q):=by
  funext w v
  cases d with
  | none=>exact isSo_bool _
  | some i=>rw [putT_some,fset_FA];exact isSo_bool _
 replace h:=h.1;unfold OpB0 at h
 cases hq:uF op P (FA l t) w.h with
 | some v=>
  rw[hq]at h;refine wo_quiet hq ?_;rw [<- congrFun (congrFun hk w) v];exact isSo_iff.2 h
 | none=>
  rw[hq]at h;refine wo_eff hq ?_;rw [<- hk];exact h
theorem Gv.wants{all:Array Oper}{l:List (Nat×Value)}{t:Fr}{g:Nat}{z b:Bool}(h:Gv all l t g b z):wanted all (FA l t) (some (g,b))=(z == b):=by
 obtain⟨i,h1,h2⟩:=h;show(Option.rec false (λd=>onBool (fget (FA l t) d) (λz=>Bool.rec (Bool.rec true false b) b z) false) (dstOf all g):Bool)=_;rw [h1];show onBool (fget (FA l t) i) _ false=_;rw [fget_FA];rcases h2 with h2|⟨h2,rfl⟩
 . rw[h2];cases z <;> cases b <;> rfl
 . rw[h2];cases b <;> rfl
section
variable {cx:Cx} {t:Fr} {l:List (Nat×Value)} {w:W} {Q:QX}
instance {a b:Code}:Stp (WC P ng (.seq a b) cx t w Q) (WC P ng a cx t w (seqQ P ng b cx Q)):=⟨wc_seq⟩
instance {id:Nat} {b:Code}:Stp (WC P ng (.block id b) cx t w Q) (WC P ng b cx t w (blkQ id Q)):=⟨wc_block⟩
instance {b:Code}:Stp (WC P ng (.scope b) cx t w Q) (WC P ng b cx t w (scpQ Q)):=⟨wc_scope⟩
instance:Stp (WC P ng .skip cx t w Q) (Q .normal t w):=⟨wc_skip⟩
instance {i:Nat}:Stp (WC P ng (.label i) cx t w Q) (Q .normal t w):=⟨wc_label⟩
instance [Fit P ng] {i:Nat}:Stp (WC P ng (.exit i) cx t w Q) (Q (.exit i) t w):=⟨wc_exit⟩
instance [Fit P ng]:Stp (WC P ng .ret cx t w Q) (Q .ret t w):=⟨wc_ret⟩
instance [Fit P ng] {id:Nat} {ops:List Oper}:Stp (WC P ng (.region id ops.toArray false) cx t w Q) (WO P ng ops.toArray ops cx t w Q):=⟨λh=>wc_region (by simpa using h)⟩
instance {c:Operand} {a b:Code}:Stp (WC P ng (.cond c a b) cx (FA l t) w Q) (Ob (λz=>Ev l t c (.bool z)) λz=>Ch z (WC P ng a cx (FA l t) w Q) (WC P ng b cx (FA l t) w Q)):=
 ⟨λ⟨z,h1,h2,h3⟩=>wc_cond (q:=z) ((xA l t c).trans h1) (by cases z with
  | true=>exact h2 rfl
  | false=>exact h3 rfl)⟩
instance {b:Code}:Stp (seqQ P ng b cx Q .normal t w) (WC P ng b cx t w Q):=⟨id⟩
instance {b:Code} {i:Nat}:Stp (seqQ P ng b cx Q (.exit i) t w) (Q (.exit i) t w):=⟨id⟩
instance {b:Code}:Stp (seqQ P ng b cx Q .ret t w) (Q .ret t w):=⟨id⟩
instance {b:Code} {c:zK}:Stp (seqQ P ng b cx Q (.panic c) t w) (Q (.panic c) t w):=⟨id⟩
instance {i:Nat}:Stp (blkQ i Q .normal t w) (Q .normal t w):=⟨id⟩
instance {i j:Nat}:Stp (blkQ i Q (.exit j) t w) (Ob (Wh (Nat.beq j i)) λz=>Ch z (Q .normal t w) (Q (.exit j) t w)):=
 ⟨λ⟨z,h1,h2,h3⟩=>by
  show bif Nat.beq j i then Q .normal t w else Q (.exit j) t w;rw [show Nat.beq j i=z from h1]
  cases z with
  | true=>exact h2 rfl
  | false=>exact h3 rfl⟩
instance {i:Nat}:Stp (blkQ i Q .ret t w) (Q .ret t w):=⟨id⟩
instance {i:Nat} {c:zK}:Stp (blkQ i Q (.panic c) t w) (Q (.panic c) t w):=⟨id⟩
instance:Stp (scpQ Q .normal t w) (Q .normal t w):=⟨id⟩
instance {i:Nat}:Stp (scpQ Q (.exit i) t w) (Q (.exit i) t w):=⟨id⟩
instance:Stp (scpQ Q .ret t w) (Q .ret t w):=⟨id⟩
instance {c:zK}:Stp (scpQ Q (.panic c) t w) (Q (.panic c) t w):=⟨id⟩
instance {all:Array Oper}:Stp (WO P ng all [] cx t w Q) (Q .normal t w):=⟨wo_nil⟩
instance {all:Array Oper} {op:Op} {d:Option Nat} {ty:TypeId} {pos:String} {af:Array Edge} {r:List Oper}:Stp (WO P ng all (⟨d,op,ty,pos,af,none⟩::r) cx (FA l t) w Q) (OpB P ng op cx (FA l t) w (opQ P ng all d r cx l t Q) (opP l t Q)):=⟨wo_cons⟩
instance {all:Array Oper} {op:Op} {d:Option Nat} {ty:TypeId} {pos:String} {af:Array Edge} {g:Nat} {r:List Oper}:Stp (WO P ng all (⟨d,op,ty,pos,af,some (g,true)⟩::r) cx (FA l t) w Q)
 (Ob (λz=>Gv all l t g true z) λz=>Ch z (OpB P ng op cx (FA l t) w (opQ P ng all d r cx l t Q) (opP l t Q)) (opQ P ng all d r cx l t Q w undef)):=
 ⟨λ⟨z,h1,h2,h3⟩=>by
  cases z with
  | true=>exact wo_on (h1.wants) (wo_cons (h2 rfl))
  | false=>
   refine wo_off (h1.wants) ?_;have h:=h3 rfl
   cases d with
   | none=>exact h
   | some i=>rw [putT_some,fset_FA];exact h⟩
instance {all:Array Oper} {op:Op} {d:Option Nat} {ty:TypeId} {pos:String} {af:Array Edge} {g:Nat} {r:List Oper}:Stp (WO P ng all (⟨d,op,ty,pos,af,some (g,false)⟩::r) cx (FA l t) w Q)
 (Ob (λz=>Gv all l t g false z) λz=>Ch z (opQ P ng all d r cx l t Q w undef) (OpB P ng op cx (FA l t) w (opQ P ng all d r cx l t Q) (opP l t Q))):=
 ⟨λ⟨z,h1,h2,h3⟩=>by
  cases z with
  | false=>exact wo_on (h1.wants) (wo_cons (h3 rfl))
  | true=>
   refine wo_off (h1.wants) ?_;have h:=h2 rfl
   cases d with
   | none=>exact h
   | some i=>rw [putT_some,fset_FA];exact h⟩
instance {all:Array Oper} {i:Nat} {r:List Oper} {v:Value}:Stp (opQ P ng all (some i) r cx l t Q w v) (WO P ng all r cx (FA ((i,v)::l) t) w Q):=⟨id⟩
instance {all:Array Oper} {r:List Oper} {v:Value}:Stp (opQ P ng all none r cx l t Q w v) (WO P ng all r cx (FA l t) w Q):=⟨id⟩
instance {c:zK}:Stp (opP l t Q c w) (Q (.panic c) (FA l t) w):=⟨id⟩
end
end
end
section
abbrev str(l:List UInt8):Value:=.string ⟨⟨l⟩⟩
abbrev ptr(b off:Nat):Value:=.pointer (some ⟨b,off,none⟩)
abbrev I64(x:Int):Value:=.int .i64 x
 class ShC (P:Program) (ty:Nat) (s:outParam Sh):Prop where ok:yP P ty=s
 class OfC (P:Program) (ty f:Nat) (o:outParam Nat):Prop where ok:offOf P ty f=some o
 class IxC (P:Program) (ty:Nat) (s:outParam Ix):Prop where ok:ixOf P ty=s
 class UnC (P:Program) (ty:Nat) (d:outParam TypeDesc):Prop where ok:und P ty=some d
def plainT:TypeDesc->Bool
 | .interface _=>false
 | _=>true
noncomputable def plB(P:Program)(ty:Nat):Bool:=match und P ty with
  | some d=>plainT d
  | none=>false
 class PlC (P:Program) (ty:Nat):Prop where ok:plB P ty=true
theorem PlC.get{P:Program}{ty:Nat}(s:PlC P ty):∃d,und P ty=some d/\plainT d=true:=by
  have h:=s.ok;unfold plB at h
  cases e:und P ty with
  | none=>rw [e]at h;cases h
  | some d=>rw [e]at h;exact⟨d,rfl,h⟩
 class IkC (P:Program) (ty:Nat) (k:outParam IntKind):Prop where ok:und P ty=some (.int k)
 class ZeC (P:Program) (el:Nat) (cs:outParam (List Value)):Prop where ok:∃z,xI P el=some z/\cellsOf z=cs
noncomputable def hal(h:zB)(n:Nat)(o:AObj):zB:=h.set .dead o n
noncomputable def hst(h:zB)(b off:Nat)(vs:List Value):zB:=h.set .dead (stC (zG h b) off vs) b
theorem zO(h:zB)(n:Nat)(o:AObj)(b:Nat):zG (hal h n o) b=if n=b then o else zG h b:=zN _ _ _ _
theorem zX(h:zB)(c off:Nat)(vs:List Value)(b:Nat):zG (hst h c off vs) b=if c=b then stC (zG h c) off vs else zG h b:=zN _ _ _ _
def Cel(h:zB)(b z kd:Nat)(vs:List Value):Prop:=yC (zG h b)=some (vs.length,z,kd)/\∀i,zD h b i=vs[i]?
def spl(vs:List Value):Nat->List Value->List Value
 | _,[]=>vs
 | off,x::r=>spl (vs.set off x) (off+1) r
theorem zY(ws:List Value):∀(vs:List Value) (off:Nat),(spl vs off ws).length=vs.length:=by
 induction ws with
 | nil=>intro vs off;rfl
 | cons x r ih=>intro vs off;unfold spl;rw [ih,bh]
theorem spl_get(ws:List Value):∀(vs:List Value) (off i:Nat),off+ws.length<=vs.length->(spl vs off ws)[i]? = if off<=i/\i<off+ws.length then ws[i - off]? else vs[i]? :=by
 induction ws with
 | nil=>intro vs off i _;rw [if_neg (λh=>absurd h.2 (Nat.not_lt.2 h.1))];rfl
 | cons x r ih=>
  intro vs off i h;rw [ay]at h;unfold spl;rw [ih _ _ _ (by rw[bh];omega),ay];by_cases h1:off+1<=i/\i<off+1+r.length
  . rw[if_pos h1,if_pos qJ];have:i - off=(i - (off+1))+1:=by omega
    rw[this,bW]
  . rw[if_neg h1];by_cases h2:off=i
    . subst h2;rw [if_pos qJ,bB,bY qJ,List.getElem?_cons_zero]
    . rw[if_neg qJ,bH h2]
theorem cel_hal(h:zB)(n z kd:Nat)(vs:List Value):Cel (hal h n (mkC vs z kd)) n z kd vs:=by
 refine⟨?_,λi=>?_⟩
 . rw[zO,if_pos rfl];exact vK _ _ _
 . unfold zD;rw [zO,if_pos rfl];exact wW _ _ _ _
theorem Cel.hal{h:zB}{b z kd:Nat}{vs:List Value}(c:Cel h b z kd vs){n:Nat}{o:AObj}(hb:b≠n):Cel (hal h n o) b z kd vs:=by
 unfold Cel zD;rw [zO,if_neg λe=>hb e.symm];exact c
theorem Cel.hst{h:zB}{b z kd:Nat}{vs:List Value}(c:Cel h b z kd vs){a off:Nat}{ws:List Value}(hb:b≠a):Cel (hst h a off ws) b z kd vs:=by
 unfold Cel zD;rw [zX,if_neg λe=>hb e.symm];exact c
theorem Cel.put{h:zB}{b z kd:Nat}{vs:List Value}(c:Cel h b z kd vs){off:Nat}{ws:List Value}(ho:off+ws.length<=vs.length)(hk:kd≠3):Cel (Go.Ex.hst h b off ws) b z kd (spl vs off ws):=by
 obtain⟨c1,c2⟩:=c;refine⟨?_,λi=>?_⟩
 . rw[zX,if_pos rfl,sA,zY];exact c1
 . unfold zD;rw [zX,if_pos rfl,cellOf_stC _ _ _ c1 ho hk,spl_get _ _ _ _ ho];by_cases h1:off<=i/\i<off+ws.length
   . rw[if_pos h1,if_pos h1]
   . rw[if_neg h1,if_neg h1];exact c2 i
def Tch(S:List Nat)(h:zB)(n:Nat)(h':zB)(n':Nat):Prop:=n<=n'/\∀b,b<n->b∉S->zG h' b=zG h b
theorem Tch.refl(S:List Nat)(h:zB)(n:Nat):Tch S h n h n:=⟨ad _,λ_ _ _=>rfl⟩
theorem Cel.tch{S:List Nat}{h h':zB}{n n' b z kd:Nat}{vs:List Value}(c:Cel h b z kd vs)(t:Tch S h n h' n')(hb:b<n)(hS:b∉S):Cel h' b z kd vs:=by
 unfold Cel zD;rw [t.2 b hb hS];exact c
theorem Cel.tcm{S:List Nat}{h h':zB}{n n' b z kd:Nat}{vs:List Value}(t:Tch S h n h' n')(c:Cel h b z kd vs)(hb:b<n)(hS:b∉S):Cel h' b z kd vs:=c.tch t hb hS
def Rd(h:zB)(b:Nat):Nat->Nat->List Value->Prop
 | _,0,vs=>vs=[]
 | o,k+1,vs=>∃v r,vs=v::r/\zD h b o=some v/\Rd h b (o+1) k r
theorem Rd.row{h:zB}{b:Nat}:∀{k o:Nat} {vs:List Value},Rd h b o k vs->vs.length=k/\rowAt h b o vs:=by
 intro k
 induction k with
 | zero=>intro o vs h;subst h;exact⟨rfl,rowAt.nil _ _ _⟩
 | succ k ih=>
  rintro o vs ⟨v,r,rfl,h1,h2⟩
  obtain⟨h3,h4⟩:=ih h2;exact⟨by rw[ay,h3],rowAt.cons h1 h4⟩
def Ld1(h:zB)(p v:Value):Prop:=∃b o,p = .pointer (some ⟨b,o,none⟩)/\zD h b o=some v
def LdN(h:zB)(p:Value)(k:Nat)(vs:List Value):Prop:=∃b o,p = .pointer (some ⟨b,o,none⟩)/\0<k/\Rd h b o k vs
def StP(h:zB)(p:Value)(ws:List Value)(h':zB):Prop:=∃b o m z kd,p = .pointer (some ⟨b,o,none⟩)/\yC (zG h b)=some (m,z,kd)/\(kd≠2/\kd≠3)/\o+ws.length<=m/\(∀x∈ws,x.oneCell'=true)/\h'=hst h b o ws
def One:List Value->Prop
 | []=>True
 | x::r=>x.oneCell'=true/\One r
theorem One.all:∀{l:List Value},One l->∀x∈l,x.oneCell'=true:=by
 intro l
 induction l with
 | nil=>intro _ x hx;cases hx
 | cons a r ih=>
  rintro ⟨h1,h2⟩ x hx
  rcases au.1 hx with rfl|hx
  . exact h1
  . exact ih h2 x hx
def Bx(v:Value)(cs:List Value):Prop:=cellsOf v=cs/\One cs
theorem StP.of{h:zB}{b o z kd:Nat}{vs ws:List Value}(c:Cel h b z kd vs)(hk:kd≠2/\kd≠3)(ho:o+ws.length<=vs.length)(h1:One ws):StP h (.pointer (some ⟨b,o,none⟩)) ws (hst h b o ws):=
 ⟨b,o,_,_,_,rfl,c.1,hk,ho,h1.all,rfl⟩
def StP'(h:zB)(p:Value)(ws:List Value)(k:Nat)(h':zB):Prop:=StP h p ws h'/\ws.length=k
section
variable {P:Program} {ng:Nat} {cx:Cx} {l:List (Nat×Value)} {t:Fr} {d:List Deferred} {u:Option zK} {h:zB} {n:Nat} {K:W->Value->Prop} {Kp:zK->W->Prop}
theorem wG{c:Tr Value}{i:Nat}{l:List Value}{k:Tr Value->Bool}(h1:∀v∈l,v.oneCell'=true)(hk:k (Tr.ofListFrom undef c i l)=true):xN c i l k=true:=by
 induction l generalizing c i with
 | nil=>exact hk
 | cons v r ih=>
  show forceOne v (λv=>c.setK undef v i λc'=>xN c' (Nat.succ i) r k)=true;have hv:=h1 v (aN ..);have e:∀k:Value->Bool,forceOne v k=k v:=λk=>by cases v <;> first|rfl|(cases hv;done)
  rw[e,Tr.setK_eq];exact ih (λx hx=>h1 x (aL _ hx)) hk
theorem wA(h:zB)(n:Nat)(o:AObj)(k:zB->Nat->Bool):yD h n o k=k (hal h n o) (n+1):=by
 unfold yD;rw [Tr.setK_eq];rfl
theorem rZ{b off m z kd:Nat}{vs:List Value}{h:zB}{k:zB->Bool}(hi:yC (zG h b)=some (m,z,kd))(hk:kd≠2/\kd≠3)(hle:off+vs.length<=m)(h1:∀x∈vs,x.oneCell'=true)(hK:k (hst h b off vs)=true):storeAt h b off vs k=true:=by
 unfold storeAt;have iw:k (h.set .dead (stC (zG h b) off vs) b)=true:=hK;cases ho:zG h b <;> rw[ho]at hi <;> first|(cases hi;done)|(exact absurd (kd_of hi).symm hk.2)|skip
 rename_i c n' z' kd';rw [ho]at iw;injection hi with hi
 injection hi with e1 hi
 injection hi with e2 e3
 subst e1 e2 e3;show(Bool.rec (Bool.rec false (xN c off vs λc'=>h.setK .dead (.cells c' n' z' kd') b k) (Nat.ble (Nat.add off vs.length) n')) false (Nat.beq kd' 2):Bool)=true
 have e4:Nat.beq kd' 2=false:=by
  cases e:Nat.beq kd' 2 with
  | false=>rfl
  | true=>exact absurd (zT e) hk.1
 rw[e4,vC (show Nat.add off vs.length<=n' from hle)];refine wG h1 ?_;rw [Tr.setK_eq];exact iw
theorem q_of{op:Op}{w:W}{v:Value}(hq:uF op P (FA l t) w.h=some v)(k:K w v):OpB P ng op cx (FA l t) w K Kp:=opB_q hq k
instance {x:Operand} {w:W}:Stp (OpB P ng (.move x) cx (FA l t) w K Kp) (Ob (Ev l t x) (K w)):=⟨λ⟨v,h1,h2⟩=>q_of (show xU (ev (FA l t) x) some=_ by rw[xA,yN,show evb l t x=v from h1]) h2⟩
instance {x:Operand} {w:W}:Stp (OpB P ng (.assign x) cx (FA l t) w K Kp) (Ob (Ev l t x) (K w)):=⟨λ⟨v,h1,h2⟩=>q_of (show xU (ev (FA l t) x) some=_ by rw[xA,yN,show evb l t x=v from h1]) h2⟩
instance {c x y:Operand} {w:W}:Stp (OpB P ng (.pick c x y) cx (FA l t) w K Kp) (Ob (λz=>Ev l t c (.bool z)) λz=>Ch z (Ob (Ev l t x) (K w)) (Ob (Ev l t y) (K w))):=
 ⟨λ⟨z,h1,h2,h3⟩=>by
  cases z with
  | true=>
   obtain⟨v,h4,h5⟩:=h2 rfl;exact q_of (v:=v) (show onBool (ev (FA l t) c) (λb=>xU (Bool.rec (ev (FA l t) y) (ev (FA l t) x) b) some) none=_ by rw[xA,show evb l t c=_ from h1];show xU (ev (FA l t) x) some=_;rw [xA,yN,show evb l t x=v from h4]) h5
  | false=>
   obtain⟨v,h4,h5⟩:=h3 rfl;exact q_of (v:=v) (show onBool (ev (FA l t) c) (λb=>xU (Bool.rec (ev (FA l t) y) (ev (FA l t) x) b) some) none=_ by rw[xA,show evb l t c=_ from h1];show xU (ev (FA l t) y) some=_;rw [xA,yN,show evb l t y=v from h4]) h5⟩
instance {ty:Nat} [s:ShC P ty .scal] {x:Operand}:Stp (OpB P ng (.load ty x) cx (FA l t) ⟨d,u,h,n⟩ K Kp) (Ob (Ev l t x) λp=>Ob (Ld1 h p) (K ⟨d,u,h,n⟩)):=
 ⟨λ⟨p,h1,v,⟨b,o,e,h2⟩,h3⟩=>q_of (v:=v) (by
  show qLoad P ty h (ev (FA l t) x)=_;rw [xA,show evb l t x=p from h1,e];exact load_scal s.ok h2) h3⟩
instance {ty k:Nat} [s:ShC P ty (.agg k)] {x:Operand}:Stp (OpB P ng (.load ty x) cx (FA l t) ⟨d,u,h,n⟩ K Kp) (Ob (Ev l t x) λp=>Ob (LdN h p k) λvs=>K ⟨d,u,h,n⟩ (.agg ⟨vs⟩)):=
 ⟨λ⟨p,h1,vs,⟨b,o,e,h0,h2⟩,h3⟩=>q_of (v:=.agg ⟨vs⟩) (by
  show qLoad P ty h (ev (FA l t) x)=_;rw [xA,show evb l t x=p from h1,e];exact load_agg s.ok h2.row.1 h0 h2.row.2) h3⟩
instance {x:Operand} {w:W}:Stp (OpB P ng (.nilCheck x) cx (FA l t) w K Kp) (Ob (Ev l t x) λp=>Ob (λq=>Wh (qNil p) (some q)) (K w)):=
 ⟨λ⟨p,h1,q,h2,h3⟩=>q_of (v:=q) (by
  show qNil (ev (FA l t) x)=_;rw [xA,show evb l t x=p from h1];exact h2) h3⟩
def Fad(o:Nat)(p q:Value):Prop:=∃b off,p = .pointer (some ⟨b,off,none⟩)/\q = .pointer (some ⟨b,off+o,none⟩)
instance {ty f o:Nat} [s:OfC P ty f o] {x:Operand} {w:W}:Stp (OpB P ng (.fieldAddr ty x f) cx (FA l t) w K Kp) (Ob (Ev l t x) λp=>Ob (Fad o p) (K w)):=
 ⟨λ⟨p,h1,q,⟨b,off,e1,e2⟩,h3⟩=>q_of (v:=q) (by
  show(onPtr (ev (FA l t) x) (λb off=>Option.rec none (λo=>some (.pointer (some ⟨b,Nat.add off o,none⟩))) (offOf P ty f)) none:Option Value)=_;rw [xA,show evb l t x=p from h1,e1,e2,s.ok];rfl) h3⟩
def Iad(sz:Nat)(s i q:Value):Prop:=∃b off len cap k j,s = .slice (some ⟨b,off,none⟩) len cap/\i = .int k (.ofNat j)/\j<len/\q = .pointer (some ⟨b,off+j*sz,none⟩)
instance {ty sz:Nat} [s:IxC P ty (.slice sz)] {x i:Operand} {w:W}:Stp (OpB P ng (.indexAddr ty x i) cx (FA l t) w K Kp) (Ob (Ev l t x) λp=>Ob (Ev l t i) λj=>Ob (Iad sz p j) (K w)):=
 ⟨λ⟨p,h1,j,h2,q,⟨b,off,len,cap,k,m,e1,e2,e3,e4⟩,h3⟩=>q_of (v:=q) (by
  show(onInt (ev (FA l t) i) (λ_ i=>Int.rec (λi=>Ix.rec none
   (λsz=>onSlice (ev (FA l t) x) (λb off len _=>Bool.rec none (some (.pointer (some ⟨b,Nat.add off (Nat.mul i sz),none⟩))) (Nat.blt i len)) none)
   (λlen sz=>onPtr (ev (FA l t) x) (λb off=>Bool.rec none (some (.pointer (some ⟨b,Nat.add off (Nat.mul i sz),none⟩))) (Nat.blt i len)) none) (ixOf P ty)) (λ_=>none) i) none:Option Value)=_
  rw[xA,xA,show evb l t x=p from h1,show evb l t i=j from h2,e1,e2,s.ok];show(Bool.rec none (some (.pointer (some ⟨b,Nat.add off (Nat.mul m sz),none⟩))) (Nat.blt m len):Option Value)=_;rw [xV e3,e4];rfl) h3⟩
instance {ty:Nat} {x:Operand} {f:Nat} {w:W}:Stp (OpB P ng (.field ty x f) cx (FA l t) w K Kp) (Ob (Ev l t x) λa=>Ob (λv=>aField P ty a f=some v) (K w)):=
 ⟨λ⟨a,h1,v,h2,h3⟩=>q_of (v:=v) (by show aField P ty (ev (FA l t) x) f=_;rw [xA,show evb l t x=a from h1];exact h2) h3⟩
def Ixv(P:Program)(ty:Nat)(a j v:Value):Prop:=aIndex P ty a j=some v
instance {ty:Nat} {x i:Operand} {w:W}:Stp (OpB P ng (.index ty x i) cx (FA l t) w K Kp) (Ob (Ev l t x) λa=>Ob (Ev l t i) λj=>Ob (Ixv P ty a j) (K w)):=
 ⟨λ⟨a,h1,j,h2,v,h3,h4⟩=>q_of (v:=v) (by show aIndex P ty (ev (FA l t) x) (ev (FA l t) i)=_;rw [xA,xA,show evb l t x=a from h1,show evb l t i=j from h2];exact h3) h4⟩
instance {ty:Nat} {x key:Operand} {ok:Bool}:Stp (OpB P ng (.lookup ty x key ok) cx (FA l t) ⟨d,u,h,n⟩ K Kp) (Ob (Ev l t x) λa=>Ob (Ev l t key) λj=>Ob (λv=>xG P h ty a j ok=some v) (K ⟨d,u,h,n⟩)):=
 ⟨λ⟨a,h1,j,h2,v,h3,h4⟩=>q_of (v:=v) (by show xG P h ty (ev (FA l t) x) (ev (FA l t) key) ok=_;rw [xA,xA,show evb l t x=a from h1,show evb l t key=j from h2];exact h3) h4⟩
def Evo(l:List (Nat×Value))(t:Fr):Option Operand->Option Value->Prop
 | none,v=>v=none
 | some x,v=>∃a,v=some a/\Ev l t x a
theorem Evo.eq{x:Option Operand}{v:Option Value}(h:Evo l t x v):x.map (ev (FA l t))=v:=by
 cases x with
 | none=>exact Eq.symm h
 | some x=>obtain⟨a,rfl,h⟩:=h;show some (ev (FA l t) x)=_;rw [xA];exact congrArg some h
instance {ty:Nat} {x:Operand} {lo hi mx:Option Operand}:Stp (OpB P ng (.slice ty x lo hi mx) cx (FA l t) ⟨d,u,h,n⟩ K Kp)
 (Ob (Ev l t x) λa=>Ob (Evo l t lo) λi=>Ob (Evo l t hi) λj=>Ob (Evo l t mx) λm=>Ob (λv=>xS P h ty a i j m=some v) (K ⟨d,u,h,n⟩)):=
 ⟨λ⟨a,h1,i,h2,j,h3,m,h4,v,h5,h6⟩=>q_of (v:=v) (by show xS P h ty (ev (FA l t) x) _ _ _=_;rw [xA,h2.eq,h3.eq,h4.eq,show evb l t x=a from h1];exact h5) h6⟩
def Bn(P:Program)(op:BinOp)(ty:Nat)(ox oy:Operand)(a b v:Value):Prop:=binV P op ty ox oy a b=some v
instance {op:BinOp} {ty ty2:Nat} {x y:Operand} {w:W}:Stp (OpB P ng (.binOp op ty x y ty2) cx (FA l t) w K Kp) (Ob (Ev l t x) λa=>Ob (Ev l t y) λb=>Ob (Bn P op ty x y a b) (K w)):=
 ⟨λ⟨a,h1,b,h2,v,h3,h4⟩=>q_of (v:=v) (by show binV P op ty x y (ev (FA l t) x) (ev (FA l t) y)=_;rw [xA,xA,show evb l t x=a from h1,show evb l t y=b from h2];exact h3) h4⟩
instance {ty:Nat} {x:Operand} {w:W}:Stp (OpB P ng (.unOp .not ty x) cx (FA l t) w K Kp) (Ob (λz=>Ev l t x (.bool z)) λz=>K w (.bool (!z))):=
 ⟨λ⟨z,h1,h2⟩=>q_of (v:=.bool (!z)) (by show aUn .not (ev (FA l t) x)=_;rw [xA,show evb l t x=_ from h1];rfl) h2⟩
def Cv(P:Program)(dst:Nat)(a v:Value):Prop:=sY P dst a=some v
instance {src dst:Nat} [s:PlC P src] {x:Operand} {w:W}:Stp (OpB P ng (.convert src dst x) cx (FA l t) w K Kp) (Ob (Ev l t x) λa=>Ob (Cv P dst a) (K w)):=
 ⟨λ⟨a,h1,v,h2,h3⟩=>q_of (v:=v) (by
  obtain⟨ds,e,_⟩:=s.get;show(match und P src with|some _=>sY P dst (ev (FA l t) x)|none=>none)=_;rw [xA,show evb l t x=a from h1,e];exact h2) h3⟩
instance {ty:Nat} [s:PlC P ty] {x:Operand} {w:W}:Stp (OpB P ng (.makeInterface ty x) cx (FA l t) w K Kp) (Ob (Ev l t x) λa=>K w (.iface ty a)):=
 ⟨λ⟨a,h1,h3⟩=>q_of (v:=.iface ty a) (by
  obtain⟨ds,e,h2⟩:=s.get;show(match und P ty with|some (.interface _)=>none|some _=>xU (ev (FA l t) x) λv=>some (.iface ty v)|none=>none:Option Value)=_;rw [xA,show evb l t x=a from h1,e];cases ds <;> first|(cases h2;done)|(show xU a _=_;rw [yN])) h3⟩
instance {f:FuncId} {first cap:List Operand} {w:W}:Stp (OpB P ng (.makeFunc (.func f) first.toArray cap.toArray) cx (FA l t) w K Kp) (Ob (Evs l t first) λfs=>Ob (Evs l t cap) λcs=>K w (.func (.func f) ⟨fs⟩ ⟨cs⟩)):=
 ⟨λ⟨fs,h1,cs,h2,h3⟩=>q_of (v:=.func (.func f) ⟨fs⟩ ⟨cs⟩) (by
  show some (Value.func (.func f) ⟨first.toArray.toList.map (ev (FA l t))⟩ ⟨cap.toArray.toList.map (ev (FA l t))⟩)=_;rw [show first.toArray.toList=first from rfl,show cap.toArray.toList=cap from rfl,evs_FA,evs_FA,h1.eq,h2.eq]) h3⟩
instance {x:Operand} {ty asserted:Nat} {ok:Bool} {w:W}:Stp (OpB P ng (.typeAssert x ty asserted ok) cx (FA l t) w K Kp) (Ob (Ev l t x) λa=>Ob (λv=>wO P a asserted ok=some v) (K w)):=
 ⟨λ⟨a,h1,v,h2,h3⟩=>q_of (v:=v) (by show wO P (ev (FA l t) x) asserted ok=_;rw [xA,show evb l t x=a from h1];exact h2) h3⟩
def Ext1(i:Nat)(a v:Value):Prop:=∃vs,a = .tuple ⟨vs⟩/\vs[i]? = some v
instance {x:Operand} {i:Nat} {w:W}:Stp (OpB P ng (.extract x i) cx (FA l t) w K Kp) (Ob (Ev l t x) λa=>Ob (Ext1 i a) (K w)):=
 ⟨λ⟨a,h1,v,⟨vs,h2,h2'⟩,h3⟩=>q_of (v:=v) (by
  show(match ev (FA l t) x with | .tuple vs=>Option.rec none (λv=>xU v some) (vs.toList[i]?)|_=>none:Option Value)=_;rw [xA,show evb l t x=a from h1,h2];show(Option.rec none (λv=>xU v some) (vs[i]?):Option Value)=_;rw [h2'];exact yN v _) h3⟩
def Evp(l:List (Nat×Value))(t:Fr):List (Nat×Operand)->List (Nat×Value)->Prop
 | [],vs=>vs=[]
 | x::r,vs=>∃v vr,vs=(x.1,v)::vr/\Ev l t x.2 v/\Evp l t r vr
theorem Evp.eq:∀{xs:List (Nat×Operand)} {vs:List (Nat×Value)},Evp l t xs vs->(xs.map λp=>(p.1,ev (FA l t) p.2))=vs:=by
 intro xs
 induction xs with
 | nil=>intro vs h;exact Eq.symm h
 | cons x r ih=>
  rintro vs ⟨v,vr,rfl,h1,h2⟩
  rw[bJ,ih h2,xA,show evb l t x.2=v from h1]
instance {ty:Nat} {parts:List (Nat×Operand)} {w:W}:Stp (OpB P ng (.build ty parts.toArray) cx (FA l t) w K Kp) (Ob (Evp l t parts) λps=>Ob (λv=>aBuild P ty ps=some v) (K w)):=
 ⟨λ⟨ps,h1,v,h2,h3⟩=>q_of (v:=v) (by show aBuild P ty (parts.toArray.toList.map λp=>(p.1,ev (FA l t) p.2))=_;rw [show parts.toArray.toList=parts from rfl,h1.eq];exact h2) h3⟩
def Qb(P:Program)(b:Builtin)(tys:List TypeId)(asz:List Value)(h:zB)(r:Option Value):Prop:=quietB P b tys asz h=r
def BuB(P:Program)(cx:Cx)(bi:Builtin)(tys:List TypeId)(asz:List Value)(d:List Deferred)(u:Option zK)(h:zB)(n:Nat)(K:W->Value->Prop):Prop:=builtinK P cx bi tys asz ⟨d,u,h,n⟩ (λw v=>wE (K w v))=true
def blQ(P:Program)(cx:Cx)(bi:Builtin)(tys:List TypeId)(asz:List Value)(d:List Deferred)(u:Option zK)(h:zB)(n:Nat)(K:W->Value->Prop)(r:Option Value):Prop:=match r with
 | some v=>K ⟨d,u,h,n⟩ v
 | none=>BuB P cx bi tys asz d u h n K
instance {bi:Builtin} {tys:List TypeId} {asz:List Value} {v:Value}:Stp (blQ P cx bi tys asz d u h n K (some v)) (K ⟨d,u,h,n⟩ v):=⟨id⟩
instance {bi:Builtin} {tys:List TypeId} {asz:List Value}:Stp (blQ P cx bi tys asz d u h n K none) (BuB P cx bi tys asz d u h n K):=⟨id⟩
instance {bi:Builtin} {args:List Operand} {tys:List Nat}:Stp (OpB P ng (.call ⟨.builtin bi,args.toArray,tys.toArray⟩) cx (FA l t) ⟨d,u,h,n⟩ K Kp)
 (Ob (Evs l t args) λasz=>Ob (Qb P bi tys asz h) (blQ P cx bi tys asz d u h n K)):=
 ⟨λ⟨asz,h1,r,h2,h3⟩=>by
  have e1:uF (.call ⟨.builtin bi,args.toArray,tys.toArray⟩) P (FA l t) h=r:=by
   show quietB P bi tys.toArray.toList (args.toArray.toList.map (ev (FA l t))) h=_;rw [show args.toArray.toList=args from rfl,show tys.toArray.toList=tys from rfl,evs_FA,h1.eq];exact h2
  refine⟨?_,trivial⟩;unfold OpB0;dsimp only;rw [e1]
  cases r with
  | some v=>exact h3
  | none=>
   show builtinK P cx bi tys.toArray.toList (args.toArray.toList.map (ev (FA l t))) ⟨d,u,h,n⟩ (λw v=>wE (K w v))=true;rw [show args.toArray.toList=args from rfl,show tys.toArray.toList=tys from rfl,evs_FA,h1.eq];exact h3⟩
theorem e_of{op:Op}{w:W}(hq:uF op P (FA l t) w.h=none)(k:eff op P (loS P ng) cx (FA l t) w (λw v=>wE (K w v)) (λc w=>wE (Kp c w))=true):OpB P ng op cx (FA l t) w K Kp:=by refine⟨?_,trivial⟩;unfold OpB0;rw [hq];exact k
instance {el:Nat} {cs:List Value} [z:ZeC P el cs]:Stp (OpB P ng (.alloc el) cx (FA l t) ⟨d,u,h,n⟩ K Kp) (K ⟨d,u,hal h n (mkC cs (el+1) 0),n+1⟩ (ptr n 0)):=
 ⟨λh1=>e_of rfl (by
  obtain⟨z,h2,h3⟩:=z.ok;show(Option.rec false (λz=>yD h n (mkCellsT (cellsOf z) el) λh' n'=>wE (K ⟨d,u,h',n'⟩ (.pointer (some ⟨n,0,none⟩)))) (xI P el):Bool)=true;rw [h2];show yD h n (mkCellsT (cellsOf z) el) _=true;rw [wA,h3];exact isSo_iff.2 h1)⟩
instance {ty:Nat} {x:Operand}:Stp (OpB P ng (.box ty x) cx (FA l t) ⟨d,u,h,n⟩ K Kp) (Ob (Ev l t x) λv=>Ob (Bx v) λcs=>K ⟨d,u,hal h n (mkC cs (ty+1) 0),n+1⟩ (ptr n 0)):=
 ⟨λ⟨v,h1,cs,⟨h2,h3⟩,h4⟩=>e_of rfl (by
  show xN .lF 0 (cellsOf (ev (FA l t) x)) (λc=>yD h n (.cells c (cellsOf (ev (FA l t) x)).length (Nat.succ ty) 0) λh' n'=>wE (K ⟨d,u,h',n'⟩ (.pointer (some ⟨n,0,none⟩))))=true;rw [xA,show evb l t x=v from h1,h2];refine wG h3.all ?_;rw [wA];exact isSo_iff.2 h4)⟩
instance {ty:Nat} [s:ShC P ty .scal] {x y:Operand}:Stp (OpB P ng (.store ty x y) cx (FA l t) ⟨d,u,h,n⟩ K Kp) (Ob (Ev l t x) λp=>Ob (Ev l t y) λv=>Ob (StP h p [v]) λh'=>K ⟨d,u,h',n⟩ undef):=
 ⟨λ⟨p,h1,v,h2,h',⟨b,o,m,z,kd,e1,e2,e3,e4,e5,e6⟩,h3⟩=>e_of rfl (by
  have hv:cellsOf v=[v]:=by
   have:=e5 v (aN ..);cases v <;> first|rfl|(cases this;done)
  show onPtr (ev (FA l t) x) (λb off=>Sh.rec false
   (Bool.rec false (storeAt h b off (cellsOf (ev (FA l t) y)) λh'=>wE (K ⟨d,u,h',n⟩ undef)) (Nat.beq (cellsOf (ev (FA l t) y)).length 1))
   (λsz=>Bool.rec false (storeAt h b off (cellsOf (ev (FA l t) y)) λh'=>wE (K ⟨d,u,h',n⟩ undef)) (Nat.beq (cellsOf (ev (FA l t) y)).length sz)) (yP P ty)) false=true
  rw[xA,xA,show evb l t x=p from h1,show evb l t y=v from h2,e1,s.ok,hv];subst e6;exact rZ e2 e3 e4 e5 (isSo_iff.2 h3))⟩
instance {ty k:Nat} [s:ShC P ty (.agg k)] {x y:Operand}:Stp (OpB P ng (.store ty x y) cx (FA l t) ⟨d,u,h,n⟩ K Kp) (Ob (Ev l t x) λp=>Ob (Ev l t y) λv=>Ob (Wh (cellsOf v)) λcs=>Ob (StP' h p cs k) λh'=>K ⟨d,u,h',n⟩ undef):=
 ⟨λ⟨p,h1,v,h2,cs,hc,h',⟨⟨b,o,m,z,kd,e1,e2,e3,e4,e5,e6⟩,hl⟩,h3⟩=>e_of rfl (by
  show onPtr (ev (FA l t) x) (λb off=>Sh.rec false
   (Bool.rec false (storeAt h b off (cellsOf (ev (FA l t) y)) λh'=>wE (K ⟨d,u,h',n⟩ undef)) (Nat.beq (cellsOf (ev (FA l t) y)).length 1))
   (λsz=>Bool.rec false (storeAt h b off (cellsOf (ev (FA l t) y)) λh'=>wE (K ⟨d,u,h',n⟩ undef)) (Nat.beq (cellsOf (ev (FA l t) y)).length sz)) (yP P ty)) false=true
  rw[xA,xA,show evb l t x=p from h1,show evb l t y=v from h2,e1,s.ok,show cellsOf v=cs from hc];show(Bool.rec false (storeAt h b o cs λh'=>wE (K ⟨d,u,h',n⟩ undef)) (Nat.beq cs.length k):Bool)=true;rw [hl,aR];subst e6;exact rZ e2 e3 e4 e5 (isSo_iff.2 h3))⟩
instance {ty len:Nat} {parts:List (Nat×Operand)}:Stp (OpB P ng (.buildSlice ty len parts.toArray) cx (FA l t) ⟨d,u,h,n⟩ K Kp) (Ob (Evp l t parts) λps=>Ob (λcs=>wP P ty len ps=some (mkC cs 0 0)) λcs=>K ⟨d,u,hal h n (mkC cs 0 0),n+1⟩ (.slice (some ⟨n,0,none⟩) len len)):=
 ⟨λ⟨ps,h1,cs,h2,h3⟩=>e_of rfl (by
  show(Option.rec false (λob=>yD h n ob λh' n'=>wE (K ⟨d,u,h',n'⟩ (.slice (some ⟨n,0,none⟩) len len))) (wP P ty len (parts.toArray.toList.map λp=>(p.1,ev (FA l t) p.2))):Bool)=true;rw [show parts.toArray.toList=parts from rfl,h1.eq,h2];show yD h n (mkC cs 0 0) _=true;rw [wA];exact isSo_iff.2 h3)⟩
instance {ty:Nat}:Stp (OpB P ng (.makeMap ty none) cx (FA l t) ⟨d,u,h,n⟩ K Kp) (K ⟨d,u,hal h n (.map [] 0),n+1⟩ (.map (some n))):=
 ⟨λh1=>e_of rfl (by
  show yD h n (.map [] 0) (λh' n'=>wE (K ⟨d,u,h',n'⟩ (.map (some n))))=true;rw [wA];exact isSo_iff.2 h1)⟩
def MSet(P:Program)(ty:Nat)(m k v:Value)(h h':zB):Prop:=∀K:zB->Bool,K h'=true->uE P ty m k v h K=true
instance {ty:Nat} {m k v:Operand}:Stp (OpB P ng (.mapUpdate ty m k v) cx (FA l t) ⟨d,u,h,n⟩ K Kp) (Ob (Ev l t m) λa=>Ob (Ev l t k) λb=>Ob (Ev l t v) λc=>Ob (MSet P ty a b c h) λh'=>K ⟨d,u,h',n⟩ undef):=
 ⟨λ⟨a,h1,b,h2,c,h3,h',h4,h5⟩=>e_of rfl (by
  show uE P ty (ev (FA l t) m) (ev (FA l t) k) (ev (FA l t) v) h (λh=>wE (K ⟨d,u,h,n⟩ undef))=true;rw [xA,xA,xA,show evb l t m=a from h1,show evb l t k=b from h2,show evb l t v=c from h3];exact h4 _ (isSo_iff.2 h5))⟩
def CallB(P:Program)(ng:Nat)(g:FuncId)(args:List Value)(h:zB)(n:Nat)(K:Out->zB->Nat->Prop):Prop:=(loS P ng).call g args false none h n (λo _ h n=>wE (K o h n))=true
def calQ(d:List Deferred)(u:Option zK)(K:W->Value->Prop)(Kp:zK->W->Prop):Out->zB->Nat->Prop:=λo h n=>match o with
 | .ret v=>K ⟨d,u,h,n⟩ v
 | .panic c=>Kp c ⟨d,u,h,n⟩
instance {v:Value}:Stp (calQ d u K Kp (.ret v) h n) (K ⟨d,u,h,n⟩ v):=⟨id⟩
instance {c:zK}:Stp (calQ d u K Kp (.panic c) h n) (Kp c ⟨d,u,h,n⟩):=⟨id⟩
theorem calQ_so:(λ(o:Out) (_:Option zK) h n=>wE (calQ d u K Kp o h n))=λo _ h n=>Out.rec (λv=>wE (K ⟨d,u,h,n⟩ v)) (λc=>wE (Kp c ⟨d,u,h,n⟩)) o:=by
 funext o _ h n
 cases o <;> rfl
theorem call_eff{fv:Value}{g:FuncId}{fs cs:List Value}{args:List Operand}{asz:List Value}{f:Operand}{tys:Array Nat}(h1:evb l t f=fv)(h2:fv = .func (.func g) ⟨fs⟩ ⟨cs⟩)(h3:evs l t args=asz)
(h4:CallB P ng g (fs++(asz++cs)) h n (calQ d u K Kp)):eff (.call ⟨.value f,args.toArray,tys⟩) P (loS P ng) cx (FA l t) ⟨d,u,h,n⟩ (λw v=>wE (K w v)) (λc w=>wE (Kp c w))=true:=by
 show xinvoke (loS P ng) (ev (FA l t) f) (args.toArray.toList.map (ev (FA l t))) h n (λv h n=>wE (K ⟨d,u,h,n⟩ v)) (λc h n=>wE (Kp c ⟨d,u,h,n⟩))=true;rw [show args.toArray.toList=args from rfl,evs_FA,h3,xA,h1,h2];unfold CallB at h4;rw [calQ_so]at h4;exact h4
instance {g:FuncId} {args:List Operand} {tys:Array Nat}:Stp (OpB P ng (.call ⟨.value (.func g),args.toArray,tys⟩) cx (FA l t) ⟨d,u,h,n⟩ K Kp) (Ob (Evs l t args) λasz=>CallB P ng g asz h n (calQ d u K Kp)):=
 ⟨λ⟨asz,h1,h2⟩=>e_of rfl (call_eff (fs:=[]) (cs:=[]) rfl rfl h1.eq (by simpa using h2))⟩
def InvB(P:Program)(ng:Nat)(f:Value)(args:List Value)(h:zB)(n:Nat)(d:List Deferred)(u:Option zK)(K:W->Value->Prop)(Kp:zK->W->Prop):Prop:=
 xinvoke (loS P ng) f args h n (λv h n=>wE (K ⟨d,u,h,n⟩ v)) (λc h n=>wE (Kp c ⟨d,u,h,n⟩))=true
instance {i:Nat} {args:List Operand} {tys:Array Nat}:Stp (OpB P ng (.call ⟨.value (.tmp i),args.toArray,tys⟩) cx (FA l t) ⟨d,u,h,n⟩ K Kp) (Ob (Ev l t (.tmp i)) λf=>Ob (Evs l t args) λasz=>InvB P ng f asz h n d u K Kp):=
 ⟨λ⟨f,h1,asz,h2,h3⟩=>e_of rfl (by
  show xinvoke (loS P ng) (ev (FA l t) (.tmp i)) (args.toArray.toList.map (ev (FA l t))) h n (λv h n=>wE (K ⟨d,u,h,n⟩ v)) (λc h n=>wE (Kp c ⟨d,u,h,n⟩))=true;rw [show args.toArray.toList=args from rfl,evs_FA,h2.eq,xA,show evb l t (.tmp i)=f from h1];exact h3)⟩
instance {g:FuncId} {fs cs asz:List Value}:Stp (InvB P ng (.func (.func g) ⟨fs⟩ ⟨cs⟩) asz h n d u K Kp) (Ob (Wh (fs++(asz++cs))) λall=>CallB P ng g all h n (calQ d u K Kp)):=
 ⟨λ⟨all,h1,h2⟩=>by
  have h1:fs++(asz++cs)=all:=h1;subst h1;unfold CallB at h2;rw [calQ_so]at h2;exact h2⟩
def Ifv(v:Value)(p:Nat×Value):Prop:=v = .iface p.1 p.2
theorem ifv_of{t:Nat}{v:Value}:Ifv (.iface t v) (t,v):=rfl
def Fnv(fv:Value)(p:FuncId×List Value×Array Value):Prop:=fv = .func (.func p.1) ⟨p.2.1⟩ p.2.2
theorem fnv_of{g:FuncId}{fs:List Value}{cs:Array Value}:Fnv (.func (.func g) ⟨fs⟩ cs) (g,fs,cs):=rfl
instance {f:Operand} {args:List Operand} {tys:Array Nat} {fn:FuncId} {df:Bool}:Stp (OpB P ng (.defer ⟨.value f,args.toArray,tys⟩) ⟨fn,none,df⟩ (FA l t) ⟨d,u,h,n⟩ K Kp)
 (Ob (Ev l t f) λfv=>Ob (Evs l t args) λasz=>Ob (Fnv fv) λp=>K ⟨{ target:=.fn (.func p.1) p.2.2,args:=⟨p.2.1++asz⟩ }::d,u,h,n⟩ undef):=
 ⟨λ⟨fv,h1,asz,h2,⟨g,fs,cs⟩,h3,h4⟩=>e_of rfl (by
  show(match ev (FA l t) f with
   | .func (.func g) first cap=>wE (K ⟨{ target:=.fn (.func g) cap,args:=⟨first.toList++args.toArray.toList.map (ev (FA l t))⟩ }::d,u,h,n⟩ undef)
   | _=>false)=true
  rw[show args.toArray.toList=args from rfl,evs_FA,h2.eq,xA,show evb l t f=fv from h1,h3];exact isSo_iff.2 h4)⟩
instance {x:Operand} {w:W}:Stp (OpB P ng (.panic x) cx (FA l t) w K Kp) (Ob (Ev l t x) λv=>Ob (Ifv v) λp=>Kp [⟨.iface p.1 p.2,false,false⟩] w):=
 ⟨λ⟨v',h1,⟨ty,v⟩,gd,h2⟩=>e_of rfl (by
  show(match ev (FA l t) x with
   | .iface ty v=>wE (Kp [⟨.iface ty v,false,false⟩] w)
   | _=>false)=true
  rw[xA,show evb l t x=_ from h1,show v'=_ from gd];exact isSo_iff.2 h2)⟩
end
end
end Go.Ex
