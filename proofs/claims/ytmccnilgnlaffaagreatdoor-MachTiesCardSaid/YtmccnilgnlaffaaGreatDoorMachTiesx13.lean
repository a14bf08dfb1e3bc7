/- What the law leans on: an executor of the model that is sound, deduction over it, and the walks through the code (part 13 of 18). Conditions: those that each theorem states. -/
import Derived.Test.YtmccnilgnlaffaaGreatDoorMachTiesx12

set_option linter.unusedVariables false
set_option linter.unusedSimpArgs false
namespace Go.Proofs.YtmccnilgnlaffaaGreatDoor
open Go Go.Ex Go.Ex.M
set_option maxRecDepth 100000
set_option maxHeartbeats 8000000
variable {lo bc z n:Nat} {h:zB} {m:MachT} {nsv psv:Value} {ns:List Tx} {ps:List Pl}
theorem may1_com{pc po L:Nat}{o:OperT}{c:ClassT}{i:Nat}(hcls:wT m o.cls=some c)(hci:m.classes[i]? = some c)(hcp:wO m o.cls=(i:Nat))(hcr:∀r∈c.regs,r∈ns)(J:List Pl→zB→Nat→Prop)(JF:zB→Nat→Prop)
(hE:∀done h' n',J done h' n'→Ck lo h' bc z m nsv psv ns ps∧lo≤n'∧pc<n'∧po<n'∧zC h' pc 0=some (ptr bc 0)∧zC h' po 0=some (str o.cls)∧zC h' po 1=some (str o.fix))(h0:J [] h n)
(hy:∀done p h' n',J done h' n'→(done++[p]) <+: tL m ns ps o→Rou P 8 L [plV p] h' n' fun r h2 n2=>n'≤n2∧((r = .ret (.bool true)∧J (done++[p]) h2 n2)∨(r = .ret (.bool false)∧JF h2 n2))) :
 Com P 8 200 [.func (.yield L) #[] #[],ptr pc 0,ptr po 0] h n fun r h' n'=>r = .ret (.tuple #[])∧(J (tL m ns ps o) h' n'∨JF h' n'):=by
 have hL:tL m ns ps o=(c.regs.filter (mayF o)).map (xJ ns ps):=by unfold tL;rw [hcls]
 have hilt:i<m.classes.length:=(List.getElem?_eq_some_iff.1 hci).1;have hcm:=List.mem_of_getElem? hci;obtain⟨k,hlo,hpc,hpo,d1,d2,d3⟩:=hE _ _ _ h0;have hinf:inf<4611686018427387904:=by decide
 have hbc:=k.hb;have hcel:=k.cel;have r:=k.mm.cls 0;have e2:=rd_at (yE r hci) (j:=1) rfl;have rcI:=k.mm.clsr c hcm;have rc:=rcI 0;have hrl:=rcI.lt;have hrl2:=r.low (by omega);refine ent fun u=>?_;repeat' first|refine wk ?_|refine cX (fun _=>?_) fun _=>?_|refine wM (class_purE k hlo _ hcp) ?_|fail
 refine lpR (fun q:Nat=>[(0,.func (.yield L) #[] #[]),(1,ptr pc 0),(2,ptr po 0),(17,c.rsv),(18,I64 c.regs.length),(19,I64 q)]) (fun q h' n'=>q≤c.regs.length∧J (((c.regs.take q).filter (mayF o)).map (xJ ns ps)) h' n') (fun q=>c.regs.length - q) 0 ⟨Nat.zero_le _,h0⟩ ?_;clear hcel k d1 d2 d3 hlo hpc hpo e2 r rc hrl2
 rintro q t h' n' ⟨hq,hJ⟩
 obtain⟨k,hlo,hpc,hpo,d1,d2,d3⟩:=hE _ _ _ hJ;have hcel:=k.cel;have rc:=k.mm.clsr c hcm 0;have rp:=k.rp;by_cases hlt:q<c.regs.length
 · have c0:c.regs[q]? = some c.regs[q]:=List.getElem?_eq_getElem hlt;generalize c.regs[q]=x at c0
   have hx:x∈ns:=hcr x (List.mem_of_getElem? c0);have c1:=row_e1 rc c0;have st1:=may_step (o:=o) (f:=xJ ns ps) c0;repeat' first|refine wk ?_|refine cX (fun _=>?_) fun _=>?_|refine regP k hx (fun _ _ _ _ _=>?_)|fail
   · rename_i f1 _ _ _ _ _;have hf:mayF o x=true:=by unfold mayF;rw [f1];rfl
     rw[hf,if_pos rfl]at st1;refine inv_yield (fs:=[]) (cs:=[]) ((hy _ _ _ _ hJ (by rw[hL,← st1];exact may_pre)).mono ?_)
     rintro _ h2 n2 ⟨hn2,⟨rfl,hJ2⟩|⟨rfl,hF⟩⟩
     · repeat' first|refine wk ?_|refine cX (fun _=>?_) fun _=>?_|fail
       exact rnd (q+1) ⟨by omega,by rw[st1];exact hJ2⟩
     · repeat' first|refine wk ?_|refine cX (fun _=>?_) fun _=>?_|fail
       exact⟨rfl,.inr hF⟩
   · rename_i f0 f1 _ _ _ _ _;have hf:mayF o x=true:=by unfold mayF;rw [f1];simp
     rw[hf,if_pos rfl]at st1;refine inv_yield (fs:=[]) (cs:=[]) ((hy _ _ _ _ hJ (by rw[hL,← st1];exact may_pre)).mono ?_)
     rintro _ h2 n2 ⟨hn2,⟨rfl,hJ2⟩|⟨rfl,hF⟩⟩
     · repeat' first|refine wk ?_|refine cX (fun _=>?_) fun _=>?_|fail
       exact rnd (q+1) ⟨by omega,by rw[st1];exact hJ2⟩
     · repeat' first|refine wk ?_|refine cX (fun _=>?_) fun _=>?_|fail
       exact⟨rfl,.inr hF⟩
   · rename_i f0 f1;have hf:mayF o x=false:=by unfold mayF;simp [f0,f1]
     rw[hf]at st1;exact rnd (q+1) ⟨by omega,by rw[st1];exact hJ⟩
 · obtain rfl:q=c.regs.length:=by omega
   repeat' first|refine wk ?_|refine cX (fun _=>?_) fun _=>?_|fail
   rw[List.take_length,← hL]at hJ;exact⟨rfl,.inl hJ⟩
def MayE(lo bc z:Nat)(m:MachT)(nsv psv:Value)(ns:List Tx)(ps:List Pl)(o:OperT)(pc po:Nat)(h':zB)(n':Nat):Prop:=Ck lo h' bc z m nsv psv ns ps∧lo≤n'∧pc<n'∧po<n'∧zC h' pc 0=some (ptr bc 0)∧zC h' po 0=some (str o.cls)∧zC h' po 1=some (str o.fix)
theorem may1_it{pc po L:Nat}{o:OperT}{c:ClassT}{i:Nat}(hcls:wT m o.cls=some c)(hci:m.classes[i]? = some c)(hcp:wO m o.cls=(i:Nat))(hcr:∀r∈c.regs,r∈ns):Iter P 8 plV (tL m ns ps o) 200 [.func (.yield L) #[] #[],ptr pc 0,ptr po 0] L h n (MayE lo bc z m nsv psv ns ps o pc po):=
 fun J JF hE h0 hy=>may1_com hcls hci hcp hcr J JF hE h0 hy
theorem may_ret(k:bc<n)(o:OperT):Ret P 8 182 [ptr bc 0,.agg ⟨oprC o⟩] h n fun v h' n'=>∃pc po,v = .func (.func 200) ⟨[]⟩ ⟨[ptr pc 0,ptr po 0]⟩∧n≤pc∧n≤po∧pc<n'∧po<n'∧zC h' pc 0=some (ptr bc 0)∧zC h' po 0=some (str o.cls)∧zC h' po 1=some (str o.fix)∧Tch [] h n h' n':=by
 refine ent fun u=>?_;repeat' first|refine wk ?_|refine cX (fun _=>?_) fun _=>?_|fail
 exact⟨_,rfl,n,n+1,rfl,by omega,by omega,by omega,by omega,zJ,zJ,zJ,zA⟩
end Go.Proofs.YtmccnilgnlaffaaGreatDoor
namespace Go.Proofs.YtmccnilgnlaffaaGreatDoor
open Go Go.Ex Go.Ex.M
set_option maxRecDepth 100000
set_option maxHeartbeats 8000000
variable {lo bc z n:Nat} {h:zB} {m:MachT} {nsv psv:Value} {ns:List Tx} {ps:List Pl}
abbrev opA(c:ClassT):OperT:=⟨c.name,[]⟩
def pairB(m:MachT)(ns:List Tx)(ps:List Pl)(a b:OperT):Prop:=∃p∈tL m ns ps a,∃q∈tL m ns ps b,lapB p q=false
theorem pair_ret(k:Ck lo h bc z m nsv psv ns ps)(hlo:lo≤n)(hok:∀(i:Nat) c,m.classes[i]? = some c→wO m c.name=(i:Nat)∧∀r∈c.regs,r∈ns){a b:Nat}{ca cb:ClassT}(ha:m.classes[a]? = some ca)(hb:m.classes[b]? = some cb):Com P 8 137 [ptr bc 0,I64 (a:Nat),I64 (b:Nat)] h n fun o h' n'=>∃r,o = .ret (.bool r)∧(r=true↔pairB m ns ps (opA ca) (opA cb))∧Tch [] h n h' n':=by
 have hbc:=k.hb;have hcel:=k.cel;have r:=k.mm.cls 0;have hla:=(List.getElem?_eq_some_iff.1 ha).1;have hbl:=(List.getElem?_eq_some_iff.1 hb).1;have a1:=yE r ha;have b1:=yE r hb;have a2:=rd_at a1 (j:=0) rfl;have b2:=rd_at b1 (j:=0) rfl;have hl1:=r.low (by omega)
 have cf:∀{i:Nat} {c:ClassT},m.classes[i]? = some c→wT m c.name=some c∧wO m c.name=(i:Nat):=fun {i c} hi=>by
  have h1:=(hok i c hi).1;rcases cls_find (m:=m) (x:=c.name) with⟨_,h3⟩|⟨j,c',h2,h3,h4,h5,h6⟩
  · rw[h1]at h3;omega
  · have:j=i:=by rw[h1]at h4;omega
    subst this;rw [hi]at h3;cases h3;exact⟨h2,h4⟩
 have mok:∀{o:OperT} {p:Pl},p∈tL m ns ps o→PlOK p:=fun {o p} hp=>by
  unfold tL at hp
  cases hc:wT m o.cls with
  | none=>rw [hc]at hp;cases hp
  | some c=>
   rw[hc]at hp;obtain⟨x,hx,rfl⟩:=List.mem_map.1 hp;obtain⟨i,hi⟩:=List.mem_iff_getElem?.1 (List.mem_of_find?_eq_some hc);exact k.ok _ (plc_mem ((hok i c hi).2 x (List.mem_filter.1 hx).1) k.hl)
 refine ent fun u=>?_;repeat' first|refine wk ?_|refine cX (fun _=>?_) fun _=>?_|fail
 refine uB (may_ret (by omega) (opA ca)) ?_
 rintro _ h2 n2 ⟨pc,po,rfl,p1,p2,p3,p4,p5,p6,p7,ht2⟩
 have hn2:=ht2.le;obtain⟨ka1,ka2⟩:=cf ha;obtain⟨kb1,kb2⟩:=cf hb;repeat' first|refine wk ?_|refine cX (fun _=>?_) fun _=>?_|fail
 have base:Tch [] h n (hal h2 n2 (.deferred true)) (n2+1):=zA;have g3:zC h2 n 0=some (ptr bc 0):=zJ;have g5:zC h2 (n+1) 0=some (I64 (b:Nat)):=zJ;have g6:Cel h2 (n+2) (4+1) 0 [.bool false]:=zD;clear ht2;refine wc_rg0 (g:=200) (fs:=[]) (cs:=[ptr pc 0,ptr po 0]) (by(apply uX;((conv=>lhs;whnf) <;> exact rfl))) ?_
 refine it_core (enc:=plV) (elems:=tL m ns ps (opA ca)) (ps:=[21]) (fun done h' n'=>Tch [] (hal h2 n2 (.deferred true)) (n2+1) h' n'∧n2+2≤n'∧∀p∈done,∀q∈tL m ns ps (opA cb),lapB p q=true)
  (fun j h' n'=>j = .ret∧Tch [n+2] (hal h2 n2 (.deferred true)) (n2+1) h' n'∧n2+2≤n'∧Cel h' (n+2) (4+1) 0 [.bool true]∧pairB m ns ps (opA ca) (opA cb)) rfl (may1_it (lo:=lo) (bc:=bc) (z:=z) (nsv:=nsv) (psv:=psv) ka1 ha ka2 (hok a ca ha).2) ?_ tI ⟨zA,by omega,fun p hp=>by cases hp⟩ ?_ ?_ ?_
 · rintro done h' n' ⟨ht,hn',_⟩
   exact⟨k.tch (Tch.tch ht base (by simp)) hlo,by omega,by omega,by omega,zJ,zJ,zJ⟩
 · rintro done p h' n' ⟨ht,hn',hno⟩ hL hpre
   have hpm:p∈tL m ns ps (opA ca):=hpre.subset (by simp);have g3':zC h' n 0=some (ptr bc 0):=zJ;have g5':zC h' (n+1) 0=some (I64 (b:Nat)):=zJ;have g6':Cel h' (n+2) (4+1) 0 [.bool false]:=zG;have k':=k.tch (Tch.tch ht base (by simp)) hlo;have hcel':=k'.cel;have r':=k'.mm.cls 0;have b1':=yE r' hb;have b2':=rd_at b1' (j:=0) rfl;repeat' first|refine wk ?_|refine cX (fun _=>?_) fun _=>?_|fail
   refine uB (may_ret (by omega) (opA cb)) ?_
   rintro _ h4 n4 ⟨pc2,po2,rfl,q1,q2,q3,q4,q5,q6,q7,ht4⟩
   have hn4:=ht4.le;repeat' first|refine wk ?_|refine cX (fun _=>?_) fun _=>?_|fail
   have c7:Cel h4 n' (ePl+1) 0 (plC p):=zD;have g6'':Cel h4 (n+2) (4+1) 0 [.bool false]:=zG;have ht5:Tch [] (hal h2 n2 (.deferred true)) (n2+1) h4 n4:=zA;have hbu:=obe_tch ht4 (by omega) (by simp) xN;clear ht4;refine wc_rg1 (g:=200) (fs:=[]) (cs:=[ptr pc2 0,ptr po2 0]) hbu (by(apply uX;((conv=>lhs;whnf) <;> exact rfl))) ?_
   refine it_core (enc:=plV) (elems:=tL m ns ps (opA cb)) (ps:=[34]) (fun done h5 n5=>Tch [] h4 n4 h5 n5∧n4+1≤n5∧∀q∈done,lapB p q=true)
    (fun j h5 n5=>j = .ret∧Tch [n+2] h4 n4 h5 n5∧n4+1≤n5∧Cel h5 (n+2) (4+1) 0 [.bool true]∧∃q∈tL m ns ps (opA cb),lapB p q=false) rfl (may1_it (lo:=lo) (bc:=bc) (z:=z) (nsv:=nsv) (psv:=psv) kb1 hb kb2 (hok b cb hb).2) ?_ tI ⟨zA,by omega,fun p hp=>by cases hp⟩ ?_ ?_ ?_
   · rintro done2 h5 n5 ⟨ht6,hn5,_⟩
     exact⟨k.tch (Tch.tch (Tch.tch ht6 ht5 (by simp)) base (by simp)) hlo,by omega,by omega,by omega,zJ,zJ,zJ⟩
   · rintro done2 q h5 n5 ⟨ht6,hn5,hno2⟩ hL2 hpre2
     have hqm:q∈tL m ns ps (opA cb):=hpre2.subset (by simp);repeat' first|refine wk ?_|refine cX (fun _=>?_) fun _=>?_|refine wM (lap_pur _ _ (mok hpm) (mok hqm) _ _) ?_|fail
     · rename_i f1;exact⟨by omega,.inr ⟨rfl,.ret,xN,rfl,zA,by omega,zD,q,hqm,f1⟩⟩
     · rename_i f1
       exact⟨by omega,.inl ⟨rfl,xN,zA,by omega,fun x hx=>by
        rcases List.mem_append.1 hx with h9|h9
        · exact hno2 x h9
        · simp at h9;subst h9;exact f1⟩⟩
   · rintro h5 n5 ⟨ht6,hn5,hno2⟩
     repeat' first|refine wk ?_|refine cX (fun _=>?_) fun _=>?_|fail
     exact⟨by omega,.inl ⟨rfl,xN,zA,by omega,fun x hx=>by
      rcases List.mem_append.1 hx with h9|h9
      · exact hno x h9
      · simp at h9;subst h9;exact hno2⟩⟩
   · rintro _ h5 n5 ⟨rfl,ht6,hn5,hc2,hp2⟩
     repeat' first|refine wk ?_|refine cX (fun _=>?_) fun _=>?_|fail
     exact⟨by omega,.inr ⟨rfl,.ret,xN,rfl,zA,by omega,zG,p,hpm,hp2⟩⟩
 · rintro h' n' ⟨ht,hn',hno⟩
   repeat' first|refine wk ?_|refine cX (fun _=>?_) fun _=>?_|fail
   exact⟨false,rfl,⟨Bool.noConfusion,fun⟨p,hp,q,hq,e⟩=>by rw[hno p hp q hq]at e;cases e⟩,zA⟩
 · rintro _ h' n' ⟨rfl,ht,hn',hc,hp⟩
   repeat' first|refine wk ?_|refine cX (fun _=>?_) fun _=>?_|fail
   exact⟨true,rfl,⟨fun _=>hp,fun _=>rfl⟩,zA⟩
theorem pair_pur(k:Ck lo h bc z m nsv psv ns ps)(hlo:lo≤n)(hok:∀(i:Nat) c,m.classes[i]? = some c→wO m c.name=(i:Nat)∧∀r∈c.regs,r∈ns){a b:Nat}{ca cb:ClassT}(ha:m.classes[a]? = some ca)(hb:m.classes[b]? = some cb):Pur P 8 137 [ptr bc 0,I64 (a:Nat),I64 (b:Nat)] h n (.bool (pairBB m ns ps (opA ca) (opA cb))):=by
 refine Com.pure ((pair_ret k hlo hok ha hb).mono fun o h' n' ⟨r,e,hr,t⟩=>⟨?_,t⟩) (.inl rfl);rw [e]
 have e2:pairBB m ns ps (opA ca) (opA cb)=true↔pairB m ns ps (opA ca) (opA cb):=by
  unfold pairBB pairB;simp [List.any_eq_true]
 congr 2
 exact Bool.eq_iff_iff.2 (hr.trans e2.symm)
theorem spared_pur(k:Ck lo h bc z m nsv psv ns ps)(hlo:lo≤n){o:OpT}(hm:o∈m.ops)(hc:∀r∈o.clob,r∈ns){p:Pl}(hp:PlOK p):Pur P 8 199 [ptr bc 0,.agg ⟨opC o⟩,plV p] h n (.bool (sparB ns ps o p)):=by
 have hbc:=k.hb;have rI:=k.mm.opsc o hm;have ru1:=(k.mm.opsu o hm 0).one;have rc1:=(rI 0).one;have hl:=rI.lt;have hinf:inf<4611686018427387904:=by decide
 have rc:Row lo h o.csv 0 1 o.clob.length (o.clob.map str):=rI 0;refine Com.pure (ent fun u=>?_) (.inl rfl);repeat' first|refine wk ?_|refine cX (fun _=>?_) fun _=>?_|fail
 refine lpR (fun q:Nat=>[(0,ptr bc 0),(5,ptr (n+1) 0),(10,o.csv),(11,I64 o.clob.length),(12,I64 q)]) (fun q h' n'=>Tch [] h n h' n'∧n+2≤n'∧Cel h' (n+1) (ePl+1) 0 (plC p)∧q≤o.clob.length∧∀(j:Nat) r,j<q→o.clob[j]? = some r→lapB p (xJ ns ps r)=false) (fun q=>o.clob.length - q) 0 ⟨zA,by omega,zD,Nat.zero_le _,fun j _ hj=>absurd hj (Nat.not_lt_zero _)⟩ ?_
 rintro q t h' n' ⟨ht,hn',hc5,hq,hno⟩
 have k':=k.tch ht hlo;have hcel':=k'.cel;have rp':=k'.rp;have rc':=k'.mm.opsc o hm 0;by_cases hlt:q<o.clob.length
 · have c0:o.clob[q]? = some o.clob[q]:=List.getElem?_eq_getElem hlt;generalize o.clob[q]=x at c0
   have c1:=row_e1 rc' c0;have hx:x∈ns:=hc x (List.mem_of_getElem? c0);have okx:PlOK (xJ ns ps x):=k.ok _ (plc_mem hx k.hl);repeat' first|refine wk ?_|refine cX (fun _=>?_) fun _=>?_|refine regP k' hx (fun _ _ _ _ _=>?_)|refine wM (lap_pur _ _ hp okx _ _) ?_|fail
   · rename_i f1;exact finT (by unfold sparB;rw [all_false c0 (by rw[f1];rfl)]) ht
   · rename_i f1
     exact rnd (q+1) ⟨ht,hn',hc5,by omega,fun j y hj e=>by
      rcases Nat.lt_succ_iff_lt_or_eq.1 hj with h9|rfl
      · exact hno j y h9 e
      · rw[c0]at e;cases e;exact f1⟩
 · obtain rfl:q=o.clob.length:=by omega
   repeat' first|refine wk ?_|refine cX (fun _=>?_) fun _=>?_|fail
   exact finT (by unfold sparB;rw [all_true fun i x hi e=>by rw[hno i x hi e];rfl]) ht
end Go.Proofs.YtmccnilgnlaffaaGreatDoor
namespace Go.Proofs.YtmccnilgnlaffaaGreatDoor
open Go Go.Ex Go.Ex.M
set_option maxRecDepth 100000
set_option maxHeartbeats 8000000
variable {lo bc z n:Nat} {h:zB} {m:MachT} {nsv psv:Value} {ns:List Tx} {ps:List Pl}
theorem may_ok(k:Ck lo h bc z m nsv psv ns ps)(hok:∀(i:Nat) c,m.classes[i]? = some c→wO m c.name=(i:Nat)∧∀r∈c.regs,r∈ns){o:OperT}{p:Pl}(hp:p∈tL m ns ps o):PlOK p:=by
 unfold tL at hp
 cases hc:wT m o.cls with
 | none=>rw [hc]at hp;cases hp
 | some c=>
  rw[hc]at hp;obtain⟨x,hx,rfl⟩:=List.mem_map.1 hp;obtain⟨i,hi⟩:=List.mem_iff_getElem?.1 (List.mem_of_find?_eq_some hc);exact k.ok _ (plc_mem ((hok i c hi).2 x (List.mem_filter.1 hx).1) k.hl)
theorem def_pur(k:Ck lo h bc z m nsv psv ns ps)(hlo:lo≤n)(hok:∀(i:Nat) c,m.classes[i]? = some c→wO m c.name=(i:Nat)∧∀r∈c.regs,r∈ns){o:OpT}(hm:o∈m.ops)(hc:∀r∈o.clob,r∈ns){c:ClassT}{i:Nat}(hd1:wT m o.d.cls=some c)(hd2:m.classes[i]? = some c)(hd3:wO m o.d.cls=(i:Nat))
{lo2:Nat}{uv:Value}{uses:List Pl}(ru:Row lo2 h uv ePl 3 uses.length (uses.flatMap plC))(hlo2:lo2≤n)(hut:o.tie<uses.length)(huo:∀p∈uses,PlOK p)(hul:uses.length<1000):Pur P 8 181 [ptr bc 0,.agg ⟨opC o⟩,uv] h n (.bool (defB m ns ps o uses)):=by
 have hbc:=k.hb;have ru1:=(k.mm.opsu o hm 0).one;have rc1:=(k.mm.opsc o hm 0).one;have rul:=ru.low;refine Com.pure (ent fun u=>?_) (.inl rfl);by_cases htie:0≤o.tie
 · have htl:o.tie.toNat<uses.length:=by omega
   have d0:uses[o.tie.toNat]? = some uses[o.tie.toNat]:=List.getElem?_eq_getElem htl;have e0:defB m ns ps o uses=sparB ns ps o uses[o.tie.toNat]:=by unfold defB;rw [if_pos htie,List.getD_eq_getElem?_getD,d0];rfl
   generalize uses[o.tie.toNat]=x at d0 e0
   have okx:PlOK x:=huo x (List.mem_of_getElem? d0);have d1:=yE ru d0;have hl2:=ru.low (by omega);have y0:zC h (sbk uv) (sof uv+o.tie.toNat*3)=some (I64 x.root):=rd_at d1 (j:=0) rfl;have y1:zC h (sbk uv) (sof uv+o.tie.toNat*3+1)=some (I64 x.at_):=rd_at d1 (j:=1) rfl;have y2:zC h (sbk uv) (sof uv+o.tie.toNat*3+1+1)=some (I64 x.width):=rd_at d1 (j:=2) rfl;repeat' first|refine wk ?_|refine cX (fun _=>?_) fun _=>?_|refine wM (spared_pur (Ck.tch k zA hlo) (by omega) hm hc okx) ?_|fail
   exact finT (by rw[e0]) zA
 · have e0:defB m ns ps o uses=(tL m ns ps o.d).any (sparB ns ps o):=by unfold defB;rw [if_neg htie]
   repeat' first|refine wk ?_|refine cX (fun _=>?_) fun _=>?_|fail
   refine uB (may_ret (by omega) o.d) ?_
   rintro _ h2 n2 ⟨pc,po,rfl,p1,p2,p3,p4,p5,p6,p7,ht2⟩
   have hn2:=ht2.le;have g3:zC h2 n 0=some (ptr bc 0):=zJ;have g4:Cel h2 (n+1) (50+1) 0 (opC o):=zD;have g6:Cel h2 (n+2) (4+1) 0 [.bool false]:=zD;have base:Tch [] h n (hal h2 n2 (.deferred true)) (n2+1):=zA;clear ht2;repeat' first|refine wk ?_|refine cX (fun _=>?_) fun _=>?_|fail
   refine wc_rg0 (g:=200) (fs:=[]) (cs:=[ptr pc 0,ptr po 0]) (by(apply uX;((conv=>lhs;whnf) <;> exact rfl))) ?_
   refine it_core (enc:=plV) (elems:=tL m ns ps o.d) (ps:=[23]) (fun done h' n'=>Tch [] (hal h2 n2 (.deferred true)) (n2+1) h' n'∧n2+2≤n'∧∀p∈done,sparB ns ps o p=false)
    (fun j h' n'=>j = .ret∧Tch [n+2] (hal h2 n2 (.deferred true)) (n2+1) h' n'∧n2+2≤n'∧Cel h' (n+2) (4+1) 0 [.bool true]∧∃p∈tL m ns ps o.d,sparB ns ps o p=true) rfl (may1_it (lo:=lo) (bc:=bc) (z:=z) (nsv:=nsv) (psv:=psv) hd1 hd2 hd3 (hok i c hd2).2) ?_ tI ⟨zA,by omega,fun p hp=>by cases hp⟩ ?_ ?_ ?_
   · rintro done h' n' ⟨ht,hn',_⟩
     exact⟨k.tch (Tch.tch ht base (by simp)) hlo,by omega,by omega,by omega,zJ,zJ,zJ⟩
   · rintro done p h' n' ⟨ht,hn',hno⟩ hL hpre
     have hpm:p∈tL m ns ps o.d:=hpre.subset (by simp);have k':=k.tch (Tch.tch ht base (by simp)) hlo;have g3':zC h' n 0=some (ptr bc 0):=zJ;have g4':Cel h' (n+1) (50+1) 0 (opC o):=zG;have g6':Cel h' (n+2) (4+1) 0 [.bool false]:=zG;repeat' first|refine wk ?_|refine cX (fun _=>?_) fun _=>?_|refine wM (spared_pur (Ck.tch k' zA (by omega)) (by omega) hm hc (may_ok k hok hpm)) ?_|fail
     · rename_i f1;exact⟨by omega,.inr ⟨rfl,.ret,xN,rfl,zA,by omega,zD,p,hpm,f1⟩⟩
     · rename_i f1
       exact⟨by omega,.inl ⟨rfl,xN,zA,by omega,fun x hx=>by
        rcases List.mem_append.1 hx with h9|h9
        · exact hno x h9
        · simp at h9;subst h9;exact f1⟩⟩
   · rintro h' n' ⟨ht,hn',hno⟩
     repeat' first|refine wk ?_|refine cX (fun _=>?_) fun _=>?_|fail
     exact finT (by rw[e0];congr 1;cases e:(tL m ns ps o.d).any (sparB ns ps o) with
      | false=>rfl
      | true=>
       obtain⟨p,hp,e2⟩:=List.any_eq_true.1 e;rw [hno p hp]at e2;cases e2) zA
   · rintro _ h' n' ⟨rfl,ht,hn',hc,p,hp,e2⟩
     repeat' first|refine wk ?_|refine cX (fun _=>?_) fun _=>?_|fail
     exact finT (by rw[e0,List.any_eq_true.2 ⟨p,hp,e2⟩]) zA
end Go.Proofs.YtmccnilgnlaffaaGreatDoor
namespace Go.Proofs.YtmccnilgnlaffaaGreatDoor
open Go Go.Ex Go.Ex.M
set_option maxRecDepth 100000
set_option maxHeartbeats 8000000
variable {lo bc z n:Nat} {h:zB} {m:MachT} {nsv psv:Value} {ns:List Tx} {ps:List Pl}
def ClsOK(m:MachT)(ns:List Tx)(x:Tx):Prop:=∃c i,wT m x=some c∧m.classes[i]? = some c∧wO m x=(i:Nat)∧∀r∈c.regs,r∈ns
abbrev plR(l:List Pl)(v:Value)(h:zB)(n:Nat):Prop:=Row n h v ePl 3 l.length (l.flatMap plC)
def ChsE(lo bc z:Nat)(m:MachT)(nsv psv:Value)(ns:List Tx)(ps:List Pl)(o:OpT)(pc po:Nat)(h':zB)(n':Nat):Prop:=Ck lo h' bc z m nsv psv ns ps∧lo≤n'∧pc<n'∧po<n'∧zC h' pc 0=some (ptr bc 0)∧Cel h' po (50+1) 0 (opC o)
theorem chs_ret(hbc:bc<n){o:OpT}(ho:o.usv.oneCell'=true∧o.csv.oneCell'=true):Ret P 8 180 [ptr bc 0,.agg ⟨opC o⟩] h n fun v h' n'=>∃pc po,v = .func (.func 198) ⟨[]⟩ ⟨[ptr pc 0,ptr po 0]⟩∧n≤pc∧n≤po∧pc<n'∧po<n'∧zC h' pc 0=some (ptr bc 0)∧Cel h' po (50+1) 0 (opC o)∧Tch [] h n h' n':=by
 obtain⟨ho1,ho2⟩:=ho;refine ent fun u=>?_;repeat' first|refine wk ?_|refine cX (fun _=>?_) fun _=>?_|fail
 exact⟨_,rfl,n,n+1,rfl,by omega,by omega,by omega,by omega,zJ,zD,zA⟩
theorem one_it{pc po L:Nat}{o:OpT}{us:OperT}(hm:o∈m.ops)(hu:o.uses=[us])(hc:ClsOK m ns us.cls):IterM P 8 plR (chL m ns ps o) 198 [.func (.yield L) #[] #[],ptr pc 0,ptr po 0] L n h n (ChsE lo bc z m nsv psv ns ps o pc po):=by
 intro J JF hE hcl hclF h0 hy;obtain⟨c,i,c1,c2,c3,c4⟩:=hc;have eL:chL m ns ps o=(tL m ns ps us).map fun p=>[p]:=by unfold chL;rw [hu]
 obtain⟨k,hlo,hpc,hpo,d1,d2⟩:=hE _ _ _ h0;have ru:Row lo h o.usv 0 2 1 ([us].flatMap oprC):=by have:=k.mm.opsu o hm 0;rw [hu]at this;exact this
 have ru0:=yE ru (k:=0) (x:=us) rfl;have y0:zC h (sbk o.usv) (sof o.usv+0*2)=some (str us.cls):=rd_at ru0 (j:=0) rfl;have y1:zC h (sbk o.usv) (sof o.usv+0*2+1)=some (str us.fix):=rd_at ru0 (j:=1) rfl;have hul:=ru.low (by decide);have hbc:=k.hb;refine ent fun u=>?_;repeat' first|refine wk ?_|refine cX (fun _=>?_) fun _=>?_|fail
 refine uB (may_ret (by omega) us) ?_
 rintro _ h2 n2 ⟨pc',po',rfl,p1,p2,p3,p4,p5,p6,p7,ht2⟩
 have hn2:=ht2.le;repeat' first|refine wk ?_|refine cX (fun _=>?_) fun _=>?_|fail
 have base:Tch [] h n (hal h2 n2 (.deferred true)) (n2+1):=zA;have g0:zC h2 n 0=some (.func (.yield L) #[] #[]):=zJ;clear ht2;refine wc_rg0 (g:=200) (fs:=[]) (cs:=[ptr pc' 0,ptr po' 0]) (by(apply uX;((conv=>lhs;whnf) <;> exact rfl))) ?_
 refine it_core (enc:=plV) (elems:=tL m ns ps us) (ps:=[12]) (fun done h' n'=>J (done.map fun p=>[p]) h' n'∧Tch (List.range n) (hal h2 n2 (.deferred true)) (n2+1) h' n'∧n2+2≤n')
  (fun j h' n'=>j = .ret∧JF h' n'∧Tch (List.range n) (hal h2 n2 (.deferred true)) (n2+1) h' n'∧n2+2≤n') rfl (may1_it (lo:=lo) (bc:=bc) (z:=z) (nsv:=nsv) (psv:=psv) c1 c2 c3 c4) ?_ tI ⟨hcl _ _ _ _ _ h0 (Tch.lowR (S:=[]) zA (Nat.le_refl _) (by simp)),zA,by omega⟩ ?_ ?_ ?_
 · rintro done h' n' ⟨hj,ht,hn'⟩
   obtain⟨k,hlo,hpc,hpo,d1,d2⟩:=hE _ _ _ hj;exact⟨k,hlo,by omega,by omega,zJ,zJ,zJ⟩
 · rintro done p h' n' ⟨hj,ht,hn'⟩ hL hpre
   obtain⟨k,hlo,hpc,hpo,d1,d2⟩:=hE _ _ _ hj;have ru:Row lo h' o.usv 0 2 1 ([us].flatMap oprC):=by have:=k.mm.opsu o hm 0;rw [hu]at this;exact this
   have g0':zC h' n 0=some (.func (.yield L) #[] #[]):=zJ;repeat' first|refine wk ?_|refine cX (fun _=>?_) fun _=>?_|fail
   refine inv_yield (fs:=[]) (cs:=[]) (Rou.mono (hy (done.map fun p=>[p]) [p] _ _ _ ?_ ?_ ?_) ?_)
   · exact hcl _ _ _ _ _ hj (Tch.lowR (S:=[n2+1]) zA (by omega) (by simp;omega))
   · exact zR (e:=ePl) (sz:=3) (len:=1) rfl (by decide)
   · rw[eL];show done.map (fun p=>[p])++[p].map (fun p=>[p]) <+: _;rw [← List.map_append];exact hpre.map _
   rintro _ h3 n3 ⟨hn3,⟨rfl,hj3,ht3⟩|⟨rfl,hf,ht3⟩⟩
   · repeat' first|refine wk ?_|refine cX (fun _=>?_) fun _=>?_|fail
     have hj4:=fun(ob:AObj)=>hcl _ _ _ (hal h3 (n2+1) ob) n3 hj3 (Tch.lowR (S:=[n2+1]) (Tch.refl _ _ _ |>.upd (.inr (by simp))) (by omega) (by simp;omega));have ht4:Tch (List.range n) (hal h2 n2 (.deferred true)) (n2+1) h3 n3:=Tch.tch ht3 zA fun x hx=>.inr hx;exact⟨by omega,.inl ⟨rfl,xN,by rw[List.map_append];exact hj4 _,zA,by omega⟩⟩
   · repeat' first|refine wk ?_|refine cX (fun _=>?_) fun _=>?_|fail
     have hf2:=fun(ob:AObj)=>hclF _ _ (hal h3 (n2+1) ob) n3 hf (Tch.lowR (S:=[n2+1]) (Tch.refl _ _ _ |>.upd (.inr (by simp))) (by omega) (by simp;omega));have ht4:Tch (List.range n) (hal h2 n2 (.deferred true)) (n2+1) h3 n3:=Tch.tch ht3 zA fun x hx=>.inr hx;exact⟨by omega,.inr ⟨rfl,.ret,xN,rfl,hf2 _,zA,by omega⟩⟩
 · rintro h' n' ⟨hj,ht,hn'⟩
   repeat' first|refine wk ?_|refine cX (fun _=>?_) fun _=>?_|fail
   exact⟨by omega,rfl,.inl (by rw[eL];exact hcl _ _ _ _ _ hj (Tch.lowR (S:=[n2,n2+1]) zA (by omega) (by simp;omega)))⟩
 · rintro _ h' n' ⟨rfl,hf,ht,hn'⟩
   repeat' first|refine wk ?_|refine cX (fun _=>?_) fun _=>?_|fail
   exact⟨by omega,rfl,.inr (hclF _ _ _ _ hf (Tch.lowR (S:=[n2,n2+1]) zA (by omega) (by simp;omega)))⟩
theorem fl_pre{α β : Type}{f: α→List β}{a b:List α}(h:a <+: b):a.flatMap f <+: b.flatMap f:=by
 obtain⟨t,rfl⟩:=h;rw [List.flatMap_append];exact List.prefix_append _ _
def prs(p:Pl)(l:List Pl):List (List Pl):=(l.filter fun q=> !lapB p q).map fun q=>[p,q]
theorem prs_pre{p:Pl}{a b:List Pl}(h:a <+: b):prs p a <+: prs p b:=(h.filter _).map _
theorem prs_hit{p q:Pl}{a:List Pl}(h:lapB p q=false):prs p (a++[q])=prs p a++[[p,q]]:=by unfold prs;rw [List.filter_append];simp [h]
theorem prs_no{p q:Pl}{a:List Pl}(h:lapB p q=true):prs p (a++[q])=prs p a:=by unfold prs;rw [List.filter_append];simp [h]
theorem two_it(hok:∀(i:Nat) c,m.classes[i]? = some c→wO m c.name=(i:Nat)∧∀r∈c.regs,r∈ns){pc po L:Nat}{o:OpT}{us vs:OperT}(hm:o∈m.ops)(hu:o.uses=[us,vs])(hc:ClsOK m ns us.cls)(hd:ClsOK m ns vs.cls):IterM P 8 plR (chL m ns ps o) 198 [.func (.yield L) #[] #[],ptr pc 0,ptr po 0] L n h n (ChsE lo bc z m nsv psv ns ps o pc po):=by
 intro J JF hE hcl hclF h0 hy;obtain⟨c,i,c1,c2,c3,c4⟩:=hc;obtain⟨d,j,e1,e2,e3,e4⟩:=hd;have eL:chL m ns ps o=(tL m ns ps us).flatMap fun p=>prs p (tL m ns ps vs):=by unfold chL;rw [hu];rfl
 obtain⟨k,hlo,hpc,hpo,d1,d2⟩:=hE _ _ _ h0;have ru:Row lo h o.usv 0 2 2 ([us,vs].flatMap oprC):=by have:=k.mm.opsu o hm 0;rw [hu]at this;exact this
 have ru0:=yE ru (k:=0) (x:=us) rfl;have y0:zC h (sbk o.usv) (sof o.usv+0*2)=some (str us.cls):=rd_at ru0 (j:=0) rfl;have y1:zC h (sbk o.usv) (sof o.usv+0*2+1)=some (str us.fix):=rd_at ru0 (j:=1) rfl;have hul:=ru.low (by decide);have hbc:=k.hb;have k0:=k;refine ent fun u=>?_;repeat' first|refine wk ?_|refine cX (fun _=>?_) fun _=>?_|fail
 refine uB (may_ret (by omega) us) ?_
 rintro _ h2 n2 ⟨pc',po',rfl,p1,p2,p3,p4,p5,p6,p7,ht2⟩
 have hn2:=ht2.le;repeat' first|refine wk ?_|refine cX (fun _=>?_) fun _=>?_|fail
 have g0:zC h2 n 0=some (.func (.yield L) #[] #[]):=zJ;have base:Tch [] h n (hal h2 n2 (.deferred true)) (n2+1):=zA;clear ht2;refine wc_rg0 (g:=200) (fs:=[]) (cs:=[ptr pc' 0,ptr po' 0]) (by(apply uX;((conv=>lhs;whnf) <;> exact rfl))) ?_
 refine it_core (enc:=plV) (elems:=tL m ns ps us) (ps:=[12]) (fun done h' n'=>J (done.flatMap fun p=>prs p (tL m ns ps vs)) h' n'∧Tch (List.range n) (hal h2 n2 (.deferred true)) (n2+1) h' n'∧n2+2≤n')
  (fun j h' n'=>j = .ret∧JF h' n'∧Tch (List.range n) (hal h2 n2 (.deferred true)) (n2+1) h' n'∧n2+2≤n') rfl (may1_it (lo:=lo) (bc:=bc) (z:=z) (nsv:=nsv) (psv:=psv) c1 c2 c3 c4) ?_ tI ⟨hcl _ _ _ _ _ h0 (Tch.lowR (S:=[]) zA (Nat.le_refl _) (by simp)),zA,by omega⟩ ?_ ?_ ?_
 · rintro done h' n' ⟨hj,ht,hn'⟩
   obtain⟨k,hlo,hpc,hpo,d1,d2⟩:=hE _ _ _ hj;exact⟨k,hlo,by omega,by omega,zJ,zJ,zJ⟩
 · rintro done p h' n' ⟨hj,ht,hn'⟩ hL hpre
   have hpm:p∈tL m ns ps us:=hpre.subset (by simp);obtain⟨k,hlo,hpc,hpo,d1,d2⟩:=hE _ _ _ hj;have ru:Row lo h' o.usv 0 2 2 ([us,vs].flatMap oprC):=by have:=k.mm.opsu o hm 0;rw [hu]at this;exact this
   have ru0:=yE ru (k:=1) (x:=vs) rfl;have y0:zC h' (sbk o.usv) (sof o.usv+1*2)=some (str vs.cls):=rd_at ru0 (j:=0) rfl;have y1:zC h' (sbk o.usv) (sof o.usv+1*2+1)=some (str vs.fix):=rd_at ru0 (j:=1) rfl;have hul:=ru.low (by decide);have g0':zC h' n 0=some (.func (.yield L) #[] #[]):=zJ;repeat' first|refine wk ?_|refine cX (fun _=>?_) fun _=>?_|fail
   refine uB (may_ret (by omega) vs) ?_
   rintro _ h4 n4 ⟨pc2,po2,rfl,q1,q2,q3,q4,q5,q6,q7,ht4⟩
   have hn4:=ht4.le;repeat' first|refine wk ?_|refine cX (fun _=>?_) fun _=>?_|fail
   have c7:Cel h4 n' (ePl+1) 0 (plC p):=zD;have g04:zC h4 n 0=some (.func (.yield L) #[] #[]):=zJ;have hj4:J (done.flatMap fun p=>prs p (tL m ns ps vs)) h4 n4:=hcl _ _ _ _ _ hj (Tch.lowR (S:=[n2+1]) zA (by omega) (by simp;omega));have hbu:=obe_tch ht4 (by omega) (by simp) xN;have ht5:Tch (List.range n) (hal h2 n2 (.deferred true)) (n2+1) h4 n4:=Tch.tch ht4 zA (by simp);clear ht4;refine wc_rg1 (g:=200) (fs:=[]) (cs:=[ptr pc2 0,ptr po2 0]) hbu (by(apply uX;((conv=>lhs;whnf) <;> exact rfl))) ?_
   refine it_core (enc:=plV) (elems:=tL m ns ps vs) (ps:=[28]) (fun done2 h5 n5=>J ((done.flatMap fun p=>prs p (tL m ns ps vs))++prs p done2) h5 n5∧Tch (List.range n) h4 n4 h5 n5∧n4+1≤n5)
    (fun j h5 n5=>j = .ret∧JF h5 n5∧Tch (List.range n) h4 n4 h5 n5∧n4+1≤n5) rfl (may1_it (lo:=lo) (bc:=bc) (z:=z) (nsv:=nsv) (psv:=psv) e1 e2 e3 e4) ?_ tI ⟨by rw[show prs p []=[] from rfl,List.append_nil];exact hcl _ _ _ _ _ hj4 (Tch.lowR (S:=[]) zA (by omega) (by simp)),zA,by omega⟩ ?_ ?_ ?_
   · rintro done2 h5 n5 ⟨hj5,ht6,hn5⟩
     obtain⟨k,hlo,hpc,hpo,d1,d2⟩:=hE _ _ _ hj5;exact⟨k,hlo,by omega,by omega,zJ,zJ,zJ⟩
   · rintro done2 q h5 n5 ⟨hj5,ht6,hn5⟩ hL2 hpre2
     have hqm:q∈tL m ns ps vs:=hpre2.subset (by simp);have g05:zC h5 n 0=some (.func (.yield L) #[] #[]):=zJ;have c8:Cel h5 n' (ePl+1) 0 (plC p):=zG;repeat' first|refine wk ?_|refine cX (fun _=>?_) fun _=>?_|refine wM (lap_pur _ _ (may_ok k0 hok hpm) (may_ok k0 hok hqm) _ _) ?_|fail
     · rename_i f1;refine inv_yield (fs:=[]) (cs:=[]) (Rou.mono (hy ((done.flatMap fun p=>prs p (tL m ns ps vs))++prs p done2) [p,q] _ _ _ ?_ ?_ ?_) ?_)
       · exact hcl _ _ _ _ _ hj5 (Tch.lowR (S:=[n4]) zA (by omega) (by simp;omega))
       · exact zR (e:=ePl) (sz:=3) (len:=2) rfl (by decide)
       · rw[List.append_assoc,← prs_hit f1,eL];refine List.IsPrefix.trans ?_ (fl_pre hpre);rw [List.flatMap_append];exact(List.prefix_append_right_inj _).2 (by simpa using prs_pre hpre2)
       rintro _ h6 n6 ⟨hn6,⟨rfl,hj6,ht7⟩|⟨rfl,hf,ht7⟩⟩
       · repeat' first|refine wk ?_|refine cX (fun _=>?_) fun _=>?_|fail
         have hj7:=fun(ob:AObj)=>hcl _ _ _ (hal h6 n4 ob) n6 hj6 (Tch.lowR (S:=[n4]) (Tch.refl _ _ _ |>.upd (.inr (by simp))) (by omega) (by simp;omega));have ht8:Tch (List.range n) h4 n4 h6 n6:=Tch.tch ht7 zA fun x hx=>.inr hx;exact⟨by omega,.inl ⟨rfl,xN,by rw[prs_hit f1,← List.append_assoc];exact hj7 _,zA,by omega⟩⟩
       · repeat' first|refine wk ?_|refine cX (fun _=>?_) fun _=>?_|fail
         have hf2:=fun(ob:AObj)=>hclF _ _ (hal h6 n4 ob) n6 hf (Tch.lowR (S:=[n4]) (Tch.refl _ _ _ |>.upd (.inr (by simp))) (by omega) (by simp;omega));have ht8:Tch (List.range n) h4 n4 h6 n6:=Tch.tch ht7 zA fun x hx=>.inr hx;exact⟨by omega,.inr ⟨rfl,.ret,xN,rfl,hf2 _,zA,by omega⟩⟩
     · rename_i f1;exact⟨by omega,.inl ⟨rfl,xN,by rw[prs_no f1];exact hcl _ _ _ _ _ hj5 (Tch.lowR (S:=[n4]) zA (by omega) (by simp;omega)),zA,by omega⟩⟩
   · rintro h5 n5 ⟨hj5,ht6,hn5⟩
     repeat' first|refine wk ?_|refine cX (fun _=>?_) fun _=>?_|fail
     have hj7:=fun(ob1 ob2:AObj)=>hcl _ _ _ (hal (hal h5 n4 ob1) (n2+1) ob2) n5 hj5 (Tch.lowR (S:=[n2+1,n4]) (Tch.refl _ _ _ |>.upd (L:=n4) (.inr (by simp)) |>.upd (L:=n2+1) (.inr (by simp))) (by omega) (by simp;omega));have ht8:Tch (List.range n) (hal h2 n2 (.deferred true)) (n2+1) h5 n5:=Tch.tch ht6 ht5 fun x hx=>.inr hx;exact⟨by omega,.inl ⟨rfl,xN,by rw[List.flatMap_append];simpa using hj7 _ _,zA,by omega⟩⟩
   · rintro _ h5 n5 ⟨rfl,hf,ht6,hn5⟩
     repeat' first|refine wk ?_|refine cX (fun _=>?_) fun _=>?_|fail
     have ht8:Tch (List.range n) (hal h2 n2 (.deferred true)) (n2+1) h5 n5:=Tch.tch ht6 ht5 fun x hx=>.inr hx;exact⟨by omega,.inr ⟨rfl,.ret,xN,rfl,hclF _ _ _ _ hf (Tch.lowR (S:=[n2+1,n4]) zA (by omega) (by simp;omega)),zA,by omega⟩⟩
 · rintro h' n' ⟨hj,ht,hn'⟩
   repeat' first|refine wk ?_|refine cX (fun _=>?_) fun _=>?_|fail
   exact⟨by omega,rfl,.inl (by rw[eL];exact hcl _ _ _ _ _ hj (Tch.lowR (S:=[n2,n2+1]) zA (by omega) (by simp;omega)))⟩
 · rintro _ h' n' ⟨rfl,hf,ht,hn'⟩
   repeat' first|refine wk ?_|refine cX (fun _=>?_) fun _=>?_|fail
   exact⟨by omega,rfl,.inr (hclF _ _ _ _ hf (Tch.lowR (S:=[n2,n2+1]) zA (by omega) (by simp;omega)))⟩
end Go.Proofs.YtmccnilgnlaffaaGreatDoor
namespace Go.Proofs.YtmccnilgnlaffaaGreatDoor
open Go Go.Ex Go.Ex.M
set_option maxRecDepth 100000
set_option maxHeartbeats 8000000
abbrev stopG(e:Int):zH:=[⟨.iface 153 (.agg ⟨[I64 e]⟩),false,false⟩]
theorem gneed_com(z:Bool)(e:Int)(h:zB)(n:Nat):Com P 8 141 [.bool z,I64 e] h n fun o h' n'=>o=(if z then .ret (.tuple #[]) else .panic (stopG e))∧h'=h∧n'=n:=by
 refine ent fun u=>?_;cases z
 · repeat' first|refine wk ?_|refine cX (fun _=>?_) fun _=>?_|fail
   exact⟨rfl,rfl,rfl⟩
 · repeat' first|refine wk ?_|refine cX (fun _=>?_) fun _=>?_|fail
   exact⟨rfl,rfl,rfl⟩
instance {z:Bool} {e:Int} {h:zB} {n:Nat} {K:Out→zB→Nat→Prop}:Stp (CallB P 8 141 [.bool z,I64 e] h n K) (Ch z (K (.ret (.tuple #[])) h n) (K (.panic (stopG e)) h n)):=⟨fun⟨k1,k2⟩=>cal (gneed_com z e h n) fun o h' n' ⟨e1,e2,e3⟩=>by
 subst e1 e2 e3;cases z
 · exact k2 rfl
 · exact k1 rfl⟩
theorem places1_none{b1 b2 b3:Nat}{h:zB}{n:Nat}:Def P 8 83 [ptr b1 0,ptr b2 0,ptr b3 0] none h n fun u' h' n'=>u'=none∧Tch [] h n h' n':=by
 refine entD ?_;repeat' first|refine wk ?_|refine cX (fun _=>?_) fun _=>?_|fail
 exact⟨_,rfl,rfl,zA⟩
theorem places1_some{b1 b2 b3 z1 z2 z3:Nat}{h:zB}{n:Nat}{v1 v2:Value}{e0 e:Int}(h1:b1<n)(h2:b2<n)(h3:b3<n)(h12:b1≠b2)(h13:b1≠b3)(h23:b2≠b3)(c1:Cel h b1 z1 0 [v1])(c2:Cel h b2 z2 0 [v2])(c3:Cel h b3 z3 0 [I64 e0]):Def P 8 83 [ptr b1 0,ptr b2 0,ptr b3 0] (some (stopG e)) h n fun u' h' n'=>u'=some [⟨.iface 153 (.agg ⟨[I64 e]⟩),true,false⟩]∧Tch [b1,b2,b3] h n h' n'∧Cel h' b1 z1 0 [.slice none 0 0]∧Cel h' b2 z2 0 [.slice none 0 0]∧Cel h' b3 z3 0 [I64 e]:=by
 refine entD ?_;repeat' first|refine wk ?_|refine cX (fun _=>?_) fun _=>?_|fail
 exact⟨_,rfl,rfl,zA,zD,zD,zD⟩
end Go.Proofs.YtmccnilgnlaffaaGreatDoor
namespace Go.Proofs.YtmccnilgnlaffaaGreatDoor
open Go Go.Ex Go.Ex.M
set_option maxRecDepth 100000
set_option maxHeartbeats 8000000
theorem all_ret{h:zB}{n:Nat}{sv:Value}(ho:sv.oneCell'=true):Ret P 8 84 [sv] h n fun v h' n'=>∃pl,v = .func (.func 139) ⟨[]⟩ ⟨[ptr pl 0]⟩∧n≤pl∧pl<n'∧zC h' pl 0=some sv∧Tch [] h n h' n':=by
 refine ent fun u=>?_;repeat' first|refine wk ?_|refine cX (fun _=>?_) fun _=>?_|fail
 exact⟨_,rfl,n,rfl,by omega,by omega,zJ,zA⟩
end Go.Proofs.YtmccnilgnlaffaaGreatDoor
namespace Go.Proofs.YtmccnilgnlaffaaGreatDoor
open Go Go.Ex Go.Ex.M
set_option maxRecDepth 100000
set_option maxHeartbeats 8000000
theorem cel_same{h h':zB}{b z kd:Nat}{vs:List Value}(c:Cel h b z kd vs)(e:zF h' b=zF h b):Cel h' b z kd vs:=by
 unfold Cel zC;rw [e];exact c
theorem down_com{lo L:Nat}{elems:List (RegT×Int)}{J:List (RegT×Int)→zB→Nat→Prop}{JF:zB→Nat→Prop}{JP:zH→zB→Nat→Prop}
(hE:∀done h' n',J done h' n'→lo≤n')(hcl:∀done h' n' h2 n2,J done h' n'→Tch [] h' n' h2 n2→J done h2 n2)
(hkeep:∀done h' n' sv l,J done h' n'→∀h0 n0,J [] h0 n0→RegsM lo h0 sv l→RegsM lo h' sv l)
(hy:∀done e h' n',J done h' n'→(done++[e]) <+: elems→Rou P 8 L [.agg ⟨deepC e⟩] h' n' fun r h2 n2=>n'≤n2∧((r = .ret (.bool true)∧J (done++[e]) h2 n2∧∀b,b<n'→xI (zF h' b)=some (4,52+1,0)→zF h2 b=zF h' b)∨(r = .ret (.bool false)∧JF h2 n2)∨∃c,r = .panic c∧JP c h2 n2))
{h0:zB}{n0:Nat}(hj0:J [] h0 n0):∀(k:Nat) (d:Int) (l:List RegT) (sv:Value) (done:List (RegT×Int)) (h:zB) (n:Nat),d+k=8→0<d→RegsM lo h0 sv l→J done h n→(done++preL k d l) <+: elems→
 Com P 8 140 [sv,I64 d,.func (.yield L) #[] #[]] h n fun o h' n'=>n≤n'∧((o = .ret (.bool true)∧J (done++preL k d l) h' n')∨(o = .ret (.bool false)∧JF h' n')∨∃c,o = .panic c∧JP c h' n'):=by
 intro k
 induction k with
 | zero=>
  intro d l sv done h n hd h0d hr hj hp;refine ent fun u=>?_;repeat' first|refine wk ?_|refine cX (fun _=>?_) fun _=>?_|fail
  exact⟨Nat.le_refl _,.inl ⟨rfl,by unfold preL;rw [List.append_nil];exact hj⟩⟩
 | succ k ih=>
  intro d l sv done h n hd h0d hr hj hp;have hlo:=hE _ _ _ hj;have hrm:=hkeep _ _ _ _ _ hj _ _ hj0 hr;have r:=hrm.row 0;have hl:=hrm.row.lt;have hinf:inf<4611686018427387904:=by decide
  refine ent fun u=>?_;repeat' first|refine wk ?_|refine cX (fun _=>?_) fun _=>?_|fail
  refine lpR (fun i:Nat=>[(1,I64 d),(2,.func (.yield L) #[] #[]),(11,sv),(12,I64 l.length),(13,I64 i)]) (fun i h' n'=>n≤n'∧i≤l.length∧J (done++preL (k+1) d (l.take i)) h' n') (fun i=>l.length - i) 0 ⟨Nat.le_refl _,Nat.zero_le _,by unfold preL;simpa using hj⟩ ?_
  rintro i t h' n' ⟨hn',hi,hj'⟩
  have hlo':=hE _ _ _ hj';have hrm':=hkeep _ _ _ _ _ hj' _ _ hj0 hr;have r':=hrm'.row 0;have hl1:=r'.low;by_cases hlt:i<l.length
  · have c0:l[i]? = some l[i]:=List.getElem?_eq_getElem hlt;generalize l[i]=x at c0
    have c1:=yE r' c0;have hxm:=List.mem_of_getElem? c0;have hone:=((hrm'.sub hxm).row 0).one
    have hpre:(done++preL (k+1) d (l.take i))++((x,d)::preL k (d+1) x.subs) <+: elems:=by
     rw[List.append_assoc,← pre_snoc c0];exact List.IsPrefix.trans ((List.prefix_append_right_inj done).2 pre_take) hp
    have hpre1:(done++preL (k+1) d (l.take i))++[(x,d)] <+: elems:=List.IsPrefix.trans ((List.prefix_append_right_inj _).2 ⟨preL k (d+1) x.subs,rfl⟩) hpre;repeat' first|refine wk ?_|refine cX (fun _=>?_) fun _=>?_|fail
    have hc8:Cel (hst (hal h' n' (mkC [str [],I64 0,I64 0,.slice none 0 0] (52+1) 0)) n' 0 [str x.name,I64 x.w,I64 x.a,x.sv]) n' (52+1) 0 (regC x):=zD;refine inv_yield (fs:=[]) (cs:=[]) ((hy _ (x,d) _ _ (hcl _ _ _ _ _ hj' zA) hpre1).mono ?_)
    rintro _ h2 n2 ⟨hn2,⟨rfl,hj2,hsame⟩|⟨rfl,hf⟩|⟨c,rfl,hpn⟩⟩
    · have hc9:=cel_same hc8 (hsame n' (by omega) hc8.1);repeat' first|refine wk ?_|refine cX (fun _=>?_) fun _=>?_|fail
      refine cal (ih (d+1) x.subs x.sv _ h2 n2 (by omega) (by omega) (hr.sub hxm) hj2 (by rw[List.append_assoc];exact hpre)) ?_
      rintro _ h3 n3 ⟨hn3,⟨rfl,hj3⟩|⟨rfl,hf⟩|⟨c,rfl,hpn⟩⟩
      · repeat' first|refine wk ?_|refine cX (fun _=>?_) fun _=>?_|fail
        exact rnd (i+1) ⟨by omega,by omega,by rw[pre_snoc c0,← List.append_assoc];rw [List.append_assoc]at hj3;exact hj3⟩
      · repeat' first|refine wk ?_|refine cX (fun _=>?_) fun _=>?_|fail
        exact⟨by omega,.inr (.inl ⟨rfl,hf⟩)⟩
      · repeat' first|refine wk ?_|refine cX (fun _=>?_) fun _=>?_|fail
        exact⟨by omega,.inr (.inr ⟨c,rfl,hpn⟩)⟩
    · repeat' first|refine wk ?_|refine cX (fun _=>?_) fun _=>?_|fail
      exact⟨by omega,.inr (.inl ⟨rfl,hf⟩)⟩
    · repeat' first|refine wk ?_|refine cX (fun _=>?_) fun _=>?_|fail
      exact⟨by omega,.inr (.inr ⟨c,rfl,hpn⟩)⟩
  · obtain rfl:i=l.length:=by omega
    repeat' first|refine wk ?_|refine cX (fun _=>?_) fun _=>?_|fail
    rw[List.take_length]at hj';exact⟨hn',.inl ⟨rfl,hj'⟩⟩
theorem all1_com{lo L pl:Nat}{l:List RegT}{sv:Value}{J:List (RegT×Int)→zB→Nat→Prop}{JF:zB→Nat→Prop}{JP:zH→zB→Nat→Prop}
(hE:∀done h' n',J done h' n'→lo≤n')(hcl:∀done h' n' h2 n2,J done h' n'→Tch [] h' n' h2 n2→J done h2 n2)
(hkeep:∀done h' n' sv l,J done h' n'→∀h0 n0,J [] h0 n0→RegsM lo h0 sv l→RegsM lo h' sv l)
(hy:∀done e h' n',J done h' n'→(done++[e]) <+: preL 7 1 l→Rou P 8 L [.agg ⟨deepC e⟩] h' n' fun r h2 n2=>n'≤n2∧((r = .ret (.bool true)∧J (done++[e]) h2 n2∧∀b,b<n'→xI (zF h' b)=some (4,52+1,0)→zF h2 b=zF h' b)∨(r = .ret (.bool false)∧JF h2 n2)∨∃c,r = .panic c∧JP c h2 n2))
{h:zB}{n:Nat}(hj:J [] h n)(hr:RegsM lo h sv l)(hc:zC h pl 0=some sv):Com P 8 139 [.func (.yield L) #[] #[],ptr pl 0] h n fun o h' n'=>n≤n'∧((o = .ret (.tuple #[])∧(J (preL 7 1 l) h' n'∨JF h' n'))∨∃c,o = .panic c∧JP c h' n'):=by
 refine ent fun u=>?_;repeat' first|refine wk ?_|refine cX (fun _=>?_) fun _=>?_|fail
 refine cal (down_com hE hcl hkeep hy hj 7 1 l sv [] h n (by decide) (by decide) hr hj (by simp)) ?_
 rintro _ h2 n2 ⟨hn,⟨rfl,hj2⟩|⟨rfl,hf⟩|⟨c,rfl,hp⟩⟩
 · repeat' first|refine wk ?_|refine cX (fun _=>?_) fun _=>?_|fail
   exact⟨hn,.inl ⟨rfl,.inl hj2⟩⟩
 · repeat' first|refine wk ?_|refine cX (fun _=>?_) fun _=>?_|fail
   exact⟨hn,.inl ⟨rfl,.inr hf⟩⟩
 · repeat' first|refine wk ?_|refine cX (fun _=>?_) fun _=>?_|fail
   exact⟨hn,.inr ⟨c,rfl,hp⟩⟩
end Go.Proofs.YtmccnilgnlaffaaGreatDoor
namespace Go.Proofs.YtmccnilgnlaffaaGreatDoor
open Go Go.Ex Go.Ex.M
set_option maxRecDepth 100000
set_option maxHeartbeats 8000000
variable {lo bc z n:Nat} {h:zB} {m:MachT} {nsv psv:Value} {ns:List Tx} {ps:List Pl}
theorem tch_rng{nI n n' L:Nat}{h h':zB}{o:AObj}(hL:L<nI)(t:Tch (List.range nI) h n h' n'):Tch (List.range nI) h n (hal h' L o) n':=⟨t.1,fun b hb hS=>by
 rw[zM,if_neg (by rintro rfl;exact hS (List.mem_range.2 hL))];exact t.2 b hb hS⟩
theorem tch_low{S:List Nat}{nI n n' n2:Nat}{h h' h2:zB}(t:Tch S h n h' n')(l:Low nI h' n' h2 n2)(hn:n≤nI):Tch S h n h2 n2:=⟨Nat.le_trans t.1 l.1,fun b hb hS=>by rw[l.2 b (by omega)];exact t.2 b hb hS⟩
theorem cel_low{nI n n' b z kd:Nat}{h h':zB}{vs:List Value}(c:Cel h b z kd vs)(l:Low nI h n h' n')(hn:b<nI):Cel h' b z kd vs:=cel_same c (l.2 b hn)
theorem row_ne{n L e sz len D:Nat}{h:zB}{v:Value}{vs:List Value}{st:LoopState}{pe:Option Code}{fn:FuncId}{pa:Array Tmp}{asg bo:Code}{t:Fr}(r:Row n h v e sz len vs)(hL:zF h L=LoO st pe fn pa asg bo D t):∀b,zO v=some b→b∉[L]:=fun b hb=>by
 rcases r with⟨rfl,_,_⟩|⟨b',off,cap,m,z,kd,_,rfl,_,hi,_⟩
 · cases hb
 · injection hb with hb
   have hb:b'=b:=hb;subst hb;simp
   rintro rfl
   rw[hL]at hi;cases hi
structure OpOK (m:MachT) (ns:List Tx) (o:OpT):Prop where
 hm:o∈m.ops
 us:∀u∈o.uses,ClsOK m ns u.cls
 d:ClsOK m ns o.d.cls
 cl:∀r∈o.clob,r∈ns
 tie:o.tie<o.uses.length
 len:o.uses.length=1∨o.uses.length=2
theorem ch_len{o:OpT}{l:List Pl}(h:l∈chL m ns ps o):l.length=o.uses.length∨(2<o.uses.length∧l.length=2):=by
 unfold chL at h;split at h
 · cases h
 · rename_i u hu;obtain⟨p,_,rfl⟩:=List.mem_map.1 h;rw [hu];exact .inl rfl
 · rename_i u v r hu;obtain⟨p,_,h⟩:=List.mem_flatMap.1 h;obtain⟨q,_,rfl⟩:=List.mem_map.1 h;rw [hu]
   cases r with
   | nil=>exact .inl rfl
   | cons=>exact .inr ⟨by simp,rfl⟩
theorem ch_mem{o:OpT}{l:List Pl}(h:l∈chL m ns ps o):∀p∈l,∃u∈o.uses,p∈tL m ns ps u:=by
 unfold chL at h;split at h
 · cases h
 · rename_i u hu;obtain⟨p,hp,rfl⟩:=List.mem_map.1 h;intro q hq;simp at hq;subst hq;exact⟨u,by rw[hu];simp,hp⟩
 · rename_i u v r hu;obtain⟨p,hp,h⟩:=List.mem_flatMap.1 h;obtain⟨q,hq,rfl⟩:=List.mem_map.1 h;intro x hx;simp at hx;rcases hx with rfl|rfl
   · exact⟨u,by rw[hu];simp,hp⟩
   · exact⟨v,by rw[hu];simp,(List.mem_filter.1 hq).1⟩
theorem fits_pur(k:Ck lo h bc z m nsv psv ns ps)(hlo:lo≤n)(hok:∀(i:Nat) c,m.classes[i]? = some c→wO m c.name=(i:Nat)∧∀r∈c.regs,r∈ns){o:OpT}(ho:OpOK m ns o):Pur P 8 136 [ptr bc 0,.agg ⟨opC o⟩] h n (.bool (fitsB m ns ps o)):=by
 obtain⟨hm,hus,⟨dc,di,d1,d2,d3,d4⟩,hcl,htie,hlen⟩:=ho;have hbc:=k.hb;have ru1:=(k.mm.opsu o hm 0).one;have rc1:=(k.mm.opsc o hm 0).one;refine Com.pure (ent fun u=>?_) (.inl rfl);repeat' first|refine wk ?_|refine cX (fun _=>?_) fun _=>?_|fail
 refine uB (chs_ret (by omega) ⟨ru1,rc1⟩) ?_
 rintro _ h2 n2 ⟨pc,po,rfl,p1,p2,p3,p4,p5,p6,ht2⟩
 have hn2:=ht2.le;have g3:zC h2 n 0=some (ptr bc 0):=zJ;have g4:Cel h2 (n+1) (50+1) 0 (opC o):=zD;have g6:Cel h2 (n+2) (4+1) 0 [.bool false]:=zD;have base:Tch [] h n (hal h2 n2 (.deferred true)) (n2+1):=zA;clear ht2;repeat' first|refine wk ?_|refine cX (fun _=>?_) fun _=>?_|fail
 refine wc_rg0 (g:=198) (fs:=[]) (cs:=[ptr pc 0,ptr po 0]) (by(apply uX;((conv=>lhs;whnf) <;> exact rfl))) ?_
 refine it_coreM (elR:=plR) (elems:=chL m ns ps o) (ps:=[9]) (nI:=n2+2) (E:=ChsE lo bc z m nsv psv ns ps o pc po) (fun done h' n'=>Tch [] (hal h2 n2 (.deferred true)) (n2+1) h' n'∧n2+2≤n'∧∀l∈done,defB m ns ps o l=false)
  (fun j h' n'=>j = .ret∧Tch [n+2] (hal h2 n2 (.deferred true)) (n2+1) h' n'∧n2+2≤n'∧Cel h' (n+2) (4+1) 0 [.bool true]∧∃l∈chL m ns ps o,defB m ns ps o l=true) rfl ?_ ?_ ?_ ?_ (by omega) tI ⟨zA,by omega,fun p hp=>by cases hp⟩ ?_ ?_ ?_
 · rcases hu:o.uses with _|⟨u1,_|⟨u2,_|⟨u3,r⟩⟩⟩
   · rw[hu]at hlen;simp at hlen
   · exact one_it hm hu (hus u1 (by rw[hu];simp))
   · exact two_it hok hm hu (hus u1 (by rw[hu];simp)) (hus u2 (by rw[hu];simp))
   · rw[hu]at hlen;simp at hlen
 · rintro done h' n' ⟨ht,hn',_⟩
   exact⟨k.tch (Tch.tch ht base (by simp)) hlo,by omega,by omega,by omega,zJ,zG⟩
 · rintro done h' n' h3 n3 ⟨ht,hn',hno⟩ lw
   have:=lw.1;exact⟨tch_low ht lw (by omega),by omega,hno⟩
 · rintro j h' n' h3 n3 ⟨rfl,ht,hn',hc,he⟩ lw
   have:=lw.1;exact⟨rfl,tch_low ht lw (by omega),by omega,cel_low hc lw (by omega),he⟩
 · rintro done l v h' n' ⟨ht,hn',hno⟩ hL hr hpre
   have hlm:l∈chL m ns ps o:=hpre.subset (by simp);have k':=k.tch (Tch.tch ht base (by simp)) hlo;have g3':zC h' n 0=some (ptr bc 0):=zJ;have g4':Cel h' (n+1) (50+1) 0 (opC o):=zG;have g6':Cel h' (n+2) (4+1) 0 [.bool false]:=zG;have hll:l.length=o.uses.length:=by rcases ch_len hlm with h9|h9 <;> omega
   have hr':∀o',plR l v (hal h' (n2+1) o') n':=fun o'=>hr.tch (S:=[n2+1]) ⟨Nat.le_refl _,fun b hb hS=>by rw[zM,if_neg (by rintro rfl;simp at hS)]⟩ (Nat.le_refl _) (row_ne hr hL);repeat' first|refine wk ?_|refine cX (fun _=>?_) fun _=>?_|refine wM (def_pur (Ck.tch k' zA (by omega)) (by omega) hok hm hcl d1 d2 d3 (hr' _) (Nat.le_refl _) (by omega) (fun p hp=>by obtain⟨u,hu,hp⟩:=ch_mem hlm p hp;exact may_ok k hok hp) (by omega)) ?_|fail
   · rename_i f1;exact⟨by omega,.inr ⟨rfl,⟨.ret,xN,rfl,zA,by omega,zD,l,hlm,f1⟩,tch_rng (by omega) ((tch_rng (by omega) (Tch.refl _ _ _)).hst (.inr (List.mem_range.2 (by omega))))⟩⟩
   · rename_i f1
     exact⟨by omega,.inl ⟨rfl,xN,⟨zA,by omega,fun x hx=>by
      rcases List.mem_append.1 hx with h9|h9
      · exact hno x h9
      · simp at h9;subst h9;exact f1⟩,tch_rng (by omega) (tch_rng (by omega) (Tch.refl _ _ _))⟩⟩
 · rintro h' n' hn9 ⟨ht,hn',hno⟩
   repeat' first|refine wk ?_|refine cX (fun _=>?_) fun _=>?_|fail
   exact finT (by unfold fitsB;congr 1;cases e:(chL m ns ps o).any (defB m ns ps o) with
    | false=>rfl
    | true=>
     obtain⟨p,hp,e2⟩:=List.any_eq_true.1 e;rw [hno p hp]at e2;cases e2) zA
 · rintro _ h' n' hn9 ⟨rfl,ht,hn',hc,p,hp,e2⟩
   repeat' first|refine wk ?_|refine cX (fun _=>?_) fun _=>?_|fail
   exact finT (by unfold fitsB;rw [List.any_eq_true.2 ⟨p,hp,e2⟩]) zA
end Go.Proofs.YtmccnilgnlaffaaGreatDoor
namespace Go.Proofs.YtmccnilgnlaffaaGreatDoor
open Go Go.Ex Go.Ex.M
set_option maxRecDepth 100000
set_option maxHeartbeats 8000000
attribute [local simp] xV
theorem ownE_pos{lo n:Nat}{h:zB}{v:Value}{e sz len:Nat}{vs:List Value}(r:OwnE lo n h v e sz len vs)(hl:0<len):Own lo n h v e sz len vs:=by
 rcases r with r|⟨_,rfl,_⟩
 · exact r
 · omega
theorem yT{lo n:Nat}{h:zB}{v:Value}{e sz len:Nat}{vs:List Value}(r:OwnE lo n h v e sz len vs):v.oneCell'=true:=by
 rcases r with r|⟨⟨b,z,kd,_,_,rfl,_⟩,_,_⟩
 · exact r.one
 · rfl
theorem iadO{sz b len cap i:Nat}(h:i<len):Iad sz (.slice (some ⟨b,0,none⟩) len cap) (I64 (i:Nat)) (ptr b (i*sz)):=⟨b,0,len,cap,.i64,i,rfl,rfl,h,by rw[Nat.zero_add]⟩
theorem own_at{lo n bb len cap e sz k:Nat}{h:zB}{vs:List Value}{x:Value}(o:Own lo n h (.slice (some ⟨bb,0,none⟩) len cap) e sz len vs)(hs:1≤sz)(hx:vs[k]? = some x):zC h bb k=some x:=by
 have:=(o.row hs).at hx
 rwa [show sof (.slice (some ⟨bb,0,none⟩) len cap)+k=k from Nat.zero_add _]at this
theorem regC_one{lo:Nat}{h:zB}{sv:Value}{l:List RegT}(hr:RegsM lo h sv l):∀y∈l.flatMap regC,y.oneCell'=true:=fun y hy=>by
 obtain⟨r,hm,hy⟩:=List.mem_flatMap.1 hy;have:=((hr.sub hm).row 0).one;simp at hy;rcases hy with rfl|rfl|rfl|rfl
 · rfl
 · rfl
 · rfl
 · exact this
theorem regs_ret:∀(k:Nat) {l:List RegT} {lo n:Nat} {h:zB} {sv:Value},Sml k l→RegsM lo h sv l→lo≤n→Ret P 8 78 [sv] h n fun v h' n'=>v.oneCell'=true∧Tch [] h n h' n':=by
 intro k
 induction k with
 | zero=>
  intro l lo n h sv hs hr hlo;have hs:l=[]:=hs;subst hs;have hone:=(hr.row 0).one;have ht0:Tch [] h n h n:=Tch.refl _ _ _;refine ent fun u=>?_;repeat' first|refine wk ?_|refine cX (fun _=>?_) fun _=>?_|fail
  refine uB (clone_reg (hr.row 0) hlo (regC_one hr) (by decide)) ?_
  rintro v h2 n2 ⟨ho,ht⟩
  have hn2:=ht.le;have r2:=ho.row (by decide);have o1:=yT ho;repeat' first|refine wk ?_|refine cX (fun _=>?_) fun _=>?_|fail
  refine lpR (fun i:Nat=>[(0,v),(7,I64 (0:Nat)),(8,I64 i)]) (fun i h' n'=>Tch [] h n h' n') (fun i=>0) 0 ht ?_
  rintro i t h' n' ht'
  repeat' first|refine wk ?_|refine cX (fun _=>?_) fun _=>?_|fail
  exact⟨_,rfl,o1,zA⟩
 | succ k ih=>
  intro l lo n h sv hs hr hlo;obtain⟨hs1,hs2⟩:=hs;have hinf:inf<4611686018427387904:=by decide
  have hone:=(hr.row 0).one;refine ent fun u=>?_;repeat' first|refine wk ?_|refine cX (fun _=>?_) fun _=>?_|fail
  refine uB (clone_reg (hr.row 0) hlo (regC_one hr) (by omega)) ?_
  rintro v h2 n2 ⟨ho,ht⟩
  have hn2:=ht.le;have r2:=ho.row (by decide);have o1:=yT ho;repeat' first|refine wk ?_|refine cX (fun _=>?_) fun _=>?_|fail
  refine lpR (fun i:Nat=>[(0,v),(7,I64 l.length),(8,I64 i)]) (fun i h' n'=>Tch [] h n h' n'∧i≤l.length∧∃l':List RegT,l'.length=l.length∧OwnE n n' h' v 52 4 l.length (l'.flatMap regC)∧∀j,i≤j→l'[j]? = l[j]?) (fun i=>l.length - i) 0 ⟨ht,Nat.zero_le _,l,rfl,ho,fun _ _=>rfl⟩ ?_;clear r2 ho
  rintro i t h' n' ⟨ht',hi,l',hl',ho,hsame⟩
  have hn':=ht'.le;by_cases hlt:i<l.length
  · have c0:l[i]? = some l[i]:=List.getElem?_eq_getElem hlt;generalize l[i]=x at c0
    have c0':l'[i]? = some x:=by rw[hsame i (Nat.le_refl _)];exact c0
    have hx:=List.mem_of_getElem? c0;have ho:=ownE_pos ho (by omega);obtain⟨bb,rfl,hb1,hb2⟩:=own_head ho (by omega);have y3:zC h' bb (i*4+3)=some x.sv:=own_at ho (by decide) (uA (f:=regC) (sz:=4) (fun _=>rfl) c0' (j:=3) rfl);have iad:=iadO (sz:=4) (b:=bb) (cap:=inf) hlt;have hxo:=((hr.sub hx).row 0).one;repeat' first|refine ob (a:=ptr bb (i*4)) ?_ iad|refine wk ?_|refine cX (fun _=>?_) fun _=>?_|fail
    refine uB (ih (hs2 x hx) (RegsM.tch ht' hlo (hr.sub hx)) (by omega)) ?_
    rintro v2 h3 n3 ⟨o2,t3⟩
    have hn3:=t3.le;have ho3:=ho.tch t3 (by simp);have hvl:i*4+3<(l'.flatMap regC).length:=by rw[flat_len (f:=regC) (sz:=4) (fun _=>rfl)];omega
    repeat' first|refine ob (a:=ptr bb (i*4)) ?_ iad|refine ob (a:=hst _ bb (i*4+3) [v2]) ?_ (stp_own ho3 rfl hvl o2)|refine wk ?_|refine cX (fun _=>?_) fun _=>?_|fail
    have hp:=own_put (x:=v2) ho3 rfl hvl;rw [flat_set (f:=regC) (sz:=4) (y:=.mk x.name x.w x.a v2 x.subs) (fun _=>rfl) (by decide) rfl c0']at hp;exact rnd (i+1) ⟨zA,by omega,_,by rw[List.length_set];exact hl',.inl hp,fun j hj=>by rw[List.getElem?_set_ne (by omega)];exact hsame j (by omega)⟩
  · obtain rfl:i=l.length:=by omega
    repeat' first|refine wk ?_|refine cX (fun _=>?_) fun _=>?_|fail
    exact⟨_,rfl,o1,zA⟩
end Go.Proofs.YtmccnilgnlaffaaGreatDoor
namespace Go.Ex.M
theorem nodup_at{l:List Tx}{i j:Nat}{x:Tx}(hn:l.Nodup)(hi:l[i]? = some x)(hj:l[j]? = some x):i=j:=by
 have h1:=(List.getElem?_eq_some_iff.1 hi).1;exact(List.getElem?_inj h1 hn).1 (hi.trans hj.symm)
def numL(l:List Tx):List (Tx×Value):=l.zipIdx.map fun p=>(p.1,I64 (p.2:Nat))
theorem numL_snoc{l:List Tx}{i:Nat}{x:Tx}(h:l[i]? = some x):numL (l.take (i+1))=numL (l.take i)++[(x,I64 (i:Nat))]:=by
 have hl:i<l.length:=(List.getElem?_eq_some_iff.1 h).1;unfold numL;rw [List.take_add_one,h];rw [List.zipIdx_append,List.map_append,List.length_take,Nat.min_eq_left (by omega)];simp
theorem numL_key{l:List Tx}{p:Tx×Value}(h:p∈numL l):p.1∈l:=by
 unfold numL at h;obtain⟨q,hq,rfl⟩:=List.mem_map.1 h;obtain⟨a,b⟩:=q;have:=List.mem_zipIdx hq;obtain⟨_,_,e⟩:=this;show a∈l;rw [e];exact List.getElem_mem _
theorem sJ{l:List Tx}{i:Nat}{x:Tx}(h:l[i]? = some x)(hn:l.Nodup):∃A B,numL l=A++(x,I64 (i:Nat))::B∧∀p∈A,p.1≠x:=by
 have hl:i<l.length:=(List.getElem?_eq_some_iff.1 h).1;have e:l=l.take (i+1)++l.drop (i+1):=(List.take_append_drop _ _).symm;refine⟨numL (l.take i),(l.drop (i+1)).zipIdx (i+1) |>.map fun p=>(p.1,I64 (p.2:Nat)),?_,fun p hp hx=>?_⟩
 · have h1:=numL_snoc h
   have h2:numL l=numL (l.take (i+1))++((l.drop (i+1)).zipIdx (i+1)).map fun p=>(p.1,I64 (p.2:Nat)):=by
    conv=>lhs;rw [e]
    unfold numL;rw [List.zipIdx_append,List.map_append,List.length_take,Nat.min_eq_left (by omega)];simp
   rw[h2,h1,List.append_assoc];rfl
 · have h3:=numL_key hp;rw [hx]at h3;obtain⟨j,hj⟩:=List.mem_iff_getElem?.1 h3;have hj2:j<i:=by have:=(List.getElem?_eq_some_iff.1 hj).1;rw [List.length_take]at this;omega
   rw[List.getElem?_take_of_lt hj2]at hj;have:=nodup_at hn hj h;omega
theorem take_map{α β : Type}{f: α→β}{l:List α}{i:Nat}{x: α}(h:l[i]? = some x):(l.take (i+1)).map f=(l.take i).map f++[f x]:=by
 rw[List.take_add_one,h];simp
theorem idx_at{l:List Tx}{x:Tx}(h:x∈l):l[l.idxOf x]? = some x:=by
 have h1:=List.idxOf_lt_length_iff.2 h;rw [List.getElem?_eq_getElem h1,List.getElem_idxOf h1]
end Go.Ex.M
namespace Go.Proofs.YtmccnilgnlaffaaGreatDoor
open Go Go.Ex Go.Ex.M
set_option maxRecDepth 100000
set_option maxHeartbeats 8000000
theorem numbered_ret{lo e n:Nat}{h:zB}{sv:Value}{l:List Tx}(r:Row lo h sv e 1 l.length (l.map str))(hlo:lo≤n)(hl:l.length<inf)(hn:l.Nodup):Ret P 8 30 [sv] h n fun v h' n'=>∃b,v = .map (some b)∧n≤b∧b<n'∧MpS h' b (numL l)∧Tch [] h n h' n':=by
 have hinf:inf<4611686018427387904:=by decide
 have rl:=r.low;refine ent fun u=>?_;repeat' first|refine wk ?_|refine cX (fun _=>?_) fun _=>?_|fail
 refine lpR (fun i:Nat=>[(3,.map (some n)),(7,sv),(8,I64 l.length),(9,I64 i)]) (fun i h' n'=>Tch [] h n h' n'∧n<n'∧MpS h' n (numL (l.take i))∧i≤l.length) (fun i=>l.length - i) 0 ⟨zA,by omega,mps_new,Nat.zero_le _⟩ ?_
 rintro i t h' n' ⟨ht,hn',hm,hi⟩
 have r':=r.tch ht hlo fun _ _ hx=>(by cases hx);by_cases hlt:i<l.length
 · have c0:l[i]? = some l[i]:=List.getElem?_eq_getElem hlt;generalize l[i]=x at c0
   have c1:=row_e1 r' c0
   obtain⟨o,ms,hm2⟩:=mset_new (P:=P) (ty:=87) (v:=I64 (i:Nat)) (x:=x) hm fun p hp hx=>by
    have h3:=numL_key hp;rw [hx]at h3;obtain⟨j,hj⟩:=List.mem_iff_getElem?.1 h3;have hj2:j<i:=by have:=(List.getElem?_eq_some_iff.1 hj).1;rw [List.length_take]at this;omega
    rw[List.getElem?_take_of_lt hj2]at hj;have:=nodup_at hn hj c0;omega
   repeat' first|refine wk ?_|refine cX (fun _=>?_) fun _=>?_|fail
   exact rnd (i+1) ⟨zA,hn',by rw[numL_snoc c0];exact hm2,by omega⟩
 · obtain rfl:i=l.length:=by omega
   repeat' first|refine wk ?_|refine cX (fun _=>?_) fun _=>?_|fail
   rw[List.take_length]at hm;exact⟨_,rfl,n,rfl,Nat.le_refl _,hn',hm,ht⟩
theorem wU{lo e n bt br:Nat}{h:zB}{sv:Value}{l ns:List Tx}(r:Row lo h sv e 1 l.length (l.map str))(hlo:lo≤n)(hl:l.length<100000)(hb:bt<n)(hbr:br<n)(ct:zC h bt 10=some (.map (some br)))(mp:MpS h br (numL ns))(hns:ns.Nodup)(hin:∀x∈l,x∈ns):Ret P 8 31 [ptr bt 0,sv] h n fun v h' n'=>Own n n' h' v 3 1 l.length (l.map fun x=>I64 (ns.idxOf x:Nat))∧Tch [] h n h' n':=by
 have rl:=r.low;refine ent fun u=>?_;repeat' first|refine wk ?_|refine cX (fun _=>?_) fun _=>?_|fail
 refine lpR (α :=Nat×Value) (fun a=>[(0,ptr bt 0),(5,a.2),(8,sv),(9,I64 l.length),(10,I64 a.1)]) (fun a h' n'=>Tch [] h n h' n'∧a.1≤l.length∧Own n n' h' a.2 3 1 a.1 ((l.take a.1).map fun x=>I64 (ns.idxOf x:Nat))) (fun a=>l.length - a.1) (0,.slice none 0 0) ⟨zA,Nat.zero_le _,Own.nil⟩ ?_
 rintro ⟨i,ov⟩ t h' n' ⟨ht,hi,ho⟩
 dsimp only at hi ho ⊢;have hn':=ht.le;have r':=r.tch ht hlo fun _ _ hx=>(by cases hx);have ct':zC h' bt 10=some (.map (some br)):=cat_tch ht hb (by simp) ct;have mp':=mp.tch ht hbr (by simp);by_cases hlt:i<l.length
 · have c0:l[i]? = some l[i]:=List.getElem?_eq_getElem hlt;generalize l[i]=x at c0
   have c1:=row_e1 r' c0;have hx:=hin x (List.mem_of_getElem? c0);obtain⟨A,B,e1,e2⟩:=sJ (idx_at hx) hns;rw [e1]at mp';have lk:=lku_at (P:=P) (ty:=87) (ok:=false) mp' e2;have lk2:yQ P h' 87 (.map (some br)) (str x) false=some (I64 (ns.idxOf x:Nat)):=lk;repeat' first|refine wk ?_|refine cX (fun _=>?_) fun _=>?_|fail
   refine appO (ho.tch (S:=[]) zA (by simp)) (zR (e:=3) (sz:=1) (len:=1) rfl (by decide)) (by omega) ⟨rfl,trivial⟩ (by omega) ?_
   rintro v' h3 n3 ho3 ht3
   have ht4:Tch [] h n h3 n3:=Tch.tch ht3 zA fun x hx=>.inl (by
    cases hb:zO ov with
    | none=>rw [hb]at hx;cases hx
    | some b=>rw [hb]at hx;simp at hx;subst hx;exact(ho.blk hb).1)
   repeat' first|refine wk ?_|refine cX (fun _=>?_) fun _=>?_|fail
   exact rnd (i+1,v') ⟨ht4,by omega,by rw[take_map c0];exact ho3⟩
 · obtain rfl:i=l.length:=by omega
   repeat' first|refine wk ?_|refine cX (fun _=>?_) fun _=>?_|fail
   rw[List.take_length]at ho;exact⟨_,rfl,ho,ht⟩
end Go.Proofs.YtmccnilgnlaffaaGreatDoor
namespace Go.Proofs.YtmccnilgnlaffaaGreatDoor
open Go Go.Ex Go.Ex.M
set_option maxRecDepth 100000
set_option maxHeartbeats 8000000
abbrev zW:Nat:=160+1
abbrev eAr:Nat:=157
abbrev WayM:=Pl×Value×List Pl
abbrev wayC(x:WayM):List Value:=[I64 x.1.root,I64 x.1.at_,I64 x.1.width,x.2.1]
def Kp(n0 bw br:Nat)(h:zB)(b:Nat):Prop:=b<n0∨(b≠bw∧b≠br∧(xI (zF h b)=none∨∃m z,0<z∧xI (zF h b)=some (m,z,0)))
def KeepR(n0 bw br:Nat)(h:zB)(n:Nat)(h':zB)(n':Nat):Prop:=n≤n'∧∀b,b<n→Kp n0 bw br h b→zF h' b=zF h b
theorem KeepR.refl(n0 bw br:Nat)(h:zB)(n:Nat):KeepR n0 bw br h n h n:=⟨Nat.le_refl _,fun _ _ _=>rfl⟩
theorem KeepR.step{S:List Nat}{n0 bw br n n1 n2:Nat}{h h1 h2:zB}(k:KeepR n0 bw br h n h1 n1)(t:Tch S h1 n1 h2 n2)(hS:∀b∈S,¬Kp n0 bw br h1 b):KeepR n0 bw br h n h2 n2:=⟨Nat.le_trans k.1 t.1,fun b hb hc=>by
 have e:=k.2 b hb hc;rw [t.2 b (by have:=k.1;omega) fun hx=>?_,e];refine hS b hx ?_;unfold Kp at hc ⊢;rw [e];exact hc⟩
theorem kp_bw{n0 bw br:Nat}{h:zB}(hb:n0≤bw):¬Kp n0 bw br h bw:=fun k=>by
 rcases k with k|⟨k,_⟩
 · omega
 · exact k rfl
theorem kp_br{n0 bw br:Nat}{h:zB}(hb:n0≤br):¬Kp n0 bw br h br:=fun k=>by
 rcases k with k|⟨_,k,_⟩
 · omega
 · exact k rfl
theorem own_info{n0 bw br n:Nat}{h:zB}{v:Value}{e sz len:Nat}{vs:List Value}(o:Own n0 n h v e sz len vs):∀b∈(zO v).toList,¬Kp n0 bw br h b:=fun b hb k=>by
 rcases o with⟨rfl,_⟩|⟨b2,q1,q2,rfl,p3,_⟩
 · cases hb
 have hb:b∈(some b2).toList:=hb;simp at hb;subst hb;rcases k with k|⟨_,_,k|⟨m,z,_,k⟩⟩
 · omega
 · rw[p3]at k;cases k
 · rw[p3]at k;exact absurd (kd_of k) (by decide)
theorem way_info{n0 bw br n:Nat}{h:zB}{v:Value}{e sz len:Nat}{vs:List Value}(w:WayR n0 n h v e sz len vs):∀b∈(zO v).toList,¬Kp n0 bw br h b:=fun b hb k=>by
 obtain⟨b2,m,z,kd,cap,h1,h2,rfl,h3,_,_,_,h7⟩:=w;have hb:b∈(some b2).toList:=hb;simp at hb;subst hb;rcases k with k|⟨_,_,k|⟨m',z',hz,k⟩⟩
 · omega
 · rw[h3]at k;cases k
 · rw[h3]at k;injection k with k
   injection k with _ k
   injection k with k1 k2
   rcases h7 with⟨_,rfl,_⟩|⟨rfl,_⟩
   · omega
   · cases k2
theorem way_own{lo lo' n n':Nat}{h:zB}{v v':Value}{e sz len e' sz' len':Nat}{vs vs':List Value}(w:WayR lo n h v e sz len vs)(o:Own lo' n' h v' e' sz' len' vs')(hne:e≠e'∨sz≠sz'):Dj v v':=fun b hb e2=>by
 obtain⟨b2,m,z,kd,cap,h1,h2,rfl,h3,_,_,_,h7⟩:=w;injection hb with hb
 have hb:b2=b:=hb;subst hb;rcases o with⟨rfl,_⟩|⟨b3,_,_,rfl,p3,_⟩
 · cases e2
 injection e2 with e2
 have e2:b3=b2:=e2;subst e2;rw [h3]at p3;injection p3 with p3
 injection p3 with _ p3
 injection p3 with p3 p4
 rcases h7 with⟨rfl,_⟩|⟨_,_,rfl⟩
 · cases p4
 · obtain⟨a,b⟩:=zc_inj p3;omega
theorem way_cel{lo n b z:Nat}{h:zB}{v:Value}{e sz len:Nat}{vs ws:List Value}(w:WayR lo n h v e sz len vs)(c:Cel h b z 0 ws)(hz:0<z):zO v≠some b:=fun hb=>by
 obtain⟨b2,m,z',kd,cap,h1,h2,rfl,h3,_,_,_,h7⟩:=w;injection hb with hb
 have hb:b2=b:=hb;subst hb;rw [c.1]at h3;injection h3 with h3
 injection h3 with _ h3
 injection h3 with h3 h4
 rcases h7 with⟨_,rfl,_⟩|⟨rfl,_⟩
 · omega
 · cases h4
theorem tJ{lo n b:Nat}{h:zB}{v:Value}{e sz len:Nat}{vs:List Value}{l:List (List UInt8×Value)}(m:MpS h b l)(o:Own lo n h v e sz len vs):b∉(zO v).toList:=fun hx=>by
 obtain⟨es,clock,m,_⟩:=m;rcases o with⟨rfl,_⟩|⟨b2,_,_,rfl,p3,_⟩
 · cases hx
 have hx:b∈(some b2).toList:=hx;simp at hx;subst hx;rw [m]at p3;cases p3
theorem yV{b b' z kd:Nat}{h:zB}{vs:List Value}{l:List (List UInt8×Value)}(m:MpS h b l)(c:Cel h b' z kd vs):b≠b':=by
 rintro rfl
 obtain⟨es,clock,m,_⟩:=m;have:=c.1;rw [m]at this;cases this
theorem map_way{lo n b:Nat}{h:zB}{v:Value}{e sz len:Nat}{vs:List Value}{l:List (List UInt8×Value)}(m:MpS h b l)(w:WayR lo n h v e sz len vs):zO v≠some b:=fun hb=>by
 obtain⟨es,clock,m,_⟩:=m;obtain⟨b2,m',z',kd,cap,h1,h2,rfl,h3,_⟩:=w;injection hb with hb
 have hb:b2=b:=hb;subst hb;rw [m]at h3;cases h3
theorem no_of{v:Value}{b:Nat}(h:zO v≠some b):b∉(zO v).toList:=fun hx=>by
 cases e:zO v with
 | none=>rw [e]at hx;cases hx
 | some c=>rw [e]at hx h;simp at hx;subst hx;exact h rfl
theorem yJ{v:Value}{b0:Nat}(h:b0∉(zO v).toList):∀b,zO v=some b→b∉[b0]:=fun b hb hx=>by
 simp at hx;subst hx;exact h (by rw[hb];simp)
theorem way_put{lo n i:Nat}{h:zB}{v x:Value}{e sz len bb cap:Nat}{vs:List Value}(w:WayR lo n h v e sz len vs)(hv:v = .slice (some ⟨bb,0,none⟩) len cap)(hi:i<vs.length)(_hx:x.oneCell'=true):WayR lo n (hst h bb i [x]) v e sz len (vs.set i x):=by
 obtain⟨b2,m,z,kd,cap',h1,h2,rfl,h3,h4,h5,h6,h7⟩:=w;injection hv with hv1 _ hv2
 injection hv1 with hv1
 injection hv1 with hv1 _
 subst hv1 hv2;have hk:kd≠3:=by rcases h7 with⟨rfl,_⟩|⟨rfl,_⟩ <;> decide
 refine⟨b2,m,z,kd,cap',h1,h2,rfl,by rw[xB,if_pos rfl,sE];exact h3,by rw[List.length_set];exact h4,by rw[List.length_set];exact h5,fun j hj=>?_,h7⟩;rw [List.length_set]at hj;unfold zC;rw [xB,if_pos rfl,cellOf_stC _ _ _ h3 (by simp;omega) hk];by_cases e:i=j
 · subst e;rw [if_pos (by simp),Nat.sub_self,List.getElem?_set_self hj];rfl
 · rw[if_neg (by simp;omega),List.getElem?_set_ne e];exact h6 j hj
theorem stp_way{lo n i:Nat}{h:zB}{v x:Value}{e sz len bb cap:Nat}{vs:List Value}(w:WayR lo n h v e sz len vs)(hv:v = .slice (some ⟨bb,0,none⟩) len cap)(hi:i<vs.length)(hx:x.oneCell'=true):StP h (ptr bb i) [x] (hst h bb i [x]):=by
 obtain⟨b2,m,z,kd,cap',h1,h2,rfl,h3,h4,h5,h6,h7⟩:=w;injection hv with hv1 _ hv2
 injection hv1 with hv1
 injection hv1 with hv1 _
 subst hv1 hv2;exact⟨b2,i,m,z,kd,rfl,h3,by rcases h7 with⟨rfl,_⟩|⟨rfl,_⟩ <;> exact⟨by decide,by decide⟩,by simp;omega,fun y hy=>by simp at hy;subst hy;exact hx,rfl⟩
structure Gw (n0:Nat) (h:zB) (n bw br:Nat) (cs:List Value) (nsv psv wsv:Value) (ns ms:List Tx) (ps:List Pl) (wm:List WayM):Prop where
 cel:Cel h bw zW 0 cs
 hb:n0≤bw∧bw<n∧n0≤br∧br<n
 on:Own n0 n h nsv sK 1 ns.length (ns.map str)
 op:Own n0 n h psv ePl 3 ps.length (ps.flatMap plC)
 mp:MpS h br (numL ms)
 ow:WayR n0 n h wsv eAr 4 wm.length (wm.flatMap wayC)
 oi:∀(i:Nat) x,wm[i]? = some x→Own n0 n h x.2.1 ePl 3 x.2.2.length (x.2.2.flatMap plC)
 dj:∀(i:Nat) x,wm[i]? = some x→Dj x.2.1 psv
 dd:∀(i j:Nat) x y,i≠j→wm[i]? = some x→wm[j]? = some y→Dj x.2.1 y.2.1
section
variable {n0 n n' bw br:Nat} {h h':zB} {cs cs':List Value} {nsv psv wsv v':Value} {ns ms:List Tx} {ps:List Pl} {wm:List WayM}
theorem Gw.tch(g:Gw n0 h n bw br cs nsv psv wsv ns ms ps wm)(t:Tch [] h n h' n'):Gw n0 h' n' bw br cs nsv psv wsv ns ms ps wm:=by
 obtain⟨b1,b2,b3,b4⟩:=g.hb;have:=t.le;exact⟨g.cel.tch t b2 (by simp),⟨b1,by omega,b3,by omega⟩,g.on.tch t (by simp),g.op.tch t (by simp),g.mp.tch t b4 (by simp),g.ow.tch t (by simp),fun i x hx=>(g.oi i x hx).tch t (by simp),g.dj,g.dd⟩
theorem Gw.own(g:Gw n0 h n bw br cs nsv psv wsv ns ms ps wm)(t:Tch [bw] h n h' n')(c:Cel h' bw zW 0 cs'):Gw n0 h' n' bw br cs' nsv psv wsv ns ms ps wm:=by
 obtain⟨b1,b2,b3,b4⟩:=g.hb;have:=t.le;have hc:=g.cel;exact⟨c,⟨b1,by omega,b3,by omega⟩,g.on.tch t (yJ (zZ hc g.on)),g.op.tch t (yJ (zZ hc g.op)),g.mp.tch t b4 (by simpa using yV g.mp hc),g.ow.tch t (yJ (no_of (way_cel g.ow hc (by decide)))),fun i x hx=>(g.oi i x hx).tch t (yJ (zZ hc (g.oi i x hx))),g.dj,g.dd⟩
theorem Gw.cut(g:Gw n0 h n bw br cs nsv psv wsv ns ms ps wm){k:Nat}(w:WayR n0 n h v' eAr 4 k ((wm.flatMap wayC).take (k*4)))(hk:k≤wm.length):Gw n0 h n bw br cs nsv psv v' ns ms ps (wm.take k):=by
 have sub:∀(i:Nat) x,(wm.take k)[i]? = some x→wm[i]? = some x:=fun i x hx=>by
  have:=(List.getElem?_eq_some_iff.1 hx).1;rw [List.length_take]at this
  rwa [List.getElem?_take_of_lt (by omega)]at hx
 have e1:∀(l:List WayM) k,k≤l.length→(l.flatMap wayC).take (k*4)=(l.take k).flatMap wayC:=by
  intro l
  induction l with
  | nil=>intro k hk;simp at hk;subst hk;rfl
  | cons a l ih =>
   intro k hk
   cases k with
   | zero=>rfl
   | succ k=>
    rw[List.flatMap_cons,List.take_succ_cons,List.flatMap_cons,← ih k (by simpa using hk),show(k+1)*4=k*4+4 by omega];rfl
 refine⟨g.cel,g.hb,g.on,g.op,g.mp,?_,fun i x hx=>g.oi i x (sub i x hx),fun i x hx=>g.dj i x (sub i x hx),fun i j x y hij hx hy=>g.dd i j x y hij (sub i x hx) (sub j y hy)⟩;rw [← e1 wm k hk,List.length_take,Nat.min_eq_left hk];exact w
theorem Gw.win(g:Gw n0 h n bw br cs nsv psv wsv ns ms ps wm){dn bb cap:Nat}{x:WayM}{p:Pl}(hx:wm[dn]? = some x)(hv:wsv = .slice (some ⟨bb,0,none⟩) wm.length cap)(o':Own n n' h' v' ePl 3 (x.2.2.length+1) (x.2.2.flatMap plC++plC p))(t:Tch (zO x.2.1).toList h n h' n'):Gw n0 (hst h' bb (dn*4+3) [v']) n' bw br cs nsv psv wsv ns ms ps (wm.set dn (x.1,v',x.2.2++[p])):=by
 obtain⟨b1,b2,b3,b4⟩:=g.hb;have:=t.le;have ox:=g.oi dn x hx;have hbb:zO wsv=some bb:=by rw[hv];rfl
 have hlt:=(List.getElem?_eq_some_iff.1 hx).1;have w1:WayR n0 n' h' wsv eAr 4 wm.length (wm.flatMap wayC):=g.ow.tch t (way_own g.ow ox (.inl (by decide))).no;have c1:Cel h' bw zW 0 cs:=g.cel.app ox t b2;have m1:MpS h' br (numL ms):=g.mp.tch t b4 (tJ g.mp ox);have on1:=g.on.tch t (own_dj g.on ox (.inl (by decide))).no;have op1:=g.op.tch t (g.dj dn x hx).comm.no;have t2:Tch [bb] h' n' (hst h' bb (dn*4+3) [v']) n':=Tch.hst (Tch.refl _ _ _) (.inr (by simp));have nb:∀{lo v e sz len vs},Own lo n' h' v e sz len vs→(eAr≠e∨4≠sz)→∀b,zO v=some b→b∉[bb]:=fun o hne=>yJ (no_of (fun e=>way_own w1 o hne bb hbb e));have o2:Own n0 n' h' v' ePl 3 (x.2.2.length+1) (x.2.2.flatMap plC++plC p):=o'.dnl (by omega);have oi1:∀(i:Nat) y,i≠dn→wm[i]? = some y→Own n0 n' h' y.2.1 ePl 3 y.2.2.length (y.2.2.flatMap plC):=fun i y hi hy=>(g.oi i y hy).tch t (g.dd i dn y x hi hy hx).no
 have hset:∀(l:List WayM) d,d<l.length→(l.flatMap wayC).set (d*4+3) v'=(l.set d ((l[d]?.getD (⟨0,0,0⟩,v',[])).1,v',x.2.2++[p])).flatMap wayC:=by
  intro l
  induction l with
  | nil=>intro d hd;cases hd
  | cons a l ih =>
   intro d hd
   cases d with
   | zero=>rfl
   | succ d=>
    rw[List.flatMap_cons,show(d+1)*4+3=(d*4+3)+4 by omega,List.set_cons_succ,List.flatMap_cons,List.getElem?_cons_succ,← ih d (by simpa using hd)];rfl
 have hwl:(wm.flatMap wayC).length=wm.length*4:=flat_len (f:=wayC) (sz:=4) (fun _=>rfl) wm;have w2:=way_put w1 hv (i:=dn*4+3) (x:=v') (by rw[hwl];omega) o2.one;rw [hset wm dn hlt,hx]at w2;refine⟨c1.hst (fun e=>way_cel w1 c1 (by decide) (by rw[hbb,e])),⟨b1,by omega,b3,by omega⟩,on1.tch t2 (nb on1 (.inl (by decide))),op1.tch t2 (nb op1 (.inl (by decide))),m1.tch t2 (by omega) (by simp;rintro rfl;exact map_way m1 w1 hbb),by rw[List.length_set];exact w2,fun i y hy=>?_,fun i y hy=>?_,fun i j y z hij hy hz=>?_⟩
 · rw[List.getElem?_set]at hy;split at hy
   · cases hy
     show Own n0 n' _ v' ePl 3 (x.2.2++[p]).length ((x.2.2++[p]).flatMap plC);rw [List.length_append,List.flatMap_append];exact o2.tch t2 (nb o2 (.inl (by decide)))
   · rename_i hne;have:=oi1 i y (fun e=>hne e.symm) hy;exact this.tch t2 (nb this (.inl (by decide)))
 · rw[List.getElem?_set]at hy;split at hy
   · cases hy
     exact(own_new_dj g.op o').comm
   · exact g.dj i y hy
 · rw[List.getElem?_set]at hy hz;split at hy
   · cases hy
     split at hz
     · exact absurd (by omega) hij
     · exact(own_new_dj (g.oi j z hz) o').comm
   · split at hz
     · cases hz
       exact own_new_dj (g.oi i y hy) o'
     · exact g.dd i j y z hij hy hz
theorem Gw.map(g:Gw n0 h n bw br cs nsv psv wsv ns ms ps wm){o:AObj}{ms':List Tx}(m:MpS (hal h br o) br (numL ms')):Gw n0 (hal h br o) n bw br cs nsv psv wsv ns ms' ps wm:=by
 obtain⟨b1,b2,b3,b4⟩:=g.hb;have t:Tch [br] h n (hal h br o) n:=(Tch.refl _ _ _).upd (.inr (by simp));exact⟨g.cel.tch t b2 (by simpa using (yV g.mp g.cel).symm),g.hb,g.on.tch t (yJ (tJ g.mp g.on)),g.op.tch t (yJ (tJ g.mp g.op)),m,g.ow.tch t (yJ (no_of (map_way g.mp g.ow))),fun i x hx=>(g.oi i x hx).tch t (yJ (tJ g.mp (g.oi i x hx))),g.dj,g.dd⟩
theorem Gw.nm(g:Gw n0 h n bw br cs nsv psv wsv ns ms ps wm){x:Tx}(o':Own n n' h' v' sK 1 (ns.length+1) (ns.map str++[str x]))(t:Tch (zO nsv).toList h n h' n'):Gw n0 h' n' bw br cs v' psv wsv (ns++[x]) ms ps wm:=by
 obtain⟨b1,b2,b3,b4⟩:=g.hb;have:=t.le;exact⟨g.cel.app g.on t b2,⟨b1,by omega,b3,by omega⟩,by rw[List.length_append,List.map_append];exact o'.dnl (by omega),g.op.tch t (own_dj g.op g.on (.inl (by decide))).no,g.mp.tch t b4 (tJ g.mp g.on),g.ow.tch t (way_own g.ow g.on (.inl (by decide))).no,fun i x hx=>(g.oi i x hx).tch t (own_dj (g.oi i x hx) g.on (.inl (by decide))).no,g.dj,g.dd⟩
theorem Gw.pl(g:Gw n0 h n bw br cs nsv psv wsv ns ms ps wm){p:Pl}(o':Own n n' h' v' ePl 3 (ps.length+1) (ps.flatMap plC++plC p))(t:Tch (zO psv).toList h n h' n'):Gw n0 h' n' bw br cs nsv v' wsv ns ms (ps++[p]) wm:=by
 obtain⟨b1,b2,b3,b4⟩:=g.hb;have:=t.le;exact⟨g.cel.app g.op t b2,⟨b1,by omega,b3,by omega⟩,g.on.tch t (own_dj g.on g.op (.inl (by decide))).no,by rw[List.length_append,List.flatMap_append];exact o'.dnl (by omega),g.mp.tch t b4 (tJ g.mp g.op),g.ow.tch t (way_own g.ow g.op (.inl (by decide))).no,fun i x hx=>(g.oi i x hx).tch t (g.dj i x hx).no,fun i x hx=>own_new_dj (g.oi i x hx) o',g.dd⟩
theorem Gw.way(g:Gw n0 h n bw br cs nsv psv wsv ns ms ps wm){p:Pl}(w:WayR n0 n' h' v' eAr 4 (wm.length+1) (wm.flatMap wayC++(plC p++[.slice none 0 0])))(t:Tch (zO wsv).toList h n h' n'):Gw n0 h' n' bw br cs nsv psv v' ns ms ps (wm++[(p,.slice none 0 0,[])]):=by
 obtain⟨b1,b2,b3,b4⟩:=g.hb;have:=t.le;have no:∀{lo v e sz len vs},Own lo n h v e sz len vs→(eAr≠e∨4≠sz)→∀b,zO v=some b→b∉(zO wsv).toList:=fun o hne=>(way_own g.ow o hne).comm.no
 have cs2:∀(i:Nat) x,(wm++[(p,Value.slice none 0 0,([]:List Pl))])[i]? = some x→wm[i]? = some x∨(i=wm.length∧x=(p,.slice none 0 0,[])):=fun i x hx=>by
  rw[List.getElem?_append]at hx;split at hx
  · exact .inl hx
  · rename_i hge
    have:i - wm.length=0:=by
     rcases Nat.eq_zero_or_pos (i - wm.length) with h9|h9
     · exact h9
     · rw[List.getElem?_eq_none (by simp;omega)]at hx;cases hx
    rw[this]at hx;exact .inr ⟨by omega,(Option.some.inj hx).symm⟩
 refine⟨g.cel.tch t b2 (no_of (way_cel g.ow g.cel (by decide))),⟨b1,by omega,b3,by omega⟩,g.on.tch t (no g.on (.inl (by decide))),g.op.tch t (no g.op (.inl (by decide))),g.mp.tch t b4 (no_of (map_way g.mp g.ow)),by rw[List.length_append,List.flatMap_append];exact w,fun i x hx=>?_,fun i x hx=>?_,fun i j x y hij hx hy=>?_⟩
 · rcases cs2 i x hx with hx|⟨_,rfl⟩
   · exact(g.oi i x hx).tch t (no (g.oi i x hx) (.inl (by decide)))
   · exact Own.nil
 · rcases cs2 i x hx with hx|⟨_,rfl⟩
   · exact g.dj i x hx
   · exact Dj.nil _
 · rcases cs2 i x hx with hx|⟨h1,rfl⟩
   · rcases cs2 j y hy with hy|⟨h2,rfl⟩
     · exact g.dd i j x y hij hx hy
     · exact(Dj.nil _).comm
   · exact Dj.nil _
end
abbrev zDp:Nat:=165+1
abbrev tMap:Nat:=86
theorem way_sl{lo n:Nat}{h:zB}{v:Value}{e sz len:Nat}{vs:List Value}(w:WayR lo n h v e sz len vs):∃bb cap,v = .slice (some ⟨bb,0,none⟩) len cap∧lo≤bb∧bb<n:=by
 obtain⟨b,m,z,kd,cap,h1,h2,rfl,_⟩:=w;exact⟨b,cap,rfl,h1,h2⟩
theorem iadw{dn b len cap:Nat}(h:dn<len):Iad 4 (.slice (some ⟨b,0,none⟩) len cap) (I64 (((dn+1:Nat):Int) - 1)) (ptr b (dn*4)):=⟨b,0,len,cap,.i64,dn,rfl,by rw[show((dn+1:Nat):Int) - 1=(dn:Nat) by omega];rfl,h,by rw[Nat.zero_add]⟩
theorem numL_app{l:List Tx}{x:Tx}:numL (l++[x])=numL l++[(x,I64 (l.length:Nat))]:=by
 have h1:(l++[x])[l.length]? = some x:=by rw[List.getElem?_append_right (Nat.le_refl _),Nat.sub_self];rfl
 have:=numL_snoc h1
 rwa [List.take_of_length_le (by simp),List.take_left']at this
 rfl
theorem way_back{lo n n':Nat}{h h':zB}{v:Value}{e sz len:Nat}{vs:List Value}(w:WayR lo n' h' v e sz len vs)(hk:∀b,zO v=some b→b<n∧zF h b=zF h' b):WayR lo n h v e sz len vs:=by
 obtain⟨b,m,z,kd,cap,h1,h2,rfl,h3,h4,h5,h6,h7⟩:=w;obtain⟨k1,k2⟩:=hk b rfl;exact⟨b,m,z,kd,cap,h1,k1,rfl,by rw[k2];exact h3,h4,h5,fun i hi=>by unfold zC;rw [k2];exact h6 i hi,h7⟩
theorem way_cell{lo n bb len cap e sz i:Nat}{h:zB}{vs:List Value}{x:Value}(w:WayR lo n h (.slice (some ⟨bb,0,none⟩) len cap) e sz len vs)(hx:vs[i]? = some x):zC h bb i=some x:=by
 obtain⟨b,m,z,kd,cap',h1,h2,hv,h3,h4,h5,h6,h7⟩:=w;injection hv with hv _ _
 injection hv with hv
 injection hv with hv _
 subst hv;rw [h6 i (List.getElem?_eq_some_iff.1 hx).1];exact hx
end Go.Proofs.YtmccnilgnlaffaaGreatDoor
