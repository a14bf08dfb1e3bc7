/- What the law leans on: an executor of the model that is sound, deduction over it, and the walks through the code (part 16 of 20). Conditions: those that each theorem states. -/
import Derived.Test.YtcmohelnoldfbaaGreatInterNearx15

set_option linter.unusedVariables false
set_option linter.unusedSimpArgs false
namespace Go.Proofs.YtcmohelnoldfbaaGreat
open Go Go.Ex Go.Ex.M
set_option maxRecDepth 100000
set_option maxHeartbeats 8000000
variable {lo bc z n:Nat} {h:zB} {m:MachT} {nsv psv:Value} {ns:List Tx} {ps:List Pl}
def ClsOK(m:MachT)(ns:List Tx)(x:Tx):Prop:=∃c i,vM m x=some c∧m.classes[i]? = some c∧yT m x=(i:Nat)∧∀r∈c.regs,r∈ns
abbrev plR(l:List Pl)(v:Value)(h:zB)(n:Nat):Prop:=Row n h v ePl 3 l.length (l.flatMap plC)
def ChsE(lo bc z:Nat)(m:MachT)(nsv psv:Value)(ns:List Tx)(ps:List Pl)(o:OpT)(pc po:Nat)(h':zB)(n':Nat):Prop:=Ck lo h' bc z m nsv psv ns ps∧lo≤n'∧pc<n'∧po<n'∧zD h' pc 0=some (ptr bc 0)∧Cel h' po (72+1) 0 (opC o)
theorem chs_ret(hbc:bc<n){o:OpT}(ho:o.usv.oneCell'=true∧o.csv.oneCell'=true):Ret P 0 184 [ptr bc 0,.agg ⟨opC o⟩] h n fun v h' n'=>∃pc po,v = .func (.func 206) ⟨[]⟩ ⟨[ptr pc 0,ptr po 0]⟩∧n≤pc∧n≤po∧pc<n'∧po<n'∧zD h' pc 0=some (ptr bc 0)∧Cel h' po (72+1) 0 (opC o)∧Tch [] h n h' n':=by
 obtain⟨ho1,ho2⟩:=ho;refine ent fun u=>?_;repeat' first|refine st ?_|refine ob ?_|refine ob1 ?_|refine cT ?_|refine cF ?_|refine zC ?_|refine cX (fun _=>?_) fun _=>?_|fail
 exact⟨_,rfl,n,n+1,rfl,by omega,by omega,by omega,by omega,zL,zE,zA⟩
theorem one_it{pc po L:Nat}{o:OpT}{us:OperT}(hm:o∈m.ops)(hu:o.uses=[us])(hc:ClsOK m ns us.cls):IterM P 0 plR (chL m ns ps o) 206 [.func (.yield L) #[] #[],ptr pc 0,ptr po 0] L n h n (ChsE lo bc z m nsv psv ns ps o pc po):=by
 intro J JF hE hcl hclF h0 hy;obtain⟨c,i,c1,c2,c3,c4⟩:=hc;have eL:chL m ns ps o=(uS m ns ps us).map fun p=>[p]:=by unfold chL;rw [hu]
 obtain⟨k,hlo,hpc,hpo,d1,d2⟩:=hE _ _ _ h0;have ru:Row lo h o.usv 0 2 1 ([us].flatMap oprC):=by have:=k.mm.opsu o hm 0;rw [hu]at this;exact this
 have ru0:=zM ru (k:=0) (x:=us) rfl;have y0:zD h (sbk o.usv) (sof o.usv+0*2)=some (str us.cls):=xP ru0 (j:=0) rfl;have y1:zD h (sbk o.usv) (sof o.usv+0*2+1)=some (str us.fix):=xP ru0 (j:=1) rfl;have hul:=ru.low (by decide);have hbc:=k.hb;refine ent fun u=>?_;repeat' first|refine st ?_|refine ob ?_|refine ob1 ?_|refine cT ?_|refine cF ?_|refine zC ?_|refine cX (fun _=>?_) fun _=>?_|fail
 refine vR (may_ret (by omega) us) ?_
 rintro _ h2 n2 ⟨pc',po',rfl,p1,p2,p3,p4,p5,p6,p7,ht2⟩
 have hn2:=ht2.le;repeat' first|refine st ?_|refine ob ?_|refine ob1 ?_|refine cT ?_|refine cF ?_|refine zC ?_|refine cX (fun _=>?_) fun _=>?_|fail
 have base:Tch [] h n (hal h2 n2 (.deferred true)) (n2+1):=zA;have g0:zD h2 n 0=some (.func (.yield L) #[] #[]):=zL;clear ht2;refine wc_rg0 (g:=208) (fs:=[]) (cs:=[ptr pc' 0,ptr po' 0]) (by(apply sE;((conv=>lhs;whnf) <;> exact rfl))) ?_
 refine it_core (enc:=plV) (elems:=uS m ns ps us) (ps:=[12]) (fun done h' n'=>J (done.map fun p=>[p]) h' n'∧Tch (List.range n) (hal h2 n2 (.deferred true)) (n2+1) h' n'∧n2+2≤n')
  (fun j h' n'=>j = .ret∧JF h' n'∧Tch (List.range n) (hal h2 n2 (.deferred true)) (n2+1) h' n'∧n2+2≤n') rfl (may1_it (lo:=lo) (bc:=bc) (z:=z) (nsv:=nsv) (psv:=psv) c1 c2 c3 c4) ?_ sJ ⟨hcl _ _ _ _ _ h0 (Tch.lowR (S:=[]) zA (Nat.le_refl _) (by simp)),zA,by omega⟩ ?_ ?_ ?_
 · rintro done h' n' ⟨hj,ht,hn'⟩
   obtain⟨k,hlo,hpc,hpo,d1,d2⟩:=hE _ _ _ hj;exact⟨k,hlo,by omega,by omega,zL,zL,zL⟩
 · rintro done p h' n' ⟨hj,ht,hn'⟩ hL hpre
   obtain⟨k,hlo,hpc,hpo,d1,d2⟩:=hE _ _ _ hj;have ru:Row lo h' o.usv 0 2 1 ([us].flatMap oprC):=by have:=k.mm.opsu o hm 0;rw [hu]at this;exact this
   have g0':zD h' n 0=some (.func (.yield L) #[] #[]):=zL;repeat' first|refine st ?_|refine ob ?_|refine ob1 ?_|refine cT ?_|refine cF ?_|refine zC ?_|refine cX (fun _=>?_) fun _=>?_|fail
   refine inv_yield (fs:=[]) (cs:=[]) (Rou.mono (hy (done.map fun p=>[p]) [p] _ _ _ ?_ ?_ ?_) ?_)
   · exact hcl _ _ _ _ _ hj (Tch.lowR (S:=[n2+1]) zA (by omega) (by simp;omega))
   · exact zS (e:=ePl) (sz:=3) (len:=1) rfl (by decide)
   · rw[eL];show done.map (fun p=>[p])++[p].map (fun p=>[p]) <+: _;rw [← List.map_append];exact hpre.map _
   rintro _ h3 n3 ⟨hn3,⟨rfl,hj3,ht3⟩|⟨rfl,hf,ht3⟩⟩
   · repeat' first|refine st ?_|refine ob ?_|refine ob1 ?_|refine cT ?_|refine cF ?_|refine zC ?_|refine cX (fun _=>?_) fun _=>?_|fail
     have hj4:=fun(ob:AObj)=>hcl _ _ _ (hal h3 (n2+1) ob) n3 hj3 (Tch.lowR (S:=[n2+1]) (Tch.refl _ _ _ |>.upd (.inr (by simp))) (by omega) (by simp;omega));have ht4:Tch (List.range n) (hal h2 n2 (.deferred true)) (n2+1) h3 n3:=Tch.tch ht3 zA fun x hx=>.inr hx;exact⟨by omega,.inl ⟨rfl,xS,by rw[List.map_append];exact hj4 _,zA,by omega⟩⟩
   · repeat' first|refine st ?_|refine ob ?_|refine ob1 ?_|refine cT ?_|refine cF ?_|refine zC ?_|refine cX (fun _=>?_) fun _=>?_|fail
     have hf2:=fun(ob:AObj)=>hclF _ _ (hal h3 (n2+1) ob) n3 hf (Tch.lowR (S:=[n2+1]) (Tch.refl _ _ _ |>.upd (.inr (by simp))) (by omega) (by simp;omega));have ht4:Tch (List.range n) (hal h2 n2 (.deferred true)) (n2+1) h3 n3:=Tch.tch ht3 zA fun x hx=>.inr hx;exact⟨by omega,.inr ⟨rfl,.ret,xS,rfl,hf2 _,zA,by omega⟩⟩
 · rintro h' n' ⟨hj,ht,hn'⟩
   repeat' first|refine st ?_|refine ob ?_|refine ob1 ?_|refine cT ?_|refine cF ?_|refine zC ?_|refine cX (fun _=>?_) fun _=>?_|fail
   exact⟨by omega,rfl,.inl (by rw[eL];exact hcl _ _ _ _ _ hj (Tch.lowR (S:=[n2,n2+1]) zA (by omega) (by simp;omega)))⟩
 · rintro _ h' n' ⟨rfl,hf,ht,hn'⟩
   repeat' first|refine st ?_|refine ob ?_|refine ob1 ?_|refine cT ?_|refine cF ?_|refine zC ?_|refine cX (fun _=>?_) fun _=>?_|fail
   exact⟨by omega,rfl,.inr (hclF _ _ _ _ hf (Tch.lowR (S:=[n2,n2+1]) zA (by omega) (by simp;omega)))⟩
theorem fl_pre{α β : Type}{f: α→List β}{a b:List α}(h:a <+: b):a.flatMap f <+: b.flatMap f:=by
 obtain⟨t,rfl⟩:=h;rw [List.flatMap_append];exact List.prefix_append _ _
def prs(p:Pl)(l:List Pl):List (List Pl):=(l.filter fun q=> !tJ p q).map fun q=>[p,q]
theorem prs_pre{p:Pl}{a b:List Pl}(h:a <+: b):prs p a <+: prs p b:=(h.filter _).map _
theorem prs_hit{p q:Pl}{a:List Pl}(h:tJ p q=false):prs p (a++[q])=prs p a++[[p,q]]:=by unfold prs;rw [List.filter_append];simp [h]
theorem prs_no{p q:Pl}{a:List Pl}(h:tJ p q=true):prs p (a++[q])=prs p a:=by unfold prs;rw [List.filter_append];simp [h]
theorem two_it(hok:∀(i:Nat) c,m.classes[i]? = some c→yT m c.name=(i:Nat)∧∀r∈c.regs,r∈ns){pc po L:Nat}{o:OpT}{us vs:OperT}(hm:o∈m.ops)(hu:o.uses=[us,vs])(hc:ClsOK m ns us.cls)(hd:ClsOK m ns vs.cls):IterM P 0 plR (chL m ns ps o) 206 [.func (.yield L) #[] #[],ptr pc 0,ptr po 0] L n h n (ChsE lo bc z m nsv psv ns ps o pc po):=by
 intro J JF hE hcl hclF h0 hy;obtain⟨c,i,c1,c2,c3,c4⟩:=hc;obtain⟨d,j,e1,e2,e3,e4⟩:=hd;have eL:chL m ns ps o=(uS m ns ps us).flatMap fun p=>prs p (uS m ns ps vs):=by unfold chL;rw [hu];rfl
 obtain⟨k,hlo,hpc,hpo,d1,d2⟩:=hE _ _ _ h0;have ru:Row lo h o.usv 0 2 2 ([us,vs].flatMap oprC):=by have:=k.mm.opsu o hm 0;rw [hu]at this;exact this
 have ru0:=zM ru (k:=0) (x:=us) rfl;have y0:zD h (sbk o.usv) (sof o.usv+0*2)=some (str us.cls):=xP ru0 (j:=0) rfl;have y1:zD h (sbk o.usv) (sof o.usv+0*2+1)=some (str us.fix):=xP ru0 (j:=1) rfl;have hul:=ru.low (by decide);have hbc:=k.hb;have k0:=k;refine ent fun u=>?_;repeat' first|refine st ?_|refine ob ?_|refine ob1 ?_|refine cT ?_|refine cF ?_|refine zC ?_|refine cX (fun _=>?_) fun _=>?_|fail
 refine vR (may_ret (by omega) us) ?_
 rintro _ h2 n2 ⟨pc',po',rfl,p1,p2,p3,p4,p5,p6,p7,ht2⟩
 have hn2:=ht2.le;repeat' first|refine st ?_|refine ob ?_|refine ob1 ?_|refine cT ?_|refine cF ?_|refine zC ?_|refine cX (fun _=>?_) fun _=>?_|fail
 have g0:zD h2 n 0=some (.func (.yield L) #[] #[]):=zL;have base:Tch [] h n (hal h2 n2 (.deferred true)) (n2+1):=zA;clear ht2;refine wc_rg0 (g:=208) (fs:=[]) (cs:=[ptr pc' 0,ptr po' 0]) (by(apply sE;((conv=>lhs;whnf) <;> exact rfl))) ?_
 refine it_core (enc:=plV) (elems:=uS m ns ps us) (ps:=[12]) (fun done h' n'=>J (done.flatMap fun p=>prs p (uS m ns ps vs)) h' n'∧Tch (List.range n) (hal h2 n2 (.deferred true)) (n2+1) h' n'∧n2+2≤n')
  (fun j h' n'=>j = .ret∧JF h' n'∧Tch (List.range n) (hal h2 n2 (.deferred true)) (n2+1) h' n'∧n2+2≤n') rfl (may1_it (lo:=lo) (bc:=bc) (z:=z) (nsv:=nsv) (psv:=psv) c1 c2 c3 c4) ?_ sJ ⟨hcl _ _ _ _ _ h0 (Tch.lowR (S:=[]) zA (Nat.le_refl _) (by simp)),zA,by omega⟩ ?_ ?_ ?_
 · rintro done h' n' ⟨hj,ht,hn'⟩
   obtain⟨k,hlo,hpc,hpo,d1,d2⟩:=hE _ _ _ hj;exact⟨k,hlo,by omega,by omega,zL,zL,zL⟩
 · rintro done p h' n' ⟨hj,ht,hn'⟩ hL hpre
   have hpm:p∈uS m ns ps us:=hpre.subset (by simp);obtain⟨k,hlo,hpc,hpo,d1,d2⟩:=hE _ _ _ hj;have ru:Row lo h' o.usv 0 2 2 ([us,vs].flatMap oprC):=by have:=k.mm.opsu o hm 0;rw [hu]at this;exact this
   have ru0:=zM ru (k:=1) (x:=vs) rfl;have y0:zD h' (sbk o.usv) (sof o.usv+1*2)=some (str vs.cls):=xP ru0 (j:=0) rfl;have y1:zD h' (sbk o.usv) (sof o.usv+1*2+1)=some (str vs.fix):=xP ru0 (j:=1) rfl;have hul:=ru.low (by decide);have g0':zD h' n 0=some (.func (.yield L) #[] #[]):=zL;repeat' first|refine st ?_|refine ob ?_|refine ob1 ?_|refine cT ?_|refine cF ?_|refine zC ?_|refine cX (fun _=>?_) fun _=>?_|fail
   refine vR (may_ret (by omega) vs) ?_
   rintro _ h4 n4 ⟨pc2,po2,rfl,q1,q2,q3,q4,q5,q6,q7,ht4⟩
   have hn4:=ht4.le;repeat' first|refine st ?_|refine ob ?_|refine ob1 ?_|refine cT ?_|refine cF ?_|refine zC ?_|refine cX (fun _=>?_) fun _=>?_|fail
   have c7:Cel h4 n' (ePl+1) 0 (plC p):=zE;have g04:zD h4 n 0=some (.func (.yield L) #[] #[]):=zL;have hj4:J (done.flatMap fun p=>prs p (uS m ns ps vs)) h4 n4:=hcl _ _ _ _ _ hj (Tch.lowR (S:=[n2+1]) zA (by omega) (by simp;omega));have hbu:=obe_tch ht4 (by omega) (by simp) xS;have ht5:Tch (List.range n) (hal h2 n2 (.deferred true)) (n2+1) h4 n4:=Tch.tch ht4 zA (by simp);clear ht4;refine wc_rg1 (g:=208) (fs:=[]) (cs:=[ptr pc2 0,ptr po2 0]) hbu (by(apply sE;((conv=>lhs;whnf) <;> exact rfl))) ?_
   refine it_core (enc:=plV) (elems:=uS m ns ps vs) (ps:=[28]) (fun done2 h5 n5=>J ((done.flatMap fun p=>prs p (uS m ns ps vs))++prs p done2) h5 n5∧Tch (List.range n) h4 n4 h5 n5∧n4+1≤n5)
    (fun j h5 n5=>j = .ret∧JF h5 n5∧Tch (List.range n) h4 n4 h5 n5∧n4+1≤n5) rfl (may1_it (lo:=lo) (bc:=bc) (z:=z) (nsv:=nsv) (psv:=psv) e1 e2 e3 e4) ?_ sJ ⟨by rw[show prs p []=[] from rfl,List.append_nil];exact hcl _ _ _ _ _ hj4 (Tch.lowR (S:=[]) zA (by omega) (by simp)),zA,by omega⟩ ?_ ?_ ?_
   · rintro done2 h5 n5 ⟨hj5,ht6,hn5⟩
     obtain⟨k,hlo,hpc,hpo,d1,d2⟩:=hE _ _ _ hj5;exact⟨k,hlo,by omega,by omega,zL,zL,zL⟩
   · rintro done2 q h5 n5 ⟨hj5,ht6,hn5⟩ hL2 hpre2
     have hqm:q∈uS m ns ps vs:=hpre2.subset (by simp);have g05:zD h5 n 0=some (.func (.yield L) #[] #[]):=zL;have c8:Cel h5 n' (ePl+1) 0 (plC p):=zV;repeat' first|refine st ?_|refine ob ?_|refine ob1 ?_|refine cT ?_|refine cF ?_|refine zC ?_|refine cX (fun _=>?_) fun _=>?_|refine zY (lap_pur _ _ (may_ok k0 hok hpm) (may_ok k0 hok hqm) _ _) ?_|fail
     · rename_i f1;refine inv_yield (fs:=[]) (cs:=[]) (Rou.mono (hy ((done.flatMap fun p=>prs p (uS m ns ps vs))++prs p done2) [p,q] _ _ _ ?_ ?_ ?_) ?_)
       · exact hcl _ _ _ _ _ hj5 (Tch.lowR (S:=[n4]) zA (by omega) (by simp;omega))
       · exact zS (e:=ePl) (sz:=3) (len:=2) rfl (by decide)
       · rw[List.append_assoc,← prs_hit f1,eL];refine List.IsPrefix.trans ?_ (fl_pre hpre);rw [List.flatMap_append];exact(List.prefix_append_right_inj _).2 (by simpa using prs_pre hpre2)
       rintro _ h6 n6 ⟨hn6,⟨rfl,hj6,ht7⟩|⟨rfl,hf,ht7⟩⟩
       · repeat' first|refine st ?_|refine ob ?_|refine ob1 ?_|refine cT ?_|refine cF ?_|refine zC ?_|refine cX (fun _=>?_) fun _=>?_|fail
         have hj7:=fun(ob:AObj)=>hcl _ _ _ (hal h6 n4 ob) n6 hj6 (Tch.lowR (S:=[n4]) (Tch.refl _ _ _ |>.upd (.inr (by simp))) (by omega) (by simp;omega));have ht8:Tch (List.range n) h4 n4 h6 n6:=Tch.tch ht7 zA fun x hx=>.inr hx;exact⟨by omega,.inl ⟨rfl,xS,by rw[prs_hit f1,← List.append_assoc];exact hj7 _,zA,by omega⟩⟩
       · repeat' first|refine st ?_|refine ob ?_|refine ob1 ?_|refine cT ?_|refine cF ?_|refine zC ?_|refine cX (fun _=>?_) fun _=>?_|fail
         have hf2:=fun(ob:AObj)=>hclF _ _ (hal h6 n4 ob) n6 hf (Tch.lowR (S:=[n4]) (Tch.refl _ _ _ |>.upd (.inr (by simp))) (by omega) (by simp;omega));have ht8:Tch (List.range n) h4 n4 h6 n6:=Tch.tch ht7 zA fun x hx=>.inr hx;exact⟨by omega,.inr ⟨rfl,.ret,xS,rfl,hf2 _,zA,by omega⟩⟩
     · rename_i f1;exact⟨by omega,.inl ⟨rfl,xS,by rw[prs_no f1];exact hcl _ _ _ _ _ hj5 (Tch.lowR (S:=[n4]) zA (by omega) (by simp;omega)),zA,by omega⟩⟩
   · rintro h5 n5 ⟨hj5,ht6,hn5⟩
     repeat' first|refine st ?_|refine ob ?_|refine ob1 ?_|refine cT ?_|refine cF ?_|refine zC ?_|refine cX (fun _=>?_) fun _=>?_|fail
     have hj7:=fun(ob1 ob2:AObj)=>hcl _ _ _ (hal (hal h5 n4 ob1) (n2+1) ob2) n5 hj5 (Tch.lowR (S:=[n2+1,n4]) (Tch.refl _ _ _ |>.upd (L:=n4) (.inr (by simp)) |>.upd (L:=n2+1) (.inr (by simp))) (by omega) (by simp;omega));have ht8:Tch (List.range n) (hal h2 n2 (.deferred true)) (n2+1) h5 n5:=Tch.tch ht6 ht5 fun x hx=>.inr hx;exact⟨by omega,.inl ⟨rfl,xS,by rw[List.flatMap_append];simpa using hj7 _ _,zA,by omega⟩⟩
   · rintro _ h5 n5 ⟨rfl,hf,ht6,hn5⟩
     repeat' first|refine st ?_|refine ob ?_|refine ob1 ?_|refine cT ?_|refine cF ?_|refine zC ?_|refine cX (fun _=>?_) fun _=>?_|fail
     have ht8:Tch (List.range n) (hal h2 n2 (.deferred true)) (n2+1) h5 n5:=Tch.tch ht6 ht5 fun x hx=>.inr hx;exact⟨by omega,.inr ⟨rfl,.ret,xS,rfl,hclF _ _ _ _ hf (Tch.lowR (S:=[n2+1,n4]) zA (by omega) (by simp;omega)),zA,by omega⟩⟩
 · rintro h' n' ⟨hj,ht,hn'⟩
   repeat' first|refine st ?_|refine ob ?_|refine ob1 ?_|refine cT ?_|refine cF ?_|refine zC ?_|refine cX (fun _=>?_) fun _=>?_|fail
   exact⟨by omega,rfl,.inl (by rw[eL];exact hcl _ _ _ _ _ hj (Tch.lowR (S:=[n2,n2+1]) zA (by omega) (by simp;omega)))⟩
 · rintro _ h' n' ⟨rfl,hf,ht,hn'⟩
   repeat' first|refine st ?_|refine ob ?_|refine ob1 ?_|refine cT ?_|refine cF ?_|refine zC ?_|refine cX (fun _=>?_) fun _=>?_|fail
   exact⟨by omega,rfl,.inr (hclF _ _ _ _ hf (Tch.lowR (S:=[n2,n2+1]) zA (by omega) (by simp;omega)))⟩
end Go.Proofs.YtcmohelnoldfbaaGreat
namespace Go.Proofs.YtcmohelnoldfbaaGreat
open Go Go.Ex Go.Ex.M
set_option maxRecDepth 100000
set_option maxHeartbeats 8000000
variable {lo bc z n:Nat} {h:zB} {m:MachT} {nsv psv:Value} {ns:List Tx} {ps:List Pl}
theorem tch_rng{nI n n' L:Nat}{h h':zB}{o:AObj}(hL:L<nI)(t:Tch (List.range nI) h n h' n'):Tch (List.range nI) h n (hal h' L o) n':=⟨t.1,fun b hb hS=>by
 rw[zO,if_neg (by rintro rfl;exact hS (List.mem_range.2 hL))];exact t.2 b hb hS⟩
theorem tch_low{S:List Nat}{nI n n' n2:Nat}{h h' h2:zB}(t:Tch S h n h' n')(l:Low nI h' n' h2 n2)(hn:n≤nI):Tch S h n h2 n2:=⟨Nat.le_trans t.1 l.1,fun b hb hS=>by rw[l.2 b (by omega)];exact t.2 b hb hS⟩
theorem cel_low{nI n n' b z kd:Nat}{h h':zB}{vs:List Value}(c:Cel h b z kd vs)(l:Low nI h n h' n')(hn:b<nI):Cel h' b z kd vs:=cel_same c (l.2 b hn)
theorem row_ne{n L e sz len D:Nat}{h:zB}{v:Value}{vs:List Value}{st:LoopState}{pe:Option Code}{fn:FuncId}{pa:Array Tmp}{asg bo:Code}{t:Fr}(r:Row n h v e sz len vs)(hL:zF h L=LoO st pe fn pa asg bo D t):∀b,zN v=some b→b∉[L]:=fun b hb=>by
 rcases r with⟨rfl,_,_⟩|⟨b',off,cap,m,z,kd,_,rfl,_,hi,_⟩
 · cases hb
 · injection hb with hb
   have hb:b'=b:=hb;subst hb;simp
   rintro rfl
   rw[hL]at hi;cases hi
structure OpOK (m:MachT) (ns:List Tx) (o:OpT):Prop where
 hm:o∈m.ops
 us:∀u∈o.uses,ClsOK m ns u.cls
 d:ClsOK m ns o.d.cls
 cl:∀r∈o.clob,r∈ns
 tie:o.tie<o.uses.length
 len:o.uses.length=1∨o.uses.length=2
theorem ch_len{o:OpT}{l:List Pl}(h:l∈chL m ns ps o):l.length=o.uses.length∨(2<o.uses.length∧l.length=2):=by
 unfold chL at h;split at h
 · cases h
 · rename_i u hu;obtain⟨p,_,rfl⟩:=List.mem_map.1 h;rw [hu];exact .inl rfl
 · rename_i u v r hu;obtain⟨p,_,h⟩:=List.mem_flatMap.1 h;obtain⟨q,_,rfl⟩:=List.mem_map.1 h;rw [hu]
   cases r with
   | nil=>exact .inl rfl
   | cons=>exact .inr ⟨by simp,rfl⟩
theorem ch_mem{o:OpT}{l:List Pl}(h:l∈chL m ns ps o):∀p∈l,∃u∈o.uses,p∈uS m ns ps u:=by
 unfold chL at h;split at h
 · cases h
 · rename_i u hu;obtain⟨p,hp,rfl⟩:=List.mem_map.1 h;intro q hq;simp at hq;subst hq;exact⟨u,by rw[hu];simp,hp⟩
 · rename_i u v r hu;obtain⟨p,hp,h⟩:=List.mem_flatMap.1 h;obtain⟨q,hq,rfl⟩:=List.mem_map.1 h;intro x hx;simp at hx;rcases hx with rfl|rfl
   · exact⟨u,by rw[hu];simp,hp⟩
   · exact⟨v,by rw[hu];simp,(List.mem_filter.1 hq).1⟩
theorem fits_pur(k:Ck lo h bc z m nsv psv ns ps)(hlo:lo≤n)(hok:∀(i:Nat) c,m.classes[i]? = some c→yT m c.name=(i:Nat)∧∀r∈c.regs,r∈ns){o:OpT}(ho:OpOK m ns o):Pur P 0 146 [ptr bc 0,.agg ⟨opC o⟩] h n (.bool (fitsB m ns ps o)):=by
 obtain⟨hm,hus,⟨dc,di,d1,d2,d3,d4⟩,hcl,htie,hlen⟩:=ho;have hbc:=k.hb;have ru1:=(k.mm.opsu o hm 0).one;have rc1:=(k.mm.opsc o hm 0).one;refine Com.pure (ent fun u=>?_) (.inl rfl);repeat' first|refine st ?_|refine ob ?_|refine ob1 ?_|refine cT ?_|refine cF ?_|refine zC ?_|refine cX (fun _=>?_) fun _=>?_|fail
 refine vR (chs_ret (by omega) ⟨ru1,rc1⟩) ?_
 rintro _ h2 n2 ⟨pc,po,rfl,p1,p2,p3,p4,p5,p6,ht2⟩
 have hn2:=ht2.le;have g3:zD h2 n 0=some (ptr bc 0):=zL;have g4:Cel h2 (n+1) (72+1) 0 (opC o):=zE;have g6:Cel h2 (n+2) (4+1) 0 [.bool false]:=zE;have base:Tch [] h n (hal h2 n2 (.deferred true)) (n2+1):=zA;clear ht2;repeat' first|refine st ?_|refine ob ?_|refine ob1 ?_|refine cT ?_|refine cF ?_|refine zC ?_|refine cX (fun _=>?_) fun _=>?_|fail
 refine wc_rg0 (g:=206) (fs:=[]) (cs:=[ptr pc 0,ptr po 0]) (by(apply sE;((conv=>lhs;whnf) <;> exact rfl))) ?_
 refine it_coreM (elR:=plR) (elems:=chL m ns ps o) (ps:=[9]) (nI:=n2+2) (E:=ChsE lo bc z m nsv psv ns ps o pc po) (fun done h' n'=>Tch [] (hal h2 n2 (.deferred true)) (n2+1) h' n'∧n2+2≤n'∧∀l∈done,defB m ns ps o l=false)
  (fun j h' n'=>j = .ret∧Tch [n+2] (hal h2 n2 (.deferred true)) (n2+1) h' n'∧n2+2≤n'∧Cel h' (n+2) (4+1) 0 [.bool true]∧∃l∈chL m ns ps o,defB m ns ps o l=true) rfl ?_ ?_ ?_ ?_ (by omega) sJ ⟨zA,by omega,fun p hp=>by cases hp⟩ ?_ ?_ ?_
 · rcases hu:o.uses with _|⟨u1,_|⟨u2,_|⟨u3,r⟩⟩⟩
   · rw[hu]at hlen;simp at hlen
   · exact one_it hm hu (hus u1 (by rw[hu];simp))
   · exact two_it hok hm hu (hus u1 (by rw[hu];simp)) (hus u2 (by rw[hu];simp))
   · rw[hu]at hlen;simp at hlen
 · rintro done h' n' ⟨ht,hn',_⟩
   exact⟨k.tch (Tch.tch ht base (by simp)) hlo,by omega,by omega,by omega,zL,zV⟩
 · rintro done h' n' h3 n3 ⟨ht,hn',hno⟩ lw
   have:=lw.1;exact⟨tch_low ht lw (by omega),by omega,hno⟩
 · rintro j h' n' h3 n3 ⟨rfl,ht,hn',hc,he⟩ lw
   have:=lw.1;exact⟨rfl,tch_low ht lw (by omega),by omega,cel_low hc lw (by omega),he⟩
 · rintro done l v h' n' ⟨ht,hn',hno⟩ hL hr hpre
   have hlm:l∈chL m ns ps o:=hpre.subset (by simp);have k':=k.tch (Tch.tch ht base (by simp)) hlo;have g3':zD h' n 0=some (ptr bc 0):=zL;have g4':Cel h' (n+1) (72+1) 0 (opC o):=zV;have g6':Cel h' (n+2) (4+1) 0 [.bool false]:=zV;have hll:l.length=o.uses.length:=by rcases ch_len hlm with h9|h9 <;> omega
   have hr':∀o',plR l v (hal h' (n2+1) o') n':=fun o'=>hr.tch (S:=[n2+1]) ⟨Nat.le_refl _,fun b hb hS=>by rw[zO,if_neg (by rintro rfl;simp at hS)]⟩ (Nat.le_refl _) (row_ne hr hL);repeat' first|refine st ?_|refine ob ?_|refine ob1 ?_|refine cT ?_|refine cF ?_|refine zC ?_|refine cX (fun _=>?_) fun _=>?_|refine zY (def_pur (Ck.tch k' zA (by omega)) (by omega) hok hm hcl d1 d2 d3 (hr' _) (Nat.le_refl _) (by omega) (fun p hp=>by obtain⟨u,hu,hp⟩:=ch_mem hlm p hp;exact may_ok k hok hp) (by omega)) ?_|fail
   · rename_i f1;exact⟨by omega,.inr ⟨rfl,⟨.ret,xS,rfl,zA,by omega,zE,l,hlm,f1⟩,tch_rng (by omega) ((tch_rng (by omega) (Tch.refl _ _ _)).hst (.inr (List.mem_range.2 (by omega))))⟩⟩
   · rename_i f1
     exact⟨by omega,.inl ⟨rfl,xS,⟨zA,by omega,fun x hx=>by
      rcases List.mem_append.1 hx with h9|h9
      · exact hno x h9
      · simp at h9;subst h9;exact f1⟩,tch_rng (by omega) (tch_rng (by omega) (Tch.refl _ _ _))⟩⟩
 · rintro h' n' hn9 ⟨ht,hn',hno⟩
   repeat' first|refine st ?_|refine ob ?_|refine ob1 ?_|refine cT ?_|refine cF ?_|refine zC ?_|refine cX (fun _=>?_) fun _=>?_|fail
   exact finT (by unfold fitsB;congr 1;cases e:(chL m ns ps o).any (defB m ns ps o) with
    | false=>rfl
    | true=>
     obtain⟨p,hp,e2⟩:=List.any_eq_true.1 e;rw [hno p hp]at e2;cases e2) zA
 · rintro _ h' n' hn9 ⟨rfl,ht,hn',hc,p,hp,e2⟩
   repeat' first|refine st ?_|refine ob ?_|refine ob1 ?_|refine cT ?_|refine cF ?_|refine zC ?_|refine cX (fun _=>?_) fun _=>?_|fail
   exact finT (by unfold fitsB;rw [List.any_eq_true.2 ⟨p,hp,e2⟩]) zA
end Go.Proofs.YtcmohelnoldfbaaGreat
namespace Go.Proofs.YtcmohelnoldfbaaGreat
open Go Go.Ex Go.Ex.M
set_option maxRecDepth 100000
set_option maxHeartbeats 8000000
attribute [local simp] wX
theorem ownE_pos{lo n:Nat}{h:zB}{v:Value}{e sz len:Nat}{vs:List Value}(r:OwnE lo n h v e sz len vs)(hl:0<len):Own lo n h v e sz len vs:=by
 rcases r with r|⟨_,rfl,_⟩
 · exact r
 · omega
theorem yZ{lo n:Nat}{h:zB}{v:Value}{e sz len:Nat}{vs:List Value}(r:OwnE lo n h v e sz len vs):v.oneCell'=true:=by
 rcases r with r|⟨⟨b,z,kd,_,_,rfl,_⟩,_,_⟩
 · exact r.one
 · rfl
theorem iadO{sz b len cap i:Nat}(h:i<len):Iad sz (.slice (some ⟨b,0,none⟩) len cap) (I64 (i:Nat)) (ptr b (i*sz)):=⟨b,0,len,cap,.i64,i,rfl,rfl,h,by rw[Nat.zero_add]⟩
theorem own_at{lo n bb len cap e sz k:Nat}{h:zB}{vs:List Value}{x:Value}(o:Own lo n h (.slice (some ⟨bb,0,none⟩) len cap) e sz len vs)(hs:1≤sz)(hx:vs[k]? = some x):zD h bb k=some x:=by
 have:=(o.row hs).at hx
 rwa [show sof (.slice (some ⟨bb,0,none⟩) len cap)+k=k from Nat.zero_add _]at this
theorem regC_one{lo:Nat}{h:zB}{sv:Value}{l:List RegT}(hr:RegsM lo h sv l):∀y∈l.flatMap regC,y.oneCell'=true:=fun y hy=>by
 obtain⟨r,hm,hy⟩:=List.mem_flatMap.1 hy;have:=((hr.sub hm).row 0).one;simp at hy;rcases hy with rfl|rfl|rfl|rfl
 · rfl
 · rfl
 · rfl
 · exact this
theorem regs_ret:∀(k:Nat) {l:List RegT} {lo n:Nat} {h:zB} {sv:Value},Sml k l→RegsM lo h sv l→lo≤n→Ret P 0 89 [sv] h n fun v h' n'=>v.oneCell'=true∧Tch [] h n h' n':=by
 intro k
 induction k with
 | zero=>
  intro l lo n h sv hs hr hlo;have hs:l=[]:=hs;subst hs;have hone:=(hr.row 0).one;have ht0:Tch [] h n h n:=Tch.refl _ _ _;refine ent fun u=>?_;repeat' first|refine st ?_|refine ob ?_|refine ob1 ?_|refine cT ?_|refine cF ?_|refine zC ?_|refine cX (fun _=>?_) fun _=>?_|fail
  refine vR (clone_reg (hr.row _) hlo (regC_one hr) (by decide)) ?_
  rintro v h2 n2 ⟨ho,ht⟩
  have hn2:=ht.le;have r2:=ho.row (by decide);have o1:=yZ ho;repeat' first|refine st ?_|refine ob ?_|refine ob1 ?_|refine cT ?_|refine cF ?_|refine zC ?_|refine cX (fun _=>?_) fun _=>?_|fail
  refine lpR (fun i:Nat=>[(0,v),(7,I64 (0:Nat)),(8,I64 i)]) (fun i h' n'=>Tch [] h n h' n') (fun i=>0) 0 (by repeat' first|exact trivial|refine⟨rfl,?_⟩) ht ?_
  rintro i t h' n' ht'
  repeat' first|refine st ?_|refine ob ?_|refine ob1 ?_|refine cT ?_|refine cF ?_|refine zC ?_|refine cX (fun _=>?_) fun _=>?_|fail
  exact⟨_,rfl,o1,zA⟩
 | succ k ih=>
  intro l lo n h sv hs hr hlo;obtain⟨hs1,hs2⟩:=hs;have hinf:inf<4611686018427387904:=by decide
  have hone:=(hr.row 0).one;refine ent fun u=>?_;repeat' first|refine st ?_|refine ob ?_|refine ob1 ?_|refine cT ?_|refine cF ?_|refine zC ?_|refine cX (fun _=>?_) fun _=>?_|fail
  refine vR (clone_reg (hr.row _) hlo (regC_one hr) (by omega)) ?_
  rintro v h2 n2 ⟨ho,ht⟩
  have hn2:=ht.le;have r2:=ho.row (by decide);have o1:=yZ ho;repeat' first|refine st ?_|refine ob ?_|refine ob1 ?_|refine cT ?_|refine cF ?_|refine zC ?_|refine cX (fun _=>?_) fun _=>?_|fail
  refine lpR (fun i:Nat=>[(0,v),(7,I64 l.length),(8,I64 i)]) (fun i h' n'=>Tch [] h n h' n'∧i≤l.length∧∃l':List RegT,l'.length=l.length∧OwnE n n' h' v 102 4 l.length (l'.flatMap regC)∧∀j,i≤j→l'[j]? = l[j]?) (fun i=>l.length - i) 0 (by repeat' first|exact trivial|refine⟨rfl,?_⟩) ⟨ht,Nat.zero_le _,l,rfl,ho,fun _ _=>rfl⟩ ?_;clear r2 ho
  rintro i t h' n' ⟨ht',hi,l',hl',ho,hsame⟩
  have hn':=ht'.le;by_cases hlt:i<l.length
  · have c0:l[i]? = some l[i]:=List.getElem?_eq_getElem hlt;generalize l[i]=x at c0
    have c0':l'[i]? = some x:=by rw[hsame i (Nat.le_refl _)];exact c0
    have hx:=List.mem_of_getElem? c0;have ho:=ownE_pos ho (by omega);obtain⟨bb,rfl,hb1,hb2⟩:=own_head ho (by omega);have y3:zD h' bb (i*4+3)=some x.sv:=own_at ho (by decide) (uN (f:=regC) (sz:=4) (fun _=>rfl) c0' (j:=3) rfl);have iad:=iadO (sz:=4) (b:=bb) (cap:=inf) hlt;have hxo:=((hr.sub hx).row 0).one;repeat' first|refine ob (a:=ptr bb (i*4)) ?_ iad|refine st ?_|refine ob ?_|refine ob1 ?_|refine cT ?_|refine cF ?_|refine zC ?_|refine cX (fun _=>?_) fun _=>?_|fail
    refine vR (ih (hs2 x hx) (RegsM.tch ht' hlo (hr.sub hx)) (by omega)) ?_
    rintro v2 h3 n3 ⟨o2,t3⟩
    have hn3:=t3.le;have ho3:=ho.tch t3 (by simp);have hvl:i*4+3<(l'.flatMap regC).length:=by rw[flat_len (f:=regC) (sz:=4) (fun _=>rfl)];omega
    repeat' first|refine ob (a:=ptr bb (i*4)) ?_ iad|refine ob (a:=hst _ bb (i*4+3) [v2]) ?_ (stp_own ho3 rfl hvl o2)|refine st ?_|refine ob ?_|refine ob1 ?_|refine cT ?_|refine cF ?_|refine zC ?_|refine cX (fun _=>?_) fun _=>?_|fail
    have hp:=own_put (x:=v2) ho3 rfl hvl;rw [flat_set (f:=regC) (sz:=4) (y:=.mk x.name x.w x.a v2 x.subs) (fun _=>rfl) (by decide) rfl c0']at hp;exact⟨i+1,(by dsimp only;omega),(by repeat' first|exact trivial|refine⟨rfl,?_⟩),zA,by omega,_,by rw[List.length_set];exact hl',.inl hp,fun j hj=>by rw[List.getElem?_set_ne (by omega)];exact hsame j (by omega)⟩
  · obtain rfl:i=l.length:=by omega
    repeat' first|refine st ?_|refine ob ?_|refine ob1 ?_|refine cT ?_|refine cF ?_|refine zC ?_|refine cX (fun _=>?_) fun _=>?_|fail
    exact⟨_,rfl,o1,zA⟩
end Go.Proofs.YtcmohelnoldfbaaGreat
namespace Go.Ex.M
theorem nodup_at{l:List Tx}{i j:Nat}{x:Tx}(hn:l.Nodup)(hi:l[i]? = some x)(hj:l[j]? = some x):i=j:=by
 have h1:=(List.getElem?_eq_some_iff.1 hi).1;exact(List.getElem?_inj h1 hn).1 (hi.trans hj.symm)
def numL(l:List Tx):List (Tx×Value):=l.zipIdx.map fun p=>(p.1,I64 (p.2:Nat))
theorem numL_snoc{l:List Tx}{i:Nat}{x:Tx}(h:l[i]? = some x):numL (l.take (i+1))=numL (l.take i)++[(x,I64 (i:Nat))]:=by
 have hl:i<l.length:=(List.getElem?_eq_some_iff.1 h).1;unfold numL;rw [List.take_add_one,h];rw [List.zipIdx_append,List.map_append,List.length_take,Nat.min_eq_left (by omega)];simp
theorem numL_key{l:List Tx}{p:Tx×Value}(h:p∈numL l):p.1∈l:=by
 unfold numL at h;obtain⟨q,hq,rfl⟩:=List.mem_map.1 h;obtain⟨a,b⟩:=q;have:=List.mem_zipIdx hq;obtain⟨_,_,e⟩:=this;show a∈l;rw [e];exact List.getElem_mem _
theorem rE{l:List Tx}{i:Nat}{x:Tx}(h:l[i]? = some x)(hn:l.Nodup):∃A B,numL l=A++(x,I64 (i:Nat))::B∧∀p∈A,p.1≠x:=by
 have hl:i<l.length:=(List.getElem?_eq_some_iff.1 h).1;have e:l=l.take (i+1)++l.drop (i+1):=(List.take_append_drop _ _).symm;refine⟨numL (l.take i),(l.drop (i+1)).zipIdx (i+1) |>.map fun p=>(p.1,I64 (p.2:Nat)),?_,fun p hp hx=>?_⟩
 · have h1:=numL_snoc h
   have h2:numL l=numL (l.take (i+1))++((l.drop (i+1)).zipIdx (i+1)).map fun p=>(p.1,I64 (p.2:Nat)):=by
    conv=>lhs;rw [e]
    unfold numL;rw [List.zipIdx_append,List.map_append,List.length_take,Nat.min_eq_left (by omega)];simp
   rw[h2,h1,List.append_assoc];rfl
 · have h3:=numL_key hp;rw [hx]at h3;obtain⟨j,hj⟩:=List.mem_iff_getElem?.1 h3;have hj2:j<i:=by have:=(List.getElem?_eq_some_iff.1 hj).1;rw [List.length_take]at this;omega
   rw[List.getElem?_take_of_lt hj2]at hj;have:=nodup_at hn hj h;omega
theorem take_map{α β : Type}{f: α→β}{l:List α}{i:Nat}{x: α}(h:l[i]? = some x):(l.take (i+1)).map f=(l.take i).map f++[f x]:=by
 rw[List.take_add_one,h];simp
theorem idx_at{l:List Tx}{x:Tx}(h:x∈l):l[l.idxOf x]? = some x:=by
 have h1:=List.idxOf_lt_length_iff.2 h;rw [List.getElem?_eq_getElem h1,List.getElem_idxOf h1]
end Go.Ex.M
namespace Go.Proofs.YtcmohelnoldfbaaGreat
open Go Go.Ex Go.Ex.M
set_option maxRecDepth 100000
set_option maxHeartbeats 8000000
theorem numbered_ret{lo e n:Nat}{h:zB}{sv:Value}{l:List Tx}(r:Row lo h sv e 1 l.length (l.map str))(hlo:lo≤n)(hl:l.length<inf)(hn:l.Nodup):Ret P 0 39 [sv] h n fun v h' n'=>∃b,v = .map (some b)∧n≤b∧b<n'∧MpS h' b (numL l)∧Tch [] h n h' n':=by
 have hinf:inf<4611686018427387904:=by decide
 have rl:=r.low;refine ent fun u=>?_;repeat' first|refine st ?_|refine ob ?_|refine ob1 ?_|refine cT ?_|refine cF ?_|refine zC ?_|refine cX (fun _=>?_) fun _=>?_|fail
 refine lpR (fun i:Nat=>[(3,.map (some n)),(7,sv),(8,I64 l.length),(9,I64 i)]) (fun i h' n'=>Tch [] h n h' n'∧n<n'∧MpS h' n (numL (l.take i))∧i≤l.length) (fun i=>l.length - i) 0 (by repeat' first|exact trivial|refine⟨rfl,?_⟩) ⟨zA,by omega,mps_new,Nat.zero_le _⟩ ?_
 rintro i t h' n' ⟨ht,hn',hm,hi⟩
 have r':=r.tch ht hlo fun _ _ hx=>(by cases hx);by_cases hlt:i<l.length
 · have c0:l[i]? = some l[i]:=List.getElem?_eq_getElem hlt;generalize l[i]=x at c0
   have c1:=yX r' c0
   obtain⟨o,ms,hm2⟩:=mset_new (P:=P) (ty:=88) (v:=I64 (i:Nat)) (x:=x) hm fun p hp hx=>by
    have h3:=numL_key hp;rw [hx]at h3;obtain⟨j,hj⟩:=List.mem_iff_getElem?.1 h3;have hj2:j<i:=by have:=(List.getElem?_eq_some_iff.1 hj).1;rw [List.length_take]at this;omega
    rw[List.getElem?_take_of_lt hj2]at hj;have:=nodup_at hn hj c0;omega
   repeat' first|refine st ?_|refine ob ?_|refine ob1 ?_|refine cT ?_|refine cF ?_|refine zC ?_|refine cX (fun _=>?_) fun _=>?_|fail
   exact⟨i+1,(by dsimp only;omega),(by repeat' first|exact trivial|refine⟨rfl,?_⟩),zA,hn',by rw[numL_snoc c0];exact hm2,by omega⟩
 · obtain rfl:i=l.length:=by omega
   repeat' first|refine st ?_|refine ob ?_|refine ob1 ?_|refine cT ?_|refine cF ?_|refine zC ?_|refine cX (fun _=>?_) fun _=>?_|fail
   rw[List.take_length]at hm;exact⟨_,rfl,n,rfl,Nat.le_refl _,hn',hm,ht⟩
theorem wY{lo e n bt br:Nat}{h:zB}{sv:Value}{l ns:List Tx}(r:Row lo h sv e 1 l.length (l.map str))(hlo:lo≤n)(hl:l.length<100000)(hb:bt<n)(hbr:br<n)(ct:zD h bt 10=some (.map (some br)))(mp:MpS h br (numL ns))(hns:ns.Nodup)(hin:∀x∈l,x∈ns):Ret P 0 40 [ptr bt 0,sv] h n fun v h' n'=>Own n n' h' v 3 1 l.length (l.map fun x=>I64 (ns.idxOf x:Nat))∧Tch [] h n h' n':=by
 have rl:=r.low;refine ent fun u=>?_;repeat' first|refine st ?_|refine ob ?_|refine ob1 ?_|refine cT ?_|refine cF ?_|refine zC ?_|refine cX (fun _=>?_) fun _=>?_|fail
 refine lpR (α :=Nat×Value) (fun a=>[(0,ptr bt 0),(5,a.2),(8,sv),(9,I64 l.length),(10,I64 a.1)]) (fun a h' n'=>Tch [] h n h' n'∧a.1≤l.length∧Own n n' h' a.2 3 1 a.1 ((l.take a.1).map fun x=>I64 (ns.idxOf x:Nat))) (fun a=>l.length - a.1) (0,.slice none 0 0) (by repeat' first|exact trivial|refine⟨rfl,?_⟩) ⟨zA,Nat.zero_le _,Own.nil⟩ ?_
 rintro ⟨i,ov⟩ t h' n' ⟨ht,hi,ho⟩
 dsimp only at hi ho ⊢;have hn':=ht.le;have r':=r.tch ht hlo fun _ _ hx=>(by cases hx);have ct':zD h' bt 10=some (.map (some br)):=cat_tch ht hb (by simp) ct;have mp':=mp.tch ht hbr (by simp);by_cases hlt:i<l.length
 · have c0:l[i]? = some l[i]:=List.getElem?_eq_getElem hlt;generalize l[i]=x at c0
   have c1:=yX r' c0;have hx:=hin x (List.mem_of_getElem? c0);obtain⟨A,B,e1,e2⟩:=rE (idx_at hx) hns;rw [e1]at mp';have lk:=lku_at (P:=P) (ty:=88) (ok:=false) mp' e2;have lk2:yV P h' 88 (.map (some br)) (str x) false=some (I64 (ns.idxOf x:Nat)):=lk;repeat' first|refine st ?_|refine ob ?_|refine ob1 ?_|refine cT ?_|refine cF ?_|refine zC ?_|refine cX (fun _=>?_) fun _=>?_|fail
   refine appO (ho.tch (S:=[]) zA (by simp)) (zS (e:=3) (sz:=1) (len:=1) rfl (by decide)) (by omega) ⟨rfl,trivial⟩ (by omega) ?_
   rintro v' h3 n3 ho3 ht3
   have ht4:Tch [] h n h3 n3:=Tch.tch ht3 zA fun x hx=>.inl (by
    cases hb:zN ov with
    | none=>rw [hb]at hx;cases hx
    | some b=>rw [hb]at hx;simp at hx;subst hx;exact(ho.blk hb).1)
   repeat' first|refine st ?_|refine ob ?_|refine ob1 ?_|refine cT ?_|refine cF ?_|refine zC ?_|refine cX (fun _=>?_) fun _=>?_|fail
   exact⟨(i+1,v'),(by dsimp only;omega),(by repeat' first|exact trivial|refine⟨rfl,?_⟩),ht4,by omega,by rw[take_map c0];exact ho3⟩
 · obtain rfl:i=l.length:=by omega
   repeat' first|refine st ?_|refine ob ?_|refine ob1 ?_|refine cT ?_|refine cF ?_|refine zC ?_|refine cX (fun _=>?_) fun _=>?_|fail
   rw[List.take_length]at ho;exact⟨_,rfl,ho,ht⟩
end Go.Proofs.YtcmohelnoldfbaaGreat
namespace Go.Proofs.YtcmohelnoldfbaaGreat
open Go Go.Ex Go.Ex.M
set_option maxRecDepth 100000
set_option maxHeartbeats 8000000
abbrev zW:Nat:=161+1
abbrev eAr:Nat:=158
abbrev WayM:=Pl×Value×List Pl
abbrev wayC(x:WayM):List Value:=[I64 x.1.root,I64 x.1.at_,I64 x.1.width,x.2.1]
def Kp(n0 bw br:Nat)(h:zB)(b:Nat):Prop:=b<n0∨(b≠bw∧b≠br∧(xD (zF h b)=none∨∃m z,0<z∧xD (zF h b)=some (m,z,0)))
def KeepR(n0 bw br:Nat)(h:zB)(n:Nat)(h':zB)(n':Nat):Prop:=n≤n'∧∀b,b<n→Kp n0 bw br h b→zF h' b=zF h b
theorem KeepR.refl(n0 bw br:Nat)(h:zB)(n:Nat):KeepR n0 bw br h n h n:=⟨Nat.le_refl _,fun _ _ _=>rfl⟩
theorem KeepR.step{S:List Nat}{n0 bw br n n1 n2:Nat}{h h1 h2:zB}(k:KeepR n0 bw br h n h1 n1)(t:Tch S h1 n1 h2 n2)(hS:∀b∈S,¬Kp n0 bw br h1 b):KeepR n0 bw br h n h2 n2:=⟨Nat.le_trans k.1 t.1,fun b hb hc=>by
 have e:=k.2 b hb hc;rw [t.2 b (by have:=k.1;omega) fun hx=>?_,e];refine hS b hx ?_;unfold Kp at hc ⊢;rw [e];exact hc⟩
theorem kp_bw{n0 bw br:Nat}{h:zB}(hb:n0≤bw):¬Kp n0 bw br h bw:=fun k=>by
 rcases k with k|⟨k,_⟩
 · omega
 · exact k rfl
theorem kp_br{n0 bw br:Nat}{h:zB}(hb:n0≤br):¬Kp n0 bw br h br:=fun k=>by
 rcases k with k|⟨_,k,_⟩
 · omega
 · exact k rfl
theorem own_info{n0 bw br n:Nat}{h:zB}{v:Value}{e sz len:Nat}{vs:List Value}(o:Own n0 n h v e sz len vs):∀b∈(zN v).toList,¬Kp n0 bw br h b:=fun b hb k=>by
 rcases o with⟨rfl,_⟩|⟨b2,q1,q2,rfl,p3,_⟩
 · cases hb
 have hb:b∈(some b2).toList:=hb;simp at hb;subst hb;rcases k with k|⟨_,_,k|⟨m,z,_,k⟩⟩
 · omega
 · rw[p3]at k;cases k
 · rw[p3]at k;exact absurd (kd_of k) (by decide)
theorem way_info{n0 bw br n:Nat}{h:zB}{v:Value}{e sz len:Nat}{vs:List Value}(w:WayR n0 n h v e sz len vs):∀b∈(zN v).toList,¬Kp n0 bw br h b:=fun b hb k=>by
 obtain⟨b2,m,z,kd,cap,h1,h2,rfl,h3,_,_,_,h7⟩:=w;have hb:b∈(some b2).toList:=hb;simp at hb;subst hb;rcases k with k|⟨_,_,k|⟨m',z',hz,k⟩⟩
 · omega
 · rw[h3]at k;cases k
 · rw[h3]at k;injection k with k
   injection k with _ k
   injection k with k1 k2
   rcases h7 with⟨_,rfl,_⟩|⟨rfl,_⟩
   · omega
   · cases k2
theorem way_own{lo lo' n n':Nat}{h:zB}{v v':Value}{e sz len e' sz' len':Nat}{vs vs':List Value}(w:WayR lo n h v e sz len vs)(o:Own lo' n' h v' e' sz' len' vs')(hne:e≠e'∨sz≠sz'):Dj v v':=fun b hb e2=>by
 obtain⟨b2,m,z,kd,cap,h1,h2,rfl,h3,_,_,_,h7⟩:=w;injection hb with hb
 have hb:b2=b:=hb;subst hb;rcases o with⟨rfl,_⟩|⟨b3,_,_,rfl,p3,_⟩
 · cases e2
 injection e2 with e2
 have e2:b3=b2:=e2;subst e2;rw [h3]at p3;injection p3 with p3
 injection p3 with _ p3
 injection p3 with p3 p4
 rcases h7 with⟨rfl,_⟩|⟨_,_,rfl⟩
 · cases p4
 · obtain⟨a,b⟩:=zc_inj p3;omega
theorem way_cel{lo n b z:Nat}{h:zB}{v:Value}{e sz len:Nat}{vs ws:List Value}(w:WayR lo n h v e sz len vs)(c:Cel h b z 0 ws)(hz:0<z):zN v≠some b:=fun hb=>by
 obtain⟨b2,m,z',kd,cap,h1,h2,rfl,h3,_,_,_,h7⟩:=w;injection hb with hb
 have hb:b2=b:=hb;subst hb;rw [c.1]at h3;injection h3 with h3
 injection h3 with _ h3
 injection h3 with h3 h4
 rcases h7 with⟨_,rfl,_⟩|⟨rfl,_⟩
 · omega
 · cases h4
theorem sK{lo n b:Nat}{h:zB}{v:Value}{e sz len:Nat}{vs:List Value}{l:List (List UInt8×Value)}(m:MpS h b l)(o:Own lo n h v e sz len vs):b∉(zN v).toList:=fun hx=>by
 obtain⟨es,clock,m,_⟩:=m;rcases o with⟨rfl,_⟩|⟨b2,_,_,rfl,p3,_⟩
 · cases hx
 have hx:b∈(some b2).toList:=hx;simp at hx;subst hx;rw [m]at p3;cases p3
theorem xB{b b' z kd:Nat}{h:zB}{vs:List Value}{l:List (List UInt8×Value)}(m:MpS h b l)(c:Cel h b' z kd vs):b≠b':=by
 rintro rfl
 obtain⟨es,clock,m,_⟩:=m;have:=c.1;rw [m]at this;cases this
theorem map_way{lo n b:Nat}{h:zB}{v:Value}{e sz len:Nat}{vs:List Value}{l:List (List UInt8×Value)}(m:MpS h b l)(w:WayR lo n h v e sz len vs):zN v≠some b:=fun hb=>by
 obtain⟨es,clock,m,_⟩:=m;obtain⟨b2,m',z',kd,cap,h1,h2,rfl,h3,_⟩:=w;injection hb with hb
 have hb:b2=b:=hb;subst hb;rw [m]at h3;cases h3
theorem no_of{v:Value}{b:Nat}(h:zN v≠some b):b∉(zN v).toList:=fun hx=>by
 cases e:zN v with
 | none=>rw [e]at hx;cases hx
 | some c=>rw [e]at hx h;simp at hx;subst hx;exact h rfl
theorem yQ{v:Value}{b0:Nat}(h:b0∉(zN v).toList):∀b,zN v=some b→b∉[b0]:=fun b hb hx=>by
 simp at hx;subst hx;exact h (by rw[hb];simp)
theorem way_put{lo n i:Nat}{h:zB}{v x:Value}{e sz len bb cap:Nat}{vs:List Value}(w:WayR lo n h v e sz len vs)(hv:v = .slice (some ⟨bb,0,none⟩) len cap)(hi:i<vs.length)(_hx:x.oneCell'=true):WayR lo n (hst h bb i [x]) v e sz len (vs.set i x):=by
 obtain⟨b2,m,z,kd,cap',h1,h2,rfl,h3,h4,h5,h6,h7⟩:=w;injection hv with hv1 _ hv2
 injection hv1 with hv1
 injection hv1 with hv1 _
 subst hv1 hv2;have hk:kd≠3:=by rcases h7 with⟨rfl,_⟩|⟨rfl,_⟩ <;> decide
 refine⟨b2,m,z,kd,cap',h1,h2,rfl,by rw[xG,if_pos rfl,sV];exact h3,by rw[List.length_set];exact h4,by rw[List.length_set];exact h5,fun j hj=>?_,h7⟩;rw [List.length_set]at hj;unfold zD;rw [xG,if_pos rfl,cellOf_stC _ _ _ h3 (by simp;omega) hk];by_cases e:i=j
 · subst e;rw [if_pos (by simp),Nat.sub_self,List.getElem?_set_self hj];rfl
 · rw[if_neg (by simp;omega),List.getElem?_set_ne e];exact h6 j hj
theorem stp_way{lo n i:Nat}{h:zB}{v x:Value}{e sz len bb cap:Nat}{vs:List Value}(w:WayR lo n h v e sz len vs)(hv:v = .slice (some ⟨bb,0,none⟩) len cap)(hi:i<vs.length)(hx:x.oneCell'=true):StP h (ptr bb i) [x] (hst h bb i [x]):=by
 obtain⟨b2,m,z,kd,cap',h1,h2,rfl,h3,h4,h5,h6,h7⟩:=w;injection hv with hv1 _ hv2
 injection hv1 with hv1
 injection hv1 with hv1 _
 subst hv1 hv2;exact⟨b2,i,m,z,kd,rfl,h3,by rcases h7 with⟨rfl,_⟩|⟨rfl,_⟩ <;> exact⟨by decide,by decide⟩,by simp;omega,fun y hy=>by simp at hy;subst hy;exact hx,rfl⟩
structure Gw (n0:Nat) (h:zB) (n bw br:Nat) (cs:List Value) (nsv psv wsv:Value) (ns ms:List Tx) (ps:List Pl) (wm:List WayM):Prop where
 cel:Cel h bw zW 0 cs
 hb:n0≤bw∧bw<n∧n0≤br∧br<n
 on:Own n0 n h nsv rD 1 ns.length (ns.map str)
 op:Own n0 n h psv ePl 3 ps.length (ps.flatMap plC)
 mp:MpS h br (numL ms)
 ow:WayR n0 n h wsv eAr 4 wm.length (wm.flatMap wayC)
 oi:∀(i:Nat) x,wm[i]? = some x→Own n0 n h x.2.1 ePl 3 x.2.2.length (x.2.2.flatMap plC)
 dj:∀(i:Nat) x,wm[i]? = some x→Dj x.2.1 psv
 dd:∀(i j:Nat) x y,i≠j→wm[i]? = some x→wm[j]? = some y→Dj x.2.1 y.2.1
section
variable {n0 n n' bw br:Nat} {h h':zB} {cs cs':List Value} {nsv psv wsv v':Value} {ns ms:List Tx} {ps:List Pl} {wm:List WayM}
theorem Gw.tch(g:Gw n0 h n bw br cs nsv psv wsv ns ms ps wm)(t:Tch [] h n h' n'):Gw n0 h' n' bw br cs nsv psv wsv ns ms ps wm:=by
 obtain⟨b1,b2,b3,b4⟩:=g.hb;have:=t.le;exact⟨g.cel.tch t b2 (by simp),⟨b1,by omega,b3,by omega⟩,g.on.tch t (by simp),g.op.tch t (by simp),g.mp.tch t b4 (by simp),g.ow.tch t (by simp),fun i x hx=>(g.oi i x hx).tch t (by simp),g.dj,g.dd⟩
theorem Gw.own(g:Gw n0 h n bw br cs nsv psv wsv ns ms ps wm)(t:Tch [bw] h n h' n')(c:Cel h' bw zW 0 cs'):Gw n0 h' n' bw br cs' nsv psv wsv ns ms ps wm:=by
 obtain⟨b1,b2,b3,b4⟩:=g.hb;have:=t.le;have hc:=g.cel;exact⟨c,⟨b1,by omega,b3,by omega⟩,g.on.tch t (yQ (yE hc g.on)),g.op.tch t (yQ (yE hc g.op)),g.mp.tch t b4 (by simpa using xB g.mp hc),g.ow.tch t (yQ (no_of (way_cel g.ow hc (by decide)))),fun i x hx=>(g.oi i x hx).tch t (yQ (yE hc (g.oi i x hx))),g.dj,g.dd⟩
theorem Gw.cut(g:Gw n0 h n bw br cs nsv psv wsv ns ms ps wm){k:Nat}(w:WayR n0 n h v' eAr 4 k ((wm.flatMap wayC).take (k*4)))(hk:k≤wm.length):Gw n0 h n bw br cs nsv psv v' ns ms ps (wm.take k):=by
 have sub:∀(i:Nat) x,(wm.take k)[i]? = some x→wm[i]? = some x:=fun i x hx=>by
  have:=(List.getElem?_eq_some_iff.1 hx).1;rw [List.length_take]at this
  rwa [List.getElem?_take_of_lt (by omega)]at hx
 have e1:∀(l:List WayM) k,k≤l.length→(l.flatMap wayC).take (k*4)=(l.take k).flatMap wayC:=by
  intro l
  induction l with
  | nil=>intro k hk;simp at hk;subst hk;rfl
  | cons a l ih =>
   intro k hk
   cases k with
   | zero=>rfl
   | succ k=>
    rw[List.flatMap_cons,List.take_succ_cons,List.flatMap_cons,← ih k (by simpa using hk),show(k+1)*4=k*4+4 by omega];rfl
 refine⟨g.cel,g.hb,g.on,g.op,g.mp,?_,fun i x hx=>g.oi i x (sub i x hx),fun i x hx=>g.dj i x (sub i x hx),fun i j x y hij hx hy=>g.dd i j x y hij (sub i x hx) (sub j y hy)⟩;rw [← e1 wm k hk,List.length_take,Nat.min_eq_left hk];exact w
theorem Gw.win(g:Gw n0 h n bw br cs nsv psv wsv ns ms ps wm){dn bb cap:Nat}{x:WayM}{p:Pl}(hx:wm[dn]? = some x)(hv:wsv = .slice (some ⟨bb,0,none⟩) wm.length cap)(o':Own n n' h' v' ePl 3 (x.2.2.length+1) (x.2.2.flatMap plC++plC p))(t:Tch (zN x.2.1).toList h n h' n'):Gw n0 (hst h' bb (dn*4+3) [v']) n' bw br cs nsv psv wsv ns ms ps (wm.set dn (x.1,v',x.2.2++[p])):=by
 obtain⟨b1,b2,b3,b4⟩:=g.hb;have:=t.le;have ox:=g.oi dn x hx;have hbb:zN wsv=some bb:=by rw[hv];rfl
 have hlt:=(List.getElem?_eq_some_iff.1 hx).1;have w1:WayR n0 n' h' wsv eAr 4 wm.length (wm.flatMap wayC):=g.ow.tch t (way_own g.ow ox (.inl (by decide))).no;have c1:Cel h' bw zW 0 cs:=g.cel.app ox t b2;have m1:MpS h' br (numL ms):=g.mp.tch t b4 (sK g.mp ox);have on1:=g.on.tch t (tN g.on ox (.inl (by decide))).no;have op1:=g.op.tch t (g.dj dn x hx).comm.no;have t2:Tch [bb] h' n' (hst h' bb (dn*4+3) [v']) n':=Tch.hst (Tch.refl _ _ _) (.inr (by simp));have nb:∀{lo v e sz len vs},Own lo n' h' v e sz len vs→(eAr≠e∨4≠sz)→∀b,zN v=some b→b∉[bb]:=fun o hne=>yQ (no_of (fun e=>way_own w1 o hne bb hbb e));have o2:Own n0 n' h' v' ePl 3 (x.2.2.length+1) (x.2.2.flatMap plC++plC p):=o'.dnl (by omega);have oi1:∀(i:Nat) y,i≠dn→wm[i]? = some y→Own n0 n' h' y.2.1 ePl 3 y.2.2.length (y.2.2.flatMap plC):=fun i y hi hy=>(g.oi i y hy).tch t (g.dd i dn y x hi hy hx).no
 have hset:∀(l:List WayM) d,d<l.length→(l.flatMap wayC).set (d*4+3) v'=(l.set d ((l[d]?.getD (⟨0,0,0⟩,v',[])).1,v',x.2.2++[p])).flatMap wayC:=by
  intro l
  induction l with
  | nil=>intro d hd;cases hd
  | cons a l ih =>
   intro d hd
   cases d with
   | zero=>rfl
   | succ d=>
    rw[List.flatMap_cons,show(d+1)*4+3=(d*4+3)+4 by omega,List.set_cons_succ,List.flatMap_cons,List.getElem?_cons_succ,← ih d (by simpa using hd)];rfl
 have hwl:(wm.flatMap wayC).length=wm.length*4:=flat_len (f:=wayC) (sz:=4) (fun _=>rfl) wm;have w2:=way_put w1 hv (i:=dn*4+3) (x:=v') (by rw[hwl];omega) o2.one;rw [hset wm dn hlt,hx]at w2;refine⟨c1.hst (fun e=>way_cel w1 c1 (by decide) (by rw[hbb,e])),⟨b1,by omega,b3,by omega⟩,on1.tch t2 (nb on1 (.inl (by decide))),op1.tch t2 (nb op1 (.inl (by decide))),m1.tch t2 (by omega) (by simp;rintro rfl;exact map_way m1 w1 hbb),by rw[List.length_set];exact w2,fun i y hy=>?_,fun i y hy=>?_,fun i j y z hij hy hz=>?_⟩
 · rw[List.getElem?_set]at hy;split at hy
   · cases hy
     show Own n0 n' _ v' ePl 3 (x.2.2++[p]).length ((x.2.2++[p]).flatMap plC);rw [List.length_append,List.flatMap_append];exact o2.tch t2 (nb o2 (.inl (by decide)))
   · rename_i hne;have:=oi1 i y (fun e=>hne e.symm) hy;exact this.tch t2 (nb this (.inl (by decide)))
 · rw[List.getElem?_set]at hy;split at hy
   · cases hy
     exact(vE g.op o').comm
   · exact g.dj i y hy
 · rw[List.getElem?_set]at hy hz;split at hy
   · cases hy
     split at hz
     · exact absurd (by omega) hij
     · exact(vE (g.oi j z hz) o').comm
   · split at hz
     · cases hz
       exact vE (g.oi i y hy) o'
     · exact g.dd i j y z hij hy hz
theorem Gw.map(g:Gw n0 h n bw br cs nsv psv wsv ns ms ps wm){o:AObj}{ms':List Tx}(m:MpS (hal h br o) br (numL ms')):Gw n0 (hal h br o) n bw br cs nsv psv wsv ns ms' ps wm:=by
 obtain⟨b1,b2,b3,b4⟩:=g.hb;have t:Tch [br] h n (hal h br o) n:=(Tch.refl _ _ _).upd (.inr (by simp));exact⟨g.cel.tch t b2 (by simpa using (xB g.mp g.cel).symm),g.hb,g.on.tch t (yQ (sK g.mp g.on)),g.op.tch t (yQ (sK g.mp g.op)),m,g.ow.tch t (yQ (no_of (map_way g.mp g.ow))),fun i x hx=>(g.oi i x hx).tch t (yQ (sK g.mp (g.oi i x hx))),g.dj,g.dd⟩
theorem Gw.nm(g:Gw n0 h n bw br cs nsv psv wsv ns ms ps wm){x:Tx}(o':Own n n' h' v' rD 1 (ns.length+1) (ns.map str++[str x]))(t:Tch (zN nsv).toList h n h' n'):Gw n0 h' n' bw br cs v' psv wsv (ns++[x]) ms ps wm:=by
 obtain⟨b1,b2,b3,b4⟩:=g.hb;have:=t.le;exact⟨g.cel.app g.on t b2,⟨b1,by omega,b3,by omega⟩,by rw[List.length_append,List.map_append];exact o'.dnl (by omega),g.op.tch t (tN g.op g.on (.inl (by decide))).no,g.mp.tch t b4 (sK g.mp g.on),g.ow.tch t (way_own g.ow g.on (.inl (by decide))).no,fun i x hx=>(g.oi i x hx).tch t (tN (g.oi i x hx) g.on (.inl (by decide))).no,g.dj,g.dd⟩
theorem Gw.pl(g:Gw n0 h n bw br cs nsv psv wsv ns ms ps wm){p:Pl}(o':Own n n' h' v' ePl 3 (ps.length+1) (ps.flatMap plC++plC p))(t:Tch (zN psv).toList h n h' n'):Gw n0 h' n' bw br cs nsv v' wsv ns ms (ps++[p]) wm:=by
 obtain⟨b1,b2,b3,b4⟩:=g.hb;have:=t.le;exact⟨g.cel.app g.op t b2,⟨b1,by omega,b3,by omega⟩,g.on.tch t (tN g.on g.op (.inl (by decide))).no,by rw[List.length_append,List.flatMap_append];exact o'.dnl (by omega),g.mp.tch t b4 (sK g.mp g.op),g.ow.tch t (way_own g.ow g.op (.inl (by decide))).no,fun i x hx=>(g.oi i x hx).tch t (g.dj i x hx).no,fun i x hx=>vE (g.oi i x hx) o',g.dd⟩
theorem Gw.way(g:Gw n0 h n bw br cs nsv psv wsv ns ms ps wm){p:Pl}(w:WayR n0 n' h' v' eAr 4 (wm.length+1) (wm.flatMap wayC++(plC p++[.slice none 0 0])))(t:Tch (zN wsv).toList h n h' n'):Gw n0 h' n' bw br cs nsv psv v' ns ms ps (wm++[(p,.slice none 0 0,[])]):=by
 obtain⟨b1,b2,b3,b4⟩:=g.hb;have:=t.le;have no:∀{lo v e sz len vs},Own lo n h v e sz len vs→(eAr≠e∨4≠sz)→∀b,zN v=some b→b∉(zN wsv).toList:=fun o hne=>(way_own g.ow o hne).comm.no
 have cs2:∀(i:Nat) x,(wm++[(p,Value.slice none 0 0,([]:List Pl))])[i]? = some x→wm[i]? = some x∨(i=wm.length∧x=(p,.slice none 0 0,[])):=fun i x hx=>by
  rw[List.getElem?_append]at hx;split at hx
  · exact .inl hx
  · rename_i hge
    have:i - wm.length=0:=by
     rcases Nat.eq_zero_or_pos (i - wm.length) with h9|h9
     · exact h9
     · rw[List.getElem?_eq_none (by simp;omega)]at hx;cases hx
    rw[this]at hx;exact .inr ⟨by omega,(Option.some.inj hx).symm⟩
 refine⟨g.cel.tch t b2 (no_of (way_cel g.ow g.cel (by decide))),⟨b1,by omega,b3,by omega⟩,g.on.tch t (no g.on (.inl (by decide))),g.op.tch t (no g.op (.inl (by decide))),g.mp.tch t b4 (no_of (map_way g.mp g.ow)),by rw[List.length_append,List.flatMap_append];exact w,fun i x hx=>?_,fun i x hx=>?_,fun i j x y hij hx hy=>?_⟩
 · rcases cs2 i x hx with hx|⟨_,rfl⟩
   · exact(g.oi i x hx).tch t (no (g.oi i x hx) (.inl (by decide)))
   · exact Own.nil
 · rcases cs2 i x hx with hx|⟨_,rfl⟩
   · exact g.dj i x hx
   · exact Dj.nil _
 · rcases cs2 i x hx with hx|⟨h1,rfl⟩
   · rcases cs2 j y hy with hy|⟨h2,rfl⟩
     · exact g.dd i j x y hij hx hy
     · exact(Dj.nil _).comm
   · exact Dj.nil _
end
abbrev zDp:Nat:=166+1
abbrev tMap:Nat:=87
theorem way_sl{lo n:Nat}{h:zB}{v:Value}{e sz len:Nat}{vs:List Value}(w:WayR lo n h v e sz len vs):∃bb cap,v = .slice (some ⟨bb,0,none⟩) len cap∧lo≤bb∧bb<n:=by
 obtain⟨b,m,z,kd,cap,h1,h2,rfl,_⟩:=w;exact⟨b,cap,rfl,h1,h2⟩
theorem iadw{dn b len cap:Nat}(h:dn<len):Iad 4 (.slice (some ⟨b,0,none⟩) len cap) (I64 (((dn+1:Nat):Int) - 1)) (ptr b (dn*4)):=⟨b,0,len,cap,.i64,dn,rfl,by rw[show((dn+1:Nat):Int) - 1=(dn:Nat) by omega];rfl,h,by rw[Nat.zero_add]⟩
theorem numL_app{l:List Tx}{x:Tx}:numL (l++[x])=numL l++[(x,I64 (l.length:Nat))]:=by
 have h1:(l++[x])[l.length]? = some x:=by rw[List.getElem?_append_right (Nat.le_refl _),Nat.sub_self];rfl
 have:=numL_snoc h1
 rwa [List.take_of_length_le (by simp),List.take_left']at this
 rfl
theorem way_back{lo n n':Nat}{h h':zB}{v:Value}{e sz len:Nat}{vs:List Value}(w:WayR lo n' h' v e sz len vs)(hk:∀b,zN v=some b→b<n∧zF h b=zF h' b):WayR lo n h v e sz len vs:=by
 obtain⟨b,m,z,kd,cap,h1,h2,rfl,h3,h4,h5,h6,h7⟩:=w;obtain⟨k1,k2⟩:=hk b rfl;exact⟨b,m,z,kd,cap,h1,k1,rfl,by rw[k2];exact h3,h4,h5,fun i hi=>by unfold zD;rw [k2];exact h6 i hi,h7⟩
theorem way_cell{lo n bb len cap e sz i:Nat}{h:zB}{vs:List Value}{x:Value}(w:WayR lo n h (.slice (some ⟨bb,0,none⟩) len cap) e sz len vs)(hx:vs[i]? = some x):zD h bb i=some x:=by
 obtain⟨b,m,z,kd,cap',h1,h2,hv,h3,h4,h5,h6,h7⟩:=w;injection hv with hv _ _
 injection hv with hv
 injection hv with hv _
 subst hv;rw [h6 i (List.getElem?_eq_some_iff.1 hx).1];exact hx
end Go.Proofs.YtcmohelnoldfbaaGreat
namespace Go.Proofs.YtcmohelnoldfbaaGreat
open Go Go.Ex Go.Ex.M
set_option maxRecDepth 100000
set_option maxHeartbeats 8000000
attribute [local simp] wX
variable {n0 n bw br:Nat} {h:zB} {nsv psv wsv:Value} {ns:List Tx} {ps:List Pl} {wm:List WayM} {roots:Int}
theorem one_com0{x:RegT}{dn:Nat}{top:WayM}(g:Gw n0 h n bw br [nsv,psv,.map (some br),wsv,I64 roots] nsv psv wsv ns ns ps wm)(hd7:dn≤7)(hd0:dn=0)(htop:wm[dn]? = some top)(hroots:dn=0→roots=(top.2.2.length:Nat))(hx:x.sv.oneCell'=true)(hok:GOK ⟨ns,ps⟩)(hpg:0<dn→PlG top.1)(hsib:∀q∈top.2.2,PlG q)(hlim:top.2.2.length≤200)(hwl:wm.length≤10):Com P 0 96 [ptr bw 0,.agg ⟨deepC (x,((dn+1:Nat):Int))⟩] h n fun o h' n'=>KeepR n0 bw br h n h' n'∧
    ((∃e,tR ((dn+1:Nat):Int) top.1 top.2.2 ⟨ns,ps⟩ x = .error e∧o = .panic (stopG e))∨
     ∃p nsv' psv' wsv' v',tR ((dn+1:Nat):Int) top.1 top.2.2 ⟨ns,ps⟩ x = .ok p∧o = .ret (.tuple #[])∧Gw n0 h' n' bw br [nsv',psv',.map (some br),wsv',I64 (if dn=0 then roots+1 else roots)] nsv' psv' wsv' (ns++[x.name]) (ns++[x.name]) (ps++[p]) ((wm.take (dn+1)).set dn (top.1,v',top.2.2++[p])++[(p,.slice none 0 0,[])])):=by
  have hdl:=(List.getElem?_eq_some_iff.1 htop).1;obtain⟨b1,b2,b3,b4⟩:=g.hb;have hcw0:=g.cel;have on1:=g.on.one;have op1:=g.op.one;have rn0:=g.on.row (by decide);have hnl:=hok.le;have hnl:ns.length≤200:=hnl
  have bad:∀e:Int,tR ((dn+1:Nat):Int) top.1 top.2.2 ⟨ns,ps⟩ x = .error e→∀h2 n2,Tch [bw] h n h2 n2→KeepR n0 bw br h n h2 n2∧((∃e',tR ((dn+1:Nat):Int) top.1 top.2.2 ⟨ns,ps⟩ x = .error e'∧Out.panic (stopG e) = .panic (stopG e'))∨
     ∃p nsv' psv' wsv' v',tR ((dn+1:Nat):Int) top.1 top.2.2 ⟨ns,ps⟩ x = .ok p∧Out.panic (stopG e) = .ret (.tuple #[])∧Gw n0 h2 n2 bw br [nsv',psv',.map (some br),wsv',I64 (if dn=0 then roots+1 else roots)] nsv' psv' wsv' (ns++[x.name]) (ns++[x.name]) (ps++[p]) ((wm.take (dn+1)).set dn (top.1,v',top.2.2++[p])++[(p,.slice none 0 0,[])])):=fun e he h2 n2 t2=>
    ⟨(KeepR.refl n0 bw br h n).step t2 fun b hb=>by simp at hb;subst hb;exact kp_bw b1,.inl ⟨e,he,rfl⟩⟩
  have g0:=g.tch (h':=hal h n (mkC (deepC (x,((dn+1:Nat):Int))) zDp 0)) (n':=n+1) zA;refine ent fun u=>?_;by_cases hin:x.name∈ns
  · obtain⟨A,B,e1,e2⟩:=rE (idx_at hin) hok.nd;have mp:=g0.mp;rw [e1]at mp;have lk2:yV P (hal h n (mkC (deepC (x,((dn+1:Nat):Int))) zDp 0)) tMap (.map (some br)) (str x.name) true=some (.tuple ⟨[I64 (ns.idxOf x.name:Nat),.bool true]⟩):=lku_at (P:=P) (ty:=tMap) (ok:=true) mp e2;repeat' first|refine st ?_|refine ob ?_|refine ob1 ?_|refine cT ?_|refine cF ?_|refine zC ?_|refine cX (fun _=>?_) fun _=>?_|fail
    · rename_i f1 f2 f3;exact bad 5 (gOne5 (by omega) (by show ¬200≤ns.length;omega) (.inr hin)) _ _ zA
    · rename_i f1 f2 f3;exact bad 5 (gOne5 (by omega) (by show ¬200≤ns.length;omega) (.inr hin)) _ _ zA
    · exact bad 2 (gOne2 (by omega) (by show 200≤ns.length;omega)) _ _ zA
  have lk2:yV P (hal h n (mkC (deepC (x,((dn+1:Nat):Int))) zDp 0)) tMap (.map (some br)) (str x.name) true=some (.tuple ⟨[I64 0,.bool false]⟩):=lku_no (P:=P) (ty:=tMap) g0.mp fun p hp e=>hin (e ▸ numL_key hp);obtain⟨wsv1,hsl,hcut0,hblk⟩:=way_cut (P:=P) (ty:=159) (k:=dn+1) g0.ow (by omega) (by decide);obtain⟨bb,cap,rfl,hbb1,hbb2⟩:=way_sl hcut0;have hbw:bb≠bw:=fun e=>way_cel hcut0 g0.cel (by decide) (by rw[← e];rfl);have hbn:bb<n:=(g.ow.blk (b:=bb) (by rw[← hblk];rfl)).2
  have hcut:WayR n0 n h (.slice (some ⟨bb,0,none⟩) (dn+1) cap) eAr 4 (dn+1) ((wm.flatMap wayC).take ((dn+1)*4)):=way_back hcut0 fun b hb=>by
    injection hb with hb
    have hb:bb=b:=hb;subst hb;exact⟨hbn,by rw[zO,if_neg (by omega)]⟩
  have htk:(wm.take (dn+1))[dn]? = some top:=by rw[List.getElem?_take_of_lt (Nat.lt_succ_self _)];exact htop
  have ycell:∀(j:Nat) v,(wayC top)[j]? = some v→zD h bb (dn*4+j)=some v:=fun j v hj=>way_cell hcut (by
    rw[List.getElem?_take_of_lt (by have:=(List.getElem?_eq_some_iff.1 hj).1;simp at this;omega)];exact uN (f:=wayC) (sz:=4) (fun _=>rfl) htop hj)
  have y0:zD h bb (dn*4+0+0)=some (I64 top.1.root):=ycell 0 _ rfl;have y1:zD h bb (dn*4+0+1)=some (I64 top.1.at_):=ycell 1 _ rfl;have y2:zD h bb (dn*4+0+2)=some (I64 top.1.width):=ycell 2 _ rfl;have y3:zD h bb (dn*4+3)=some top.2.1:=ycell 3 _ rfl;have qr:=(g.oi dn top htop).row (by decide);clear ycell;have h2e:∀{G:Prop},(¬200≤(⟨ns,ps⟩:GSt).ns.length→G)→ns.length<200→G:=fun k h9=>k (by show ¬200≤ns.length;omega);have hrt:=hroots hd0;repeat' first|refine st ?_|refine ob ?_|refine ob1 ?_|refine cT ?_|refine cF ?_|refine zC ?_|refine cX (fun _=>?_) fun _=>?_|refine ob (a:=ptr bb (dn*4)) ?_ (iadw (by omega))|fail
  all_goals dsimp only at *
  · rename_i f1 hnm f2 f3 f4 f5;have hni:x.name∉ns:=hin;have hwd:¬(x.w<1∨64<x.w∨x.a<0∨(((dn+1:Nat):Int)=1∧x.a≠0)∨(((dn+1:Nat):Int)≠1∧top.1.width - x.w<x.a)):=by omega
    have hw:gPl ((dn+1:Nat):Int) top.1 top.2.2 x=⟨roots,x.a,x.w⟩:=by unfold gPl;rw [if_pos (by omega),hrt]
    have hpG:PlG ⟨roots,x.a,x.w⟩:=by unfold PlG;dsimp only;omega
    have hif:(if dn=0 then roots+1 else roots)=roots+1:=if_pos hd0;refine lpR (fun q:Nat=>[(0,ptr bw 0),(3,ptr n 0),(6,ptr bb (dn*4)),(7,ptr (n+1) 0),(135,top.2.1),(136,I64 (top.2.2.length:Nat)),(137,I64 q)]) (fun q h2 n2=>Tch [bw] h n h2 n2∧n+2≤n2∧Cel h2 n zDp 0 (deepC (x,((dn+1:Nat):Int)))∧Cel h2 (n+1) (ePl+1) 0 (plC (⟨roots,x.a,x.w⟩:Pl))∧Cel h2 bw zW 0 [nsv,psv,.map (some br),.slice (some ⟨bb,0,none⟩) (dn+1) cap,I64 (roots+1)]∧q≤top.2.2.length∧∀(j:Nat) y,j<q→top.2.2[j]? = some y→tJ (⟨roots,x.a,x.w⟩:Pl) y=false) (fun q=>top.2.2.length - q) 0 (by repeat' first|exact trivial|refine⟨rfl,?_⟩) ⟨zA,by omega,zE,zE,zE,Nat.zero_le _,fun j _ hj=>absurd hj (Nat.not_lt_zero _)⟩ ?_;generalize (⟨roots,x.a,x.w⟩:Pl)=p at *
    generalize hrf:(roots+1)=roots' at *
    rintro q t h2 n2 ⟨ht2,hn2,hcr,hcp,hcw,hq,hno⟩
    have ro2:=(g.oi dn top htop).tch ht2 (yQ (yE g.cel (g.oi dn top htop)));have rw2:=ro2.row (by decide);by_cases hlt2:q<top.2.2.length
    · have d0:top.2.2[q]? = some top.2.2[q]:=List.getElem?_eq_getElem hlt2;generalize top.2.2[q]=y at d0
      have d1:=zM rw2 d0;have hly:=rw2.low (by omega);repeat' first|refine st ?_|refine ob ?_|refine ob1 ?_|refine cT ?_|refine cF ?_|refine zC ?_|refine cX (fun _=>?_) fun _=>?_|refine zY (lap_pur _ _ hpG.ok (hsib y (List.mem_of_getElem? d0)).ok _ _) ?_|fail
      · rename_i f1
        exact⟨q+1,(by dsimp only;omega),(by repeat' first|exact trivial|refine⟨rfl,?_⟩),zA,by omega,zV,zV,zV,by omega,fun j w hj e=>by
          rcases Nat.lt_succ_iff_lt_or_eq.1 hj with h9|rfl
          · exact hno j w h9 e
          · rw[d0]at e;cases e;exact f1⟩
      · rename_i f1;exact bad 7 (gOne7 (by omega) (by show ¬200≤ns.length;omega) hnm hni hwd (List.any_eq_true.2 ⟨y,List.mem_of_getElem? d0,by rw[hw];exact f1⟩)) _ _ zA
    · obtain rfl:q=top.2.2.length:=by omega
      have hgo:tR ((dn+1:Nat):Int) top.1 top.2.2 ⟨ns,ps⟩ x = .ok p:=by
        rw[← hw];exact gOneK (by omega) (by show ¬200≤ns.length;omega) hnm hni hwd (by rw[hw];exact any_no fun j y e=>hno j y (List.getElem?_eq_some_iff.1 e).1 e)
      have G2:=(g.cut hcut (by omega)).own ht2 hcw;have htop2:(wm.take (dn+1))[dn]? = some top:=by rw[List.getElem?_take_of_lt (Nat.lt_succ_self _)];exact htop
      have hl2:(wm.take (dn+1)).length=dn+1:=by rw[List.length_take];omega
      have K2:KeepR n0 bw br h n h2 n2:=(KeepR.refl n0 bw br h n).step ht2 fun b hb=>by simp at hb;subst hb;exact kp_bw g.hb.1
      have tA:Tch [] h2 n2 (hal h2 n2 (mkC (plC p) 0 0)) (n2+1):=zA;have GA:=G2.tch tA
      have yA:zD h2 bb (dn*4+3)=some top.2.1:=by
        have:=(G2.ow.row (by decide)).at (uN (f:=wayC) (sz:=4) (fun _=>rfl) htop2 (j:=3) rfl)
        rwa [show sof (.slice (some ⟨bb,0,none⟩) (dn+1) cap)+(dn*4+3)=dn*4+3 from Nat.zero_add _]at this
      have hof:=GA.oi dn top htop2;have hown:=hof.one;clear ht2 ro2 rw2 hno;repeat' first|refine st ?_|refine ob ?_|refine ob1 ?_|refine cT ?_|refine cF ?_|refine zC ?_|refine cX (fun _=>?_) fun _=>?_|fail
      refine appN hof (zS (e:=ePl) (sz:=3) (len:=1) rfl (by decide)) (by decide) ⟨rfl,rfl,rfl,trivial⟩ (by omega) ?_
      rintro v3 h3 n3 o3 ht3
      have hn3:=ht3.le;have w3:=GA.ow.tch ht3 (way_own GA.ow hof (.inl (by decide))).no;rw [hl2]at w3;have hcr3:=(hcr.tch tA (by omega) (by simp)).app hof ht3 (by omega);have hcp3:=(hcp.tch tA (by omega) (by simp)).app hof ht3 (by omega);have hcw3:=GA.cel.app hof ht3 (by have:=GA.hb;omega)
      have yB:zD h3 bb (dn*4+3)=some top.2.1:=by
        have:=(w3.row (by decide)).at (uN (f:=wayC) (sz:=4) (fun _=>rfl) htop2 (j:=3) rfl)
        rwa [show sof (.slice (some ⟨bb,0,none⟩) (dn+1) cap)+(dn*4+3)=dn*4+3 from Nat.zero_add _]at this
      have hfl:((wm.take (dn+1)).flatMap wayC).length=(dn+1)*4:=by rw[flat_len (f:=wayC) (sz:=4) (fun _=>rfl),hl2]
      have ho3:=o3.one;have G3:=GA.win htop2 (by rw[hl2]) o3 ht3;have K3:=(K2.step tA (by simp)).step ht3 (own_info hof);have w3i:=way_info (bw:=bw) (br:=br) w3;have hbr:=G2.hb;have hbb2:bb≠n∧bb≠n+1:=by omega
      repeat' first|refine st ?_|refine ob ?_|refine ob1 ?_|refine cT ?_|refine cF ?_|refine zC ?_|refine cX (fun _=>?_) fun _=>?_|refine ob (a:=hst _ bb (dn*4+3) [v3]) ?_ (stp_way w3 rfl (by omega) ho3)|fail
      have tH:Tch [bb] h3 n3 (hst h3 bb (dn*4+3) [v3]) n3:=zA;have K4:=K3.step tH fun b hb=>by simp at hb;subst hb;exact w3i b (by simp[zN])
      have hcr4:=hcr3.tch tH (by omega) (by simp;omega);have hcp4:=hcp3.tch tH (by omega) (by simp;omega);clear yA yB hcr hcp hcw hcr3 hcp3 hcw3 w3 w3i tA tH GA G2 K2 K3 ht3 o3 hof;generalize hst h3 bb (dn*4+3) [v3]=h4 at *
      have hno':∀p∈numL ns,p.1≠x.name:=fun p hp e=>hni (e ▸ numL_key hp);obtain⟨om,ms,hm2⟩:=mset_new (P:=P) (ty:=tMap) (v:=I64 (ns.length:Nat)) (x:=x.name) G3.mp hno';rw [← numL_app]at hm2;have rn4:=G3.on.row (by decide);have hc4:=G3.cel;have G4:=G3.map hm2;have tM:Tch [br] h4 n3 (hal h4 br om) n3:=(Tch.refl _ _ _).upd (.inr (by simp))
      have K5:=K4.step tM fun b hb=>by
        simp at hb;subst hb;exact kp_br g.hb.2.2.1
      have hcr5:=hcr4.tch tM (by omega) (by simp;omega);have hcp5:=hcp4.tch tM (by omega) (by simp;omega);have hc5:=G4.cel;clear K4 tM G3 hm2;generalize hal h4 br om=h5 at *
      have tB:Tch [] h5 n3 (hal h5 n3 (mkC [str x.name] 0 0)) (n3+1):=zA;have GB:=G4.tch tB;repeat' first|refine st ?_|refine ob ?_|refine ob1 ?_|refine cT ?_|refine cF ?_|refine zC ?_|refine cX (fun _=>?_) fun _=>?_|fail
      refine appN GB.on (zS (e:=rD) (sz:=1) (len:=1) rfl (by decide)) (by decide) ⟨rfl,trivial⟩ (by omega) ?_
      rintro v6 h6 n6 o6 ht6
      have hn6:=ht6.le;have hcr6:=(hcr5.tch tB (by omega) (by simp)).app GB.on ht6 (by omega);have hcp6:=(hcp5.tch tB (by omega) (by simp)).app GB.on ht6 (by omega);have K6:=(K5.step tB (by simp)).step ht6 (own_info GB.on);have G5:=GB.nm o6 ht6;have hc6:=G5.cel;have hps:=G5.op;have tC:Tch [] h6 n6 (hal h6 n6 (mkC (plC p) 0 0)) (n6+1):=zA;have GC:=G5.tch tC;clear ht6 o6 K5;repeat' first|refine st ?_|refine ob ?_|refine ob1 ?_|refine cT ?_|refine cF ?_|refine zC ?_|refine cX (fun _=>?_) fun _=>?_|fail
      refine appN GC.op (zS (e:=ePl) (sz:=3) (len:=1) rfl (by decide)) (by decide) ⟨rfl,rfl,rfl,trivial⟩ (by have:=hok.len;have h9:ps.length=ns.length:=this;omega) ?_
      rintro v7 h7 n7 o7 ht7
      have hn7:=ht7.le;have hcr7:=(hcr6.tch tC (by omega) (by simp)).app GC.op ht7 (by omega);have hcp7:=(hcp6.tch tC (by omega) (by simp)).app GC.op ht7 (by omega);have K7:=(K6.step tC (by simp)).step ht7 (own_info GC.op);have G6:=GC.pl o7 ht7;have hc7:=G6.cel;have ho6:=G6.on.one;have ho7:=G6.op.one;clear ht7 o7 K6;repeat' first|refine st ?_|refine ob ?_|refine ob1 ?_|refine cT ?_|refine cF ?_|refine zC ?_|refine cX (fun _=>?_) fun _=>?_|fail
      have tD:Tch [bw] h7 n7 (hal (hst (hst h7 bw 0 [v6]) bw (0+1) [v7]) n7 (mkC (plC p++[.slice none 0 0]) 0 0)) (n7+1):=zA;have GD:=G6.own (cs':=[v6,v7,.map (some br),.slice (some ⟨bb,0,none⟩) (dn+1) cap,I64 roots']) tD zE;have K8:=K7.step tD fun b hb=>by simp at hb;subst hb;exact kp_bw b1
      have hwl3:((wm.take (dn+1)).set dn (top.1,v3,top.2.2++[p])).length=dn+1:=by rw[List.length_set];exact hl2
      have wD:=GD.ow;rw [hwl3]at wD;refine way_app wD (fun y hy=>?_) (by omega) (zS (e:=eAr) (sz:=4) (len:=1) rfl (by decide)) (by decide) (fun y hy=>by simp at hy;rcases hy with rfl|rfl|rfl|rfl <;> rfl) (by omega) ?_
      · obtain⟨a,ha,hy⟩:=List.mem_flatMap.1 hy;obtain⟨i,hi⟩:=List.mem_iff_getElem?.1 ha;have:=(GD.oi i a hi).one;simp at hy;rcases hy with rfl|rfl|rfl|rfl
        · rfl
        · rfl
        · rfl
        · exact this
      rintro v8 h8 n8 w8 _ ht8
      have hn8:=ht8.le;have hw8:v8.oneCell'=true:=by obtain⟨_,_,rfl,_⟩:=way_sl w8;rfl
      have G8:=GD.way (by rw[hwl3];exact w8) ht8;have K9:=K8.step ht8 (way_info GD.ow);have hc8:=G8.cel;clear ht8 K7 K8;repeat' first|refine st ?_|refine ob ?_|refine ob1 ?_|refine cT ?_|refine cF ?_|refine zC ?_|refine cX (fun _=>?_) fun _=>?_|fail
      have G9:=G8.own (cs':=[v6,v7,.map (some br),v8,I64 roots']) (zA:Tch [bw] h8 n8 (hst h8 bw (0+3) [v8]) n8) zE;exact⟨K9.step (zA:Tch [bw] h8 n8 (hst h8 bw (0+3) [v8]) n8) fun b hb=>by simp at hb;subst hb;exact kp_bw b1,.inr ⟨p,v6,v7,v8,v3,hgo,rfl,by rw[hif];exact G9⟩⟩
  iterate 4
    · exact bad 6 (gOne6 (by omega) (by show ¬200≤ns.length;omega) (by assumption) hin (by omega)) _ _ zA
  · exact bad 5 (gOne5 (by omega) (by show ¬200≤ns.length;omega) (.inl (by assumption))) _ _ zA
  · exact bad 2 (gOne2 (by omega) (by show 200≤ns.length;omega)) _ _ zA
end Go.Proofs.YtcmohelnoldfbaaGreat
namespace Go.Proofs.YtcmohelnoldfbaaGreat
open Go Go.Ex Go.Ex.M
set_option maxRecDepth 100000
set_option maxHeartbeats 8000000
attribute [local simp] wX
variable {n0 n bw br:Nat} {h:zB} {nsv psv wsv:Value} {ns:List Tx} {ps:List Pl} {wm:List WayM} {roots:Int}
theorem one_comS{x:RegT}{dn:Nat}{top:WayM}(g:Gw n0 h n bw br [nsv,psv,.map (some br),wsv,I64 roots] nsv psv wsv ns ns ps wm)(hd7:dn≤7)(hd0:0<dn)(htop:wm[dn]? = some top)(hroots:dn=0→roots=(top.2.2.length:Nat))(hx:x.sv.oneCell'=true)(hok:GOK ⟨ns,ps⟩)(hpg:0<dn→PlG top.1)(hsib:∀q∈top.2.2,PlG q)(hlim:top.2.2.length≤200)(hwl:wm.length≤10):Com P 0 96 [ptr bw 0,.agg ⟨deepC (x,((dn+1:Nat):Int))⟩] h n fun o h' n'=>KeepR n0 bw br h n h' n'∧
    ((∃e,tR ((dn+1:Nat):Int) top.1 top.2.2 ⟨ns,ps⟩ x = .error e∧o = .panic (stopG e))∨
     ∃p nsv' psv' wsv' v',tR ((dn+1:Nat):Int) top.1 top.2.2 ⟨ns,ps⟩ x = .ok p∧o = .ret (.tuple #[])∧Gw n0 h' n' bw br [nsv',psv',.map (some br),wsv',I64 (if dn=0 then roots+1 else roots)] nsv' psv' wsv' (ns++[x.name]) (ns++[x.name]) (ps++[p]) ((wm.take (dn+1)).set dn (top.1,v',top.2.2++[p])++[(p,.slice none 0 0,[])])):=by
  have hdl:=(List.getElem?_eq_some_iff.1 htop).1;obtain⟨b1,b2,b3,b4⟩:=g.hb;have hcw0:=g.cel;have on1:=g.on.one;have op1:=g.op.one;have rn0:=g.on.row (by decide);have hnl:=hok.le;have hnl:ns.length≤200:=hnl
  have bad:∀e:Int,tR ((dn+1:Nat):Int) top.1 top.2.2 ⟨ns,ps⟩ x = .error e→∀h2 n2,Tch [bw] h n h2 n2→KeepR n0 bw br h n h2 n2∧((∃e',tR ((dn+1:Nat):Int) top.1 top.2.2 ⟨ns,ps⟩ x = .error e'∧Out.panic (stopG e) = .panic (stopG e'))∨
     ∃p nsv' psv' wsv' v',tR ((dn+1:Nat):Int) top.1 top.2.2 ⟨ns,ps⟩ x = .ok p∧Out.panic (stopG e) = .ret (.tuple #[])∧Gw n0 h2 n2 bw br [nsv',psv',.map (some br),wsv',I64 (if dn=0 then roots+1 else roots)] nsv' psv' wsv' (ns++[x.name]) (ns++[x.name]) (ps++[p]) ((wm.take (dn+1)).set dn (top.1,v',top.2.2++[p])++[(p,.slice none 0 0,[])])):=fun e he h2 n2 t2=>
    ⟨(KeepR.refl n0 bw br h n).step t2 fun b hb=>by simp at hb;subst hb;exact kp_bw b1,.inl ⟨e,he,rfl⟩⟩
  have g0:=g.tch (h':=hal h n (mkC (deepC (x,((dn+1:Nat):Int))) zDp 0)) (n':=n+1) zA;refine ent fun u=>?_;by_cases hin:x.name∈ns
  · obtain⟨A,B,e1,e2⟩:=rE (idx_at hin) hok.nd;have mp:=g0.mp;rw [e1]at mp;have lk2:yV P (hal h n (mkC (deepC (x,((dn+1:Nat):Int))) zDp 0)) tMap (.map (some br)) (str x.name) true=some (.tuple ⟨[I64 (ns.idxOf x.name:Nat),.bool true]⟩):=lku_at (P:=P) (ty:=tMap) (ok:=true) mp e2;repeat' first|refine st ?_|refine ob ?_|refine ob1 ?_|refine cT ?_|refine cF ?_|refine zC ?_|refine cX (fun _=>?_) fun _=>?_|fail
    · rename_i f1 f2 f3;exact bad 5 (gOne5 (by omega) (by show ¬200≤ns.length;omega) (.inr hin)) _ _ zA
    · rename_i f1 f2 f3;exact bad 5 (gOne5 (by omega) (by show ¬200≤ns.length;omega) (.inr hin)) _ _ zA
    · exact bad 2 (gOne2 (by omega) (by show 200≤ns.length;omega)) _ _ zA
    · exact bad 4 (gOne4 (by omega)) _ _ zA
  have lk2:yV P (hal h n (mkC (deepC (x,((dn+1:Nat):Int))) zDp 0)) tMap (.map (some br)) (str x.name) true=some (.tuple ⟨[I64 0,.bool false]⟩):=lku_no (P:=P) (ty:=tMap) g0.mp fun p hp e=>hin (e ▸ numL_key hp);obtain⟨wsv1,hsl,hcut0,hblk⟩:=way_cut (P:=P) (ty:=159) (k:=dn+1) g0.ow (by omega) (by decide);obtain⟨bb,cap,rfl,hbb1,hbb2⟩:=way_sl hcut0;have hbw:bb≠bw:=fun e=>way_cel hcut0 g0.cel (by decide) (by rw[← e];rfl);have hbn:bb<n:=(g.ow.blk (b:=bb) (by rw[← hblk];rfl)).2
  have hcut:WayR n0 n h (.slice (some ⟨bb,0,none⟩) (dn+1) cap) eAr 4 (dn+1) ((wm.flatMap wayC).take ((dn+1)*4)):=way_back hcut0 fun b hb=>by
    injection hb with hb
    have hb:bb=b:=hb;subst hb;exact⟨hbn,by rw[zO,if_neg (by omega)]⟩
  have htk:(wm.take (dn+1))[dn]? = some top:=by rw[List.getElem?_take_of_lt (Nat.lt_succ_self _)];exact htop
  have ycell:∀(j:Nat) v,(wayC top)[j]? = some v→zD h bb (dn*4+j)=some v:=fun j v hj=>way_cell hcut (by
    rw[List.getElem?_take_of_lt (by have:=(List.getElem?_eq_some_iff.1 hj).1;simp at this;omega)];exact uN (f:=wayC) (sz:=4) (fun _=>rfl) htop hj)
  have y0:zD h bb (dn*4+0+0)=some (I64 top.1.root):=ycell 0 _ rfl;have y1:zD h bb (dn*4+0+1)=some (I64 top.1.at_):=ycell 1 _ rfl;have y2:zD h bb (dn*4+0+2)=some (I64 top.1.width):=ycell 2 _ rfl;have y3:zD h bb (dn*4+3)=some top.2.1:=ycell 3 _ rfl;have qr:=(g.oi dn top htop).row (by decide);clear ycell;have h2e:∀{G:Prop},(¬200≤(⟨ns,ps⟩:GSt).ns.length→G)→ns.length<200→G:=fun k h9=>k (by show ¬200≤ns.length;omega);obtain⟨q1,q2,q3⟩:=hpg hd0;repeat' first|refine st ?_|refine ob ?_|refine ob1 ?_|refine cT ?_|refine cF ?_|refine zC ?_|refine cX (fun _=>?_) fun _=>?_|refine ob (a:=ptr bb (dn*4)) ?_ (iadw (by omega))|fail
  all_goals dsimp only at *
  · rename_i f0 f1 hnm f2 f3 f4 f5;have hni:x.name∉ns:=hin;have hwd:¬(x.w<1∨64<x.w∨x.a<0∨(((dn+1:Nat):Int)=1∧x.a≠0)∨(((dn+1:Nat):Int)≠1∧top.1.width - x.w<x.a)):=by omega
    have hw:gPl ((dn+1:Nat):Int) top.1 top.2.2 x=⟨top.1.root,top.1.at_+x.a,x.w⟩:=by unfold gPl;rw [if_neg (by omega)]
    have hpG:PlG ⟨top.1.root,top.1.at_+x.a,x.w⟩:=by unfold PlG;dsimp only;omega
    have hif:(if dn=0 then roots+1 else roots)=roots:=if_neg (by omega);refine lpR (fun q:Nat=>[(0,ptr bw 0),(3,ptr n 0),(6,ptr bb (dn*4)),(7,ptr (n+1) 0),(135,top.2.1),(136,I64 (top.2.2.length:Nat)),(137,I64 q)]) (fun q h2 n2=>Tch [bw] h n h2 n2∧n+2≤n2∧Cel h2 n zDp 0 (deepC (x,((dn+1:Nat):Int)))∧Cel h2 (n+1) (ePl+1) 0 (plC (⟨top.1.root,top.1.at_+x.a,x.w⟩:Pl))∧Cel h2 bw zW 0 [nsv,psv,.map (some br),.slice (some ⟨bb,0,none⟩) (dn+1) cap,I64 roots]∧q≤top.2.2.length∧∀(j:Nat) y,j<q→top.2.2[j]? = some y→tJ (⟨top.1.root,top.1.at_+x.a,x.w⟩:Pl) y=false) (fun q=>top.2.2.length - q) 0 (by repeat' first|exact trivial|refine⟨rfl,?_⟩) ⟨zA,by omega,zE,zE,zE,Nat.zero_le _,fun j _ hj=>absurd hj (Nat.not_lt_zero _)⟩ ?_;generalize (⟨top.1.root,top.1.at_+x.a,x.w⟩:Pl)=p at *
    generalize hrf:roots=roots' at *
    rintro q t h2 n2 ⟨ht2,hn2,hcr,hcp,hcw,hq,hno⟩
    have ro2:=(g.oi dn top htop).tch ht2 (yQ (yE g.cel (g.oi dn top htop)));have rw2:=ro2.row (by decide);by_cases hlt2:q<top.2.2.length
    · have d0:top.2.2[q]? = some top.2.2[q]:=List.getElem?_eq_getElem hlt2;generalize top.2.2[q]=y at d0
      have d1:=zM rw2 d0;have hly:=rw2.low (by omega);repeat' first|refine st ?_|refine ob ?_|refine ob1 ?_|refine cT ?_|refine cF ?_|refine zC ?_|refine cX (fun _=>?_) fun _=>?_|refine zY (lap_pur _ _ hpG.ok (hsib y (List.mem_of_getElem? d0)).ok _ _) ?_|fail
      · rename_i f1
        exact⟨q+1,(by dsimp only;omega),(by repeat' first|exact trivial|refine⟨rfl,?_⟩),zA,by omega,zV,zV,zV,by omega,fun j w hj e=>by
          rcases Nat.lt_succ_iff_lt_or_eq.1 hj with h9|rfl
          · exact hno j w h9 e
          · rw[d0]at e;cases e;exact f1⟩
      · rename_i f1;exact bad 7 (gOne7 (by omega) (by show ¬200≤ns.length;omega) hnm hni hwd (List.any_eq_true.2 ⟨y,List.mem_of_getElem? d0,by rw[hw];exact f1⟩)) _ _ zA
    · obtain rfl:q=top.2.2.length:=by omega
      have hgo:tR ((dn+1:Nat):Int) top.1 top.2.2 ⟨ns,ps⟩ x = .ok p:=by
        rw[← hw];exact gOneK (by omega) (by show ¬200≤ns.length;omega) hnm hni hwd (by rw[hw];exact any_no fun j y e=>hno j y (List.getElem?_eq_some_iff.1 e).1 e)
      have G2:=(g.cut hcut (by omega)).own ht2 hcw;have htop2:(wm.take (dn+1))[dn]? = some top:=by rw[List.getElem?_take_of_lt (Nat.lt_succ_self _)];exact htop
      have hl2:(wm.take (dn+1)).length=dn+1:=by rw[List.length_take];omega
      have K2:KeepR n0 bw br h n h2 n2:=(KeepR.refl n0 bw br h n).step ht2 fun b hb=>by simp at hb;subst hb;exact kp_bw g.hb.1
      have tA:Tch [] h2 n2 (hal h2 n2 (mkC (plC p) 0 0)) (n2+1):=zA;have GA:=G2.tch tA
      have yA:zD h2 bb (dn*4+3)=some top.2.1:=by
        have:=(G2.ow.row (by decide)).at (uN (f:=wayC) (sz:=4) (fun _=>rfl) htop2 (j:=3) rfl)
        rwa [show sof (.slice (some ⟨bb,0,none⟩) (dn+1) cap)+(dn*4+3)=dn*4+3 from Nat.zero_add _]at this
      have hof:=GA.oi dn top htop2;have hown:=hof.one;clear ht2 ro2 rw2 hno;repeat' first|refine st ?_|refine ob ?_|refine ob1 ?_|refine cT ?_|refine cF ?_|refine zC ?_|refine cX (fun _=>?_) fun _=>?_|fail
      refine appN hof (zS (e:=ePl) (sz:=3) (len:=1) rfl (by decide)) (by decide) ⟨rfl,rfl,rfl,trivial⟩ (by omega) ?_
      rintro v3 h3 n3 o3 ht3
      have hn3:=ht3.le;have w3:=GA.ow.tch ht3 (way_own GA.ow hof (.inl (by decide))).no;rw [hl2]at w3;have hcr3:=(hcr.tch tA (by omega) (by simp)).app hof ht3 (by omega);have hcp3:=(hcp.tch tA (by omega) (by simp)).app hof ht3 (by omega);have hcw3:=GA.cel.app hof ht3 (by have:=GA.hb;omega)
      have yB:zD h3 bb (dn*4+3)=some top.2.1:=by
        have:=(w3.row (by decide)).at (uN (f:=wayC) (sz:=4) (fun _=>rfl) htop2 (j:=3) rfl)
        rwa [show sof (.slice (some ⟨bb,0,none⟩) (dn+1) cap)+(dn*4+3)=dn*4+3 from Nat.zero_add _]at this
      have hfl:((wm.take (dn+1)).flatMap wayC).length=(dn+1)*4:=by rw[flat_len (f:=wayC) (sz:=4) (fun _=>rfl),hl2]
      have ho3:=o3.one;have G3:=GA.win htop2 (by rw[hl2]) o3 ht3;have K3:=(K2.step tA (by simp)).step ht3 (own_info hof);have w3i:=way_info (bw:=bw) (br:=br) w3;have hbr:=G2.hb;have hbb2:bb≠n∧bb≠n+1:=by omega
      repeat' first|refine st ?_|refine ob ?_|refine ob1 ?_|refine cT ?_|refine cF ?_|refine zC ?_|refine cX (fun _=>?_) fun _=>?_|refine ob (a:=hst _ bb (dn*4+3) [v3]) ?_ (stp_way w3 rfl (by omega) ho3)|fail
      have tH:Tch [bb] h3 n3 (hst h3 bb (dn*4+3) [v3]) n3:=zA;have K4:=K3.step tH fun b hb=>by simp at hb;subst hb;exact w3i b (by simp[zN])
      have hcr4:=hcr3.tch tH (by omega) (by simp;omega);have hcp4:=hcp3.tch tH (by omega) (by simp;omega);clear yA yB hcr hcp hcw hcr3 hcp3 hcw3 w3 w3i tA tH GA G2 K2 K3 ht3 o3 hof;generalize hst h3 bb (dn*4+3) [v3]=h4 at *
      have hno':∀p∈numL ns,p.1≠x.name:=fun p hp e=>hni (e ▸ numL_key hp);obtain⟨om,ms,hm2⟩:=mset_new (P:=P) (ty:=tMap) (v:=I64 (ns.length:Nat)) (x:=x.name) G3.mp hno';rw [← numL_app]at hm2;have rn4:=G3.on.row (by decide);have hc4:=G3.cel;have G4:=G3.map hm2;have tM:Tch [br] h4 n3 (hal h4 br om) n3:=(Tch.refl _ _ _).upd (.inr (by simp))
      have K5:=K4.step tM fun b hb=>by
        simp at hb;subst hb;exact kp_br g.hb.2.2.1
      have hcr5:=hcr4.tch tM (by omega) (by simp;omega);have hcp5:=hcp4.tch tM (by omega) (by simp;omega);have hc5:=G4.cel;clear K4 tM G3 hm2;generalize hal h4 br om=h5 at *
      have tB:Tch [] h5 n3 (hal h5 n3 (mkC [str x.name] 0 0)) (n3+1):=zA;have GB:=G4.tch tB;repeat' first|refine st ?_|refine ob ?_|refine ob1 ?_|refine cT ?_|refine cF ?_|refine zC ?_|refine cX (fun _=>?_) fun _=>?_|fail
      refine appN GB.on (zS (e:=rD) (sz:=1) (len:=1) rfl (by decide)) (by decide) ⟨rfl,trivial⟩ (by omega) ?_
      rintro v6 h6 n6 o6 ht6
      have hn6:=ht6.le;have hcr6:=(hcr5.tch tB (by omega) (by simp)).app GB.on ht6 (by omega);have hcp6:=(hcp5.tch tB (by omega) (by simp)).app GB.on ht6 (by omega);have K6:=(K5.step tB (by simp)).step ht6 (own_info GB.on);have G5:=GB.nm o6 ht6;have hc6:=G5.cel;have hps:=G5.op;have tC:Tch [] h6 n6 (hal h6 n6 (mkC (plC p) 0 0)) (n6+1):=zA;have GC:=G5.tch tC;clear ht6 o6 K5;repeat' first|refine st ?_|refine ob ?_|refine ob1 ?_|refine cT ?_|refine cF ?_|refine zC ?_|refine cX (fun _=>?_) fun _=>?_|fail
      refine appN GC.op (zS (e:=ePl) (sz:=3) (len:=1) rfl (by decide)) (by decide) ⟨rfl,rfl,rfl,trivial⟩ (by have:=hok.len;have h9:ps.length=ns.length:=this;omega) ?_
      rintro v7 h7 n7 o7 ht7
      have hn7:=ht7.le;have hcr7:=(hcr6.tch tC (by omega) (by simp)).app GC.op ht7 (by omega);have hcp7:=(hcp6.tch tC (by omega) (by simp)).app GC.op ht7 (by omega);have K7:=(K6.step tC (by simp)).step ht7 (own_info GC.op);have G6:=GC.pl o7 ht7;have hc7:=G6.cel;have ho6:=G6.on.one;have ho7:=G6.op.one;clear ht7 o7 K6;repeat' first|refine st ?_|refine ob ?_|refine ob1 ?_|refine cT ?_|refine cF ?_|refine zC ?_|refine cX (fun _=>?_) fun _=>?_|fail
      have tD:Tch [bw] h7 n7 (hal (hst (hst h7 bw 0 [v6]) bw (0+1) [v7]) n7 (mkC (plC p++[.slice none 0 0]) 0 0)) (n7+1):=zA;have GD:=G6.own (cs':=[v6,v7,.map (some br),.slice (some ⟨bb,0,none⟩) (dn+1) cap,I64 roots']) tD zE;have K8:=K7.step tD fun b hb=>by simp at hb;subst hb;exact kp_bw b1
      have hwl3:((wm.take (dn+1)).set dn (top.1,v3,top.2.2++[p])).length=dn+1:=by rw[List.length_set];exact hl2
      have wD:=GD.ow;rw [hwl3]at wD;refine way_app wD (fun y hy=>?_) (by omega) (zS (e:=eAr) (sz:=4) (len:=1) rfl (by decide)) (by decide) (fun y hy=>by simp at hy;rcases hy with rfl|rfl|rfl|rfl <;> rfl) (by omega) ?_
      · obtain⟨a,ha,hy⟩:=List.mem_flatMap.1 hy;obtain⟨i,hi⟩:=List.mem_iff_getElem?.1 ha;have:=(GD.oi i a hi).one;simp at hy;rcases hy with rfl|rfl|rfl|rfl
        · rfl
        · rfl
        · rfl
        · exact this
      rintro v8 h8 n8 w8 _ ht8
      have hn8:=ht8.le;have hw8:v8.oneCell'=true:=by obtain⟨_,_,rfl,_⟩:=way_sl w8;rfl
      have G8:=GD.way (by rw[hwl3];exact w8) ht8;have K9:=K8.step ht8 (way_info GD.ow);have hc8:=G8.cel;clear ht8 K7 K8;repeat' first|refine st ?_|refine ob ?_|refine ob1 ?_|refine cT ?_|refine cF ?_|refine zC ?_|refine cX (fun _=>?_) fun _=>?_|fail
      have G9:=G8.own (cs':=[v6,v7,.map (some br),v8,I64 roots']) (zA:Tch [bw] h8 n8 (hst h8 bw (0+3) [v8]) n8) zE;exact⟨K9.step (zA:Tch [bw] h8 n8 (hst h8 bw (0+3) [v8]) n8) fun b hb=>by simp at hb;subst hb;exact kp_bw b1,.inr ⟨p,v6,v7,v8,v3,hgo,rfl,by rw[hif];exact G9⟩⟩
  iterate 4
    · exact bad 6 (gOne6 (by omega) (by show ¬200≤ns.length;omega) (by assumption) hin (by omega)) _ _ zA
  · exact bad 5 (gOne5 (by omega) (by show ¬200≤ns.length;omega) (.inl (by assumption))) _ _ zA
  · exact bad 2 (gOne2 (by omega) (by show 200≤ns.length;omega)) _ _ zA
  · exact bad 4 (gOne4 (by omega)) _ _ zA
end Go.Proofs.YtcmohelnoldfbaaGreat
