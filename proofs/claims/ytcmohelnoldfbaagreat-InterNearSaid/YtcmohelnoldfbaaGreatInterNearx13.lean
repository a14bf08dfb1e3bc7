/- What the law leans on: an executor of the model that is sound, deduction over it, and the walks through the code (part 13 of 20). Conditions: those that each theorem states. -/
import Derived.Test.YtcmohelnoldfbaaGreatInterNearx12

set_option linter.unusedVariables false
set_option linter.unusedSimpArgs false
namespace Go.Proofs.YtcmohelnoldfbaaGreat
open Go Go.Ex Go.Ex.M
set_option maxRecDepth 100000
set_option maxHeartbeats 8000000
abbrev tInt:Nat:=3
abbrev tInts:Nat:=45
structure Tc (lo:Nat) (h:zB) (bt z:Nat) (m:MachT) (nsv psv kv:Value) (ns:List Tx) (ps:List Pl) (kvs:List Value):Prop where
 tb:Tb lo h bt z m nsv psv kv ns ps
 kr:Row lo h kv tInts 1 kvs.length kvs
 kl:kvs.length=m.classes.length
 ke:∀(i:Nat) c,m.classes[i]? = some c→∃v,kvs[i]? = some v∧Row lo h v tInt 1 c.regs.length ((c.regs.map (pos ns)).map I64)
variable {lo bt z n:Nat} {h:zB} {m:MachT} {nsv psv kv:Value} {ns:List Tx} {ps:List Pl} {kvs:List Value}
theorem Tc.tch{n':Nat}{h':zB}(k:Tc lo h bt z m nsv psv kv ns ps kvs)(t:Tch [] h n h' n')(hlo:lo≤n):Tc lo h' bt z m nsv psv kv ns ps kvs:=
 ⟨k.tb.tch t hlo,k.kr.tch t hlo fun _ _ hx=>(by cases hx),k.kl,fun i c hc=>by
  obtain⟨v,h1,h2⟩:=k.ke i c hc;exact⟨v,h1,h2.tch t hlo fun _ _ hx=>(by cases hx)⟩⟩
def RegsIn(m:MachT)(ns:List Tx):Prop:=∀(i:Nat) c,m.classes[i]? = some c→1≤c.regs.length∧∀r∈c.regs,r∈ns
theorem row_ee{v:Value}{e:Nat}{l:List Value}{i:Nat}{x:Value}{h:zB}(r:Row lo h v e 1 l.length l)(hx:l[i]? = some x):zD h (sbk v) (sof v+i*1)=some x:=by
 rw[Nat.mul_one];exact r.at hx
theorem cls_len(k:Tc lo h bt z m nsv psv kv ns ps kvs){c:ClassT}(hc:c∈m.classes):c.regs.length<inf:=(k.tb.mm.clsr c hc).lt
theorem tin_pur(k:Tc lo h bt z m nsv psv kv ns ps kvs)(c r:Int):Pur P 0 60 [ptr bt 0,I64 c,I64 r] h n (.bool (inN m ns c r)):=by
 have hcel:=k.tb.cel;have kr:=k.kr;have kl:=k.kl;have hinf:inf<4611686018427387904:=by decide
 refine ent fun u=>?_;by_cases hc:0≤c∧c<kvs.length
 · obtain⟨h1,h2⟩:=hc;have c0:m.classes[c.toNat]? = some m.classes[c.toNat]:=List.getElem?_eq_getElem (by omega);generalize m.classes[c.toNat]=x at c0
   obtain⟨v,v1,v2⟩:=k.ke _ _ c0;have hl:=cls_len k (List.mem_of_getElem? c0);have y0:=row_ee kr v1;have e0:inN m ns c r=decide (r∈x.regs.map (pos ns)):=by unfold inN;rw [decide_eq_true h1,c0];rfl
   have v3:Row lo h v tInt 1 (x.regs.map (pos ns)).length ((x.regs.map (pos ns)).map I64):=by rw[List.length_map];exact v2
   repeat' first|refine st ?_|refine ob ?_|refine ob1 ?_|refine cT ?_|refine cF ?_|refine zC ?_|refine cX (fun _=>?_) fun _=>?_|refine zY (rin_pur v3 (by rw[List.length_map];omega)) ?_|fail
   exact fin (by rw[e0])
 · have e0:inN m ns c r=false:=by
    unfold inN;by_cases h1:0≤c
    · rw[List.getElem?_eq_none (l:=m.classes) (i:=c.toNat) (by omega)];simp
    · rw[decide_eq_false h1];rfl
   repeat' first|refine st ?_|refine ob ?_|refine ob1 ?_|refine cT ?_|refine cF ?_|refine zC ?_|refine cX (fun _=>?_) fun _=>?_|fail
   all_goals first|exact fin (by rw[e0])|(exfalso;omega)
theorem twidth_pur(k:Tc lo h bt z m nsv psv kv ns ps kvs)(hr:RegsIn m ns)(c:Int):Pur P 0 172 [ptr bt 0,I64 c] h n (I64 (wN m ns ps c)):=by
 have hcel:=k.tb.cel;have kr:=k.kr;have kl:=k.kl;have rp:=k.tb.rp;have hpl:=k.tb.hl;refine ent fun u=>?_;by_cases hc:0≤c∧c<kvs.length
 · obtain⟨h1,h2⟩:=hc;have c0:m.classes[c.toNat]? = some m.classes[c.toNat]:=List.getElem?_eq_getElem (by omega);generalize m.classes[c.toNat]=x at c0
   obtain⟨v,v1,v2⟩:=k.ke _ _ c0;obtain⟨g1,g2⟩:=hr _ _ c0;have y0:=row_ee kr v1
   cases hx:x.regs with
   | nil=>rw [hx]at g1;exact absurd g1 (by decide)
   | cons r0 rr =>
    have hr0:r0∈ns:=g2 r0 (by rw[hx];exact List.mem_cons_self ..);have e0:wN m ns ps c=(yG ns ps r0).width:=by unfold wN;rw [if_pos h1,c0];show wdOf ns ps x=_;unfold wdOf;rw [hx]
    have y1:zD h (sbk v) (sof v+0*1)=some (I64 (ns.idxOf r0:Nat)):=by
     rw[Nat.zero_mul];exact v2.at (by rw[hx,List.map_cons,List.map_cons,vK hr0];rfl)
    have hlt:=idx_lt hr0;have y2:=xP (zM rp (plc_at hr0 hpl)) (j:=2) rfl;have v3:0<x.regs.length:=g1;repeat' first|refine st ?_|refine ob ?_|refine ob1 ?_|refine cT ?_|refine cF ?_|refine zC ?_|refine cX (fun _=>?_) fun _=>?_|fail
    all_goals first|exact fin (by rw[e0])|(exfalso;omega)
 · have e0:wN m ns ps c=0:=by
    unfold wN;by_cases h1:0≤c
    · rw[if_pos h1,List.getElem?_eq_none (by omega)]
    · rw[if_neg h1]
   repeat' first|refine st ?_|refine ob ?_|refine ob1 ?_|refine cT ?_|refine cF ?_|refine zC ?_|refine cX (fun _=>?_) fun _=>?_|fail
   all_goals first|exact fin (by rw[e0])|(exfalso;omega)
theorem roperand_pur(k:Tc lo h bt z m nsv psv kv ns ps kvs)(hlo:lo≤n)(hr:RegsIn m ns)(o:OperT):Pur P 0 171 [ptr bt 0,.agg ⟨oprC o⟩] h n (.bool (vS m o)):=by
 refine Com.pure (ent fun u=>?_) (.inl rfl);rcases wE (m:=m) (x:=o.cls) with⟨h1,h2⟩|⟨i,c,h1,h2,h3,h4,h5⟩
 · have e0:vS m o=false:=by unfold vS;rw [h1]
   have e1:=yH (n:=n+1) (h:=hal h n (mkC (oprC o) (69+1) 0)) (Tc.tch k zA hlo).tb o.cls;rw [h2]at e1;repeat' first|refine st ?_|refine ob ?_|refine ob1 ?_|refine cT ?_|refine cF ?_|refine zC ?_|refine cX (fun _=>?_) fun _=>?_|refine zY e1 ?_|fail
   exact finT (by rw[e0]) zA
 · have e0:vS m o=(decide (o.fix=[]) || decide (o.fix∈c.regs)):=by unfold vS;rw [h1]
   have e1:=yH (n:=n+1) (h:=hal h n (mkC (oprC o) (69+1) 0)) (Tc.tch k zA hlo).tb o.cls;rw [h3]at e1
   have e2:inN m ns (i:Nat) (pos ns o.fix)=decide (o.fix∈c.regs):=by
    unfold inN;rw [decide_eq_true (by omega)];show(true && match m.classes[i]? with|some k=>decide (pos ns o.fix∈k.regs.map (pos ns))|none=>false)=_;rw [h2];exact decide_eq_decide.2 (pos_mem (hr i c h2).2)
   repeat' first|refine st ?_|refine ob ?_|refine ob1 ?_|refine cT ?_|refine cF ?_|refine zC ?_|refine cX (fun _=>?_) fun _=>?_|refine zY e1 ?_|refine zY (wR (Tc.tch k zA hlo).tb _) ?_|refine zY (tin_pur (Tc.tch k zA hlo) _ _) ?_|fail
   all_goals rw[e0]
   · rename_i f1;exact finT (by rw[f1];rfl) zA
   · rename_i f1;exact finT (by rw[e2];simp [f1]) zA
theorem rlist_ret(k:Tb lo h bt z m nsv psv kv ns ps)(hlo:lo≤n){lo2 e:Nat}{sv:Value}{l:List Tx}(r:Row lo2 h sv e 1 l.length (l.map str))(hlo2:lo2≤n)(hl:l.length<100000):Ret P 0 119 [ptr bt 0,sv] h n fun v h' n'=>Own n n' h' v tInt 1 (uK ns l).length ((uK ns l).map I64)∧Tch [] h n h' n':=by
 refine ent fun u=>?_;repeat' first|refine st ?_|refine ob ?_|refine ob1 ?_|refine cT ?_|refine cF ?_|refine zC ?_|refine cX (fun _=>?_) fun _=>?_|fail
 refine lpR (α :=Nat×Value) (fun a=>[(0,ptr bt 0),(1,sv),(5,a.2),(6,I64 a.1)]) (fun a h' n'=>Tch [] h n h' n'∧a.1≤l.length∧(uK ns (l.take a.1)).length≤a.1∧Own n n' h' a.2 tInt 1 (uK ns (l.take a.1)).length ((uK ns (l.take a.1)).map I64)) (fun a=>l.length - a.1) (0,.slice none 0 0) (by repeat' first|exact trivial|refine⟨rfl,?_⟩) ⟨zA,Nat.zero_le _,Nat.le_refl _,Own.nil⟩ ?_
 rintro ⟨i,ov⟩ t h' n' ⟨ht,hi,hll,ho⟩
 dsimp only at hi hll ho ⊢;have hn':=ht.le;have k':=k.tch ht hlo;have r':=r.tch ht hlo2 fun _ _ hx=>(by cases hx);by_cases hlt:i<l.length
 · have c0:l[i]? = some l[i]:=List.getElem?_eq_getElem hlt;generalize l[i]=x at c0
   have c1:=yX r' c0;have sn:=listN_snoc (ns:=ns) c0;by_cases hx:x∈ns
   · have e1:=vK hx;rw [if_pos hx]at sn;have hge:0≤pos ns x:=pos_ge.2 hx;repeat' first|refine st ?_|refine ob ?_|refine ob1 ?_|refine cT ?_|refine cF ?_|refine zC ?_|refine cX (fun _=>?_) fun _=>?_|refine zY (wR k' x) ?_|fail
     refine appO (ho.tch (S:=[]) zA (by simp)) (zS (e:=tInt) (sz:=1) (len:=1) rfl (by decide)) (by omega) ⟨rfl,trivial⟩ (by omega) ?_
     rintro v' h3 n3 ho3 ht3
     have ht4:Tch [] h n h3 n3:=Tch.tch ht3 zA fun x hx=>.inl (zZ ho x hx);repeat' first|refine st ?_|refine ob ?_|refine ob1 ?_|refine cT ?_|refine cF ?_|refine zC ?_|refine cX (fun _=>?_) fun _=>?_|fail
     exact⟨(i+1,v'),(by dsimp only;omega),(by repeat' first|exact trivial|refine⟨rfl,?_⟩),ht4,by omega,by rw[sn,List.length_append];simp;omega,by rw[sn,List.length_append,List.map_append];exact ho3⟩
   · rw[if_neg hx]at sn;have e1:=pos_out hx;repeat' first|refine st ?_|refine ob ?_|refine ob1 ?_|refine cT ?_|refine cF ?_|refine zC ?_|refine cX (fun _=>?_) fun _=>?_|refine zY (wR k' x) ?_|fail
     exact⟨(i+1,ov),(by dsimp only;omega),(by repeat' first|exact trivial|refine⟨rfl,?_⟩),ht,by omega,by rw[sn];omega,by rw[sn];exact ho⟩
 · obtain rfl:i=l.length:=by omega
   repeat' first|refine st ?_|refine ob ?_|refine ob1 ?_|refine cT ?_|refine cF ?_|refine zC ?_|refine cX (fun _=>?_) fun _=>?_|fail
   rw[List.take_length]at ho;exact⟨_,rfl,ho,ht⟩
theorem uM(k:Tc lo h bt z m nsv psv kv ns ps kvs)(hlo:lo≤n)(o:OperT):Ret P 0 131 [ptr bt 0,.agg ⟨oprC o⟩] h n fun v h' n'=>Row n' h' v tInt 1 (rF m ns o).length ((rF m ns o).map I64)∧Tch [] h n h' n':=by
 refine ent fun u=>?_;rcases wE (m:=m) (x:=o.cls) with⟨h1,h2⟩|⟨i,c,h1,h2,h3,h4,h5⟩
 · have e0:rF m ns o=[]:=by unfold rF;rw [h1]
   have e1:=yH (n:=n+1) (h:=hal h n (mkC (oprC o) (69+1) 0)) (Tc.tch k zA hlo).tb o.cls;rw [h2]at e1;repeat' first|refine st ?_|refine ob ?_|refine ob1 ?_|refine cT ?_|refine cF ?_|refine zC ?_|refine cX (fun _=>?_) fun _=>?_|refine zY e1 ?_|fail
   exact⟨_,rfl,by rw[e0];exact .inl ⟨rfl,rfl,rfl⟩,zA⟩
 · have e1:=yH (n:=n+1) (h:=hal h n (mkC (oprC o) (69+1) 0)) (Tc.tch k zA hlo).tb o.cls;rw [h3]at e1;obtain⟨v,v1,v2⟩:=k.ke _ _ h2;have k1:Tc lo (hal h n (mkC (oprC o) (69+1) 0)) bt z m nsv psv kv ns ps kvs:=Tc.tch k zA hlo;have hcel:=k1.tb.cel;have kr:=k1.kr;have kl:=k.kl;have y0:=row_ee kr v1;by_cases hf:o.fix=[]
   · have e0:rF m ns o=c.regs.map (pos ns):=by unfold rF;rw [h1];show(if o.fix=[] then _ else _)=_;rw [if_pos hf]
     repeat' first|refine st ?_|refine ob ?_|refine ob1 ?_|refine cT ?_|refine cF ?_|refine zC ?_|refine cX (fun _=>?_) fun _=>?_|refine zY e1 ?_|fail
     exact⟨_,rfl,by rw[e0,List.length_map];exact(v2.tch (S:=[]) (n:=n) zA hlo fun _ _ hx=>(by cases hx)).up (by omega),zA⟩
   · have e0:rF m ns o=uK ns [o.fix]:=by unfold rF;rw [h1];show(if o.fix=[] then _ else _)=_;rw [if_neg hf]
     repeat' first|refine st ?_|refine ob ?_|refine ob1 ?_|refine cT ?_|refine cF ?_|refine zC ?_|refine cX (fun _=>?_) fun _=>?_|refine zY e1 ?_|fail
     refine vR (rlist_ret (Tc.tch k zA hlo).tb (by omega) (l:=[o.fix]) (zS (e:=0) (sz:=1) (len:=1) rfl (by decide)) (Nat.le_refl _) (by simp)) ?_
     rintro v' h3 n3 ⟨ho,ht⟩
     repeat' first|refine st ?_|refine ob ?_|refine ob1 ?_|refine cT ?_|refine cF ?_|refine zC ?_|refine cX (fun _=>?_) fun _=>?_|fail
     exact⟨_,rfl,by rw[e0];exact ho.row (by decide),zA⟩
end Go.Proofs.YtcmohelnoldfbaaGreat
namespace Go.Ex
theorem Tch.dn{S:List Nat}{h h':zB}{n n' lo:Nat}(t:Tch S h n h' n')(hl:lo≤n)(hS:∀b∈S,lo≤b):Tch [] h lo h' n':=⟨Nat.le_trans hl t.1,fun b hb _=>t.2 b (by omega) fun hx=>by have:=hS b hx;omega⟩
theorem Own.dnl{lo lo' n:Nat}{h:zB}{v:Value}{e sz len:Nat}{vs:List Value}(o:Own lo n h v e sz len vs)(hl:lo'≤lo):Own lo' n h v e sz len vs:=by
 rcases o with o|⟨b,q1,q2⟩
 · exact .inl o
 · exact .inr ⟨b,Nat.le_trans hl q1,q2⟩
theorem own_ne{lo lo' n n':Nat}{h:zB}{v v':Value}{e sz len e' sz' len':Nat}{vs vs':List Value}(o:Own lo n h v e sz len vs)(o':Own lo' n' h v' e' sz' len' vs')(hne:e≠e'∨sz≠sz'):∀b,zN v=some b→b∉(zN v').toList:=fun b hb hx=>by
 rcases o with⟨rfl,_⟩|⟨b1,_,_,rfl,q3,_⟩
 · cases hb
 rcases o' with⟨rfl,_⟩|⟨b2,_,_,rfl,p3,_⟩
 · cases hx
 injection hb with hb
 have hb:b1=b:=hb;have hx:b∈(some b2).toList:=hx;simp at hx;subst hb hx;rw [q3]at p3;injection p3 with p3
 injection p3 with _ p3
 injection p3 with p3 _
 obtain⟨a,b⟩:=zc_inj p3;omega
theorem yE{lo n b z:Nat}{h:zB}{v:Value}{e sz len:Nat}{vs ws:List Value}(c:Cel h b z 0 ws)(o:Own lo n h v e sz len vs):b∉(zN v).toList:=fun hx=>by
 rcases o with⟨rfl,_⟩|⟨b2,_,_,rfl,p3,_⟩
 · cases hx
 have hx:b∈(some b2).toList:=hx;simp at hx;subst hx;rw [c.1]at p3;exact absurd (kd_of p3) (by decide)
theorem Cel.app{lo n n' b z:Nat}{h h':zB}{v:Value}{e sz len:Nat}{vs ws:List Value}(c:Cel h b z 0 ws)(o:Own lo n h v e sz len vs)(t:Tch (zN v).toList h n h' n')(hb:b<n):Cel h' b z 0 ws:=c.tch t hb (yE c o)
def Fp(n:Nat)(v v':Value):Prop:=∀b,zN v'=some b→zN v=some b∨n≤b
theorem Fp.refl(n:Nat)(v:Value):Fp n v v:=fun _ hb=>.inl hb
def Dj(v v':Value):Prop:=∀b,zN v=some b→zN v'≠some b
theorem Dj.comm{v v':Value}(d:Dj v v'):Dj v' v:=fun b hb e=>d b e hb
theorem Dj.no{v v':Value}(d:Dj v v'):∀b,zN v=some b→b∉(zN v').toList:=fun b hb hx=>by
 cases e:zN v' with
 | none=>rw [e]at hx;cases hx
 | some c=>rw [e]at hx;simp at hx;subst hx;exact d _ hb e
theorem tN{lo lo' n n':Nat}{h:zB}{v v':Value}{e sz len e' sz' len':Nat}{vs vs':List Value}(o:Own lo n h v e sz len vs)(o':Own lo' n' h v' e' sz' len' vs')(hne:e≠e'∨sz≠sz'):Dj v v':=fun b hb e2=>own_ne o o' hne b hb (by rw[e2];simp)
theorem Dj.fp{lo n n2:Nat}{h:zB}{v v2 v3:Value}{e sz len:Nat}{vs:List Value}(d:Dj v v2)(f:Fp n2 v2 v3)(o:Own lo n h v e sz len vs)(hn:n≤n2):Dj v v3:=fun b hb e3=>by
 rcases f b e3 with h9|h9
 · exact d b hb h9
 · have:=(o.blk hb).2;omega
theorem appN{P:Program}{sT xT e sz:Nat}[A:ApC P sT xT e sz]{cx:Cx}{d:List Deferred}{u:Option zH}{h:zB}{n lo len m:Nat}{v x:Value}{vs new:List Value}{K:W→Value→Prop}(ho:Own lo n h v e sz len vs)(hr:Row n h x e sz m new)(hm:0<m)(h1:One new)(hlim:len+m<1000000)
(k:∀v' h' n',Own n n' h' v' e sz (len+m) (vs++new)→Tch (zN v).toList h n h' n'→K ⟨d,u,h',n'⟩ v'):BuB P cx .append [sT,xT] [v,x] d u h n K:=by
 have:=append_new (K:=fun h' n' v'=>xO (K ⟨d,u,h',n'⟩ v')) A.ok ho hm hr hr.lens h1.all hlim fun v' h' n' o a b=>isSo_iff.2 (k v' h' n' o ⟨a,fun b' hb hS=>b b' hb fun e=>hS (by rw[e];simp)⟩);exact this
theorem Dj.nil(v:Value):Dj (.slice none 0 0) v:=fun b hb=>by cases hb
theorem vE{lo n n':Nat}{h h':zB}{v v':Value}{e sz len e' sz' len':Nat}{vs vs':List Value}(o:Own lo n h v e sz len vs)(o':Own n n' h' v' e' sz' len' vs'):Dj v v':=fun b hb e2=>by
 have:=(o.blk hb).2;have:=(o'.blk e2).1;omega
theorem xQ{lo n b0:Nat}{h:zB}{v:Value}{e sz len:Nat}{vs:List Value}(o:Own lo n h v e sz len vs)(hb:b0<lo):∀b,zN v=some b→b∉[b0]:=fun b e=>by
 have:=(o.blk e).1;simp;omega
namespace M
theorem RowI.up{lo lo':Nat}{h:zB}{v:Value}{sz len:Nat}{vs:List Value}(r:RowI lo h v sz len vs)(hl:lo≤lo'):RowI lo' h v sz len vs:=fun e=>(r e).up hl
theorem RegsM.up{lo lo':Nat}{h:zB}(hl:lo≤lo'):∀{sv:Value} {l:List RegT},RegsM lo h sv l→RegsM lo' h sv l:=by
  intro sv l r;unfold RegsM at r ⊢;exact⟨r.1.up hl,fun x hx=>RegsM.up hl (r.2 x hx)⟩
 termination_by sv l=>SizeOf.sizeOf l
 decreasing_by
  have h1:=List.sizeOf_lt_of_mem hx;cases x
  simp only[RegT.subs];simp at h1;omega
theorem MachM.up{lo lo':Nat}{h:zB}{m:MachT}(hl:lo≤lo')(r:MachM lo h m):MachM lo' h m:=
 ⟨RegsM.up hl r.regs,r.cls.up hl,fun c hc=>(r.clsr c hc).up hl,r.ops.up hl,fun c hc=>(r.opsu c hc).up hl,fun c hc=>(r.opsc c hc).up hl,r.args.up hl,r.saved.up hl,r.slots⟩
theorem cls_le{m:MachT}{i:Nat}{c:ClassT}(h:m.classes[i]? = some c):0≤yT m c.name∧yT m c.name≤(i:Nat):=by
 rcases wE (m:=m) (x:=c.name) with⟨h1,h2⟩|⟨j,c',h1,h2,h3,h4,h5⟩
 · exfalso
   have:=List.find?_eq_none.1 h1 c (List.mem_of_getElem? h);simp at this
 · refine⟨by omega,?_⟩;rcases Nat.lt_or_ge i j with h9|h9
   · exfalso
     unfold yT at h3;have hno:=List.not_of_lt_findIdx (p:=fun c':ClassT=>decide (c'.name=c.name)) (xs:=m.classes) (i:=i)
     have e:m.classes.findIdx (fun c':ClassT=>decide (c'.name=c.name))=j:=by
      unfold posF at h3;split at h3 <;> omega
     have:=hno (by rw[e];exact h9);obtain⟨q1,q2⟩:=List.getElem?_eq_some_iff.1 h;rw [q2]at this;simp at this
   · omega
theorem op_le{m:MachT}{i:Nat}{o:OpT}(h:m.ops[i]? = some o):0≤posF (fun x:OpT=>decide (x.name=o.name)) m.ops∧posF (fun x:OpT=>decide (x.name=o.name)) m.ops≤(i:Nat):=by
 rcases posF_cases (fun x:OpT=>decide (x.name=o.name)) m.ops with⟨h1,h2⟩|⟨j,c',h1,h2,h3,h4,h5⟩
 · exfalso
   have:=List.find?_eq_none.1 h1 o (List.mem_of_getElem? h);simp at this
 · refine⟨by omega,?_⟩;rcases Nat.lt_or_ge i j with h9|h9
   · exfalso
     have hno:=List.not_of_lt_findIdx (p:=fun x:OpT=>decide (x.name=o.name)) (xs:=m.ops) (i:=i)
     have e:m.ops.findIdx (fun x:OpT=>decide (x.name=o.name))=j:=by
      unfold posF at h3;split at h3 <;> omega
     have:=hno (by rw[e];exact h9);obtain⟨q1,q2⟩:=List.getElem?_eq_some_iff.1 h;rw [q2]at this;simp at this
   · omega
theorem pos_first{l:List Tx}{k:Nat}{x:Tx}(h:l[k]? = some x):pos l x=(k:Nat)↔x∉l.take k:=by
 constructor
 · intro e hx;obtain⟨j,hj⟩:=List.mem_iff_getElem?.1 hx;have hj2:j<k:=by have:=(List.getElem?_eq_some_iff.1 hj).1;rw [List.length_take]at this;omega
   rw[List.getElem?_take_of_lt hj2]at hj;rw [vK (List.mem_of_getElem? h)]at e;have:=List.not_of_lt_findIdx (p:=(· == x)) (xs:=l) (i:=j) (by show j<l.idxOf x;omega);obtain⟨q1,q2⟩:=List.getElem?_eq_some_iff.1 hj;rw [q2]at this;simp at this
 · intro hx
   exact pos_hit h fun j hj e=>hx (by
    have:(l.take k)[j]? = some x:=by rw[List.getElem?_take_of_lt hj];exact e
    exact List.mem_of_getElem? this)
theorem gDown_ge:∀(k:Nat) (d:Int) (base:Pl) (l:List RegT) (s s':GSt),yP k d base l s = .ok s'→s.ns.length≤s'.ns.length:=by
 intro k
 induction k with
 | zero=>
  intro d base l s s' h;unfold yP at h;injection h with h
  exact h ▸ Nat.le_refl _
 | succ k ih =>
  intro d base l s s' h
  have go:∀(l:List RegT) (sibs:List Pl) (s:GSt) (x:List Pl×GSt),l.foldl (uJ (yP k (d+1)) d base) (.ok (sibs,s)) = .ok x→s.ns.length≤x.2.ns.length:=by
   intro l
   induction l with
   | nil=>
    intro sibs s x h;injection h with h
    exact h ▸ Nat.le_refl _
   | cons r l ihl =>
    intro sibs s x h;rw [List.foldl_cons]at h
    cases hg:tR d base sibs s r with
    | error e=>rw [gStep_e1 hg,xY]at h;cases h
    | ok p =>
     cases hr:yP k (d+1) p r.subs ⟨s.ns++[r.name],s.ps++[p]⟩ with
     | error e=>rw [gStep_e2 hg hr,xY]at h;cases h
     | ok s2=>
      rw[gStep_ok hg hr]at h;have h1:=ih _ _ _ _ _ hr;have h2:=ihl _ _ _ h;have h3:(s.ns++[r.name]).length≤s2.ns.length:=h1;rw [List.length_append]at h3;omega
  unfold yP at h
  cases hf:l.foldl (uJ (yP k (d+1)) d base) (.ok ([],s)) with
  | error e=>rw [hf]at h;cases h
  | ok x=>
   rw[hf]at h;injection h with h
   exact h ▸ go l [] s x hf
section
variable {d:Int} {base:Pl} {sibs:List Pl} {s:GSt} {r:RegT}
theorem gOne4(h:6<d):tR d base sibs s r = .error 4:=if_pos h
theorem gOne2(h1:¬6<d)(h2:200≤s.ns.length):tR d base sibs s r = .error 2:=by unfold tR;rw [if_neg h1,if_pos h2]
theorem gOne5(h1:¬6<d)(h2:¬200≤s.ns.length)(h3:named r.name=false∨r.name∈s.ns):tR d base sibs s r = .error 5:=by unfold tR;rw [if_neg h1,if_neg h2,if_pos h3]
theorem gOne6(h1:¬6<d)(h2:¬200≤s.ns.length)(h3:named r.name=true)(h4:r.name∉s.ns)(h5:r.w<1∨64<r.w∨r.a<0∨(d=1∧r.a≠0)∨(d≠1∧base.width - r.w<r.a)):tR d base sibs s r = .error 6:=by
 unfold tR;rw [if_neg h1,if_neg h2,if_neg (by rw[h3];simp [h4]),if_pos h5]
theorem gOne7(h1:¬6<d)(h2:¬200≤s.ns.length)(h3:named r.name=true)(h4:r.name∉s.ns)(h5:¬(r.w<1∨64<r.w∨r.a<0∨(d=1∧r.a≠0)∨(d≠1∧base.width - r.w<r.a)))(h6:sibs.any (tJ (gPl d base sibs r))=true):tR d base sibs s r = .error 7:=by
 unfold tR;rw [if_neg h1,if_neg h2,if_neg (by rw[h3];simp [h4]),if_neg h5,if_pos h6]
theorem gOneK(h1:¬6<d)(h2:¬200≤s.ns.length)(h3:named r.name=true)(h4:r.name∉s.ns)(h5:¬(r.w<1∨64<r.w∨r.a<0∨(d=1∧r.a≠0)∨(d≠1∧base.width - r.w<r.a)))(h6:sibs.any (tJ (gPl d base sibs r))=false):tR d base sibs s r = .ok (gPl d base sibs r):=by
 unfold tR;rw [if_neg h1,if_neg h2,if_neg (by rw[h3];simp [h4]),if_neg h5,if_neg (by rw[h6];decide)]
theorem any_no{α : Type}{l:List α}{f: α→Bool}(h:∀(i:Nat) x,l[i]? = some x→f x=false):l.any f=false:=by
 cases e:l.any f with
 | false=>rfl
 | true=>
  obtain⟨x,hx,e2⟩:=List.any_eq_true.1 e;obtain⟨i,hi⟩:=List.mem_iff_getElem?.1 hx;rw [h i x hi]at e2;cases e2
end
end M
end Go.Ex
namespace Go.Proofs.YtcmohelnoldfbaaGreat
open Go Go.Ex Go.Ex.M
set_option maxRecDepth 100000
set_option maxHeartbeats 8000000
variable {lo bt z n:Nat} {h:zB} {m:MachT} {nsv psv kv:Value} {ns:List Tx} {ps:List Pl} {kvs:List Value}
structure Tl (lo:Nat) (h:zB) (bt:Nat) (m:MachT) (nsv psv:Value) (ns:List Tx) (ps:List Pl):Prop where
 mm:MachM lo h m
 rn:Row lo h nsv tStr 1 ns.length (ns.map str)
 rp:Row lo h psv tPl 3 ps.length (ps.flatMap plC)
 hb:lo≤bt
 hl:ps.length=ns.length
 hn:ns.length≤200
 ok:∀p∈ps,PlB p
theorem Tl.tb{n':Nat}{h':zB}(k:Tl lo h bt m nsv psv ns ps)(t:Tch [] h lo h' n')(hc:Cel h' bt z 0 (yO m++[nsv,psv,kv]))(hb:bt<n'):Tb n' h' bt z m nsv psv kv ns ps:=
 ⟨(k.mm.tch t (Nat.le_refl _)).up t.le,hc,(k.rn.tch t (Nat.le_refl _) fun _ _ hx=>(by cases hx)).up t.le,(k.rp.tch t (Nat.le_refl _) fun _ _ hx=>(by cases hx)).up t.le,hb,k.hl,k.hn,k.ok⟩
theorem rclasses_com(k:Tl lo h bt m nsv psv ns ps)(hlo:lo≤n)(hbn:bt<n)(hc:Cel h bt z 0 (yO m++[nsv,psv,.slice none 0 0])):Com P 0 128 [ptr bt 0] h n fun r h' n'=>∃e,r = .ret (I64 e)∧ClsErr m ns ps e∧Tch [bt] h n h' n'∧(e=0→∃kv kvs,Tc n' h' bt z m nsv psv kv ns ps kvs):=by
 have hinf:inf<4611686018427387904:=by decide
 have hcll:=k.mm.cls.lt;have hlb:=k.hb;refine ent fun u=>?_;by_cases h64:m.classes.length≤64
 · have r0:=k.mm.cls 0;repeat' first|refine st ?_|refine ob ?_|refine ob1 ?_|refine cT ?_|refine cF ?_|refine zC ?_|refine cX (fun _=>?_) fun _=>?_|fail
   refine lpR (α :=Nat×Value×List Value) (fun a=>[(0,ptr bt 0),(3,I64 a.1)]) (fun a h' n'=>Tch [bt] h n h' n'∧a.1≤m.classes.length∧(∀(j:Nat) c,j<a.1→m.classes[j]? = some c→clsE m ns ps j c 0)∧Cel h' bt z 0 (yO m++[nsv,psv,a.2.1])∧a.2.2.length=a.1∧Own n n' h' a.2.1 tInts 1 a.1 a.2.2∧(∀(i:Nat) c,i<a.1→m.classes[i]? = some c→∃v,a.2.2[i]? = some v∧Own n n' h' v tInt 1 c.regs.length ((c.regs.map (pos ns)).map I64))) (fun a=>m.classes.length - a.1) (0,.slice none 0 0,[]) (by repeat' first|exact trivial|refine⟨rfl,?_⟩) ⟨zA,Nat.zero_le _,fun j _ hj=>absurd hj (Nat.not_lt_zero _),hc,rfl,Own.nil,fun j _ hj=>absurd hj (Nat.not_lt_zero _)⟩ ?_
   rintro ⟨i,kv,kvs⟩ t h' n' ⟨ht,hi,hno,hcel,hkl,hko,hke⟩
   dsimp only at hi hno hcel hkl hko hke ⊢;have hn':=ht.le;have htd:=ht.dn (lo:=lo) hlo (by simp;omega);have k':=k.tb htd hcel (by omega);have r':=k'.mm.cls 0;have rp':=k'.rp;by_cases hlt:i<m.classes.length
   · have c0:m.classes[i]? = some m.classes[i]:=List.getElem?_eq_getElem hlt;generalize m.classes[i]=c at c0
     have c1:=zM r' c0;have rcI:=k'.mm.clsr c (List.mem_of_getElem? c0);have rc:=rcI 0;have ro:=rc.one;have hl1:=r'.low (by omega);have hrl:=rcI.lt;have hcp:=cls_le c0;have bad5:¬nameOKc m ns i c→∀h2 n2,Tch [bt] h n h2 n2→∃e,Out.ret (I64 5) = .ret (I64 e)∧ClsErr m ns ps e∧Tch [bt] h n h2 n2∧(e=0→∃kv kvs,Tc n2 h2 bt z m nsv psv kv ns ps kvs):=fun hb h2 n2 t2=>⟨5,rfl,.inr ⟨h64,tL c0 (.inr (.inl ⟨rfl,hb⟩)) (by decide) hno⟩,t2,fun h9=>absurd h9 (by decide)⟩;repeat' first|refine st ?_|refine ob ?_|refine ob1 ?_|refine cT ?_|refine cF ?_|refine zC ?_|refine cX (fun _=>?_) fun _=>?_|refine zY (yH (Tb.tch k' zA (by omega)) _) ?_|refine zY (wR (Tb.tch k' zA (by omega)) _) ?_|fail
     · exact bad5 (fun hb=>by have:=hb.1;simp_all) _ _ zA
     · exact bad5 (fun hb=>by have:=hb.2.1;omega) _ _ zA
     · rename_i e1 e2 e3;exact bad5 (fun hb=>hb.2.2 (pos_ge.1 e3)) _ _ zA
     all_goals (
      have hname:nameOKc m ns i c:=⟨by assumption,by omega,fun hx=>by have:=pos_ge.2 hx;omega⟩;have bad8:¬restOKc ns ps c→∀h2 n2,Tch [bt] h n h2 n2→∃e,Out.ret (I64 8) = .ret (I64 e)∧ClsErr m ns ps e∧Tch [bt] h n h2 n2∧(e=0→∃kv kvs,Tc n2 h2 bt z m nsv psv kv ns ps kvs):=fun hb h2 n2 t2=>⟨8,rfl,.inr ⟨h64,tL c0 (.inr (.inr ⟨rfl,hname,hb⟩)) (by decide) hno⟩,t2,fun h9=>absurd h9 (by decide)⟩)
     · exact bad8 (fun hb=>by have:=hb.1;omega) _ _ zA
     · exact bad8 (fun hb=>by have:=hb.2.1;omega) _ _ zA
     · refine lpR (α :=Nat×Value) (fun a=>[(0,ptr bt 0),(3,I64 i),(4,ptr n' 0),(6,a.2),(7,I64 a.1)]) (fun a h2 n2=>Tch [] h' n' h2 n2∧n'<n2∧Cel h2 n' (36+1) 0 (clsC c)∧a.1≤c.regs.length∧Own (n'+1) n2 h2 a.2 tInt 1 a.1 (((c.regs.take a.1).map (pos ns)).map I64)∧∀(j:Nat) x,j<a.1→c.regs[j]? = some x→regOKc ns ps c j x) (fun a=>c.regs.length - a.1) (0,.slice none 0 0) (by repeat' first|exact trivial|refine⟨rfl,?_⟩) ⟨zA,by omega,zE,Nat.zero_le _,Own.nil,fun j _ hj=>absurd hj (Nat.not_lt_zero _)⟩ ?_;clear c1 rc r' rp'
       rintro ⟨j,lv⟩ t h2 n2 ⟨ht2,hn2,hc2,hj,hlo2,hno2⟩
       dsimp only at hj hlo2 hno2 ⊢;have k2:=Tb.tch k' ht2 (Nat.le_refl _);have hn3:=ht2.le;have rp2:=k2.rp;have hcel2:=k2.cel;have rc2:=k2.mm.clsr c (List.mem_of_getElem? c0) 0;have htb:Tch [bt] h n h2 n2:=Tch.tch ht2 ht (by simp);by_cases hlt2:j<c.regs.length
       · have d0:c.regs[j]? = some c.regs[j]:=List.getElem?_eq_getElem hlt2;generalize c.regs[j]=x at d0
         have d1:=yX rc2 d0;have bx:¬regOKc ns ps c j x→¬restOKc ns ps c:=fun hb hr=>hb (hr.2.2 j x d0);have hL:((c.regs.take j).map (pos ns)).length=j:=by rw[List.length_map,List.length_take];omega
         have rl:Row n2 h2 lv tInt 1 ((c.regs.take j).map (pos ns)).length (((c.regs.take j).map (pos ns)).map I64):=by rw[hL];exact hlo2.row (by decide)
         have hpf:=pos_first d0;by_cases hx:x∈ns
         · have e1:Pur P 0 73 [ptr bt 0,str x] h2 n2 (I64 (ns.idxOf x:Nat)):=by have:=wR (n:=n2) k2 x;rw [vK hx]at this;exact this
           have e2:((ns.idxOf x:Nat):Int)∈(c.regs.take j).map (pos ns)↔x∈c.regs.take j:=by
            rw[← vK hx];refine pos_mem fun r hr=>?_;obtain⟨q,hq⟩:=List.mem_iff_getElem?.1 hr;have hq2:q<j:=by have:=(List.getElem?_eq_some_iff.1 hq).1;rw [List.length_take]at this;omega
            rw[List.getElem?_take_of_lt hq2]at hq;exact(hno2 q r hq2 hq).1
           have hix:=idx_lt hx;have hpl:=k2.hl;have y2:=xP (zM rp2 (plc_at hx hpl)) (j:=2) rfl
           obtain⟨r0,rr,hcr⟩:∃r0 rr,c.regs=r0::rr:=by
            cases hq:c.regs with
            | nil=>rw [hq]at hlt2;exact absurd hlt2 (Nat.not_lt_zero _)
            | cons a b=>exact⟨a,b,rfl⟩
           have ew:wdOf ns ps c=(yG ns ps r0).width:=by unfold wdOf;rw [hcr]
           have nxt:regOKc ns ps c j x→∀(q:Nat) y,q<j+1→c.regs[q]? = some y→regOKc ns ps c q y:=fun hb q y hq e=>by
            rcases Nat.lt_succ_iff_lt_or_eq.1 hq with h9|rfl
            · exact hno2 q y h9 e
            · rw[d0]at e;cases e;exact hb
           have app:∀h3 n3 v3,Own (n'+1) n3 h3 v3 tInt 1 (j+1) (((c.regs.take j).map (pos ns)).map I64++[I64 (ns.idxOf x:Nat)])→Own (n'+1) n3 h3 v3 tInt 1 (j+1) (((c.regs.take (j+1)).map (pos ns)).map I64):=fun h3 n3 v3 o=>by
            rw[xN d0,List.map_append,List.map_append,List.map_cons,vK hx];exact o
           rcases Nat.eq_zero_or_pos j with hj0|hj0
           · repeat' first|refine st ?_|refine ob ?_|refine ob1 ?_|refine cT ?_|refine cF ?_|refine zC ?_|refine cX (fun _=>?_) fun _=>?_|refine zY e1 ?_|refine zY (rin_pur rl (by omega)) ?_|fail
             · rename_i f1;exact bad8 (bx fun hb=>hpf.1 hb.2.1 (e2.1 f1)) _ _ htb
             · rename_i f1;refine appO (hlo2.tch (S:=[]) zA (by simp)) (zS (e:=tInt) (sz:=1) (len:=1) rfl (by decide)) (by omega) ⟨rfl,trivial⟩ (by omega) ?_
               rintro v' h3 n3 ho3 ht3
               have hn4:=ht3.le;have ht4:Tch [] h' n' h3 n3:=Tch.tch ht3 zA fun x hx=>.inl (by have:=zZ hlo2 x hx;omega);repeat' first|refine st ?_|refine ob ?_|refine ob1 ?_|refine cT ?_|refine cF ?_|refine zC ?_|refine cX (fun _=>?_) fun _=>?_|fail
               have hx0:x=r0:=by subst hj0;rw [hcr]at d0;cases d0;rfl
               exact⟨(j+1,v'),(by dsimp only;omega),(by repeat' first|exact trivial|refine⟨rfl,?_⟩),ht4,by omega,(hc2.hal (by omega)).tch ht3 (by omega) (fun hx=>by have:=zZ hlo2 _ hx;omega),by omega,app _ _ _ ho3,nxt ⟨hx,hpf.2 fun h9=>f1 (e2.2 h9),by rw[ew,hx0]⟩⟩
           · have hr0:r0∈ns:=(hno2 0 r0 hj0 (by rw[hcr];rfl)).1;have hix0:=idx_lt hr0;have y0:=xP (zM rp2 (plc_at hr0 hpl)) (j:=2) rfl
             have y1:zD h2 (sbk lv) (sof lv+0*1)=some (I64 (ns.idxOf r0:Nat)):=by
              rw[Nat.zero_mul];refine rl.at ?_;rw [hcr,show j=(j - 1)+1 by omega,List.take_succ_cons,List.map_cons,List.map_cons,vK hr0];rfl
             have hll:0<((c.regs.take j).map (pos ns)).length:=by omega
             repeat' first|refine st ?_|refine ob ?_|refine ob1 ?_|refine cT ?_|refine cF ?_|refine zC ?_|refine cX (fun _=>?_) fun _=>?_|refine zY e1 ?_|refine zY (rin_pur rl (by omega)) ?_|fail
             · rename_i f1;exact bad8 (bx fun hb=>hpf.1 hb.2.1 (e2.1 f1)) _ _ htb
             · rename_i f1 f2;exact bad8 (bx fun hb=>f2 (hb.2.2.trans ew)) _ _ htb
             · rename_i f1 f2;refine appO (hlo2.tch (S:=[]) zA (by simp)) (zS (e:=tInt) (sz:=1) (len:=1) rfl (by decide)) (by omega) ⟨rfl,trivial⟩ (by omega) ?_
               rintro v' h3 n3 ho3 ht3
               have hn4:=ht3.le;have ht4:Tch [] h' n' h3 n3:=Tch.tch ht3 zA fun x hx=>.inl (by have:=zZ hlo2 x hx;omega);repeat' first|refine st ?_|refine ob ?_|refine ob1 ?_|refine cT ?_|refine cF ?_|refine zC ?_|refine cX (fun _=>?_) fun _=>?_|fail
               exact⟨(j+1,v'),(by dsimp only;omega),(by repeat' first|exact trivial|refine⟨rfl,?_⟩),ht4,by omega,(hc2.hal (by omega)).tch ht3 (by omega) (fun hx=>by have:=zZ hlo2 _ hx;omega),by omega,app _ _ _ ho3,nxt ⟨hx,hpf.2 fun h9=>f1 (e2.2 h9),(Decidable.not_not.1 f2).trans ew.symm⟩⟩
         · have e1:Pur P 0 73 [ptr bt 0,str x] h2 n2 (I64 (-1)):=by have:=wR (n:=n2) k2 x;rw [pos_out hx]at this;exact this
           repeat' first|refine st ?_|refine ob ?_|refine ob1 ?_|refine cT ?_|refine cF ?_|refine zC ?_|refine cX (fun _=>?_) fun _=>?_|refine zY e1 ?_|fail
           exact bad8 (bx fun hb=>hx hb.1) _ _ htb
       · obtain rfl:j=c.regs.length:=by omega
         rw[List.take_length]at hlo2;have hko2:=hko.tch ht2 (by simp);obtain⟨lp,lc,rfl⟩:=hlo2.sl;repeat' first|refine st ?_|refine ob ?_|refine ob1 ?_|refine cT ?_|refine cF ?_|refine zC ?_|refine cX (fun _=>?_) fun _=>?_|fail
         refine appO (hko2.tch (S:=[]) zA (by simp)) (zS (e:=tInts) (sz:=1) (len:=1) rfl (by decide)) (by omega) ⟨hlo2.one,trivial⟩ (by omega) ?_
         rintro v' h3 n3 ho3 ht3
         have hn4:=ht3.le;have ro3:=ho3.one;have hcel3:Cel h3 bt z 0 (yO m++[nsv,psv,kv]):=Cel.tch (S:=(zN kv).toList) (n:=n2+1) (zV (c:=by first|exact hcel2.hal (by omega))) ht3 (by omega) (fun hx=>by have:=zZ hko _ hx;omega);have ht4:Tch [bt] h n h3 n3:=Tch.tch ht3 zA fun x hx=>.inl (zZ hko x hx);repeat' first|refine st ?_|refine ob ?_|refine ob1 ?_|refine cT ?_|refine cF ?_|refine zC ?_|refine cX (fun _=>?_) fun _=>?_|fail
         refine⟨(i+1,v',kvs++[.slice lp c.regs.length lc]),(by dsimp only;omega),(by repeat' first|exact trivial|refine⟨rfl,?_⟩),zA,by omega,rA c0 (.inl ⟨rfl,hname,by omega,by omega,fun j' y e=>hno2 j' y (List.getElem?_eq_some_iff.1 e).1 e⟩) hno,zE,by rw[List.length_append,hkl];rfl,?_,fun q y hq e=>?_⟩
         · exact ho3.tch (S:=[bt]) (zA (S:=[bt])) (fun b hb=>by have:=(ho3.blk hb).1;simp;omega)
         · have up:∀(v:Value) (len:Nat) (vs:List Value),Own n n2 h2 v tInt 1 len vs→Own n n3 (hst h3 bt 10 [v']) v tInt 1 len vs:=fun v len vs o=>
            ((o.tch (S:=[]) (zA:Tch [] h2 n2 (hal h2 n2 (mkC [.slice lp c.regs.length lc] 0 0)) (n2+1)) (by simp)).tch ht3 fun b hb=>own_ne o hko2 (.inl (by decide)) b hb).tch (S:=[bt]) (zA (S:=[bt])) (fun b hb=>by have:=(o.blk hb).1;simp;omega)
           rcases Nat.lt_succ_iff_lt_or_eq.1 hq with h9|rfl
           · obtain⟨v,g1,g2⟩:=hke q y h9 e;exact⟨v,by rw[List.getElem?_append_left (by omega)];exact g1,up _ _ _ (g2.tch ht2 (by simp))⟩
           · rw[c0]at e;cases e;exact⟨_,by rw[List.getElem?_append_right (by omega),hkl,Nat.sub_self];rfl,up _ _ _ (hlo2.dnl (by omega))⟩
   · obtain rfl:i=m.classes.length:=by omega
     repeat' first|refine st ?_|refine ob ?_|refine ob1 ?_|refine cT ?_|refine cF ?_|refine zC ?_|refine cX (fun _=>?_) fun _=>?_|fail
     refine⟨0,rfl,.inr ⟨h64,first_all hno⟩,ht,fun _=>⟨kv,kvs,k',?_,hkl,fun i c hc=>?_⟩⟩
     · have:=hko.row (by decide);rw [hkl];exact this
     · obtain⟨v,h1,h2⟩:=hke i c (List.getElem?_eq_some_iff.1 hc).1 hc;exact⟨v,h1,h2.row (by decide)⟩
 · have r0:=k.mm.cls 0;repeat' first|refine st ?_|refine ob ?_|refine ob1 ?_|refine cT ?_|refine cF ?_|refine zC ?_|refine cX (fun _=>?_) fun _=>?_|fail
   exact⟨2,rfl,.inl ⟨rfl,by omega⟩,zA,fun h9=>absurd h9 (by decide)⟩
end Go.Proofs.YtcmohelnoldfbaaGreat
namespace Go.Proofs.YtcmohelnoldfbaaGreat
open Go Go.Ex Go.Ex.M
set_option maxRecDepth 100000
set_option maxHeartbeats 8000000
abbrev tO(e:Int):zH:=[⟨.iface 200 (.agg ⟨[I64 e]⟩),false,false⟩]
theorem need_com(z:Bool)(e:Int)(h:zB)(n:Nat):Com P 0 135 [.bool z,I64 e] h n fun o h' n'=>o=(if z then .ret (.tuple #[]) else .panic (tO e))∧h'=h∧n'=n:=by
 refine ent fun u=>?_;cases z
 · repeat' first|refine st ?_|refine ob ?_|refine ob1 ?_|refine cT ?_|refine cF ?_|refine zC ?_|refine cX (fun _=>?_) fun _=>?_|fail
   exact⟨rfl,rfl,rfl⟩
 · repeat' first|refine st ?_|refine ob ?_|refine ob1 ?_|refine cT ?_|refine cF ?_|refine zC ?_|refine cX (fun _=>?_) fun _=>?_|fail
   exact⟨rfl,rfl,rfl⟩
instance {z:Bool} {e:Int} {h:zB} {n:Nat} {K:Out→zB→Nat→Prop}:Stp (CallB P 0 135 [.bool z,I64 e] h n K) (Ch z (K (.ret (.tuple #[])) h n) (K (.panic (tO e)) h n)):=⟨fun⟨k1,k2⟩=>cal (need_com z e h n) fun o h' n' ⟨e1,e2,e3⟩=>by
 subst e1 e2 e3;cases z
 · exact k2 rfl
 · exact k1 rfl⟩
instance arity_c (s:Tx) (h:zB) (n:Nat):PurC P 0 179 [str s] h n (I64 (arity s)):=⟨by
 refine ent fun u=>?_;repeat' first|refine st ?_|refine ob ?_|refine ob1 ?_|refine cT ?_|refine cF ?_|refine zC ?_|refine cX (fun _=>?_) fun _=>?_|fail
 all_goals (refine fin ?_;try subst_vars)
 all_goals first|rfl|skip
 · rename_i h1;unfold arity ar2;simp_all⟩
theorem idxf_cls{lo e n:Nat}{h:zB}{sv:Value}{l:List ClassT}{g:FuncId}{fs cs:List Value}{p:ClassT→Bool}(r:Row lo h sv e 2 l.length (l.flatMap clsC))(hl:l.length<inf)(hp:∀x∈l,Pur P 0 g (fs++([.agg ⟨clsC x⟩]++cs)) h n (.bool (p x))):Pur P 0 183 [sv,.func (.func g) ⟨fs⟩ ⟨cs⟩] h n (I64 (posF p l)):=by
 have hinf:inf<4611686018427387904:=by decide
 refine ent fun u=>?_;repeat' first|refine st ?_|refine ob ?_|refine ob1 ?_|refine cT ?_|refine cF ?_|refine zC ?_|refine cX (fun _=>?_) fun _=>?_|fail
 refine lpR (fun k:Nat=>[(0,sv),(1,.func (.func g) ⟨fs⟩ ⟨cs⟩),(7,I64 l.length),(8,I64 k)]) (fun k h' n'=>h'=h∧n'=n∧k≤l.length∧∀(j:Nat) (y:ClassT),j<k→l[j]? = some y→p y=false) (fun k=>l.length - k) 0 ⟨rfl,rfl,rfl,rfl,trivial⟩ ⟨rfl,rfl,Nat.zero_le _,fun j _ hj=>by omega⟩ ?_
 rintro k t h' n' ⟨rfl,rfl,hk,hno⟩
 by_cases hlt:k<l.length
 · have c0:l[k]? = some l[k]:=List.getElem?_eq_getElem hlt;have c1:=zM r c0;have c2:=hp l[k] (List.getElem_mem hlt);repeat' first|refine st ?_|refine ob ?_|refine ob1 ?_|refine cT ?_|refine cF ?_|refine zC ?_|refine cX (fun _=>?_) fun _=>?_|refine zY c2 ?_|fail
   · rename_i e1;exact fin (by rw[posF_hit c0 e1 hno])
   · rename_i e1
     exact⟨k+1,by dsimp only;omega,⟨rfl,rfl,rfl,rfl,trivial⟩,rfl,rfl,by omega,fun j y hj e2=>by
      rcases Nat.lt_succ_iff_lt_or_eq.1 hj with h9|rfl
      · exact hno j y h9 e2
      · rw[c0]at e2;cases e2;exact e1⟩
 · obtain rfl:k=l.length:=by omega
   repeat' first|refine st ?_|refine ob ?_|refine ob1 ?_|refine cT ?_|refine cF ?_|refine zC ?_|refine cX (fun _=>?_) fun _=>?_|fail
   exact fin (by rw[posF_no fun j y hj=>hno j y (List.getElem?_eq_some_iff.1 hj).1 hj])
theorem idxf_op{lo e n:Nat}{h:zB}{sv:Value}{l:List OpT}{g:FuncId}{fs cs:List Value}{p:OpT→Bool}(r:Row lo h sv e 6 l.length (l.flatMap opC))(hl:l.length<inf)(hp:∀x∈l,Pur P 0 g (fs++([.agg ⟨opC x⟩]++cs)) h n (.bool (p x))):Pur P 0 204 [sv,.func (.func g) ⟨fs⟩ ⟨cs⟩] h n (I64 (posF p l)):=by
 have hinf:inf<4611686018427387904:=by decide
 refine ent fun u=>?_;repeat' first|refine st ?_|refine ob ?_|refine ob1 ?_|refine cT ?_|refine cF ?_|refine zC ?_|refine cX (fun _=>?_) fun _=>?_|fail
 refine lpR (fun k:Nat=>[(0,sv),(1,.func (.func g) ⟨fs⟩ ⟨cs⟩),(7,I64 l.length),(8,I64 k)]) (fun k h' n'=>h'=h∧n'=n∧k≤l.length∧∀(j:Nat) (y:OpT),j<k→l[j]? = some y→p y=false) (fun k=>l.length - k) 0 ⟨rfl,rfl,rfl,rfl,trivial⟩ ⟨rfl,rfl,Nat.zero_le _,fun j _ hj=>by omega⟩ ?_
 rintro k t h' n' ⟨rfl,rfl,hk,hno⟩
 by_cases hlt:k<l.length
 · have c0:l[k]? = some l[k]:=List.getElem?_eq_getElem hlt;have c1:=zM r c0;have c2:=hp l[k] (List.getElem_mem hlt);repeat' first|refine st ?_|refine ob ?_|refine ob1 ?_|refine cT ?_|refine cF ?_|refine zC ?_|refine cX (fun _=>?_) fun _=>?_|refine zY c2 ?_|fail
   · rename_i e1;exact fin (by rw[posF_hit c0 e1 hno])
   · rename_i e1
     exact⟨k+1,by dsimp only;omega,⟨rfl,rfl,rfl,rfl,trivial⟩,rfl,rfl,by omega,fun j y hj e2=>by
      rcases Nat.lt_succ_iff_lt_or_eq.1 hj with h9|rfl
      · exact hno j y h9 e2
      · rw[c0]at e2;cases e2;exact e1⟩
 · obtain rfl:k=l.length:=by omega
   repeat' first|refine st ?_|refine ob ?_|refine ob1 ?_|refine cT ?_|refine cF ?_|refine zC ?_|refine cX (fun _=>?_) fun _=>?_|fail
   exact fin (by rw[posF_no fun j y hj=>hno j y (List.getElem?_eq_some_iff.1 hj).1 hj])
end Go.Proofs.YtcmohelnoldfbaaGreat
namespace Go.Proofs.YtcmohelnoldfbaaGreat
open Go Go.Ex Go.Ex.M
set_option maxRecDepth 100000
set_option maxHeartbeats 8000000
abbrev stopG(e:Int):zH:=[⟨.iface 154 (.agg ⟨[I64 e]⟩),false,false⟩]
theorem gneed_com(z:Bool)(e:Int)(h:zB)(n:Nat):Com P 0 151 [.bool z,I64 e] h n fun o h' n'=>o=(if z then .ret (.tuple #[]) else .panic (stopG e))∧h'=h∧n'=n:=by
 refine ent fun u=>?_;cases z
 · repeat' first|refine st ?_|refine ob ?_|refine ob1 ?_|refine cT ?_|refine cF ?_|refine zC ?_|refine cX (fun _=>?_) fun _=>?_|fail
   exact⟨rfl,rfl,rfl⟩
 · repeat' first|refine st ?_|refine ob ?_|refine ob1 ?_|refine cT ?_|refine cF ?_|refine zC ?_|refine cX (fun _=>?_) fun _=>?_|fail
   exact⟨rfl,rfl,rfl⟩
instance {z:Bool} {e:Int} {h:zB} {n:Nat} {K:Out→zB→Nat→Prop}:Stp (CallB P 0 151 [.bool z,I64 e] h n K) (Ch z (K (.ret (.tuple #[])) h n) (K (.panic (stopG e)) h n)):=⟨fun⟨k1,k2⟩=>cal (gneed_com z e h n) fun o h' n' ⟨e1,e2,e3⟩=>by
 subst e1 e2 e3;cases z
 · exact k2 rfl
 · exact k1 rfl⟩
theorem places1_none{b1 b2 b3:Nat}{h:zB}{n:Nat}:Def P 0 94 [ptr b1 0,ptr b2 0,ptr b3 0] none h n fun u' h' n'=>u'=none∧Tch [] h n h' n':=by
 refine entD ?_;repeat' first|refine st ?_|refine ob ?_|refine ob1 ?_|refine cT ?_|refine cF ?_|refine zC ?_|refine cX (fun _=>?_) fun _=>?_|fail
 exact⟨_,rfl,rfl,zA⟩
theorem places1_some{b1 b2 b3 z1 z2 z3:Nat}{h:zB}{n:Nat}{v1 v2:Value}{e0 e:Int}(h1:b1<n)(h2:b2<n)(h3:b3<n)(h12:b1≠b2)(h13:b1≠b3)(h23:b2≠b3)(c1:Cel h b1 z1 0 [v1])(c2:Cel h b2 z2 0 [v2])(c3:Cel h b3 z3 0 [I64 e0]):Def P 0 94 [ptr b1 0,ptr b2 0,ptr b3 0] (some (stopG e)) h n fun u' h' n'=>u'=some [⟨.iface 154 (.agg ⟨[I64 e]⟩),true,false⟩]∧Tch [b1,b2,b3] h n h' n'∧Cel h' b1 z1 0 [.slice none 0 0]∧Cel h' b2 z2 0 [.slice none 0 0]∧Cel h' b3 z3 0 [I64 e]:=by
 refine entD ?_;repeat' first|refine st ?_|refine ob ?_|refine ob1 ?_|refine cT ?_|refine cF ?_|refine zC ?_|refine cX (fun _=>?_) fun _=>?_|fail
 exact⟨_,rfl,rfl,zA,zE,zE,zE⟩
end Go.Proofs.YtcmohelnoldfbaaGreat
namespace Go.Proofs.YtcmohelnoldfbaaGreat
open Go Go.Ex Go.Ex.M
set_option maxRecDepth 100000
set_option maxHeartbeats 8000000
theorem all_ret{h:zB}{n:Nat}{sv:Value}(ho:sv.oneCell'=true):Ret P 0 95 [sv] h n fun v h' n'=>∃pl,v = .func (.func 149) ⟨[]⟩ ⟨[ptr pl 0]⟩∧n≤pl∧pl<n'∧zD h' pl 0=some sv∧Tch [] h n h' n':=by
 refine ent fun u=>?_;repeat' first|refine st ?_|refine ob ?_|refine ob1 ?_|refine cT ?_|refine cF ?_|refine zC ?_|refine cX (fun _=>?_) fun _=>?_|fail
 exact⟨_,rfl,n,rfl,by omega,by omega,zL,zA⟩
end Go.Proofs.YtcmohelnoldfbaaGreat
namespace Go.Proofs.YtcmohelnoldfbaaGreat
open Go Go.Ex Go.Ex.M
set_option maxRecDepth 100000
set_option maxHeartbeats 8000000
theorem cel_same{h h':zB}{b z kd:Nat}{vs:List Value}(c:Cel h b z kd vs)(e:zF h' b=zF h b):Cel h' b z kd vs:=by
 unfold Cel zD;rw [e];exact c
theorem down_com{lo L:Nat}{elems:List (RegT×Int)}{J:List (RegT×Int)→zB→Nat→Prop}{JF:zB→Nat→Prop}{JP:zH→zB→Nat→Prop}
(hE:∀done h' n',J done h' n'→lo≤n')(hcl:∀done h' n' h2 n2,J done h' n'→Tch [] h' n' h2 n2→J done h2 n2)
(hkeep:∀done h' n' sv l,J done h' n'→∀h0 n0,J [] h0 n0→RegsM lo h0 sv l→RegsM lo h' sv l)
(hy:∀done e h' n',J done h' n'→(done++[e]) <+: elems→Rou P 0 L [.agg ⟨deepC e⟩] h' n' fun r h2 n2=>n'≤n2∧((r = .ret (.bool true)∧J (done++[e]) h2 n2∧∀b,b<n'→xD (zF h' b)=some (4,102+1,0)→zF h2 b=zF h' b)∨(r = .ret (.bool false)∧JF h2 n2)∨∃c,r = .panic c∧JP c h2 n2))
{h0:zB}{n0:Nat}(hj0:J [] h0 n0):∀(k:Nat) (d:Int) (l:List RegT) (sv:Value) (done:List (RegT×Int)) (h:zB) (n:Nat),d+k=8→0<d→RegsM lo h0 sv l→J done h n→(done++preL k d l) <+: elems→
 Com P 0 150 [sv,I64 d,.func (.yield L) #[] #[]] h n fun o h' n'=>n≤n'∧((o = .ret (.bool true)∧J (done++preL k d l) h' n')∨(o = .ret (.bool false)∧JF h' n')∨∃c,o = .panic c∧JP c h' n'):=by
 intro k
 induction k with
 | zero=>
  intro d l sv done h n hd h0d hr hj hp;refine ent fun u=>?_;repeat' first|refine st ?_|refine ob ?_|refine ob1 ?_|refine cT ?_|refine cF ?_|refine zC ?_|refine cX (fun _=>?_) fun _=>?_|fail
  exact⟨Nat.le_refl _,.inl ⟨rfl,by unfold preL;rw [List.append_nil];exact hj⟩⟩
 | succ k ih=>
  intro d l sv done h n hd h0d hr hj hp;have hlo:=hE _ _ _ hj;have hrm:=hkeep _ _ _ _ _ hj _ _ hj0 hr;have r:=hrm.row 0;have hl:=hrm.row.lt;have hinf:inf<4611686018427387904:=by decide
  refine ent fun u=>?_;repeat' first|refine st ?_|refine ob ?_|refine ob1 ?_|refine cT ?_|refine cF ?_|refine zC ?_|refine cX (fun _=>?_) fun _=>?_|fail
  refine lpR (fun i:Nat=>[(1,I64 d),(2,.func (.yield L) #[] #[]),(11,sv),(12,I64 l.length),(13,I64 i)]) (fun i h' n'=>n≤n'∧i≤l.length∧J (done++preL (k+1) d (l.take i)) h' n') (fun i=>l.length - i) 0 (by repeat' first|exact trivial|refine⟨rfl,?_⟩) ⟨Nat.le_refl _,Nat.zero_le _,by unfold preL;simpa using hj⟩ ?_
  rintro i t h' n' ⟨hn',hi,hj'⟩
  have hlo':=hE _ _ _ hj';have hrm':=hkeep _ _ _ _ _ hj' _ _ hj0 hr;have r':=hrm'.row 0;have hl1:=r'.low;by_cases hlt:i<l.length
  · have c0:l[i]? = some l[i]:=List.getElem?_eq_getElem hlt;generalize l[i]=x at c0
    have c1:=zM r' c0;have hxm:=List.mem_of_getElem? c0;have hone:=((hrm'.sub hxm).row 0).one
    have hpre:(done++preL (k+1) d (l.take i))++((x,d)::preL k (d+1) x.subs) <+: elems:=by
     rw[List.append_assoc,← pre_snoc c0];exact List.IsPrefix.trans ((List.prefix_append_right_inj done).2 pre_take) hp
    have hpre1:(done++preL (k+1) d (l.take i))++[(x,d)] <+: elems:=List.IsPrefix.trans ((List.prefix_append_right_inj _).2 ⟨preL k (d+1) x.subs,rfl⟩) hpre;repeat' first|refine st ?_|refine ob ?_|refine ob1 ?_|refine cT ?_|refine cF ?_|refine zC ?_|refine cX (fun _=>?_) fun _=>?_|fail
    have hc8:Cel (hst (hal h' n' (mkC [str [],I64 0,I64 0,.slice none 0 0] (102+1) 0)) n' 0 [str x.name,I64 x.w,I64 x.a,x.sv]) n' (102+1) 0 (regC x):=zE;refine inv_yield (fs:=[]) (cs:=[]) ((hy _ (x,d) _ _ (hcl _ _ _ _ _ hj' zA) hpre1).mono ?_)
    rintro _ h2 n2 ⟨hn2,⟨rfl,hj2,hsame⟩|⟨rfl,hf⟩|⟨c,rfl,hpn⟩⟩
    · have hc9:=cel_same hc8 (hsame n' (by omega) hc8.1);repeat' first|refine st ?_|refine ob ?_|refine ob1 ?_|refine cT ?_|refine cF ?_|refine zC ?_|refine cX (fun _=>?_) fun _=>?_|fail
      refine cal (ih (d+1) x.subs x.sv _ h2 n2 (by omega) (by omega) (hr.sub hxm) hj2 (by rw[List.append_assoc];exact hpre)) ?_
      rintro _ h3 n3 ⟨hn3,⟨rfl,hj3⟩|⟨rfl,hf⟩|⟨c,rfl,hpn⟩⟩
      · repeat' first|refine st ?_|refine ob ?_|refine ob1 ?_|refine cT ?_|refine cF ?_|refine zC ?_|refine cX (fun _=>?_) fun _=>?_|fail
        exact⟨i+1,(by dsimp only;omega),(by repeat' first|exact trivial|refine⟨rfl,?_⟩),by omega,by omega,by rw[pre_snoc c0,← List.append_assoc];rw [List.append_assoc]at hj3;exact hj3⟩
      · repeat' first|refine st ?_|refine ob ?_|refine ob1 ?_|refine cT ?_|refine cF ?_|refine zC ?_|refine cX (fun _=>?_) fun _=>?_|fail
        exact⟨by omega,.inr (.inl ⟨rfl,hf⟩)⟩
      · repeat' first|refine st ?_|refine ob ?_|refine ob1 ?_|refine cT ?_|refine cF ?_|refine zC ?_|refine cX (fun _=>?_) fun _=>?_|fail
        exact⟨by omega,.inr (.inr ⟨c,rfl,hpn⟩)⟩
    · repeat' first|refine st ?_|refine ob ?_|refine ob1 ?_|refine cT ?_|refine cF ?_|refine zC ?_|refine cX (fun _=>?_) fun _=>?_|fail
      exact⟨by omega,.inr (.inl ⟨rfl,hf⟩)⟩
    · repeat' first|refine st ?_|refine ob ?_|refine ob1 ?_|refine cT ?_|refine cF ?_|refine zC ?_|refine cX (fun _=>?_) fun _=>?_|fail
      exact⟨by omega,.inr (.inr ⟨c,rfl,hpn⟩)⟩
  · obtain rfl:i=l.length:=by omega
    repeat' first|refine st ?_|refine ob ?_|refine ob1 ?_|refine cT ?_|refine cF ?_|refine zC ?_|refine cX (fun _=>?_) fun _=>?_|fail
    rw[List.take_length]at hj';exact⟨hn',.inl ⟨rfl,hj'⟩⟩
theorem all1_com{lo L pl:Nat}{l:List RegT}{sv:Value}{J:List (RegT×Int)→zB→Nat→Prop}{JF:zB→Nat→Prop}{JP:zH→zB→Nat→Prop}
(hE:∀done h' n',J done h' n'→lo≤n')(hcl:∀done h' n' h2 n2,J done h' n'→Tch [] h' n' h2 n2→J done h2 n2)
(hkeep:∀done h' n' sv l,J done h' n'→∀h0 n0,J [] h0 n0→RegsM lo h0 sv l→RegsM lo h' sv l)
(hy:∀done e h' n',J done h' n'→(done++[e]) <+: preL 7 1 l→Rou P 0 L [.agg ⟨deepC e⟩] h' n' fun r h2 n2=>n'≤n2∧((r = .ret (.bool true)∧J (done++[e]) h2 n2∧∀b,b<n'→xD (zF h' b)=some (4,102+1,0)→zF h2 b=zF h' b)∨(r = .ret (.bool false)∧JF h2 n2)∨∃c,r = .panic c∧JP c h2 n2))
{h:zB}{n:Nat}(hj:J [] h n)(hr:RegsM lo h sv l)(hc:zD h pl 0=some sv):Com P 0 149 [.func (.yield L) #[] #[],ptr pl 0] h n fun o h' n'=>n≤n'∧((o = .ret (.tuple #[])∧(J (preL 7 1 l) h' n'∨JF h' n'))∨∃c,o = .panic c∧JP c h' n'):=by
 refine ent fun u=>?_;repeat' first|refine st ?_|refine ob ?_|refine ob1 ?_|refine cT ?_|refine cF ?_|refine zC ?_|refine cX (fun _=>?_) fun _=>?_|fail
 refine cal (down_com hE hcl hkeep hy hj 7 1 l sv [] h n (by decide) (by decide) hr hj (by simp)) ?_
 rintro _ h2 n2 ⟨hn,⟨rfl,hj2⟩|⟨rfl,hf⟩|⟨c,rfl,hp⟩⟩
 · repeat' first|refine st ?_|refine ob ?_|refine ob1 ?_|refine cT ?_|refine cF ?_|refine zC ?_|refine cX (fun _=>?_) fun _=>?_|fail
   exact⟨hn,.inl ⟨rfl,.inl hj2⟩⟩
 · repeat' first|refine st ?_|refine ob ?_|refine ob1 ?_|refine cT ?_|refine cF ?_|refine zC ?_|refine cX (fun _=>?_) fun _=>?_|fail
   exact⟨hn,.inl ⟨rfl,.inr hf⟩⟩
 · repeat' first|refine st ?_|refine ob ?_|refine ob1 ?_|refine cT ?_|refine cF ?_|refine zC ?_|refine cX (fun _=>?_) fun _=>?_|fail
   exact⟨hn,.inr ⟨c,rfl,hp⟩⟩
end Go.Proofs.YtcmohelnoldfbaaGreat
namespace Go.Proofs.YtcmohelnoldfbaaGreat
open Go Go.Ex Go.Ex.M
set_option maxRecDepth 100000
set_option maxHeartbeats 8000000
abbrev zGeo:Nat:=230+1
def GErr(h:zB)(bg:Nat)(e:Int):Prop:=∃nsv psv,Cel h bg zGeo 0 [nsv,psv,I64 e]∧nsv.oneCell'=true∧psv.oneCell'=true
structure Gm (n0:Nat) (h:zB) (n bg:Nat) (nsv psv:Value) (s:GSt):Prop where
 cel:Cel h bg zGeo 0 [nsv,psv,I64 0]
 on:Own n0 n h nsv tStr 1 s.ns.length (s.ns.map str)
 op:Own n0 n h psv tPl 3 s.ps.length (s.ps.flatMap plC)
abbrev gS(bg:Nat)(nsv psv:Value):List Nat:=bg::((zN nsv).toList++(zN psv).toList)
theorem gS_fp{bg n:Nat}{nsv psv v:Value}(f:Fp n nsv v∨Fp n psv v):∀b∈(zN v).toList,n≤b∨b∈gS bg nsv psv:=fun b hb=>by
 cases e:zN v with
 | none=>rw [e]at hb;cases hb
 | some c=>
  rw[e]at hb;simp at hb;subst hb;rcases f with f|f
  · rcases f b e with h9|h9
    · exact .inr (by simp[h9])
    · exact .inl h9
  · rcases f b e with h9|h9
    · exact .inr (by simp[h9])
    · exact .inl h9
theorem plg_b{p:Pl}(h:PlG p):PlB p:=by unfold PlG at h;unfold PlB;omega
theorem gdown_take{k:Nat}{d:Int}{base:Pl}{l:List RegT}{s:GSt}{e:Int}{i:Nat}(h:(l.take i).foldl (uJ (yP k (d+1)) d base) (.ok ([],s)) = .error e):yP (k+1) d base l s = .error e:=by
 unfold yP;have e1:l=l.take i++l.drop i:=(List.take_append_drop i l).symm;rw [e1,List.foldl_append,h,xY]
theorem gstep_at{k:Nat}{d:Int}{base:Pl}{l:List RegT}{s:GSt}{i:Nat}{x:RegT}{y:Except Int (List Pl×GSt)}(hx:l[i]? = some x)(h:(l.take i).foldl (uJ (yP k (d+1)) d base) (.ok ([],s))=y):(l.take (i+1)).foldl (uJ (yP k (d+1)) d base) (.ok ([],s))=uJ (yP k (d+1)) d base y x:=by
 rw[xN hx,List.foldl_append,h];rfl
def DnS(lo n0 bg k:Nat):Prop:=∀(d:Int) (base:Pl) (l:List RegT) (sv:Value) (s:GSt) (root:Int) (h:zB) (n:Nat) (nsv psv:Value),d+k=7→0<d→(d=1∧base=⟨0,0,0⟩)∨(PlG base∧root=base.root∧d≠1)→bg<n0→lo≤bg→n0≤n→RegsM lo h sv l→GOK s→Gm n0 h n bg nsv psv s→
 Com P 0 169 [ptr bg 0,sv,I64 d,I64 root,I64 base.at_,I64 base.width] h n fun o h' n'=>o = .ret (.tuple #[])∧Tch (gS bg nsv psv) h n h' n'∧
  ((∃e,yP (k+1) d base l s = .error e∧GErr h' bg e)∨∃s' nsv' psv',yP (k+1) d base l s = .ok s'∧Gm n0 h' n' bg nsv' psv' s'∧GOK s'∧Fp n nsv nsv'∧Fp n psv psv')
theorem rdown_step{lo n0 bg k:Nat}(hrec:∀k',k=k'+1→DnS lo n0 bg k'):DnS lo n0 bg k:=by
 intro d base l sv s root h n nsv psv hd h0d hb hbg hlb hn0 hr hs hg;have r0:=hr.row 0;have hl:=hr.row.lt;have hinf:inf<4611686018427387904:=by decide
 refine ent fun u=>?_;repeat' first|refine st ?_|refine ob ?_|refine ob1 ?_|refine cT ?_|refine cF ?_|refine zC ?_|refine cX (fun _=>?_) fun _=>?_|fail
 refine lpR (α :=Nat×Value×Value×Value×(Int×Int)×List Pl×GSt×Int) (fun a=>[(0,ptr bg 0),(1,sv),(2,I64 d),(3,I64 a.2.2.2.2.1.1),(4,I64 a.2.2.2.2.1.2),(5,I64 base.width),(12,a.2.1),(13,I64 a.1)])
  (fun a h' n'=>Tch (gS bg nsv psv) h n h' n'∧a.1≤l.length∧(a.2.2.2.2.2.2.2≠0→(l.take a.1).foldl (uJ (yP k (d+1)) d base) (.ok ([],s)) = .error a.2.2.2.2.2.2.2∧GErr h' bg a.2.2.2.2.2.2.2)∧(a.2.2.2.2.2.2.2=0→(l.take a.1).foldl (uJ (yP k (d+1)) d base) (.ok ([],s)) = .ok (a.2.2.2.2.2.1,a.2.2.2.2.2.2.1)∧Gm n0 h' n' bg a.2.2.1 a.2.2.2.1 a.2.2.2.2.2.2.1∧GOK a.2.2.2.2.2.2.1∧(∀p∈a.2.2.2.2.2.1,PlG p)∧a.2.2.2.2.2.1.length=a.1∧a.2.2.2.2.2.1.length≤a.2.2.2.2.2.2.1.ns.length∧Fp n nsv a.2.2.1∧Fp n psv a.2.2.2.1∧Own n n' h' a.2.1 tPl 3 a.1 (a.2.2.2.2.2.1.flatMap plC)∧Dj a.2.1 a.2.2.2.1)∧((d=1∧base=⟨0,0,0⟩)∨(PlG base∧a.2.2.2.2.1.1=base.root∧d≠1))∧a.2.2.2.2.1.2=base.at_)
  (fun a=>l.length - a.1) (0,.slice none 0 0,nsv,psv,(root,base.at_),[],s,0) (by repeat' first|exact trivial|refine⟨rfl,?_⟩) ⟨zA,Nat.zero_le _,fun h9=>absurd rfl h9,fun _=>⟨rfl,hg,hs,fun p hp=>(by cases hp),rfl,Nat.zero_le _,Fp.refl _ _,Fp.refl _ _,Own.nil,Dj.nil _⟩,hb,rfl⟩ ?_
 rintro ⟨i,dv,nsv',psv',⟨root',from'⟩,sibs,s',err⟩ t h' n' ⟨ht,hi,hE,hO,hb',hfr⟩
 dsimp only at hi hE hO hb' hfr ⊢;subst hfr;have hn':=ht.le;by_cases he:err=0
 · subst he;obtain⟨hf,hg',hs',hsib,hsl,hsn,fp1,fp2,hdo,hdj⟩:=hO rfl;clear hE hO;have hcg:=hg'.cel;have ho1:=hg'.on.one;have ho2:=hg'.op.one
   have hlow:∀b∈gS bg nsv psv,lo≤b:=fun b hb2=>by
    rcases List.mem_cons.1 hb2 with rfl|hb2
    · exact hlb
    · rcases List.mem_append.1 hb2 with hb2|hb2
      · have:=zZ hg.on b hb2;omega
      · have:=zZ hg.op b hb2;omega
   have hrm:RegsM lo h' sv l:=RegsM.tch (Tch.dn ht (by omega) hlow) (Nat.le_refl _) hr;have r':=hrm.row 0;by_cases hlt:i<l.length
   · have c0:l[i]? = some l[i]:=List.getElem?_eq_getElem hlt;generalize l[i]=x at c0
     have hxm:=List.mem_of_getElem? c0;have hone:=((hrm.sub hxm).row 0).one;have c1:=zM r' c0;have hl1:=r'.low (by omega);have bad:∀e:Int,tR d base sibs s' x = .error e→∀h2 n2,Tch (gS bg nsv psv) h n h2 n2→GErr h2 bg e→Out.ret (.tuple #[])=Out.ret (.tuple #[])∧Tch (gS bg nsv psv) h n h2 n2∧((∃e,yP (k+1) d base l s = .error e∧GErr h2 bg e)∨∃s' nsv' psv',yP (k+1) d base l s = .ok s'∧Gm n0 h2 n2 bg nsv' psv' s'∧GOK s'∧Fp n nsv nsv'∧Fp n psv psv'):=fun e h9 h2 n2 t2 g2=>⟨rfl,t2,.inl ⟨e,gdown_take (i:=i+1) (by rw[gstep_at c0 hf,gStep_e1 h9]),g2⟩⟩;have on':=hg'.on;have rn':=on'.row (by decide);have hnl:=hs'.le;have rd':=hdo.row (by decide);rcases hb' with⟨hd1,hbase⟩|⟨hpg,hroot,hd1⟩
     · have hba:base.at_=0:=by rw[hbase]
       repeat' first|refine st ?_|refine ob ?_|refine ob1 ?_|refine cT ?_|refine cF ?_|refine zC ?_|refine cX (fun _=>?_) fun _=>?_|refine zY (find_pur (Row.tch (S:=[]) rn' zA (Nat.le_refl _) (by simp)) (by omega)) ?_|fail
       · rename_i f1;exact bad 2 (gOne2 (by omega) (by omega)) _ _ zA ⟨_,_,zE,ho1,ho2⟩
       · rename_i f1 f2;exact bad 5 (gOne5 (by omega) (by omega) (.inl f2)) _ _ zA ⟨_,_,zE,ho1,ho2⟩
       · rename_i f1 f2 f3;exact bad 5 (gOne5 (by omega) (by omega) (.inr (pos_ge.1 f3))) _ _ zA ⟨_,_,zE,ho1,ho2⟩
       iterate 4
        · exact bad 6 (gOne6 (by omega) (by omega) (by assumption) (fun h9=>by have:=pos_ge.2 h9;omega) (by omega)) _ _ zA ⟨_,_,zE,ho1,ho2⟩
       have hd6:¬6<d:=by omega
       have hn2':¬200≤s'.ns.length:=by omega
       have hnm:named x.name=true:=by assumption
       have hni:x.name∉s'.ns:=fun h9=>by have:=pos_ge.2 h9;omega
       have hwd:¬(x.w<1∨64<x.w∨x.a<0∨(d=1∧x.a≠0)∨(d≠1∧base.width - x.w<x.a)):=by omega
       have hw:gPl d base sibs x=⟨(i:Nat),0+x.a,x.w⟩:=by unfold gPl;rw [if_pos hd1,hsl];simp
       have hpG:PlG ⟨(i:Nat),0+x.a,x.w⟩:=by unfold PlG;dsimp only;omega
       have hbo:d=1∨PlG base:=.inl hd1;have hbq:((d=1∧base=⟨0,0,0⟩)∨(PlG base∧((i:Nat):Int)=base.root∧d≠1))∧0=base.at_:=⟨.inl ⟨hd1,hbase⟩,hba.symm⟩;subst hsl;refine lpR (fun q:Nat=>[(0,ptr bg 0),(1,sv),(2,I64 d),(3,I64 (sibs.length:Nat)),(4,I64 0),(5,I64 base.width),(12,dv),(13,I64 sibs.length),(14,ptr n' 0),(16,ptr (n'+1) 0),(17,I64 q)]) (fun q h2 n2=>Tch (gS bg nsv psv) h n h2 n2∧Tch [] h' n' h2 n2∧n'+2≤n2∧Cel h2 n' (102+1) 0 (regC x)∧Cel h2 (n'+1) (tPl+1) 0 (plC ⟨(sibs.length:Nat),0+x.a,x.w⟩)∧q≤sibs.length∧∀(j:Nat) y,j<q→sibs[j]? = some y→tJ ⟨(sibs.length:Nat),0+x.a,x.w⟩ y=false) (fun q=>sibs.length - q) 0 (by repeat' first|exact trivial|refine⟨rfl,?_⟩) ⟨zA,zA,by omega,zE,zE,Nat.zero_le _,fun j _ hj=>absurd hj (Nat.not_lt_zero _)⟩ ?_;have hpr:(⟨(sibs.length:Nat),0+x.a,x.w⟩:Pl).root=(sibs.length:Nat):=rfl;have hpw:(⟨(sibs.length:Nat),0+x.a,x.w⟩:Pl).width=x.w:=rfl;generalize (⟨(sibs.length:Nat),0+x.a,x.w⟩:Pl)=p at *
       rintro q t h2 n2 ⟨ht2,htn,hn2,hcr,hcp,hq,hno⟩
       have rd2:=rd'.tch (S:=[]) htn (Nat.le_refl _) (by simp);have hcg2:Cel h2 bg zGeo 0 [nsv',psv',I64 0]:=hcg.tch htn (by omega) (by simp);by_cases hlt2:q<sibs.length
       · have d0:sibs[q]? = some sibs[q]:=List.getElem?_eq_getElem hlt2;generalize sibs[q]=y at d0
         have d1:=zM rd2 d0;have hly:=rd2.low (by omega);repeat' first|refine st ?_|refine ob ?_|refine ob1 ?_|refine cT ?_|refine cF ?_|refine zC ?_|refine cX (fun _=>?_) fun _=>?_|refine zY (rlap_pur _ _ (plg_b (hsib y (List.mem_of_getElem? d0))) (plg_b hpG) _ _) ?_|fail
         · rename_i f1;exact bad 7 (gOne7 hd6 hn2' hnm hni hwd (List.any_eq_true.2 ⟨y,List.mem_of_getElem? d0,by rw[hw,vN];exact f1⟩)) _ _ zA ⟨_,_,zE,ho1,ho2⟩
         · rename_i f1
           exact⟨q+1,(by dsimp only;omega),(by repeat' first|exact trivial|refine⟨rfl,?_⟩),ht2,htn,hn2,hcr,hcp,by omega,fun j w hj e=>by
            rcases Nat.lt_succ_iff_lt_or_eq.1 hj with h9|rfl
            · exact hno j w h9 e
            · rw[d0]at e;cases e;rw [vN];exact f1⟩
       · obtain rfl:q=sibs.length:=by omega
         have hok:tR d base sibs s' x = .ok p:=by
          rw[← hw];exact gOneK hd6 hn2' hnm hni hwd (by rw[hw];exact any_no fun j y e=>hno j y (List.getElem?_eq_some_iff.1 e).1 e)
         obtain⟨_,_,hgok⟩:=gOne_ok hok hs' hbo;obtain⟨k',rfl⟩:∃k',k=k'+1:=⟨k - 1,by omega⟩;have hdo2:=hdo.tch htn (by simp);have on2:=hg'.on.tch htn (by simp);have op2:=hg'.op.tch htn (by simp);have tA:Tch [] h2 n2 (hal h2 n2 (mkC (plC p) 0 0)) (n2+1):=zA;clear htn rd2;repeat' first|refine st ?_|refine ob ?_|refine ob1 ?_|refine cT ?_|refine cF ?_|refine zC ?_|refine cX (fun _=>?_) fun _=>?_|fail
         refine appN (hdo2.tch tA (by simp)) (zS (e:=tPl) (sz:=3) (len:=1) rfl (by decide)) (by decide) ⟨rfl,rfl,rfl,trivial⟩ (by omega) ?_
         rintro dv3 h3 n3 hdo3 ht3
         have hn3:=ht3.le;have hcr3:=Cel.app (hcr.tch tA (by omega) (by simp)) (hdo2.tch tA (by simp)) ht3 (by omega);have hcp3:=Cel.app (hcp.tch tA (by omega) (by simp)) (hdo2.tch tA (by simp)) ht3 (by omega);have hcg3:=Cel.app (hcg2.tch tA (by omega) (by simp)) (hdo2.tch tA (by simp)) ht3 (by omega);have on3:=(on2.tch tA (by simp)).tch ht3 (tN (on2.tch tA (by simp)) (hdo2.tch tA (by simp)) (.inl (by decide))).no;have op3:=(op2.tch tA (by simp)).tch ht3 hdj.comm.no;have ht3':Tch (gS bg nsv psv) h n h3 n3:=Tch.tch ht3 (Tch.tch tA ht2 (by simp)) fun b hb=>.inl (zZ hdo2 b hb);have dj3:Dj dv3 psv':=(vE (op2.tch tA (by simp)) hdo3).comm;replace hdo3:=hdo3.dnl (lo':=n) (by omega);clear ht3 hcr hcp hcg2 on2 op2 hdo2 ht2 tA hno hdj;have tB:Tch [] h3 n3 (hal h3 n3 (mkC [str x.name] 0 0)) (n3+1):=zA;repeat' first|refine st ?_|refine ob ?_|refine ob1 ?_|refine cT ?_|refine cF ?_|refine zC ?_|refine cX (fun _=>?_) fun _=>?_|fail
         refine appN (on3.tch tB (by simp)) (zS (e:=tStr) (sz:=1) (len:=1) rfl (by decide)) (by decide) ⟨rfl,trivial⟩ (by omega) ?_
         rintro nsv4 h4 n4 on4 ht4
         have hn4:=ht4.le;have hcr4:=Cel.app (hcr3.tch tB (by omega) (by simp)) (on3.tch tB (by simp)) ht4 (by omega);have hcp4:=Cel.app (hcp3.tch tB (by omega) (by simp)) (on3.tch tB (by simp)) ht4 (by omega);have hcg4:=Cel.app (hcg3.tch tB (by omega) (by simp)) (on3.tch tB (by simp)) ht4 (by omega);have op4:=(op3.tch tB (by simp)).tch ht4 (tN (op3.tch tB (by simp)) (on3.tch tB (by simp)) (.inl (by decide))).no;have hdo4:=(hdo3.tch tB (by simp)).tch ht4 (tN (hdo3.tch tB (by simp)) (on3.tch tB (by simp)) (.inl (by decide))).no;have ht4':Tch (gS bg nsv psv) h n h4 n4:=Tch.tch ht4 (Tch.tch tB ht3' (by simp)) (gS_fp (.inl fp1));replace on4:=on4.dnl (lo':=n) (by omega);have on4':=on4.one;clear ht4 ht3';have tC:Tch [bg] h4 n4 (hal (hst h4 bg 0 [nsv4]) n4 (mkC (plC p) 0 0)) (n4+1):=zA;repeat' first|refine st ?_|refine ob ?_|refine ob1 ?_|refine cT ?_|refine cF ?_|refine zC ?_|refine cX (fun _=>?_) fun _=>?_|fail
         refine appN (op4.tch tC (xQ op4 hbg)) (zS (e:=tPl) (sz:=3) (len:=1) rfl (by decide)) (by decide) ⟨rfl,rfl,rfl,trivial⟩ (by have:=hs'.len;omega) ?_
         rintro psv5 h5 n5 op5 ht5
         have hn5:=ht5.le;have hcgC:Cel (hal (hst h4 bg 0 [nsv4]) n4 (mkC (plC p) 0 0)) bg zGeo 0 [nsv4,psv',I64 0]:=zE;have hcr5:=Cel.app (hcr4.tch tC (by omega) (by simp;omega)) (op4.tch tC (xQ op4 hbg)) ht5 (by omega);have hcp5:=Cel.app (hcp4.tch tC (by omega) (by simp;omega)) (op4.tch tC (xQ op4 hbg)) ht5 (by omega);have hcg5:=Cel.app hcgC (op4.tch tC (xQ op4 hbg)) ht5 (by omega);have on5:=(on4.tch tC (xQ on4 (by omega))).tch ht5 (tN (on4.tch tC (xQ on4 (by omega))) (op4.tch tC (xQ op4 hbg)) (.inl (by decide))).no;have hdo5:=(hdo4.tch tC (xQ hdo4 (by omega))).tch ht5 dj3.no;have ht5':Tch (gS bg nsv psv) h n h5 n5:=Tch.tch ht5 (Tch.tch tC ht4' (by simp)) (gS_fp (.inr fp2));have dj5:Dj dv3 psv5:=vE (hdo4.tch tC (xQ hdo4 (by omega))) op5;replace op5:=op5.dnl (lo':=n) (by omega);have op5':=op5.one;clear ht5 ht4' tC tB hcgC;repeat' first|refine st ?_|refine ob ?_|refine ob1 ?_|refine cT ?_|refine cF ?_|refine zC ?_|refine cX (fun _=>?_) fun _=>?_|fail
         have tD:Tch [bg] h5 n5 (hst h5 bg (0+1) [psv5]) n5:=zA;have ht6:Tch (gS bg nsv psv) h n (hst h5 bg (0+1) [psv5]) n5:=Tch.tch tD ht5' (by simp)
         have gm5:Gm n0 (hst h5 bg (0+1) [psv5]) n5 bg nsv4 psv5 ⟨s'.ns++[x.name],s'.ps++[p]⟩:=⟨zE,by
          have:=(on5.tch tD (xQ on5 (by omega))).dnl (lo':=n0) hn0;rw [List.length_append,List.map_append];exact this,by
          have:=(op5.tch tD (xQ op5 (by omega))).dnl (lo':=n0) hn0;rw [List.length_append,List.flatMap_append];exact this⟩
         have rc:=hrec k' rfl (d+1) p x.subs x.sv ⟨s'.ns++[x.name],s'.ps++[p]⟩ (sibs.length:Nat) _ n5 nsv4 psv5 (by omega) (by omega) (.inr ⟨hpG,hpr.symm,by omega⟩) hbg hlb (by omega) (RegsM.tch (Tch.dn ht6 (by omega) hlow) (Nat.le_refl _) (hr.sub hxm)) hgok gm5;rw [hpw]at rc;refine cal rc ?_
         rintro _ h6 n6 ⟨rfl,ht7,hres⟩
         have hn6:=ht7.le
         have ht8:Tch (gS bg nsv psv) h n h6 n6:=Tch.tch ht7 ht6 fun b hb=>by
          rcases List.mem_cons.1 hb with rfl|hb
          · exact .inr (by simp)
          · rcases List.mem_append.1 hb with hb|hb
            · exact .inl (zZ on5 b hb)
            · exact .inl (zZ op5 b hb)
         rcases hres with⟨e,hge,hgr⟩|⟨s6,nsv6,psv6,hgd,gm6,hgok6,f1,f2⟩
         · repeat' first|refine st ?_|refine ob ?_|refine ob1 ?_|refine cT ?_|refine cF ?_|refine zC ?_|refine cX (fun _=>?_) fun _=>?_|fail
           exact⟨(sibs.length+1,dv3,nsv4,psv5,((sibs.length:Nat),0),sibs,s',e),(by dsimp only;omega),(by repeat' first|exact trivial|refine⟨rfl,?_⟩),ht8,by omega,fun _=>⟨by rw[gstep_at c0 hf,gStep_e2 hok hge],hgr⟩,fun h9=>absurd h9 (gDown_err _ _ _ _ _ _ hge),hbq⟩
         · repeat' first|refine st ?_|refine ob ?_|refine ob1 ?_|refine cT ?_|refine cF ?_|refine zC ?_|refine cX (fun _=>?_) fun _=>?_|fail
           refine⟨(sibs.length+1,dv3,nsv6,psv6,((sibs.length:Nat),0),sibs++[p],s6,0),(by dsimp only;omega),(by repeat' first|exact trivial|refine⟨rfl,?_⟩),ht8,by omega,fun h9=>absurd rfl h9,fun _=>⟨by rw[gstep_at c0 hf,gStep_ok hok hgd],gm6,hgok6,fun y hy=>?_,by rw[List.length_append];rfl,by
            have:=gDown_ge _ _ _ _ _ _ hgd;rw [List.length_append]at *;simp only[List.length_append,List.length_cons,List.length_nil]at this ⊢;omega,fun b hb=>?_,fun b hb=>?_,?_,dj5.fp f2 hdo5 (Nat.le_refl _)⟩,hbq⟩
           · rcases List.mem_append.1 hy with h9|h9
             · exact hsib y h9
             · simp at h9;subst h9;exact hpG
           · rcases f1 b hb with h9|h9
             · exact .inr (on5.blk h9).1
             · exact .inr (by omega)
           · rcases f2 b hb with h9|h9
             · exact .inr (op5.blk h9).1
             · exact .inr (by omega)
           · rw[List.flatMap_append]
             exact((hdo5.tch tD (xQ hdo5 (by omega))).tch ht7 fun b hb hx=>by
              rcases List.mem_cons.1 hx with rfl|hx
              · have:=(hdo5.blk hb).1;omega
              · rcases List.mem_append.1 hx with hx|hx
                · exact(tN hdo5 on5 (.inl (by decide))).no b hb hx
                · exact dj5.no b hb hx)
     · have hpg2:=hpg;unfold PlG at hpg2;repeat' first|refine st ?_|refine ob ?_|refine ob1 ?_|refine cT ?_|refine cF ?_|refine zC ?_|refine cX (fun _=>?_) fun _=>?_|refine zY (find_pur (Row.tch (S:=[]) rn' zA (Nat.le_refl _) (by simp)) (by omega)) ?_|fail
       · rename_i f1;exact bad 4 (gOne4 f1) _ _ zA ⟨_,_,zE,ho1,ho2⟩
       · rename_i f1;exact bad 2 (gOne2 (by omega) (by omega)) _ _ zA ⟨_,_,zE,ho1,ho2⟩
       · rename_i f0 f1 f2;exact bad 5 (gOne5 (by omega) (by omega) (.inl f2)) _ _ zA ⟨_,_,zE,ho1,ho2⟩
       · rename_i f0 f1 f2 f3;exact bad 5 (gOne5 (by omega) (by omega) (.inr (pos_ge.1 f3))) _ _ zA ⟨_,_,zE,ho1,ho2⟩
       iterate 5
        · exact bad 6 (gOne6 (by omega) (by omega) (by assumption) (fun h9=>by have:=pos_ge.2 h9;omega) (by omega)) _ _ zA ⟨_,_,zE,ho1,ho2⟩
       have hd6:¬6<d:=by omega
       have hn2':¬200≤s'.ns.length:=by omega
       have hnm:named x.name=true:=by assumption
       have hni:x.name∉s'.ns:=fun h9=>by have:=pos_ge.2 h9;omega
       have hwd:¬(x.w<1∨64<x.w∨x.a<0∨(d=1∧x.a≠0)∨(d≠1∧base.width - x.w<x.a)):=by omega
       have hw:gPl d base sibs x=⟨root',base.at_+x.a,x.w⟩:=by unfold gPl;rw [if_neg hd1,hroot]
       have hpG:PlG ⟨root',base.at_+x.a,x.w⟩:=by unfold PlG;dsimp only;omega
       have hbo:d=1∨PlG base:=.inr hpg;have hbq:((d=1∧base=⟨0,0,0⟩)∨(PlG base∧root'=base.root∧d≠1))∧base.at_=base.at_:=⟨.inr ⟨hpg,hroot,hd1⟩,rfl⟩;subst hsl;refine lpR (fun q:Nat=>[(0,ptr bg 0),(1,sv),(2,I64 d),(3,I64 root'),(4,I64 base.at_),(5,I64 base.width),(12,dv),(13,I64 sibs.length),(14,ptr n' 0),(16,ptr (n'+1) 0),(17,I64 q)]) (fun q h2 n2=>Tch (gS bg nsv psv) h n h2 n2∧Tch [] h' n' h2 n2∧n'+2≤n2∧Cel h2 n' (102+1) 0 (regC x)∧Cel h2 (n'+1) (tPl+1) 0 (plC ⟨root',base.at_+x.a,x.w⟩)∧q≤sibs.length∧∀(j:Nat) y,j<q→sibs[j]? = some y→tJ ⟨root',base.at_+x.a,x.w⟩ y=false) (fun q=>sibs.length - q) 0 (by repeat' first|exact trivial|refine⟨rfl,?_⟩) ⟨zA,zA,by omega,zE,zE,Nat.zero_le _,fun j _ hj=>absurd hj (Nat.not_lt_zero _)⟩ ?_;have hpr:(⟨root',base.at_+x.a,x.w⟩:Pl).root=root':=rfl;have hpw:(⟨root',base.at_+x.a,x.w⟩:Pl).width=x.w:=rfl;generalize (⟨root',base.at_+x.a,x.w⟩:Pl)=p at *
       rintro q t h2 n2 ⟨ht2,htn,hn2,hcr,hcp,hq,hno⟩
       have rd2:=rd'.tch (S:=[]) htn (Nat.le_refl _) (by simp);have hcg2:Cel h2 bg zGeo 0 [nsv',psv',I64 0]:=hcg.tch htn (by omega) (by simp);by_cases hlt2:q<sibs.length
       · have d0:sibs[q]? = some sibs[q]:=List.getElem?_eq_getElem hlt2;generalize sibs[q]=y at d0
         have d1:=zM rd2 d0;have hly:=rd2.low (by omega);repeat' first|refine st ?_|refine ob ?_|refine ob1 ?_|refine cT ?_|refine cF ?_|refine zC ?_|refine cX (fun _=>?_) fun _=>?_|refine zY (rlap_pur _ _ (plg_b (hsib y (List.mem_of_getElem? d0))) (plg_b hpG) _ _) ?_|fail
         · rename_i f1;exact bad 7 (gOne7 hd6 hn2' hnm hni hwd (List.any_eq_true.2 ⟨y,List.mem_of_getElem? d0,by rw[hw,vN];exact f1⟩)) _ _ zA ⟨_,_,zE,ho1,ho2⟩
         · rename_i f1
           exact⟨q+1,(by dsimp only;omega),(by repeat' first|exact trivial|refine⟨rfl,?_⟩),ht2,htn,hn2,hcr,hcp,by omega,fun j w hj e=>by
            rcases Nat.lt_succ_iff_lt_or_eq.1 hj with h9|rfl
            · exact hno j w h9 e
            · rw[d0]at e;cases e;rw [vN];exact f1⟩
       · obtain rfl:q=sibs.length:=by omega
         have hok:tR d base sibs s' x = .ok p:=by
          rw[← hw];exact gOneK hd6 hn2' hnm hni hwd (by rw[hw];exact any_no fun j y e=>hno j y (List.getElem?_eq_some_iff.1 e).1 e)
         obtain⟨_,_,hgok⟩:=gOne_ok hok hs' hbo;obtain⟨k',rfl⟩:∃k',k=k'+1:=⟨k - 1,by omega⟩;have hdo2:=hdo.tch htn (by simp);have on2:=hg'.on.tch htn (by simp);have op2:=hg'.op.tch htn (by simp);have tA:Tch [] h2 n2 (hal h2 n2 (mkC (plC p) 0 0)) (n2+1):=zA;clear htn rd2;repeat' first|refine st ?_|refine ob ?_|refine ob1 ?_|refine cT ?_|refine cF ?_|refine zC ?_|refine cX (fun _=>?_) fun _=>?_|fail
         refine appN (hdo2.tch tA (by simp)) (zS (e:=tPl) (sz:=3) (len:=1) rfl (by decide)) (by decide) ⟨rfl,rfl,rfl,trivial⟩ (by omega) ?_
         rintro dv3 h3 n3 hdo3 ht3
         have hn3:=ht3.le;have hcr3:=Cel.app (hcr.tch tA (by omega) (by simp)) (hdo2.tch tA (by simp)) ht3 (by omega);have hcp3:=Cel.app (hcp.tch tA (by omega) (by simp)) (hdo2.tch tA (by simp)) ht3 (by omega);have hcg3:=Cel.app (hcg2.tch tA (by omega) (by simp)) (hdo2.tch tA (by simp)) ht3 (by omega);have on3:=(on2.tch tA (by simp)).tch ht3 (tN (on2.tch tA (by simp)) (hdo2.tch tA (by simp)) (.inl (by decide))).no;have op3:=(op2.tch tA (by simp)).tch ht3 hdj.comm.no;have ht3':Tch (gS bg nsv psv) h n h3 n3:=Tch.tch ht3 (Tch.tch tA ht2 (by simp)) fun b hb=>.inl (zZ hdo2 b hb);have dj3:Dj dv3 psv':=(vE (op2.tch tA (by simp)) hdo3).comm;replace hdo3:=hdo3.dnl (lo':=n) (by omega);clear ht3 hcr hcp hcg2 on2 op2 hdo2 ht2 tA hno hdj;have tB:Tch [] h3 n3 (hal h3 n3 (mkC [str x.name] 0 0)) (n3+1):=zA;repeat' first|refine st ?_|refine ob ?_|refine ob1 ?_|refine cT ?_|refine cF ?_|refine zC ?_|refine cX (fun _=>?_) fun _=>?_|fail
         refine appN (on3.tch tB (by simp)) (zS (e:=tStr) (sz:=1) (len:=1) rfl (by decide)) (by decide) ⟨rfl,trivial⟩ (by omega) ?_
         rintro nsv4 h4 n4 on4 ht4
         have hn4:=ht4.le;have hcr4:=Cel.app (hcr3.tch tB (by omega) (by simp)) (on3.tch tB (by simp)) ht4 (by omega);have hcp4:=Cel.app (hcp3.tch tB (by omega) (by simp)) (on3.tch tB (by simp)) ht4 (by omega);have hcg4:=Cel.app (hcg3.tch tB (by omega) (by simp)) (on3.tch tB (by simp)) ht4 (by omega);have op4:=(op3.tch tB (by simp)).tch ht4 (tN (op3.tch tB (by simp)) (on3.tch tB (by simp)) (.inl (by decide))).no;have hdo4:=(hdo3.tch tB (by simp)).tch ht4 (tN (hdo3.tch tB (by simp)) (on3.tch tB (by simp)) (.inl (by decide))).no;have ht4':Tch (gS bg nsv psv) h n h4 n4:=Tch.tch ht4 (Tch.tch tB ht3' (by simp)) (gS_fp (.inl fp1));replace on4:=on4.dnl (lo':=n) (by omega);have on4':=on4.one;clear ht4 ht3';have tC:Tch [bg] h4 n4 (hal (hst h4 bg 0 [nsv4]) n4 (mkC (plC p) 0 0)) (n4+1):=zA;repeat' first|refine st ?_|refine ob ?_|refine ob1 ?_|refine cT ?_|refine cF ?_|refine zC ?_|refine cX (fun _=>?_) fun _=>?_|fail
         refine appN (op4.tch tC (xQ op4 hbg)) (zS (e:=tPl) (sz:=3) (len:=1) rfl (by decide)) (by decide) ⟨rfl,rfl,rfl,trivial⟩ (by have:=hs'.len;omega) ?_
         rintro psv5 h5 n5 op5 ht5
         have hn5:=ht5.le;have hcgC:Cel (hal (hst h4 bg 0 [nsv4]) n4 (mkC (plC p) 0 0)) bg zGeo 0 [nsv4,psv',I64 0]:=zE;have hcr5:=Cel.app (hcr4.tch tC (by omega) (by simp;omega)) (op4.tch tC (xQ op4 hbg)) ht5 (by omega);have hcp5:=Cel.app (hcp4.tch tC (by omega) (by simp;omega)) (op4.tch tC (xQ op4 hbg)) ht5 (by omega);have hcg5:=Cel.app hcgC (op4.tch tC (xQ op4 hbg)) ht5 (by omega);have on5:=(on4.tch tC (xQ on4 (by omega))).tch ht5 (tN (on4.tch tC (xQ on4 (by omega))) (op4.tch tC (xQ op4 hbg)) (.inl (by decide))).no;have hdo5:=(hdo4.tch tC (xQ hdo4 (by omega))).tch ht5 dj3.no;have ht5':Tch (gS bg nsv psv) h n h5 n5:=Tch.tch ht5 (Tch.tch tC ht4' (by simp)) (gS_fp (.inr fp2));have dj5:Dj dv3 psv5:=vE (hdo4.tch tC (xQ hdo4 (by omega))) op5;replace op5:=op5.dnl (lo':=n) (by omega);have op5':=op5.one;clear ht5 ht4' tC tB hcgC;repeat' first|refine st ?_|refine ob ?_|refine ob1 ?_|refine cT ?_|refine cF ?_|refine zC ?_|refine cX (fun _=>?_) fun _=>?_|fail
         have tD:Tch [bg] h5 n5 (hst h5 bg (0+1) [psv5]) n5:=zA;have ht6:Tch (gS bg nsv psv) h n (hst h5 bg (0+1) [psv5]) n5:=Tch.tch tD ht5' (by simp)
         have gm5:Gm n0 (hst h5 bg (0+1) [psv5]) n5 bg nsv4 psv5 ⟨s'.ns++[x.name],s'.ps++[p]⟩:=⟨zE,by
          have:=(on5.tch tD (xQ on5 (by omega))).dnl (lo':=n0) hn0;rw [List.length_append,List.map_append];exact this,by
          have:=(op5.tch tD (xQ op5 (by omega))).dnl (lo':=n0) hn0;rw [List.length_append,List.flatMap_append];exact this⟩
         have rc:=hrec k' rfl (d+1) p x.subs x.sv ⟨s'.ns++[x.name],s'.ps++[p]⟩ root' _ n5 nsv4 psv5 (by omega) (by omega) (.inr ⟨hpG,hpr.symm,by omega⟩) hbg hlb (by omega) (RegsM.tch (Tch.dn ht6 (by omega) hlow) (Nat.le_refl _) (hr.sub hxm)) hgok gm5;rw [hpw]at rc;refine cal rc ?_
         rintro _ h6 n6 ⟨rfl,ht7,hres⟩
         have hn6:=ht7.le
         have ht8:Tch (gS bg nsv psv) h n h6 n6:=Tch.tch ht7 ht6 fun b hb=>by
          rcases List.mem_cons.1 hb with rfl|hb
          · exact .inr (by simp)
          · rcases List.mem_append.1 hb with hb|hb
            · exact .inl (zZ on5 b hb)
            · exact .inl (zZ op5 b hb)
         rcases hres with⟨e,hge,hgr⟩|⟨s6,nsv6,psv6,hgd,gm6,hgok6,f1,f2⟩
         · repeat' first|refine st ?_|refine ob ?_|refine ob1 ?_|refine cT ?_|refine cF ?_|refine zC ?_|refine cX (fun _=>?_) fun _=>?_|fail
           exact⟨(sibs.length+1,dv3,nsv4,psv5,(root',base.at_),sibs,s',e),(by dsimp only;omega),(by repeat' first|exact trivial|refine⟨rfl,?_⟩),ht8,by omega,fun _=>⟨by rw[gstep_at c0 hf,gStep_e2 hok hge],hgr⟩,fun h9=>absurd h9 (gDown_err _ _ _ _ _ _ hge),hbq⟩
         · repeat' first|refine st ?_|refine ob ?_|refine ob1 ?_|refine cT ?_|refine cF ?_|refine zC ?_|refine cX (fun _=>?_) fun _=>?_|fail
           refine⟨(sibs.length+1,dv3,nsv6,psv6,(root',base.at_),sibs++[p],s6,0),(by dsimp only;omega),(by repeat' first|exact trivial|refine⟨rfl,?_⟩),ht8,by omega,fun h9=>absurd rfl h9,fun _=>⟨by rw[gstep_at c0 hf,gStep_ok hok hgd],gm6,hgok6,fun y hy=>?_,by rw[List.length_append];rfl,by
            have:=gDown_ge _ _ _ _ _ _ hgd;rw [List.length_append]at *;simp only[List.length_append,List.length_cons,List.length_nil]at this ⊢;omega,fun b hb=>?_,fun b hb=>?_,?_,dj5.fp f2 hdo5 (Nat.le_refl _)⟩,hbq⟩
           · rcases List.mem_append.1 hy with h9|h9
             · exact hsib y h9
             · simp at h9;subst h9;exact hpG
           · rcases f1 b hb with h9|h9
             · exact .inr (on5.blk h9).1
             · exact .inr (by omega)
           · rcases f2 b hb with h9|h9
             · exact .inr (op5.blk h9).1
             · exact .inr (by omega)
           · rw[List.flatMap_append]
             exact((hdo5.tch tD (xQ hdo5 (by omega))).tch ht7 fun b hb hx=>by
              rcases List.mem_cons.1 hx with rfl|hx
              · have:=(hdo5.blk hb).1;omega
              · rcases List.mem_append.1 hx with hx|hx
                · exact(tN hdo5 on5 (.inl (by decide))).no b hb hx
                · exact dj5.no b hb hx)
   · obtain rfl:i=l.length:=by omega
     repeat' first|refine st ?_|refine ob ?_|refine ob1 ?_|refine cT ?_|refine cF ?_|refine zC ?_|refine cX (fun _=>?_) fun _=>?_|fail
     rw[List.take_length]at hf;exact⟨rfl,ht,.inr ⟨s',nsv',psv',by unfold yP;rw [hf],hg',hs',fp1,fp2⟩⟩
 · obtain⟨hf,g1,g2,hcg,go1,go2⟩:=hE he;by_cases hlt:i<l.length
   · repeat' first|refine st ?_|refine ob ?_|refine ob1 ?_|refine cT ?_|refine cF ?_|refine zC ?_|refine cX (fun _=>?_) fun _=>?_|fail
     exact⟨rfl,ht,.inl ⟨err,gdown_take hf,g1,g2,hcg,go1,go2⟩⟩
   · repeat' first|refine st ?_|refine ob ?_|refine ob1 ?_|refine cT ?_|refine cF ?_|refine zC ?_|refine cX (fun _=>?_) fun _=>?_|fail
     exact⟨rfl,ht,.inl ⟨err,gdown_take hf,g1,g2,hcg,go1,go2⟩⟩
end Go.Proofs.YtcmohelnoldfbaaGreat
namespace Go.Proofs.YtcmohelnoldfbaaGreat
open Go Go.Ex Go.Ex.M
set_option maxRecDepth 100000
set_option maxHeartbeats 8000000
abbrev rD:Nat:=9
abbrev ePl:Nat:=142
structure Ck (lo:Nat) (h:zB) (bc z:Nat) (m:MachT) (nsv psv:Value) (ns:List Tx) (ps:List Pl):Prop where
 mm:MachM lo h m
 cel:Cel h bc z 0 (yO m++[nsv,psv])
 rn:Row lo h nsv rD 1 ns.length (ns.map str)
 rp:Row lo h psv ePl 3 ps.length (ps.flatMap plC)
 hb:bc<lo
 hl:ps.length=ns.length
 hn:ns.length≤200
 ok:∀p∈ps,PlOK p
theorem cls1_pur(x:ClassT)(ho:x.rsv.oneCell'=true)(h:zB)(n:Nat):Pur P 0 178 [.agg ⟨clsC x⟩] h n (str x.name):=by
 refine Com.pure (ent fun u=>?_) (.inl rfl);repeat' first|refine st ?_|refine ob ?_|refine ob1 ?_|refine cT ?_|refine cF ?_|refine zC ?_|refine cX (fun _=>?_) fun _=>?_|fail
 exact finT rfl zA
theorem op1_pur(x:OpT)(ho:x.usv.oneCell'=true∧x.csv.oneCell'=true)(h:zB)(n:Nat):Pur P 0 181 [.agg ⟨opC x⟩] h n (str x.name):=by
 obtain⟨ho1,ho2⟩:=ho;refine Com.pure (ent fun u=>?_) (.inl rfl);repeat' first|refine st ?_|refine ob ?_|refine ob1 ?_|refine cT ?_|refine cF ?_|refine zC ?_|refine cX (fun _=>?_) fun _=>?_|fail
 exact finT rfl zA
theorem index_op1{b1 b2:Nat}{h:zB}{n:Nat}{x:OpT}{s:Tx}(ho:x.usv.oneCell'=true∧x.csv.oneCell'=true)(c1:zD h b1 0=some (.func (.func 181) ⟨[]⟩ ⟨[]⟩))(c2:zD h b2 0=some (str s))(hb1:b1<n)(hb2:b2<n):Pur P 0 205 [.agg ⟨opC x⟩,ptr b1 0,ptr b2 0] h n (.bool (decide (x.name=s))):=by
 refine Com.pure (ent fun u=>?_) (.inl rfl);have ho':=ho;try obtain⟨ho1,ho2⟩:=ho
 repeat' first|refine st ?_|refine ob ?_|refine ob1 ?_|refine cT ?_|refine cF ?_|refine zC ?_|refine cX (fun _=>?_) fun _=>?_|refine zY (op1_pur x ho' _ _) ?_|fail
 exact finT rfl zA
theorem index_op{lo e n:Nat}{h:zB}{sv:Value}{l:List OpT}{s:Tx}(r:Row lo h sv e 6 l.length (l.flatMap opC))(hl:l.length<inf)(hlo:lo≤n)(hone:∀x∈l,x.usv.oneCell'=true∧x.csv.oneCell'=true):Pur P 0 180 [sv,str s,.func (.func 181) ⟨[]⟩ ⟨[]⟩] h n (I64 (posF (fun x=>decide (x.name=s)) l)):=by
 refine Com.pure (ent fun u=>?_) (.inl rfl);repeat' first|refine st ?_|refine ob ?_|refine ob1 ?_|refine cT ?_|refine cF ?_|refine zC ?_|refine cX (fun _=>?_) fun _=>?_|fail
 refine zY (idxf_op (p:=fun x=>decide (x.name=s)) ((r.tch (S:=[]) (h':=_) (n':=n+1+1) zA hlo fun _ _ hx=>by cases hx)) hl fun x hx=>index_op1 (hone x hx) zL zL (by omega) (by omega)) ?_;repeat' first|refine st ?_|refine ob ?_|refine ob1 ?_|refine cT ?_|refine cF ?_|refine zC ?_|refine cX (fun _=>?_) fun _=>?_|fail
 exact finT rfl zA
theorem index_cls1{b1 b2:Nat}{h:zB}{n:Nat}{x:ClassT}{s:Tx}(ho:x.rsv.oneCell'=true)(c1:zD h b1 0=some (.func (.func 178) ⟨[]⟩ ⟨[]⟩))(c2:zD h b2 0=some (str s))(hb1:b1<n)(hb2:b2<n):Pur P 0 203 [.agg ⟨clsC x⟩,ptr b1 0,ptr b2 0] h n (.bool (decide (x.name=s))):=by
 refine Com.pure (ent fun u=>?_) (.inl rfl);have ho':=ho;try obtain⟨ho1,ho2⟩:=ho
 repeat' first|refine st ?_|refine ob ?_|refine ob1 ?_|refine cT ?_|refine cF ?_|refine zC ?_|refine cX (fun _=>?_) fun _=>?_|refine zY (cls1_pur x ho' _ _) ?_|fail
 exact finT rfl zA
theorem index_cls{lo e n:Nat}{h:zB}{sv:Value}{l:List ClassT}{s:Tx}(r:Row lo h sv e 2 l.length (l.flatMap clsC))(hl:l.length<inf)(hlo:lo≤n)(hone:∀x∈l,x.rsv.oneCell'=true):Pur P 0 177 [sv,str s,.func (.func 178) ⟨[]⟩ ⟨[]⟩] h n (I64 (posF (fun x=>decide (x.name=s)) l)):=by
 refine Com.pure (ent fun u=>?_) (.inl rfl);repeat' first|refine st ?_|refine ob ?_|refine ob1 ?_|refine cT ?_|refine cF ?_|refine zC ?_|refine cX (fun _=>?_) fun _=>?_|fail
 refine zY (idxf_cls (p:=fun x=>decide (x.name=s)) ((r.tch (S:=[]) (h':=_) (n':=n+1+1) zA hlo fun _ _ hx=>by cases hx)) hl fun x hx=>index_cls1 (hone x hx) zL zL (by omega) (by omega)) ?_;repeat' first|refine st ?_|refine ob ?_|refine ob1 ?_|refine cT ?_|refine cF ?_|refine zC ?_|refine cX (fun _=>?_) fun _=>?_|fail
 exact finT rfl zA
end Go.Proofs.YtcmohelnoldfbaaGreat
