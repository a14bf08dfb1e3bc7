/- What the law leans on: an executor of the model that is sound, deduction over it, and the walks through the code (part 14 of 20). Conditions: those that each theorem states. -/
import Derived.Test.YtcmohelnoldfbaaGreatInterNearx13

set_option linter.unusedVariables false
set_option linter.unusedSimpArgs false
namespace Go.Proofs.YtcmohelnoldfbaaGreat
open Go Go.Ex Go.Ex.M
set_option maxRecDepth 100000
set_option maxHeartbeats 8000000
variable {lo bc z n:Nat} {h:zB} {m:MachT} {nsv psv:Value} {ns:List Tx} {ps:List Pl}
theorem Ck.tch{n':Nat}{h':zB}(k:Ck lo h bc z m nsv psv ns ps)(t:Tch [] h n h' n')(hlo:lo≤n):Ck lo h' bc z m nsv psv ns ps:=by
 have:=k.hb;exact⟨k.mm.tch t hlo,k.cel.tch t (by omega) (by simp),k.rn.tch t hlo fun _ _ hx=>(by cases hx),k.rp.tch t hlo fun _ _ hx=>(by cases hx),k.hb,k.hl,k.hn,k.ok⟩
theorem Ck.rnT{n':Nat}{h':zB}(k:Ck lo h bc z m nsv psv ns ps)(t:Tch [] h n h' n')(hlo:lo≤n):Row lo h' nsv rD 1 ns.length (ns.map str):=(k.tch t hlo).rn
theorem class_pur(k:Ck lo h bc z m nsv psv ns ps)(hlo:lo≤n)(x:Tx):Pur P 0 137 [ptr bc 0,str x] h n (I64 (yT m x)):=by
 have hc:=k.cel;have r:=k.mm.cls 0;refine ent fun u=>?_;repeat' first|refine st ?_|refine ob ?_|refine ob1 ?_|refine cT ?_|refine cF ?_|refine zC ?_|refine cX (fun _=>?_) fun _=>?_|refine zY (index_cls r k.mm.cls.lt hlo fun c hc=>(k.mm.clsr c hc 0).one) ?_|fail
 exact fin rfl
theorem class_purE(k:Ck lo h bc z m nsv psv ns ps)(hlo:lo≤n)(x:Tx){v:Int}(e:yT m x=v):Pur P 0 137 [ptr bc 0,str x] h n (I64 v):=e ▸ class_pur k hlo x
theorem reg_com(k:Ck lo h bc z m nsv psv ns ps)(x:Tx)(e:Int):Com P 0 139 [ptr bc 0,str x,I64 e] h n fun o h' n'=>o=(if x∈ns then .ret (I64 (ns.idxOf x:Nat)) else .panic (tO e))∧h'=h∧n'=n:=by
 have hc:=k.cel;have r:=k.rn;have hn:=k.hn;refine ent fun u=>?_;by_cases hx:x∈ns
 · have e1:=vK hx;repeat' first|refine st ?_|refine ob ?_|refine ob1 ?_|refine cT ?_|refine cF ?_|refine zC ?_|refine cX (fun _=>?_) fun _=>?_|refine zY (sZ r (by omega)) ?_|fail
   rw[if_pos hx,e1];exact⟨rfl,rfl,rfl⟩
 · have e1:=pos_out hx;repeat' first|refine st ?_|refine ob ?_|refine ob1 ?_|refine cT ?_|refine cF ?_|refine zC ?_|refine cX (fun _=>?_) fun _=>?_|refine zY (sZ r (by omega)) ?_|fail
   rw[if_neg hx];exact⟨rfl,rfl,rfl⟩
theorem regK(k:Ck lo h bc z m nsv psv ns ps){G:Prop}{x:Tx}{e:Int}{K:Out→zB→Nat→Prop}[s:IsCall G P 0 139 [ptr bc 0,str x,I64 e] h n K]
(k1:x∈ns→ns.idxOf x<ps.length→Rd h (sbk psv) (sof psv+ns.idxOf x*3) 3 (plC (yG ns ps x))→zD h (sbk psv) (sof psv+ns.idxOf x*3+2)=some (I64 (yG ns ps x).width)→PlOK (yG ns ps x)→sbk psv<lo→K (.ret (I64 (ns.idxOf x:Nat))) h n)(k2:x∉ns→K (.panic (tO e)) h n):G:=
 cal (reg_com k x e) fun o h' n' ⟨e1,e2,e3⟩=>by
  subst e2 e3;by_cases hx:x∈ns
  · rw[if_pos hx]at e1;subst e1;have r:=zM k.rp (plc_at hx k.hl);exact k1 hx (by have:=idx_lt hx;have:=k.hl;omega) r (xP r (j:=2) rfl) (k.ok _ (plc_mem hx k.hl)) (k.rp.low (by have:=idx_lt hx;have:=k.hl;omega))
  · rw[if_neg hx]at e1;subst e1;exact k2 hx
theorem regP(k:Ck lo h bc z m nsv psv ns ps){G:Prop}{x:Tx}{e:Int}{K:Out→zB→Nat→Prop}[s:IsCall G P 0 139 [ptr bc 0,str x,I64 e] h n K](hx:x∈ns)
(k1:ns.idxOf x<ps.length→Rd h (sbk psv) (sof psv+ns.idxOf x*3) 3 (plC (yG ns ps x))→zD h (sbk psv) (sof psv+ns.idxOf x*3+2)=some (I64 (yG ns ps x).width)→PlOK (yG ns ps x)→sbk psv<lo→K (.ret (I64 (ns.idxOf x:Nat))) h n):G:=
 regK k (fun _=>k1) fun h2=>absurd hx h2
theorem width_pur(k:Ck lo h bc z m nsv psv ns ps)(hlo:lo≤n){i:Nat}{c:ClassT}{r0:Tx}{rr:List Tx}(hi:m.classes[i]? = some c)(hc:c.regs=r0::rr)(hr:r0∈ns):Pur P 0 141 [ptr bc 0,I64 (i:Nat)] h n (I64 (wdOf ns ps c)):=by
 have hcel:=k.cel;have r:=k.mm.cls 0;have rp:=k.rp;have rc:=k.mm.clsr c (List.mem_of_getElem? hi) 0;have c1:=zM r hi;have c2:=xP c1 (j:=1) rfl;have c3:=yX (k:=0) (x:=r0) rc (by rw[hc];rfl);have hilt:i<m.classes.length:=(List.getElem?_eq_some_iff.1 hi).1;have hlen:0<c.regs.length:=by rw[hc];exact Nat.succ_pos _
 have hbc:=k.hb;have l1:=r.low (by omega);have l2:=rc.low hlen;have l3:=rp.low;have e1:wdOf ns ps c=(yG ns ps r0).width:=by unfold wdOf;rw [hc]
 refine ent fun u=>?_;repeat' first|refine st ?_|refine ob ?_|refine ob1 ?_|refine cT ?_|refine cF ?_|refine zC ?_|refine cX (fun _=>?_) fun _=>?_|refine regP k hr (fun _ _ _ _ _=>?_)|fail
 exact fin (by rw[e1])
theorem oper_com(k:Ck lo h bc z m nsv psv ns ps)(hlo:lo≤n)(o:OperT):Com P 0 182 [ptr bc 0,.agg ⟨oprC o⟩] h n fun r h' n'=>r=(if vS m o then .ret (I64 (yT m o.cls)) else .panic (tO 9))∧Tch [] h n h' n':=by
 have hbc:=k.hb;refine ent fun u=>?_;rcases wE (m:=m) (x:=o.cls) with⟨h1,h2⟩|⟨i,c,h1,h2,h3,h4,h5⟩
 · have e0:vS m o=false:=by unfold vS;rw [h1]
   repeat' first|refine st ?_|refine ob ?_|refine ob1 ?_|refine cT ?_|refine cF ?_|refine zC ?_|refine cX (fun _=>?_) fun _=>?_|refine zY (class_pur (Ck.tch k zA hlo) (by omega) _) ?_|fail
   rw[e0];exact⟨rfl,zA⟩
 · have e0:vS m o=(decide (o.fix=[]) || decide (o.fix∈c.regs)):=by unfold vS;rw [h1]
   have r:=k.mm.cls 0;have c2:=xP (zM r h2) (j:=1) rfl;have rcI:=k.mm.clsr c (List.mem_of_getElem? h2);have hinf:inf<4611686018427387904:=by decide
   have hl:=rcI.lt;have hcel:=k.cel;have hrl:sbk m.csv<lo:=r.low (by omega);repeat' first|refine st ?_|refine ob ?_|refine ob1 ?_|refine cT ?_|refine cF ?_|refine zC ?_|refine cX (fun _=>?_) fun _=>?_|refine zY (class_purE (Ck.tch k zA hlo) (by omega) _ h3) ?_|refine zY (sF (RowI.tchE rcI zA hlo) (by omega)) ?_|fail
   all_goals rw[e0]
   · exact⟨by simp[*],zA⟩
   · exact⟨by simp[*],zA⟩
   · exact⟨by simp[*],zA⟩
end Go.Proofs.YtcmohelnoldfbaaGreat
namespace Go.Proofs.YtcmohelnoldfbaaGreat
open Go Go.Ex Go.Ex.M
set_option maxRecDepth 100000
set_option maxHeartbeats 8000000
def outE(e:Int):Out:=if e=0 then .ret (.tuple #[]) else .panic (tO e)
variable {lo bc z n:Nat} {h:zB} {m:MachT} {nsv psv:Value} {ns:List Tx} {ps:List Pl}
theorem classes_com(k:Ck lo h bc z m nsv psv ns ps)(hlo:lo≤n):Com P 0 85 [ptr bc 0] h n fun o h' n'=>∃e,o=outE e∧ClsErr m ns ps e∧Tch [] h n h' n':=by
 have hbc:=k.hb;have hcel:=k.cel;have r:=k.mm.cls 0;have hns:=k.hn;refine ent fun u=>?_;by_cases h64:m.classes.length≤64
 · repeat' first|refine st ?_|refine ob ?_|refine ob1 ?_|refine cT ?_|refine cF ?_|refine zC ?_|refine cX (fun _=>?_) fun _=>?_|fail
   refine lpR (fun i:Nat=>[(0,ptr bc 0),(19,m.csv),(20,I64 m.classes.length),(21,I64 i)]) (fun i h' n'=>Tch [] h n h' n'∧i≤m.classes.length∧∀(j:Nat) c,j<i→m.classes[j]? = some c→clsE m ns ps j c 0) (fun i=>m.classes.length - i) 0 ⟨rfl,rfl,rfl,rfl,trivial⟩ ⟨zA,Nat.zero_le _,fun j _ hj=>by omega⟩ ?_
   rintro i t h' n' ⟨ht,hi,hno⟩
   have hn':=ht.le;have k':=k.tch ht hlo;have r':=k'.mm.cls 0;have hcel':=k'.cel;by_cases hlt:i<m.classes.length
   · have c0:m.classes[i]? = some m.classes[i]:=List.getElem?_eq_getElem hlt;generalize m.classes[i]=c at c0
     have c1:=zM r' c0;have rcI:=k'.mm.clsr c (List.mem_of_getElem? c0);have ro:=(rcI 0).one;have hl1:=r'.low (by omega);have hrl:=rcI.lt;have hinf:inf<4611686018427387904:=by decide
     have bad5:¬nameOKc m ns i c→∀h2 n2,Tch [] h n h2 n2→∃e,Out.panic (tO 5)=outE e∧ClsErr m ns ps e∧Tch [] h n h2 n2:=fun hb h2 n2 t2=>⟨5,rfl,.inr ⟨h64,tL c0 (.inr (.inl ⟨rfl,hb⟩)) (by decide) hno⟩,t2⟩;repeat' first|refine st ?_|refine ob ?_|refine ob1 ?_|refine cT ?_|refine cF ?_|refine zC ?_|refine cX (fun _=>?_) fun _=>?_|refine zY (class_pur (Ck.tch k' zA (by omega)) (by omega) _) ?_|refine zY (sF (Ck.rnT k' zA (by omega)) (by omega)) ?_|fail
     · rename_i e1 e2 e3;have hname:nameOKc m ns i c:=⟨e1,e2,e3⟩;have bad8:¬restOKc ns ps c→∀h2 n2,Tch [] h n h2 n2→∃e,Out.panic (tO 8)=outE e∧ClsErr m ns ps e∧Tch [] h n h2 n2:=fun hb h2 n2 t2=>⟨8,rfl,.inr ⟨h64,tL c0 (.inr (.inr ⟨rfl,hname,hb⟩)) (by decide) hno⟩,t2⟩;have rc:=rcI 0;repeat' first|refine st ?_|refine ob ?_|refine ob1 ?_|refine cT ?_|refine cF ?_|refine zC ?_|refine cX (fun _=>?_) fun _=>?_|fail
       · refine lpR (fun j:Nat=>[(0,ptr bc 0),(2,I64 i),(3,ptr n' 0),(19,m.csv),(20,I64 m.classes.length),(21,I64 i),(60,c.rsv),(61,I64 c.regs.length),(62,I64 j)]) (fun j h2 n2=>Tch [] h n h2 n2∧n'<n2∧Cel h2 n' (36+1) 0 (clsC c)∧j≤c.regs.length∧∀(j':Nat) x,j'<j→c.regs[j']? = some x→regOKc ns ps c j' x) (fun j=>c.regs.length - j) 0 ⟨rfl,rfl,rfl,rfl,rfl,rfl,rfl,rfl,rfl,trivial⟩ ⟨zA,by omega,zE,Nat.zero_le _,fun j _ hj=>by omega⟩ ?_
         rintro j t h2 n2 ⟨ht2,hn2,hc2,hj,hno2⟩
         have hn3:=ht2.le;have k2:=k.tch ht2 hlo;have rp2:=k2.rp;have rc2:=k2.mm.clsr c (List.mem_of_getElem? c0) 0;have hcel2:=k2.cel;by_cases hlt2:j<c.regs.length
         · have d0:c.regs[j]? = some c.regs[j]:=List.getElem?_eq_getElem hlt2;generalize c.regs[j]=x at d0
           have d1:=yX rc2 d0;have bx:¬regOKc ns ps c j x→¬restOKc ns ps c:=fun hb hr=>hb (hr.2.2 j x d0)
           have w1:x∈ns→Pur P 0 141 [ptr bc 0,I64 (i:Nat)] h2 n2 (I64 (wdOf ns ps c)):=fun hx=>by
            cases hr:c.regs with
            | nil=>rw [hr]at d0;cases d0
            | cons r0 rr=>
             refine width_pur k2 (by omega) c0 hr ?_
             cases j with
             | zero=>rw [hr]at d0;cases d0;exact hx
             | succ j=>exact(hno2 0 r0 (by omega) (by rw[hr];rfl)).1
           repeat' first|refine st ?_|refine ob ?_|refine ob1 ?_|refine cT ?_|refine cF ?_|refine zC ?_|refine cX (fun _=>?_) fun _=>?_|refine regK k2 (fun _ _ _ _ _ _=>?_) (fun _=>?_)|refine zY (sZ rc2 (by omega)) ?_|refine zY (w1 (by assumption)) ?_|fail
           · rename_i f1 _ _ _ _ _ f2 f3
             exact⟨j+1,(by dsimp only;omega),(by repeat' first|exact trivial|refine⟨rfl,?_⟩),ht2,hn2,hc2,by omega,fun j' y hj' e=>by
              rcases Nat.lt_succ_iff_lt_or_eq.1 hj' with h9|rfl
              · exact hno2 j' y h9 e
              · rw[d0]at e;cases e;exact⟨f1,f2,f3⟩⟩
           · rename_i f3;exact bad8 (bx fun hb=>f3 hb.2.2) _ _ ht2
           · rename_i f2;exact bad8 (bx fun hb=>f2 hb.2.1) _ _ ht2
           · rename_i f1;exact bad8 (bx fun hb=>f1 hb.1) _ _ ht2
         · obtain rfl:j=c.regs.length:=by omega
           repeat' first|refine st ?_|refine ob ?_|refine ob1 ?_|refine cT ?_|refine cF ?_|refine zC ?_|refine cX (fun _=>?_) fun _=>?_|fail
           exact⟨i+1,(by dsimp only;omega),(by repeat' first|exact trivial|refine⟨rfl,?_⟩),ht2,by omega,rA c0 (.inl ⟨rfl,hname,by omega,by omega,fun j' y e=>hno2 j' y (List.getElem?_eq_some_iff.1 e).1 e⟩) hno⟩
       · rename_i g2;exact bad8 (fun hb=>g2 (by have:=hb.2.1;omega)) _ _ zA
       · rename_i g1;exact bad8 (fun hb=>g1 (by have:=hb.1;omega)) _ _ zA
     · rename_i e3;exact bad5 (fun hb=>hb.2.2 e3) _ _ zA
     · rename_i e2;exact bad5 (fun hb=>e2 hb.2.1) _ _ zA
     · rename_i e1;exact bad5 (fun hb=>by have:=hb.1;rw [e1]at this;cases this) _ _ zA
   · obtain rfl:i=m.classes.length:=by omega
     repeat' first|refine st ?_|refine ob ?_|refine ob1 ?_|refine cT ?_|refine cF ?_|refine zC ?_|refine cX (fun _=>?_) fun _=>?_|fail
     exact⟨0,rfl,.inr ⟨h64,first_all hno⟩,ht⟩
 · repeat' first|refine st ?_|refine ob ?_|refine ob1 ?_|refine cT ?_|refine cF ?_|refine zC ?_|refine cX (fun _=>?_) fun _=>?_|fail
   exact⟨2,rfl,.inl ⟨rfl,by omega⟩,zA⟩
end Go.Proofs.YtcmohelnoldfbaaGreat
namespace Go.Proofs.YtcmohelnoldfbaaGreat
open Go Go.Ex Go.Ex.M
set_option maxRecDepth 100000
set_option maxHeartbeats 8000000
theorem opr_eqA(a b c d:Tx):eqA P 69 [str a,str b] [str c,str d]=Bool.rec (some false) (Bool.rec (some false) (some true) (wW b d)) (wW a c):=by kernel_rfl
instance (a b:OperT):BnC P .eql 69 (.agg ⟨oprC a⟩) (.agg ⟨oprC b⟩) (.bool (decide (a=b))):=⟨fun ox oy=>by
 show(eqA P 69 [str a.cls,str a.fix] [str b.cls,str b.fix]).map Value.bool=_;rw [opr_eqA,wJ,wJ];obtain⟨a1,a2⟩:=a;obtain⟨b1,b2⟩:=b;by_cases h1:a1=b1
 · by_cases h2:a2=b2
   · subst h1 h2;simp
   · simp[h1,h2]
 · simp[h1]⟩
variable {lo bc z n:Nat} {h:zB} {m:MachT} {nsv psv:Value} {ns:List Tx} {ps:List Pl}
theorem wd_hit(k:Ck lo h bc z m nsv psv ns ps)(hlo:lo≤n)(hc:∀c∈m.classes,∃r0 rr,c.regs=r0::rr∧r0∈ns){u:OperT}(hu:vS m u=true):Pur P 0 141 [ptr bc 0,I64 (yT m u.cls)] h n (I64 (wdC m ns ps u.cls)):=by
 rcases wE (m:=m) (x:=u.cls) with⟨h1,h2⟩|⟨i,c,h1,h2,h3,h4,h5⟩
 · unfold vS at hu;rw [h1]at hu;cases hu
 · obtain⟨r0,rr,e1,e2⟩:=hc c (List.mem_of_getElem? h2);rw [h3,show wdC m ns ps u.cls=wdOf ns ps c by unfold wdC;rw [h1]];exact width_pur k hlo h2 e1 e2
theorem op_com(k:Ck lo h bc z m nsv psv ns ps)(hlo:lo≤n)(hcl:∀c∈m.classes,∃r0 rr,c.regs=r0::rr∧r0∈ns){i:Nat}{o:OpT}(hi:m.ops[i]? = some o):Com P 0 142 [ptr bc 0,I64 (i:Nat)] h n fun r h' n'=>∃e,r=outE e∧opE m ns ps i o e∧Tch [] h n h' n':=by
 have hbc:=k.hb;have hcel:=k.cel;have r:=k.mm.ops 0;have hns:=k.hn;have hlt:i<m.ops.length:=(List.getElem?_eq_some_iff.1 hi).1;have hmem:=List.mem_of_getElem? hi;have c1:=zM r hi;have ruI:=k.mm.opsu o hmem;have rcI:=k.mm.opsc o hmem;have ru:=ruI 0;have rc:=rcI 0;have ru1:=ru.one;have rc1:=rc.one;have hul:=ruI.lt;have hcll:=rcI.lt;have hol:=k.mm.ops.lt;have hinf:inf<4611686018427387904:=by decide
 have hl1:=r.low (by omega);have hone:∀x∈m.ops,x.usv.oneCell'=true∧x.csv.oneCell'=true:=fun x hx=>⟨(k.mm.opsu x hx 0).one,(k.mm.opsc x hx 0).one⟩;have bad5:¬nameOKo m i o→∀h2 n2,Tch [] h n h2 n2→∃e,Out.panic (tO 5)=outE e∧opE m ns ps i o e∧Tch [] h n h2 n2:=fun hb h2 n2 t2=>⟨5,rfl,.inr (.inl ⟨rfl,hb⟩),t2⟩;refine ent fun u=>?_;repeat' first|refine st ?_|refine ob ?_|refine ob1 ?_|refine cT ?_|refine cF ?_|refine zC ?_|refine cX (fun _=>?_) fun _=>?_|refine zY (index_op (RowI.tchE k.mm.ops zA hlo) hol (by omega) hone) ?_|fail
 · rename_i f0 f1 f2;have hname:nameOKo m i o:=⟨f0,f1⟩;have bad9:¬uO m ns ps o→∀h2 n2,Tch [] h n h2 n2→∃e,Out.panic (tO 9)=outE e∧opE m ns ps i o e∧Tch [] h n h2 n2:=fun hb h2 n2 t2=>⟨9,rfl,.inr (.inr ⟨rfl,hname,hb⟩),t2⟩;repeat' first|refine st ?_|refine ob ?_|refine ob1 ?_|refine cT ?_|refine cF ?_|refine zC ?_|refine cX (fun _=>?_) fun _=>?_|fail
   refine cal (oper_com (Ck.tch k zA hlo) (by omega) o.d) ?_
   rintro _ h2 n2 ⟨rfl,ht⟩
   have hn2:=ht.le
   cases hd:vS m o.d with
   | false=>
    rw[if_neg (by decide)];repeat' first|refine st ?_|refine ob ?_|refine ob1 ?_|refine cT ?_|refine cF ?_|refine zC ?_|refine cX (fun _=>?_) fun _=>?_|fail
    exact bad9 (fun hb=>by have:=hb.2.1;rw [hd]at this;cases this) _ _ zA
   | true=>
    rw[if_pos rfl];have hc2:Cel h2 n (72+1) 0 (opC o):=zE;have ht0:Tch [] h n h2 n2:=zA;clear ht;repeat' first|refine st ?_|refine ob ?_|refine ob1 ?_|refine cT ?_|refine cF ?_|refine zC ?_|refine cX (fun _=>?_) fun _=>?_|fail
    refine lpR (fun j:Nat=>[(0,ptr bc 0),(1,I64 i),(4,ptr n 0),(5,I64 (yT m o.d.cls)),(48,o.usv),(49,I64 o.uses.length),(50,I64 j)]) (fun j h2 n2=>Tch [] h n h2 n2∧n<n2∧Cel h2 n (72+1) 0 (opC o)∧j≤o.uses.length∧∀(j':Nat) x,j'<j→o.uses[j']? = some x→useOKo m ns ps o x) (fun j=>o.uses.length - j) 0 ⟨rfl,rfl,rfl,rfl,rfl,rfl,rfl,trivial⟩ ⟨ht0,by omega,hc2,Nat.zero_le _,fun j _ hj=>by omega⟩ ?_;clear hc2 ht0 hn2
    rintro j t h2 n2 ⟨ht2,hn2,hc2,hj,hno2⟩
    have hn3:=ht2.le;have k2:=k.tch ht2 hlo;have ru2:=k2.mm.opsu o hmem 0;have hcel2:=k2.cel;by_cases hlt2:j<o.uses.length
    · have d0:o.uses[j]? = some o.uses[j]:=List.getElem?_eq_getElem hlt2;generalize o.uses[j]=x at d0
      have d1:=zM ru2 d0;have bx:¬useOKo m ns ps o x→¬uO m ns ps o:=fun hb hr=>hb (hr.2.2.1 j x d0);repeat' first|refine st ?_|refine ob ?_|refine ob1 ?_|refine cT ?_|refine cF ?_|refine zC ?_|refine cX (fun _=>?_) fun _=>?_|fail
      refine cal (oper_com (Ck.tch k2 zA (by omega)) (by omega) x) ?_
      rintro _ h3 n3 ⟨rfl,ht3⟩
      have hn4:=ht3.le
      cases hd3:vS m x with
      | false=>
       rw[if_neg (by decide)];repeat' first|refine st ?_|refine ob ?_|refine ob1 ?_|refine cT ?_|refine cF ?_|refine zC ?_|refine cX (fun _=>?_) fun _=>?_|fail
       exact bad9 (bx fun hb=>by have:=hb.1;rw [hd3]at this;cases this) _ _ zA
      | true=>
       rw[if_pos rfl];have hc4:Cel h3 n (72+1) 0 (opC o):=zV;have ht4:Tch [] h n h3 n3:=zA;repeat' first|refine st ?_|refine ob ?_|refine ob1 ?_|refine cT ?_|refine cF ?_|refine zC ?_|refine cX (fun _=>?_) fun _=>?_|refine zY (wd_hit (Ck.tch k ht4 hlo) (by omega) hcl hd3) ?_|refine zY (wd_hit (Ck.tch k ht4 hlo) (by omega) hcl hd) ?_|fail
       · rename_i f3
         exact⟨j+1,(by dsimp only;omega),(by repeat' first|exact trivial|refine⟨rfl,?_⟩),ht4,by omega,hc4,by omega,fun j' y hj' e=>by
          rcases Nat.lt_succ_iff_lt_or_eq.1 hj' with h9|rfl
          · exact hno2 j' y h9 e
          · rw[d0]at e;cases e;exact⟨hd3,f3⟩⟩
       · rename_i f3;exact bad9 (bx fun hb=>f3 hb.2) _ _ ht4
    · obtain rfl:j=o.uses.length:=by omega
      have tiebad:¬(-1≤o.tie∧o.tie<o.uses.length)→¬uO m ns ps o:=fun hb hr=>hb ⟨hr.2.2.2.1,hr.2.2.2.2.1⟩;by_cases htie:0≤o.tie∧o.tie<o.uses.length
      · obtain⟨ht0,ht1⟩:=htie;have htl:o.tie.toNat<o.uses.length:=by omega
        have d0:o.uses[o.tie.toNat]? = some o.uses[o.tie.toNat]:=List.getElem?_eq_getElem htl;generalize o.uses[o.tie.toNat]=x at d0
        have d1:=zM ru2 d0;repeat' first|refine st ?_|refine ob ?_|refine ob1 ?_|refine cT ?_|refine cF ?_|refine zC ?_|refine cX (fun _=>?_) fun _=>?_|fail
        · rename_i f3 f4;have tieok:0≤o.tie→o.uses[o.tie.toNat]? = some o.d:=fun _=>by rw[d0,f3]
          refine lpR (fun j:Nat=>[(0,ptr bc 0),(1,I64 i),(4,ptr n 0),(98,o.csv),(99,I64 o.clob.length),(100,I64 j)]) (fun j h2 n2=>Tch [] h n h2 n2∧n<n2∧Cel h2 n (72+1) 0 (opC o)∧j≤o.clob.length∧∀(j':Nat) x,j'<j→o.clob[j']? = some x→clobOKo ns o j' x) (fun j=>o.clob.length - j) 0 ⟨rfl,rfl,rfl,rfl,rfl,rfl,trivial⟩ ⟨ht2,by omega,hc2,Nat.zero_le _,fun j _ hj=>by omega⟩ ?_;clear hc2 ht2 hn2 hcel2 k2 ru2 hn3
          rintro j t h3 n3 ⟨ht2,hn2,hc2,hj3,hno3⟩
          have hn3:=ht2.le;have k2:=k.tch ht2 hlo;have rc2:=k2.mm.opsc o hmem 0;have hcel2:=k2.cel;by_cases hlt3:j<o.clob.length
          · have e0:o.clob[j]? = some o.clob[j]:=List.getElem?_eq_getElem hlt3;generalize o.clob[j]=y at e0
            have e1:=yX rc2 e0;have by':¬clobOKo ns o j y→¬uO m ns ps o:=fun hb hr=>hb (hr.2.2.2.2.2.2.2 j y e0);repeat' first|refine st ?_|refine ob ?_|refine ob1 ?_|refine cT ?_|refine cF ?_|refine zC ?_|refine cX (fun _=>?_) fun _=>?_|refine regK k2 (fun _ _ _ _ _ _=>?_) (fun _=>?_)|refine zY (sZ rc2 (by omega)) ?_|fail
            · rename_i g1 _ _ _ _ _ g2
              exact⟨j+1,(by dsimp only;omega),(by repeat' first|exact trivial|refine⟨rfl,?_⟩),ht2,hn2,hc2,by omega,fun j' z hj' e=>by
               rcases Nat.lt_succ_iff_lt_or_eq.1 hj' with h9|rfl
               · exact hno3 j' z h9 e
               · rw[e0]at e;cases e;exact⟨g1,g2⟩⟩
            · rename_i g2;exact bad9 (by' fun hb=>g2 hb.2) _ _ ht2
            · rename_i g1;exact bad9 (by' fun hb=>g1 hb.1) _ _ ht2
          · obtain rfl:j=o.clob.length:=by omega
            repeat' first|refine st ?_|refine ob ?_|refine ob1 ?_|refine cT ?_|refine cF ?_|refine zC ?_|refine cX (fun _=>?_) fun _=>?_|fail
            exact⟨0,rfl,.inl ⟨rfl,hname,f2,hd,fun j' y e=>hno2 j' y (List.getElem?_eq_some_iff.1 e).1 e,by omega,by omega,tieok,by omega,fun j' y e=>hno3 j' y (List.getElem?_eq_some_iff.1 e).1 e⟩,ht2⟩
        · rename_i f4;exact bad9 (fun hb=>f4 (by have:=hb.2.2.2.2.2.2.1;omega)) _ _ ht2
        · rename_i f3;exact bad9 (fun hb=>f3 (by have:=hb.2.2.2.2.2.1 ht0;rw [d0]at this;exact(Option.some.inj this).symm)) _ _ ht2
      · repeat' first|refine st ?_|refine ob ?_|refine ob1 ?_|refine cT ?_|refine cF ?_|refine zC ?_|refine cX (fun _=>?_) fun _=>?_|fail
        · rename_i f3 f5 f6 f4;have tieok:0≤o.tie→o.uses[o.tie.toNat]? = some o.d:=fun _=>by omega
          refine lpR (fun j:Nat=>[(0,ptr bc 0),(1,I64 i),(4,ptr n 0),(98,o.csv),(99,I64 o.clob.length),(100,I64 j)]) (fun j h2 n2=>Tch [] h n h2 n2∧n<n2∧Cel h2 n (72+1) 0 (opC o)∧j≤o.clob.length∧∀(j':Nat) x,j'<j→o.clob[j']? = some x→clobOKo ns o j' x) (fun j=>o.clob.length - j) 0 ⟨rfl,rfl,rfl,rfl,rfl,rfl,trivial⟩ ⟨ht2,by omega,hc2,Nat.zero_le _,fun j _ hj=>by omega⟩ ?_;clear hc2 ht2 hn2 hcel2 k2 ru2 hn3
          rintro j t h3 n3 ⟨ht2,hn2,hc2,hj3,hno3⟩
          have hn3:=ht2.le;have k2:=k.tch ht2 hlo;have rc2:=k2.mm.opsc o hmem 0;have hcel2:=k2.cel;by_cases hlt3:j<o.clob.length
          · have e0:o.clob[j]? = some o.clob[j]:=List.getElem?_eq_getElem hlt3;generalize o.clob[j]=y at e0
            have e1:=yX rc2 e0;have by':¬clobOKo ns o j y→¬uO m ns ps o:=fun hb hr=>hb (hr.2.2.2.2.2.2.2 j y e0);repeat' first|refine st ?_|refine ob ?_|refine ob1 ?_|refine cT ?_|refine cF ?_|refine zC ?_|refine cX (fun _=>?_) fun _=>?_|refine regK k2 (fun _ _ _ _ _ _=>?_) (fun _=>?_)|refine zY (sZ rc2 (by omega)) ?_|fail
            · rename_i g1 _ _ _ _ _ g2
              exact⟨j+1,(by dsimp only;omega),(by repeat' first|exact trivial|refine⟨rfl,?_⟩),ht2,hn2,hc2,by omega,fun j' z hj' e=>by
               rcases Nat.lt_succ_iff_lt_or_eq.1 hj' with h9|rfl
               · exact hno3 j' z h9 e
               · rw[e0]at e;cases e;exact⟨g1,g2⟩⟩
            · rename_i g2;exact bad9 (by' fun hb=>g2 hb.2) _ _ ht2
            · rename_i g1;exact bad9 (by' fun hb=>g1 hb.1) _ _ ht2
          · obtain rfl:j=o.clob.length:=by omega
            repeat' first|refine st ?_|refine ob ?_|refine ob1 ?_|refine cT ?_|refine cF ?_|refine zC ?_|refine cX (fun _=>?_) fun _=>?_|fail
            exact⟨0,rfl,.inl ⟨rfl,hname,f2,hd,fun j' y e=>hno2 j' y (List.getElem?_eq_some_iff.1 e).1 e,by omega,by omega,tieok,by omega,fun j' y e=>hno3 j' y (List.getElem?_eq_some_iff.1 e).1 e⟩,ht2⟩
        · rename_i f4;exact bad9 (fun hb=>f4 (by have:=hb.2.2.2.2.2.2.1;omega)) _ _ ht2
        · rename_i f4;exact bad9 (tiebad (by omega)) _ _ ht2
        · rename_i f4;exact bad9 (tiebad (by omega)) _ _ ht2
 · rename_i f0 f1 f2;exact⟨9,rfl,.inr (.inr ⟨rfl,⟨f0,f1⟩,fun hb=>f2 hb.1⟩),zA⟩
 · rename_i f1;exact bad5 (fun hb=>f1 hb.2) _ _ zA
 · rename_i f1;exact bad5 (fun hb=>f1 hb.1) _ _ zA
end Go.Proofs.YtcmohelnoldfbaaGreat
namespace Go.Proofs.YtcmohelnoldfbaaGreat
open Go Go.Ex Go.Ex.M
set_option maxRecDepth 100000
set_option maxHeartbeats 8000000
variable {lo bt z n:Nat} {h:zB} {m:MachT} {nsv psv kv:Value} {ns:List Tx} {ps:List Pl} {kvs:List Value}
instance (a b:OperT):BnC P .neq 69 (.agg ⟨oprC a⟩) (.agg ⟨oprC b⟩) (.bool (decide (a≠b))):=⟨fun ox oy=>by
 show(eqA P 69 [str a.cls,str a.fix] [str b.cls,str b.fix]).map (fun b=>Value.bool (!b))=_;rw [opr_eqA,wJ,wJ];obtain⟨a1,a2⟩:=a;obtain⟨b1,b2⟩:=b;by_cases h1:a1=b1
 · by_cases h2:a2=b2
   · subst h1 h2;simp
   · simp[h1,h2]
 · simp[h1]⟩
theorem ropof_pur(k:Tb lo h bt z m nsv psv kv ns ps)(x:Tx):Pur P 0 121 [ptr bt 0,str x] h n (I64 (posF (fun o:OpT=>decide (o.name=x)) m.ops)):=by
 have hcel:=k.cel;have r:=k.mm.ops 0;have hl:=k.mm.ops.lt;have hinf:inf<4611686018427387904:=by decide
 refine ent fun u=>?_;repeat' first|refine st ?_|refine ob ?_|refine ob1 ?_|refine cT ?_|refine cF ?_|refine zC ?_|refine cX (fun _=>?_) fun _=>?_|fail
 refine lpR (fun q:Nat=>[(0,ptr bt 0),(1,str x),(5,I64 q)]) (fun q h' n'=>h'=h∧n'=n∧q≤m.ops.length∧∀(j:Nat) y,j<q→m.ops[j]? = some y→decide (y.name=x)=false) (fun q=>m.ops.length - q) 0 (by repeat' first|exact trivial|refine⟨rfl,?_⟩) ⟨rfl,rfl,Nat.zero_le _,fun j _ hj=>absurd hj (Nat.not_lt_zero _)⟩ ?_
 rintro q t h' n' ⟨rfl,rfl,hq,hno⟩
 by_cases hlt:q<m.ops.length
 · have c0:m.ops[q]? = some m.ops[q]:=List.getElem?_eq_getElem hlt;generalize m.ops[q]=c at c0
   have c1:=xP (zM r c0) (j:=0) rfl;repeat' first|refine st ?_|refine ob ?_|refine ob1 ?_|refine cT ?_|refine cF ?_|refine zC ?_|refine cX (fun _=>?_) fun _=>?_|fail
   · rename_i e1;exact fin (by rw[posF_hit c0 (decide_eq_true e1) hno])
   · rename_i e1
     exact⟨q+1,(by dsimp only;omega),(by repeat' first|exact trivial|refine⟨rfl,?_⟩),rfl,rfl,by omega,fun j y hj e=>by
      rcases Nat.lt_succ_iff_lt_or_eq.1 hj with h9|rfl
      · exact hno j y h9 e
      · rw[c0]at e;cases e;exact decide_eq_false e1⟩
 · obtain rfl:q=m.ops.length:=by omega
   repeat' first|refine st ?_|refine ob ?_|refine ob1 ?_|refine cT ?_|refine cF ?_|refine zC ?_|refine cX (fun _=>?_) fun _=>?_|fail
   exact fin (by rw[posF_no fun j y e=>hno j y (List.getElem?_eq_some_iff.1 e).1 e])
theorem wN_cls(x:Tx):wN m ns ps (yT m x)=wdC m ns ps x:=by
 unfold wN wdC;rcases wE (m:=m) (x:=x) with⟨h1,h2⟩|⟨i,c,h1,h2,h3,h4,h5⟩
 · rw[h1,h2];rfl
 · rw[h1,h3,if_pos (by omega),show((i:Nat):Int).toNat=i from rfl,h2]
theorem ar_ge(s:Tx):0≤arity s∧arity s≤2:=by unfold arity;split <;> (first|omega|(split <;> omega))
theorem rops_com(k:Tc lo h bt z m nsv psv kv ns ps kvs)(hlo:lo≤n)(hr:RegsIn m ns):Com P 0 129 [ptr bt 0] h n fun r h' n'=>∃e,r = .ret (I64 e)∧rB m ns ps e∧Tch [] h n h' n':=by
 have hinf:inf<4611686018427387904:=by decide
 have hol:=k.tb.mm.ops.lt;have hbt:=k.tb.hb;have r0:=k.tb.mm.ops 0;have hcel:=k.tb.cel;refine ent fun u=>?_;by_cases h64:m.ops.length≤64
 · repeat' first|refine st ?_|refine ob ?_|refine ob1 ?_|refine cT ?_|refine cF ?_|refine zC ?_|refine cX (fun _=>?_) fun _=>?_|fail
   refine lpR (fun i:Nat=>[(0,ptr bt 0),(3,I64 i)]) (fun i h' n'=>Tch [] h n h' n'∧i≤m.ops.length∧∀(j:Nat) c,j<i→m.ops[j]? = some c→opE m ns ps j c 0) (fun i=>m.ops.length - i) 0 (by repeat' first|exact trivial|refine⟨rfl,?_⟩) ⟨zA,Nat.zero_le _,fun j _ hj=>absurd hj (Nat.not_lt_zero _)⟩ ?_;clear hcel r0
   rintro i t h' n' ⟨ht,hi,hno⟩
   have hn':=ht.le;have k':=k.tch ht hlo;have hcel:=k'.tb.cel;have r:=k'.tb.mm.ops 0;by_cases hlt:i<m.ops.length
   · have c0:m.ops[i]? = some m.ops[i]:=List.getElem?_eq_getElem hlt;generalize m.ops[i]=o at c0
     have hmem:=List.mem_of_getElem? c0;have c1:=zM r c0;have ruI:=k'.tb.mm.opsu o hmem;have rcI:=k'.tb.mm.opsc o hmem;have ru:=ruI 0;have ru1:=ru.one;have rc1:=(rcI 0).one;have hul:=ruI.lt;have hcl:=rcI.lt;have hl1:=r.low (by omega);have hop:=op_le c0;have har:=ar_ge o.name;have bad5:¬nameOKo m i o→∀h2 n2,Tch [] h n h2 n2→∃e,Out.ret (I64 5) = .ret (I64 e)∧rB m ns ps e∧Tch [] h n h2 n2:=fun hb h2 n2 t2=>⟨5,rfl,.inr ⟨h64,tL c0 (.inr (.inl ⟨rfl,hb⟩)) (by decide) hno⟩,t2⟩;repeat' first|refine st ?_|refine ob ?_|refine ob1 ?_|refine cT ?_|refine cF ?_|refine zC ?_|refine cX (fun _=>?_) fun _=>?_|refine zY (ropof_pur (Tb.tch k'.tb zA (by omega)) _) ?_|fail
     · exact bad5 (fun hb=>by have:=hb.1;omega) _ _ zA
     · exact bad5 (fun hb=>by have:=hb.2;omega) _ _ zA
     all_goals (
      have hname:nameOKo m i o:=⟨by omega,by omega⟩;have bad9:¬uO m ns ps o→∀h2 n2,Tch [] h n h2 n2→∃e,Out.ret (I64 9) = .ret (I64 e)∧rB m ns ps e∧Tch [] h n h2 n2:=fun hb h2 n2 t2=>⟨9,rfl,.inr ⟨h64,tL c0 (.inr (.inr ⟨rfl,hname,hb⟩)) (by decide) hno⟩,t2⟩)
     · exact bad9 (fun hb=>by have:=hb.1;omega) _ _ zA
     · rename_i e1 e2 e3;have hlen:((o.uses.length:Nat):Int)=arity o.name:=by omega
       rw[← hlen];refine zY (roperand_pur (Tc.tch k' zA (by omega)) (by omega) hr o.d) ?_;have hc8:Cel (hst (hal h' n' (mkC [str [],str [],str [],.slice none 0 0,I64 0,.slice none 0 0] (72+1) 0)) n' 0 (opC o)) n' (72+1) 0 (opC o):=zE;have ht8:Tch [] h' n' (hst (hal h' n' (mkC [str [],str [],str [],.slice none 0 0,I64 0,.slice none 0 0] (72+1) 0)) n' 0 (opC o)) (n'+1):=zA;repeat' first|refine st ?_|refine ob ?_|refine ob1 ?_|refine cT ?_|refine cF ?_|refine zC ?_|refine cX (fun _=>?_) fun _=>?_|fail
       refine lpR (α :=Nat×Bool) (fun a=>[(0,ptr bt 0),(3,I64 i),(4,ptr n' 0),(5,I64 o.uses.length),(6,.bool a.2),(7,I64 a.1)]) (fun a h2 n2=>Tch [] h' n' h2 n2∧n'<n2∧Cel h2 n' (72+1) 0 (opC o)∧a.1≤o.uses.length∧(a.2=true↔vS m o.d=true∧∀(j:Nat) u,j<a.1→o.uses[j]? = some u→vS m u=true)) (fun a=>o.uses.length - a.1) (0,vS m o.d) (by repeat' first|exact trivial|refine⟨rfl,?_⟩) ⟨ht8,by omega,hc8,Nat.zero_le _,fun h9=>⟨h9,fun j _ hj=>absurd hj (Nat.not_lt_zero _)⟩,fun h9=>h9.1⟩ ?_;clear hc8 ht8
       rintro ⟨q,ok⟩ t h2 n2 ⟨ht2,hn2,hc2,hq,hok⟩
       dsimp only at hq hok ⊢;have hn3:=ht2.le;have k2:=Tc.tch k' ht2 (by omega);have ru2:=k2.tb.mm.opsu o hmem 0;have htt:Tch [] h n h2 n2:=Tch.tch ht2 ht (by simp);by_cases hgo:q<o.uses.length∧ok=true
       · obtain⟨hlt2,rfl⟩:=hgo;have d0:o.uses[q]? = some o.uses[q]:=List.getElem?_eq_getElem hlt2;generalize o.uses[q]=x at d0
         have d1:=zM ru2 d0;repeat' first|refine st ?_|refine ob ?_|refine ob1 ?_|refine cT ?_|refine cF ?_|refine zC ?_|refine cX (fun _=>?_) fun _=>?_|refine zY (roperand_pur k2 (by omega) hr x) ?_|fail
         exact⟨(q+1,vS m x),(by dsimp only;omega),(by repeat' first|exact trivial|refine⟨rfl,?_⟩),ht2,hn2,hc2,by omega,fun h9=>⟨(hok.1 rfl).1,fun j y hj e=>by
          rcases Nat.lt_succ_iff_lt_or_eq.1 hj with h8|rfl
          · exact(hok.1 rfl).2 j y h8 e
          · rw[d0]at e;cases e;exact h9⟩,fun h9=>h9.2 q x (by omega) d0⟩
       · cases ok with
         | false=>
          repeat' first|refine st ?_|refine ob ?_|refine ob1 ?_|refine cT ?_|refine cF ?_|refine zC ?_|refine cX (fun _=>?_) fun _=>?_|fail
          all_goals exact bad9 (fun hb=>by have:=hok.2 ⟨hb.2.1,fun j y _ e=>(hb.2.2.1 j y e).1⟩;cases this) _ _ htt
         | true =>
          obtain rfl:q=o.uses.length:=by
           rcases Nat.lt_or_ge q o.uses.length with h9|h9
           · exact absurd ⟨h9,rfl⟩ hgo
           · omega
          obtain⟨hd,hus⟩:=hok.1 rfl;repeat' first|refine st ?_|refine ob ?_|refine ob1 ?_|refine cT ?_|refine cF ?_|refine zC ?_|refine cX (fun _=>?_) fun _=>?_|fail
          refine lpR (fun q:Nat=>[(0,ptr bt 0),(3,I64 i),(4,ptr n' 0),(5,I64 o.uses.length),(8,I64 q)]) (fun q h3 n3=>Tch [] h' n' h3 n3∧n'<n3∧Cel h3 n' (72+1) 0 (opC o)∧q≤o.uses.length∧∀(j:Nat) u,j<q→o.uses[j]? = some u→wdC m ns ps u.cls=wdC m ns ps o.d.cls) (fun q=>o.uses.length - q) 0 (by repeat' first|exact trivial|refine⟨rfl,?_⟩) ⟨ht2,hn2,hc2,Nat.zero_le _,fun j _ hj=>absurd hj (Nat.not_lt_zero _)⟩ ?_;clear hc2 ht2 hn2 k2 ru2 hn3 htt hgo hok hq
          rintro q t h2 n2 ⟨ht2,hn2,hc2,hq,hno2⟩
          have hn3:=ht2.le;have k2:=Tc.tch k' ht2 (by omega);have ru2:=k2.tb.mm.opsu o hmem 0;have htt:Tch [] h n h2 n2:=Tch.tch ht2 ht (by simp);by_cases hlt2:q<o.uses.length
          · have d0:o.uses[q]? = some o.uses[q]:=List.getElem?_eq_getElem hlt2;generalize o.uses[q]=x at d0
            have d1:=zM ru2 d0;have d2:=xP d1 (j:=0) rfl;repeat' first|refine st ?_|refine ob ?_|refine ob1 ?_|refine cT ?_|refine cF ?_|refine zC ?_|refine cX (fun _=>?_) fun _=>?_|refine zY (yH k2.tb _) ?_|refine zY (twidth_pur k2 hr _) ?_|fail
            all_goals rename_i f1
            all_goals rw[wN_cls,wN_cls]at f1
            · exact bad9 (fun hb=>f1 (hb.2.2.1 q x d0).2) _ _ htt
            · exact⟨q+1,(by dsimp only;omega),(by repeat' first|exact trivial|refine⟨rfl,?_⟩),ht2,hn2,hc2,by omega,fun j y hj e=>by
               rcases Nat.lt_succ_iff_lt_or_eq.1 hj with h9|rfl
               · exact hno2 j y h9 e
               · rw[d0]at e;cases e;exact Decidable.not_not.1 f1⟩
          · obtain rfl:q=o.uses.length:=by omega
            have husOK:∀(j:Nat) u,o.uses[j]? = some u→useOKo m ns ps o u:=fun j u e=>⟨hus j u (List.getElem?_eq_some_iff.1 e).1 e,hno2 j u (List.getElem?_eq_some_iff.1 e).1 e⟩;repeat' first|refine st ?_|refine ob ?_|refine ob1 ?_|refine cT ?_|refine cF ?_|refine zC ?_|refine cX (fun _=>?_) fun _=>?_|fail
            refine cal (rdist_pur k2.tb (k2.tb.mm.opsc o hmem)) ?_
            rintro _ _ _ ⟨rr,rfl,hrr,rfl,rfl⟩
            have fine: -1≤o.tie→o.tie<o.uses.length→(0≤o.tie→o.uses[o.tie.toNat]? = some o.d)→rr=true→opE m ns ps i o 0:=fun g1 g2 g3 g4=>.inl ⟨rfl,hname,hlen,hd,husOK,g1,g2,g3,(hrr.1 g4).1,(hrr.1 g4).2⟩;have badr:rr=false→¬uO m ns ps o:=fun h9 hb=>by have:=hrr.2 ⟨hb.2.2.2.2.2.2.1,hb.2.2.2.2.2.2.2⟩;rw [h9]at this;cases this
            by_cases htie:0≤o.tie∧o.tie<o.uses.length
            · obtain⟨ht0,ht1⟩:=htie;have d0:o.uses[o.tie.toNat]? = some o.uses[o.tie.toNat]:=List.getElem?_eq_getElem (by omega);generalize o.uses[o.tie.toNat]=x at d0
              have d1:=zM ru2 d0;repeat' first|refine st ?_|refine ob ?_|refine ob1 ?_|refine cT ?_|refine cF ?_|refine zC ?_|refine cX (fun _=>?_) fun _=>?_|fail
              · rename_i f1;exact bad9 (fun hb=>f1 (by have:=hb.2.2.2.2.2.1 ht0;rw [d0]at this;exact Option.some.inj this)) _ _ htt
              · rename_i f1 f2;exact bad9 (badr f2) _ _ htt
              · rename_i f1 f2;exact⟨i+1,(by dsimp only;omega),(by repeat' first|exact trivial|refine⟨rfl,?_⟩),htt,by omega,rA c0 (fine (by omega) ht1 (fun _=>by rw[d0,Decidable.not_not.1 f1]) f2) hno⟩
            · repeat' first|refine st ?_|refine ob ?_|refine ob1 ?_|refine cT ?_|refine cF ?_|refine zC ?_|refine cX (fun _=>?_) fun _=>?_|fail
              · exact bad9 (fun hb=>by have:=hb.2.2.2.1;omega) _ _ htt
              · exact bad9 (fun hb=>by have:=hb.2.2.2.2.1;omega) _ _ htt
              · rename_i f1 f2 f3;exact bad9 (badr f3) _ _ htt
              · rename_i f1 f2 f3;exact⟨i+1,(by dsimp only;omega),(by repeat' first|exact trivial|refine⟨rfl,?_⟩),htt,by omega,rA c0 (fine (by omega) (by omega) (fun h9=>absurd ⟨h9,by omega⟩ htie) f3) hno⟩
   · obtain rfl:i=m.ops.length:=by omega
     repeat' first|refine st ?_|refine ob ?_|refine ob1 ?_|refine cT ?_|refine cF ?_|refine zC ?_|refine cX (fun _=>?_) fun _=>?_|fail
     exact⟨0,rfl,.inr ⟨h64,first_all hno⟩,ht⟩
 · repeat' first|refine st ?_|refine ob ?_|refine ob1 ?_|refine cT ?_|refine cF ?_|refine zC ?_|refine cX (fun _=>?_) fun _=>?_|fail
   exact⟨2,rfl,.inl ⟨rfl,by omega⟩,zA⟩
end Go.Proofs.YtcmohelnoldfbaaGreat
namespace Go.Proofs.YtcmohelnoldfbaaGreat
open Go Go.Ex Go.Ex.M
set_option maxRecDepth 100000
set_option maxHeartbeats 8000000
theorem rdown_all{lo n0 bg:Nat}:∀k,DnS lo n0 bg k:=by
 intro k
 induction k with
 | zero=>exact rdown_step fun k' e=>absurd e (by omega)
 | succ k ih=>exact rdown_step fun k' e=>by cases e;exact ih
abbrev nilS:Value:=.slice none 0 0
theorem rplaces_com{lo n:Nat}{h:zB}{sv:Value}{l:List RegT}(hr:RegsM lo h sv l)(hlo:lo≤n):Com P 0 127 [sv] h n fun o h' n'=>Tch [] h n h' n'∧((∃e,geoP l = .error e∧o = .ret (.tuple ⟨[nilS,nilS,I64 e]⟩))∨∃s nsv psv,geoP l = .ok s∧GOK s∧o = .ret (.tuple ⟨[nsv,psv,I64 0]⟩)∧Row n' h' nsv tStr 1 s.ns.length (s.ns.map str)∧Row n' h' psv tPl 3 s.ps.length (s.ps.flatMap plC)):=by
 have g0:GOK ⟨[],[]⟩:=⟨List.nodup_nil,rfl,Nat.zero_le _,fun p hp=>(by cases hp),fun x hx=>(by cases hx)⟩;refine ent fun u=>?_;repeat' first|refine st ?_|refine ob ?_|refine ob1 ?_|refine cT ?_|refine cF ?_|refine zC ?_|refine cX (fun _=>?_) fun _=>?_|fail
 refine cal (rdown_all (lo:=lo) (n0:=n+1) (bg:=n) 6 1 ⟨0,0,0⟩ l sv ⟨[],[]⟩ 0 _ (n+1) nilS nilS (by decide) (by decide) (.inl ⟨rfl,rfl⟩) (by omega) hlo (by omega) (RegsM.tch zA hlo hr) g0 ⟨zE,Own.nil,Own.nil⟩) ?_
 rintro _ h2 n2 ⟨rfl,ht,hres⟩
 have hn2:=ht.le;have ht2:Tch [] h n h2 n2:=Tch.tch ht zA (by simp[zN]);rcases hres with⟨e,h1,nsv,psv,hc,_,_⟩|⟨s,nsv,psv,h1,hg,hok,_,_⟩
 · have he:e≠0:=geo_err h1;repeat' first|refine st ?_|refine ob ?_|refine ob1 ?_|refine cT ?_|refine cF ?_|refine zC ?_|refine cX (fun _=>?_) fun _=>?_|fail
   exact⟨ht2,.inl ⟨e,h1,rfl⟩⟩
 · have hc:=hg.cel;have o1:=hg.on.one;have o2:=hg.op.one;repeat' first|refine st ?_|refine ob ?_|refine ob1 ?_|refine cT ?_|refine cF ?_|refine zC ?_|refine cX (fun _=>?_) fun _=>?_|fail
   exact⟨ht2,.inr ⟨s,nsv,psv,h1,hok,rfl,hg.on.row (by decide),hg.op.row (by decide)⟩⟩
abbrev zTab:Nat:=84+1
theorem Tb.up{lo lo' bt z:Nat}{h:zB}{m:MachT}{nsv psv kv:Value}{ns:List Tx}{ps:List Pl}(k:Tb lo h bt z m nsv psv kv ns ps)(hl:lo≤lo'):Tb lo' h bt z m nsv psv kv ns ps:=⟨k.mm.up hl,k.cel,k.rn.up hl,k.rp.up hl,by have:=k.hb;omega,k.hl,k.hn,k.ok⟩
def BeginE(m:MachT)(e:Int):Prop:=(named m.name=false∧e=5)∨(named m.name=true∧((geoP m.regs = .error e∧e≠0)∨∃s,geoP m.regs = .ok s∧((s.ns=[]∧e=1)∨(s.ns≠[]∧((e≠0∧ClsErr m s.ns s.ps e)∨(ClsErr m s.ns s.ps 0∧rB m s.ns s.ps e))))))
theorem mach_one{lo:Nat}{h:zB}{m:MachT}(mm:MachM lo h m):m.rsv.oneCell'=true∧m.csv.oneCell'=true∧m.osv.oneCell'=true∧m.asv.oneCell'=true∧m.ssv.oneCell'=true:=⟨(mm.regs.row 0).one,(mm.cls 0).one,(mm.ops 0).one,(mm.args 0).one,(mm.saved 0).one⟩
theorem rbegin_com{lo n:Nat}{h:zB}{m:MachT}(mm:MachM lo h m)(hlo:lo≤n):Com P 0 71 [.agg ⟨yO m⟩,I64 4] h n fun o h' n'=>∃e,BeginE m e∧Tch [] h n h' n'∧((e≠0∧o = .ret (.tuple ⟨[.pointer none,I64 e]⟩))∨(e=0∧∃bt nsv psv kv kvs s,o = .ret (.tuple ⟨[ptr bt 0,I64 0]⟩)∧n≤bt∧geoP m.regs = .ok s∧GOK s∧s.ns≠[]∧Tc n' h' bt zTab m nsv psv kv s.ns s.ps kvs∧ClsErr m s.ns s.ps 0∧rB m s.ns s.ps 0)):=by
 obtain⟨o1,o2,o3,o4,o5⟩:=mach_one mm;refine ent fun u=>?_;repeat' first|refine st ?_|refine ob ?_|refine ob1 ?_|refine cT ?_|refine cF ?_|refine zC ?_|refine cX (fun _=>?_) fun _=>?_|fail
 · exact⟨5,.inl ⟨by assumption,rfl⟩,zA,.inl ⟨by decide,rfl⟩⟩
 rename_i hnm;refine cal (rplaces_com (RegsM.tch zA hlo mm.regs) (by omega)) ?_
 rintro _ h2 n2 ⟨ht2,⟨e,h1,rfl⟩|⟨s,nsv,psv,h1,hok,rfl,rn,rp⟩⟩
 · have he:e≠0:=geo_err h1;repeat' first|refine st ?_|refine ob ?_|refine ob1 ?_|refine cT ?_|refine cF ?_|refine zC ?_|refine cX (fun _=>?_) fun _=>?_|fail
   exact⟨e,.inr ⟨hnm,.inl ⟨h1,he⟩⟩,zA,.inl ⟨he,rfl⟩⟩
 have hn2:=ht2.le;have ro1:=rn.one;have ro2:=rp.one;by_cases hne:s.ns=[]
 · have hl0:s.ns.length=0:=by rw[hne];rfl
   repeat' first|refine st ?_|refine ob ?_|refine ob1 ?_|refine cT ?_|refine cF ?_|refine zC ?_|refine cX (fun _=>?_) fun _=>?_|fail
   exact⟨1,.inr ⟨hnm,.inr ⟨s,h1,.inl ⟨hne,rfl⟩⟩⟩,zA,.inl ⟨by decide,rfl⟩⟩
 have hl0:0<s.ns.length:=List.length_pos_iff.2 hne;obtain⟨p1,c1,rfl⟩:=rn.sl;obtain⟨p2,c2,rfl⟩:=rp.sl;repeat' first|refine st ?_|refine ob ?_|refine ob1 ?_|refine cT ?_|refine cF ?_|refine zC ?_|refine cX (fun _=>?_) fun _=>?_|fail
 refine cal (rclasses_com (lo:=n2) (z:=zTab) (n:=n2+1) ⟨MachM.up (by omega) (MachM.tch zA hlo mm),Row.tch (S:=[]) rn zA (Nat.le_refl _) (by simp),Row.tch (S:=[]) rp zA (Nat.le_refl _) (by simp),Nat.le_refl _,hok.len,hok.le,fun p hp=>plg_b (hok.pl p hp)⟩ (by omega) (by omega) zE) ?_
 rintro _ h3 n3 ⟨e,rfl,hce,ht3,htc⟩
 have hn3:=ht3.le;have ht4:Tch [] h n h3 n3:=Tch.tch ht3 zA (by simp;omega);by_cases he:e=0
 · subst he;obtain⟨kv,kvs,tc⟩:=htc rfl;obtain⟨_,hcs⟩:=hce.ok
   have hri:RegsIn m s.ns:=fun i c hc=>⟨(hcs i c hc).2.1,fun r hr=>by
    obtain⟨j,hj⟩:=List.mem_iff_getElem?.1 hr;exact((hcs i c hc).2.2.2 j r hj).1⟩
   repeat' first|refine st ?_|refine ob ?_|refine ob1 ?_|refine cT ?_|refine cF ?_|refine zC ?_|refine cX (fun _=>?_) fun _=>?_|fail
   refine cal (rops_com tc (Nat.le_refl _) hri) ?_
   rintro _ h5 n5 ⟨e,rfl,hoe,ht5⟩
   have ht6:Tch [] h n h5 n5:=Tch.tch ht5 ht4 (by simp);by_cases he:e=0
   · subst he;repeat' first|refine st ?_|refine ob ?_|refine ob1 ?_|refine cT ?_|refine cF ?_|refine zC ?_|refine cX (fun _=>?_) fun _=>?_|fail
     exact⟨0,.inr ⟨hnm,.inr ⟨s,h1,.inr ⟨hne,.inr ⟨hce,hoe⟩⟩⟩⟩,ht6,.inr ⟨rfl,n2,_,_,kv,kvs,s,rfl,by omega,h1,hok,hne,⟨Tb.up (tc.tb.tch ht5 (Nat.le_refl _)) ht5.le,(tc.kr.tch ht5 (Nat.le_refl _) (by simp)).up ht5.le,tc.kl,fun i c hc=>by
      obtain⟨v,g1,g2⟩:=tc.ke i c hc;exact⟨v,g1,(g2.tch ht5 (Nat.le_refl _) (by simp)).up ht5.le⟩⟩,hce,hoe⟩⟩
   · repeat' first|refine st ?_|refine ob ?_|refine ob1 ?_|refine cT ?_|refine cF ?_|refine zC ?_|refine cX (fun _=>?_) fun _=>?_|fail
     exact⟨e,.inr ⟨hnm,.inr ⟨s,h1,.inr ⟨hne,.inr ⟨hce,hoe⟩⟩⟩⟩,ht6,.inl ⟨he,rfl⟩⟩
 · repeat' first|refine st ?_|refine ob ?_|refine ob1 ?_|refine cT ?_|refine cF ?_|refine zC ?_|refine cX (fun _=>?_) fun _=>?_|fail
   exact⟨e,.inr ⟨hnm,.inr ⟨s,h1,.inr ⟨hne,.inl ⟨he,hce⟩⟩⟩⟩,ht4,.inl ⟨he,rfl⟩⟩
end Go.Proofs.YtcmohelnoldfbaaGreat
namespace Go.Proofs.YtcmohelnoldfbaaGreat
open Go Go.Ex Go.Ex.M
set_option maxRecDepth 100000
set_option maxHeartbeats 8000000
variable {lo bt z n:Nat} {h:zB} {m:MachT} {nsv psv kv:Value} {ns:List Tx} {ps:List Pl} {kvs:List Value}
def ClobLe(m:MachT):Prop:=∀(i:Nat) o,m.ops[i]? = some o→o.clob.length<100000
theorem rclob_ret(k:Tb lo h bt z m nsv psv kv ns ps)(hlo:lo≤n)(hcb:ClobLe m){op:Nat}{o:OpT}(ho:m.ops[op]? = some o):Ret P 0 174 [ptr bt 0,I64 (op:Nat)] h n fun v h' n'=>Row n' h' v tInt 1 (uK ns o.clob).length ((uK ns o.clob).map I64)∧Tch [] h n h' n':=by
 have hcel:=k.cel;have r:=k.mm.ops 0;have hlt:=(List.getElem?_eq_some_iff.1 ho).1;have hl:=k.mm.ops.lt;have c1:=xP (zM r ho) (j:=5) rfl;refine ent fun u=>?_;repeat' first|refine st ?_|refine ob ?_|refine ob1 ?_|refine cT ?_|refine cF ?_|refine zC ?_|refine cX (fun _=>?_) fun _=>?_|fail
 refine vR (rlist_ret k hlo (k.mm.opsc o (List.mem_of_getElem? ho) 0) hlo (hcb _ _ ho)) ?_
 rintro v' h3 n3 ⟨hw,ht⟩
 repeat' first|refine st ?_|refine ob ?_|refine ob1 ?_|refine cT ?_|refine cF ?_|refine zC ?_|refine cX (fun _=>?_) fun _=>?_|fail
 exact⟨_,rfl,hw.row (by decide),ht⟩
theorem rclear_pur(k:Tb lo h bt z m nsv psv kv ns ps)(hlo:lo≤n)(hcb:ClobLe m){op:Nat}{o:OpT}(ho:m.ops[op]? = some o)(r:Int):Pur P 0 133 [ptr bt 0,I64 (op:Nat),I64 r] h n (.bool (clrN ns ps o r)):=by
 refine Com.pure (ent fun u=>?_) (.inl rfl);repeat' first|refine st ?_|refine ob ?_|refine ob1 ?_|refine cT ?_|refine cF ?_|refine zC ?_|refine cX (fun _=>?_) fun _=>?_|fail
 refine vR (rclob_ret k hlo hcb ho) ?_
 rintro v h2 n2 ⟨rv,ht2⟩
 have hn2:=ht2.le;have e0:clrN ns ps o r=(uK ns o.clob).all fun c=> !sH ps c r:=rfl
 have hll:(uK ns o.clob).length<100000:=by
  have:=hcb _ _ ho;unfold uK;rw [List.length_map];exact Nat.lt_of_le_of_lt (List.length_filter_le _ _) this
 generalize uK ns o.clob=l at rv e0 hll
 repeat' first|refine st ?_|refine ob ?_|refine ob1 ?_|refine cT ?_|refine cF ?_|refine zC ?_|refine cX (fun _=>?_) fun _=>?_|fail
 refine lpR (fun q:Nat=>[(0,ptr bt 0),(2,I64 r),(7,v),(8,I64 q)]) (fun q h' n'=>h'=h2∧n'=n2∧q≤l.length∧∀(j:Nat) y,j<q→l[j]? = some y→sH ps y r=false) (fun q=>l.length - q) 0 (by repeat' first|exact trivial|refine⟨rfl,?_⟩) ⟨rfl,rfl,Nat.zero_le _,fun j _ hj=>absurd hj (Nat.not_lt_zero _)⟩ ?_
 rintro q t h' n' ⟨rfl,rfl,hq,hno⟩
 have k2:=k.tch ht2 hlo;by_cases hlt:q<l.length
 · have c0:l[q]? = some l[q]:=List.getElem?_eq_getElem hlt;generalize l[q]=y at c0
   have c1:=yX rv c0;repeat' first|refine st ?_|refine ob ?_|refine ob1 ?_|refine cT ?_|refine cF ?_|refine zC ?_|refine cX (fun _=>?_) fun _=>?_|refine zY (vO k2 (by omega) _ _) ?_|fail
   · rename_i f1;exact finT (by rw[e0,all_false c0 (by rw[f1];rfl)]) ht2
   · rename_i f1
     exact⟨q+1,(by dsimp only;omega),(by repeat' first|exact trivial|refine⟨rfl,?_⟩),rfl,rfl,by omega,fun j w hj e=>by
      rcases Nat.lt_succ_iff_lt_or_eq.1 hj with h9|rfl
      · exact hno j w h9 e
      · rw[c0]at e;cases e;exact f1⟩
 · obtain rfl:q=l.length:=by omega
   repeat' first|refine st ?_|refine ob ?_|refine ob1 ?_|refine cT ?_|refine cF ?_|refine zC ?_|refine cX (fun _=>?_) fun _=>?_|fail
   exact finT (by rw[e0,all_true fun i x hi e=>by rw[hno i x hi e];rfl]) ht2
theorem mayI_len(k:Tc lo h bt z m nsv psv kv ns ps kvs)(o:OperT):(rF m ns o).length<inf:=by
 have hinf:10<inf:=by decide
 unfold rF;rcases wE (m:=m) (x:=o.cls) with⟨h1,h2⟩|⟨i,c,h1,h2,h3,h4,h5⟩
 · rw[h1];show 0<inf;omega
 · rw[h1];show(if o.fix=[] then c.regs.map (pos ns) else uK ns [o.fix]).length<inf;split
   · rw[List.length_map];exact cls_len k (List.mem_of_getElem? h2)
   · unfold uK;rw [List.length_map];have:=List.length_filter_le (fun x=>decide (x∈ns)) [o.fix];simp only[List.length_cons,List.length_nil]at this;omega
theorem rmay0_pur(k:Tc lo h bt z m nsv psv kv ns ps kvs)(hlo:lo≤n)(hcb:ClobLe m){op:Nat}{o:OpT}(ho:m.ops[op]? = some o)(r:Int):Pur P 0 132 [ptr bt 0,I64 (op:Nat),I64 0,I64 r] h n (.bool (decide (r∈rF m ns o.d) && clrN ns ps o r)):=by
 have hcel:=k.tb.cel;have rr:=k.tb.mm.ops 0;have hlt:=(List.getElem?_eq_some_iff.1 ho).1;have hl:=k.tb.mm.ops.lt;have hmem:=List.mem_of_getElem? ho;have ru:=k.tb.mm.opsu o hmem 0;have c0:=zM rr ho;have c1:=xP c0 (j:=1) rfl;have c2:=xP c0 (j:=2) rfl;have c3:=xP c0 (j:=3) rfl;have hinf:inf<4611686018427387904:=by decide
 refine Com.pure (ent fun u=>?_) (.inl rfl);repeat' first|refine st ?_|refine ob ?_|refine ob1 ?_|refine cT ?_|refine cF ?_|refine zC ?_|refine cX (fun _=>?_) fun _=>?_|fail
 all_goals first|(exfalso;omega)|skip
 refine vR (uM k hlo o.d) ?_
 rintro v h2 n2 ⟨rv,ht2⟩
 have hn2:=ht2.le;have hml:=mayI_len k o.d;repeat' first|refine st ?_|refine ob ?_|refine ob1 ?_|refine cT ?_|refine cF ?_|refine zC ?_|refine cX (fun _=>?_) fun _=>?_|refine zY (rin_pur rv (by omega)) ?_|refine zY (rclear_pur (k.tb.tch ht2 hlo) (by omega) hcb ho r) ?_|fail
 all_goals (refine finT ?_ ht2;simp [*])
theorem any_ft{α : Type}{l:List α}{f: α→Bool}(h:∀(i:Nat) x,l[i]? = some x→f x=false):l.any f=false:=by
 cases e:l.any f with
 | false=>rfl
 | true=>
  obtain⟨x,hx,e2⟩:=List.any_eq_true.1 e;obtain⟨i,hi⟩:=List.mem_iff_getElem?.1 hx;rw [h i x hi]at e2;cases e2
theorem tP{α : Type}{l:List α}{f: α→Bool}{i:Nat}{x: α}(hx:l[i]? = some x)(h:f x=true):l.any f=true:=List.any_eq_true.2 ⟨x,List.mem_of_getElem? hx,h⟩
def Bad(m:MachT)(ns:List Tx)(ps:List Pl)(o:OpT)(a b:Int):Prop:=(0≤o.tie→(!sH ps a b && (decide ((if o.tie=0 then a else b)∈rF m ns o.d) && clrN ns ps o (if o.tie=0 then a else b)))=false)∧(o.tie<0→sH ps a b=true)
theorem iad_s0{sz b off len cap:Nat}{k:IntKind}(h:0<len):Iad sz (.slice (some ⟨b,off,none⟩) len cap) (.int k 0) (.pointer (some ⟨b,off+0*sz,none⟩)):=⟨b,off,len,cap,k,0,rfl,rfl,h,rfl⟩
theorem iad_s1{sz b off len cap:Nat}{k:IntKind}(h:1<len):Iad sz (.slice (some ⟨b,off,none⟩) len cap) (.int k 1) (.pointer (some ⟨b,off+1*sz,none⟩)):=⟨b,off,len,cap,k,1,rfl,rfl,h,rfl⟩
theorem fits_t{o:OpT}{A B:List Int}{i q:Nat}{a b:Int}(ha:A[i]? = some a)(hb:B[q]? = some b)(ht:0≤o.tie)(hl:sH ps a b=false)(hx:(decide ((if o.tie=0 then a else b)∈rF m ns o.d) && clrN ns ps o (if o.tie=0 then a else b))=true):rFits m ns ps o A B=true:=by
 unfold rFits;rw [if_pos ht];exact tP ha (tP hb (by rw[hl,hx];rfl))
theorem fits_n{o:OpT}{A B:List Int}{i q:Nat}{a b:Int}(ha:A[i]? = some a)(hb:B[q]? = some b)(ht:o.tie<0)(hl:sH ps a b=false):rFits m ns ps o A B=(rF m ns o.d).any (clrN ns ps o):=by
 unfold rFits;rw [if_neg (by omega)];rw [tP ha (tP hb (by rw[hl];rfl))];rfl
theorem fits_f{o:OpT}{A B:List Int}(h:∀(j:Nat) a,A[j]? = some a→∀(q:Nat) b,B[q]? = some b→Bad m ns ps o a b):rFits m ns ps o A B=false:=by
 unfold rFits;split
 · rename_i ht;exact any_ft fun i a ha=>any_ft fun q b hb=>(h i a ha q b hb).1 ht
 · rename_i ht;rw [any_ft fun i a ha=>any_ft fun q b hb=>by rw[(h i a ha q b hb).2 (by omega)];rfl];rfl
theorem rfits_pur(k:Tc lo h bt z m nsv psv kv ns ps kvs)(hlo:lo≤n)(hcb:ClobLe m){op:Nat}{o:OpT}(ho:m.ops[op]? = some o)(htie:o.tie<o.uses.length)(hu:o.uses.length=1∨o.uses.length=2):Pur P 0 74 [ptr bt 0,I64 (op:Nat)] h n (.bool (rFits m ns ps o (firI m ns o) (secI m ns o))):=by
 have hcel:=k.tb.cel;have hbt:=k.tb.hb;have rr:=k.tb.mm.ops 0;have hlt:=(List.getElem?_eq_some_iff.1 ho).1;have hl:=k.tb.mm.ops.lt;have hrl:=rr.low (by omega);have hmem:=List.mem_of_getElem? ho;have ru:=k.tb.mm.opsu o hmem 0;have rul:=ru.low (by omega);have ru1:=ru.one;have rc1:=(k.tb.mm.opsc o hmem 0).one;have c0:=zM rr ho;have hinf:inf<4611686018427387904:=by decide
 obtain⟨us,ur,hus⟩:∃us ur,o.uses=us::ur:=by
  cases hq:o.uses with
  | nil=>rw [hq]at hu;simp at hu
  | cons a b=>exact⟨a,b,rfl⟩
 have d0:=zM ru (k:=0) (x:=us) (by rw[hus];rfl);have y0:zD h (sbk o.usv) (sof o.usv+0*2)=some (str us.cls):=xP d0 (j:=0) rfl;have y1:zD h (sbk o.usv) (sof o.usv+0*2+1)=some (str us.fix):=xP d0 (j:=1) rfl;have eA:firI m ns o=rF m ns us:=by unfold firI;rw [hus]
 have hAl:(firI m ns o).length<inf:=by rw[eA];exact mayI_len k us
 refine Com.pure (ent fun u=>?_) (.inl rfl);repeat' first|refine st ?_|refine ob ?_|refine ob1 ?_|refine cT ?_|refine cF ?_|refine zC ?_|refine cX (fun _=>?_) fun _=>?_|fail
 refine vR (uM (Tc.tch k zA hlo) (by omega) us) ?_
 rintro va h2 n2 ⟨rv,ht2⟩
 have hn2:=ht2.le;rw [← eA]at rv;have hc2:Cel h2 n (72+1) 0 (opC o):=zE;have htn:Tch [] h n h2 n2:=zA
 have z0:1<o.uses.length→∃us2,secI m ns o=rF m ns us2∧o.uses[1]? = some us2:=fun hgt=>by
  cases ur with
  | nil=>rw [hus]at hgt;exact absurd hgt (by simp)
  | cons u2 r=>exact⟨u2,by unfold secI;rw [hus],by rw[hus];rfl⟩
 have z1:¬1<o.uses.length→secI m ns o=[-1]:=fun hgt=>by
  cases ur with
  | nil=>unfold secI;rw [hus]
  | cons u2 r=>rw [hus]at hgt;exact absurd (by simp) hgt
 generalize firI m ns o=A at *
 generalize secI m ns o=B at *
 have cA:∀{h3:zB} {n3:Nat},Tch [] h2 n2 h3 n3→Row n2 h3 va tInt 1 A.length (A.map I64):=fun t3=>rv.tch t3 (Nat.le_refl _) fun _ _ hx=>(by cases hx);rcases Nat.lt_or_ge 1 o.uses.length with hgt|hle
 · obtain⟨us2,eB,hu1⟩:=z0 hgt;have d1:=zM ru hu1;have y2:zD h (sbk o.usv) (sof o.usv+1*2)=some (str us2.cls):=xP d1 (j:=0) rfl;have y3:zD h (sbk o.usv) (sof o.usv+1*2+1)=some (str us2.fix):=xP d1 (j:=1) rfl;have hB:B.length<inf:=by rw[eB];exact mayI_len k us2
   clear htn;repeat' first|refine st ?_|refine ob ?_|refine ob1 ?_|refine cT ?_|refine cF ?_|refine zC ?_|refine cX (fun _=>?_) fun _=>?_|fail
   refine vR (uM (Tc.tch k zA hlo) (by omega) us2) ?_
   rintro vb h3 n3 ⟨rvb,ht3⟩
   have hn3:=ht3.le;rw [← eB]at rvb;have rva:=cA (h3:=h3) (n3:=n3) zA;have hc3:Cel h3 n (72+1) 0 (opC o):=zE;have ht:Tch [] h n h3 n3:=zA;have hle3:n2≤n3:=by omega
   clear ht3 hn3 ht2 d1 y2 y3 hu1 eB hgt;repeat' first|refine st ?_|refine ob ?_|refine ob1 ?_|refine cT ?_|refine cF ?_|refine zC ?_|refine cX (fun _=>?_) fun _=>?_|fail
   refine lpR (fun i:Nat=>[(0,ptr bt 0),(1,I64 (op:Nat)),(5,ptr n 0),(6,va),(7,vb),(8,I64 i)]) (fun i h' n'=>Tch [] h3 n3 h' n'∧i≤A.length∧∀(j:Nat) a,j<i→A[j]? = some a→∀(q:Nat) b,B[q]? = some b→Bad m ns ps o a b) (fun i=>A.length - i) 0 (by repeat' first|exact trivial|refine⟨rfl,?_⟩) ⟨Tch.refl _ _ _,Nat.zero_le _,fun j _ hj=>absurd hj (Nat.not_lt_zero _)⟩ ?_
   rintro i t h' n' ⟨ht4,hi,hno⟩
   by_cases hlt1:i<A.length
   · have a0:A[i]? = some A[i]:=List.getElem?_eq_getElem hlt1;generalize A[i]=a at a0
     have rva2:=rva.tch ht4 hle3 fun _ _ hx=>(by cases hx);repeat' first|refine st ?_|refine ob ?_|refine ob1 ?_|refine cT ?_|refine cF ?_|refine zC ?_|refine cX (fun _=>?_) fun _=>?_|fail
     refine lpR (fun q:Nat=>[(0,ptr bt 0),(1,I64 (op:Nat)),(5,ptr n 0),(6,va),(7,vb),(8,I64 i),(9,I64 q)]) (fun q h' n'=>Tch [] h3 n3 h' n'∧q≤B.length∧∀(j:Nat) b,j<q→B[j]? = some b→Bad m ns ps o a b) (fun q=>B.length - q) 0 (by repeat' first|exact trivial|refine⟨rfl,?_⟩) ⟨ht4,Nat.zero_le _,fun j _ hj=>absurd hj (Nat.not_lt_zero _)⟩ ?_;clear ht4 rva2
     rintro q t h4 n4 ⟨ht4,hq,hno2⟩
     have hn4:=ht4.le;have htt:Tch [] h n h4 n4:=Tch.tch ht4 ht (by simp);have k4:=k.tch htt hlo;have rva2:=rva.tch ht4 hle3 fun _ _ hx=>(by cases hx);have rvb2:=rvb.tch ht4 (Nat.le_refl _) fun _ _ hx=>(by cases hx);have e1:=yX rva2 a0;have hla:=rva2.low (by omega);by_cases hlt2:q<B.length
     · have b0:B[q]? = some B[q]:=List.getElem?_eq_getElem hlt2;generalize B[q]=b at b0
       have e2:=yX rvb2 b0;have hlb:=rvb2.low (by omega)
       have nxt:Bad m ns ps o a b→∀(j:Nat) y,j<q+1→B[j]? = some y→Bad m ns ps o a y:=fun hb j y hj e=>by
        rcases Nat.lt_succ_iff_lt_or_eq.1 hj with h9|rfl
        · exact hno2 j y h9 e
        · rw[b0]at e;cases e;exact hb
       rcases(show o.tie<0∨o.tie=0∨o.tie=1 by omega) with et|et|et
       · have hc4:Cel h4 n (72+1) 0 (opC o):=hc3.tch ht4 (by omega) (by simp);repeat' first|refine st ?_|refine ob ?_|refine ob1 ?_|refine cT ?_|refine cF ?_|refine zC ?_|refine cX (fun _=>?_) fun _=>?_|refine zY (vO k4.tb (by omega) a b) ?_|fail
         · rename_i f1;exact⟨q+1,(by dsimp only;omega),(by repeat' first|exact trivial|refine⟨rfl,?_⟩),ht4,by omega,nxt ⟨fun h9=>by omega,fun _=>f1⟩⟩
         · rename_i f1;refine vR (uM k4 (by omega) o.d) ?_
           rintro vd h5 n5 ⟨rvd,ht5⟩
           have hn5:=ht5.le;have k5:=k4.tch ht5 (by omega);have hdl:=mayI_len k o.d;have eF:=fits_n (m:=m) (ns:=ns) a0 b0 et f1;have hte:Tch [] h n h5 n5:=Tch.tch ht5 htt (by simp);generalize rF m ns o.d=D at rvd hdl eF
           repeat' first|refine st ?_|refine ob ?_|refine ob1 ?_|refine cT ?_|refine cF ?_|refine zC ?_|refine cX (fun _=>?_) fun _=>?_|fail
           refine lpR (fun j:Nat=>[(0,ptr bt 0),(1,I64 (op:Nat)),(13,vd),(14,I64 j)]) (fun j h' n'=>h'=h5∧n'=n5∧j≤D.length∧∀(p:Nat) y,p<j→D[p]? = some y→clrN ns ps o y=false) (fun j=>D.length - j) 0 (by repeat' first|exact trivial|refine⟨rfl,?_⟩) ⟨rfl,rfl,Nat.zero_le _,fun j _ hj=>absurd hj (Nat.not_lt_zero _)⟩ ?_
           rintro j t h6 n6 ⟨rfl,rfl,hj,hno3⟩
           by_cases hlt3:j<D.length
           · have g0:D[j]? = some D[j]:=List.getElem?_eq_getElem hlt3;generalize D[j]=y at g0
             have g1:=yX rvd g0;repeat' first|refine st ?_|refine ob ?_|refine ob1 ?_|refine cT ?_|refine cF ?_|refine zC ?_|refine cX (fun _=>?_) fun _=>?_|refine zY (rclear_pur k5.tb (by omega) hcb ho y) ?_|fail
             · rename_i f2;exact finT (by rw[eF,tP g0 f2]) hte
             · rename_i f2
               exact⟨j+1,(by dsimp only;omega),(by repeat' first|exact trivial|refine⟨rfl,?_⟩),rfl,rfl,by omega,fun p w hp e=>by
                rcases Nat.lt_succ_iff_lt_or_eq.1 hp with h9|rfl
                · exact hno3 p w h9 e
                · rw[g0]at e;cases e;exact f2⟩
           · obtain rfl:j=D.length:=by omega
             repeat' first|refine st ?_|refine ob ?_|refine ob1 ?_|refine cT ?_|refine cF ?_|refine zC ?_|refine cX (fun _=>?_) fun _=>?_|fail
             exact finT (by rw[eF,any_ft fun i x e=>hno3 i x (List.getElem?_eq_some_iff.1 e).1 e]) hte
       · have hc4:Cel h4 n (72+1) 0 [str o.name,str o.d.cls,str o.d.fix,o.usv,I64 0,o.csv]:=by have:=hc3.tch ht4 (by omega) (by simp);unfold opC at this;rw [et]at this;exact this
         have eF:=fits_t (m:=m) (ns:=ns) (ps:=ps) (o:=o) a0 b0 (by omega);have nx:∀f:sH ps a b=true∨(decide (a∈rF m ns o.d) && clrN ns ps o a)=false,Bad m ns ps o a b:=fun f=>⟨fun _=>by rw[if_pos et];rcases f with f|f <;> rw[f] <;> simp,fun h9=>by omega⟩;rw [if_pos et]at eF;repeat' first|refine st ?_|refine ob ?_|refine ob1 ?_|refine cT ?_|refine cF ?_|refine zC ?_|refine cX (fun _=>?_) fun _=>?_|refine zY (vO k4.tb (by omega) a b) ?_|refine ob (a:=_) ?_ (iad_s0 (by decide))|refine zY (rmay0_pur (Tc.tch k4 zA (by omega)) (by omega) hcb ho a) ?_|fail
         · rename_i f1;exact⟨q+1,(by dsimp only;omega),(by repeat' first|exact trivial|refine⟨rfl,?_⟩),ht4,by omega,nxt (nx (.inl f1))⟩
         · rename_i f1 f2;exact finT (by rw[eF f1 f2]) zA
         · rename_i f1 f2;exact⟨q+1,(by dsimp only;omega),(by repeat' first|exact trivial|refine⟨rfl,?_⟩),zA,by omega,nxt (nx (.inr f2))⟩
       · have hc4:Cel h4 n (72+1) 0 [str o.name,str o.d.cls,str o.d.fix,o.usv,I64 1,o.csv]:=by have:=hc3.tch ht4 (by omega) (by simp);unfold opC at this;rw [et]at this;exact this
         have eF:=fits_t (m:=m) (ns:=ns) (ps:=ps) (o:=o) a0 b0 (by omega);have nx:∀f:sH ps a b=true∨(decide (b∈rF m ns o.d) && clrN ns ps o b)=false,Bad m ns ps o a b:=fun f=>⟨fun _=>by rw[if_neg (by omega)];rcases f with f|f <;> rw[f] <;> simp,fun h9=>by omega⟩;rw [if_neg (by omega)]at eF;repeat' first|refine st ?_|refine ob ?_|refine ob1 ?_|refine cT ?_|refine cF ?_|refine zC ?_|refine cX (fun _=>?_) fun _=>?_|refine zY (vO k4.tb (by omega) a b) ?_|refine ob (a:=_) ?_ (iad_s1 (by decide))|refine zY (rmay0_pur (Tc.tch k4 zA (by omega)) (by omega) hcb ho b) ?_|fail
         · rename_i f1;exact⟨q+1,(by dsimp only;omega),(by repeat' first|exact trivial|refine⟨rfl,?_⟩),ht4,by omega,nxt (nx (.inl f1))⟩
         · rename_i f1 f2;exact finT (by rw[eF f1 f2]) zA
         · rename_i f1 f2;exact⟨q+1,(by dsimp only;omega),(by repeat' first|exact trivial|refine⟨rfl,?_⟩),zA,by omega,nxt (nx (.inr f2))⟩
     · obtain rfl:q=B.length:=by omega
       repeat' first|refine st ?_|refine ob ?_|refine ob1 ?_|refine cT ?_|refine cF ?_|refine zC ?_|refine cX (fun _=>?_) fun _=>?_|fail
       exact⟨i+1,(by dsimp only;omega),(by repeat' first|exact trivial|refine⟨rfl,?_⟩),ht4,by omega,fun j y hj e=>by
        rcases Nat.lt_succ_iff_lt_or_eq.1 hj with h9|rfl
        · exact hno j y h9 e
        · rw[a0]at e;cases e;exact fun q b hb=>hno2 q b (List.getElem?_eq_some_iff.1 hb).1 hb⟩
   · obtain rfl:i=A.length:=by omega
     repeat' first|refine st ?_|refine ob ?_|refine ob1 ?_|refine cT ?_|refine cF ?_|refine zC ?_|refine cX (fun _=>?_) fun _=>?_|fail
     exact finT (by rw[fits_f fun j a ha=>hno j a (List.getElem?_eq_some_iff.1 ha).1 ha]) (Tch.tch ht4 ht (by simp))
 · have eB:=z1 (by omega);have hB:B.length<inf:=by rw[eB];decide
   clear htn;repeat' first|refine st ?_|refine ob ?_|refine ob1 ?_|refine cT ?_|refine cF ?_|refine zC ?_|refine cX (fun _=>?_) fun _=>?_|fail
   have rvb:Row (n2+1) (hal h2 n2 (mkC [I64 (-1)] 0 0)) (.slice (some ⟨n2,0,none⟩) 1 1) tInt 1 B.length (B.map I64):=by rw[eB];exact zS (e:=tInt) (sz:=1) (len:=1) rfl (by decide)
   have rva:=cA (h3:=hal h2 n2 (mkC [I64 (-1)] 0 0)) (n3:=n2+1) zA;have hc3:Cel (hal h2 n2 (mkC [I64 (-1)] 0 0)) n (72+1) 0 (opC o):=zV;have ht:Tch [] h n (hal h2 n2 (mkC [I64 (-1)] 0 0)) (n2+1):=zA;have hle3:n2≤n2+1:=by omega
   clear ht2 eB hle;generalize hal h2 n2 (mkC [I64 (-1)] 0 0)=h3 at *
   generalize n2+1=n3 at *
   generalize Value.slice (some ⟨n2,0,none⟩) 1 1=vb at *
   refine lpR (fun i:Nat=>[(0,ptr bt 0),(1,I64 (op:Nat)),(5,ptr n 0),(6,va),(7,vb),(8,I64 i)]) (fun i h' n'=>Tch [] h3 n3 h' n'∧i≤A.length∧∀(j:Nat) a,j<i→A[j]? = some a→∀(q:Nat) b,B[q]? = some b→Bad m ns ps o a b) (fun i=>A.length - i) 0 (by repeat' first|exact trivial|refine⟨rfl,?_⟩) ⟨Tch.refl _ _ _,Nat.zero_le _,fun j _ hj=>absurd hj (Nat.not_lt_zero _)⟩ ?_
   rintro i t h' n' ⟨ht4,hi,hno⟩
   by_cases hlt1:i<A.length
   · have a0:A[i]? = some A[i]:=List.getElem?_eq_getElem hlt1;generalize A[i]=a at a0
     have rva2:=rva.tch ht4 hle3 fun _ _ hx=>(by cases hx);repeat' first|refine st ?_|refine ob ?_|refine ob1 ?_|refine cT ?_|refine cF ?_|refine zC ?_|refine cX (fun _=>?_) fun _=>?_|fail
     refine lpR (fun q:Nat=>[(0,ptr bt 0),(1,I64 (op:Nat)),(5,ptr n 0),(6,va),(7,vb),(8,I64 i),(9,I64 q)]) (fun q h' n'=>Tch [] h3 n3 h' n'∧q≤B.length∧∀(j:Nat) b,j<q→B[j]? = some b→Bad m ns ps o a b) (fun q=>B.length - q) 0 (by repeat' first|exact trivial|refine⟨rfl,?_⟩) ⟨ht4,Nat.zero_le _,fun j _ hj=>absurd hj (Nat.not_lt_zero _)⟩ ?_;clear ht4 rva2
     rintro q t h4 n4 ⟨ht4,hq,hno2⟩
     have hn4:=ht4.le;have htt:Tch [] h n h4 n4:=Tch.tch ht4 ht (by simp);have k4:=k.tch htt hlo;have rva2:=rva.tch ht4 hle3 fun _ _ hx=>(by cases hx);have rvb2:=rvb.tch ht4 (Nat.le_refl _) fun _ _ hx=>(by cases hx);have e1:=yX rva2 a0;have hla:=rva2.low (by omega);by_cases hlt2:q<B.length
     · have b0:B[q]? = some B[q]:=List.getElem?_eq_getElem hlt2;generalize B[q]=b at b0
       have e2:=yX rvb2 b0;have hlb:=rvb2.low (by omega)
       have nxt:Bad m ns ps o a b→∀(j:Nat) y,j<q+1→B[j]? = some y→Bad m ns ps o a y:=fun hb j y hj e=>by
        rcases Nat.lt_succ_iff_lt_or_eq.1 hj with h9|rfl
        · exact hno2 j y h9 e
        · rw[b0]at e;cases e;exact hb
       rcases(show o.tie<0∨o.tie=0∨o.tie=1 by omega) with et|et|et
       · have hc4:Cel h4 n (72+1) 0 (opC o):=hc3.tch ht4 (by omega) (by simp);repeat' first|refine st ?_|refine ob ?_|refine ob1 ?_|refine cT ?_|refine cF ?_|refine zC ?_|refine cX (fun _=>?_) fun _=>?_|refine zY (vO k4.tb (by omega) a b) ?_|fail
         · rename_i f1;exact⟨q+1,(by dsimp only;omega),(by repeat' first|exact trivial|refine⟨rfl,?_⟩),ht4,by omega,nxt ⟨fun h9=>by omega,fun _=>f1⟩⟩
         · rename_i f1;refine vR (uM k4 (by omega) o.d) ?_
           rintro vd h5 n5 ⟨rvd,ht5⟩
           have hn5:=ht5.le;have k5:=k4.tch ht5 (by omega);have hdl:=mayI_len k o.d;have eF:=fits_n (m:=m) (ns:=ns) a0 b0 et f1;have hte:Tch [] h n h5 n5:=Tch.tch ht5 htt (by simp);generalize rF m ns o.d=D at rvd hdl eF
           repeat' first|refine st ?_|refine ob ?_|refine ob1 ?_|refine cT ?_|refine cF ?_|refine zC ?_|refine cX (fun _=>?_) fun _=>?_|fail
           refine lpR (fun j:Nat=>[(0,ptr bt 0),(1,I64 (op:Nat)),(13,vd),(14,I64 j)]) (fun j h' n'=>h'=h5∧n'=n5∧j≤D.length∧∀(p:Nat) y,p<j→D[p]? = some y→clrN ns ps o y=false) (fun j=>D.length - j) 0 (by repeat' first|exact trivial|refine⟨rfl,?_⟩) ⟨rfl,rfl,Nat.zero_le _,fun j _ hj=>absurd hj (Nat.not_lt_zero _)⟩ ?_
           rintro j t h6 n6 ⟨rfl,rfl,hj,hno3⟩
           by_cases hlt3:j<D.length
           · have g0:D[j]? = some D[j]:=List.getElem?_eq_getElem hlt3;generalize D[j]=y at g0
             have g1:=yX rvd g0;repeat' first|refine st ?_|refine ob ?_|refine ob1 ?_|refine cT ?_|refine cF ?_|refine zC ?_|refine cX (fun _=>?_) fun _=>?_|refine zY (rclear_pur k5.tb (by omega) hcb ho y) ?_|fail
             · rename_i f2;exact finT (by rw[eF,tP g0 f2]) hte
             · rename_i f2
               exact⟨j+1,(by dsimp only;omega),(by repeat' first|exact trivial|refine⟨rfl,?_⟩),rfl,rfl,by omega,fun p w hp e=>by
                rcases Nat.lt_succ_iff_lt_or_eq.1 hp with h9|rfl
                · exact hno3 p w h9 e
                · rw[g0]at e;cases e;exact f2⟩
           · obtain rfl:j=D.length:=by omega
             repeat' first|refine st ?_|refine ob ?_|refine ob1 ?_|refine cT ?_|refine cF ?_|refine zC ?_|refine cX (fun _=>?_) fun _=>?_|fail
             exact finT (by rw[eF,any_ft fun i x e=>hno3 i x (List.getElem?_eq_some_iff.1 e).1 e]) hte
       · have hc4:Cel h4 n (72+1) 0 [str o.name,str o.d.cls,str o.d.fix,o.usv,I64 0,o.csv]:=by have:=hc3.tch ht4 (by omega) (by simp);unfold opC at this;rw [et]at this;exact this
         have eF:=fits_t (m:=m) (ns:=ns) (ps:=ps) (o:=o) a0 b0 (by omega);have nx:∀f:sH ps a b=true∨(decide (a∈rF m ns o.d) && clrN ns ps o a)=false,Bad m ns ps o a b:=fun f=>⟨fun _=>by rw[if_pos et];rcases f with f|f <;> rw[f] <;> simp,fun h9=>by omega⟩;rw [if_pos et]at eF;repeat' first|refine st ?_|refine ob ?_|refine ob1 ?_|refine cT ?_|refine cF ?_|refine zC ?_|refine cX (fun _=>?_) fun _=>?_|refine zY (vO k4.tb (by omega) a b) ?_|refine ob (a:=_) ?_ (iad_s0 (by decide))|refine zY (rmay0_pur (Tc.tch k4 zA (by omega)) (by omega) hcb ho a) ?_|fail
         · rename_i f1;exact⟨q+1,(by dsimp only;omega),(by repeat' first|exact trivial|refine⟨rfl,?_⟩),ht4,by omega,nxt (nx (.inl f1))⟩
         · rename_i f1 f2;exact finT (by rw[eF f1 f2]) zA
         · rename_i f1 f2;exact⟨q+1,(by dsimp only;omega),(by repeat' first|exact trivial|refine⟨rfl,?_⟩),zA,by omega,nxt (nx (.inr f2))⟩
       · have hc4:Cel h4 n (72+1) 0 [str o.name,str o.d.cls,str o.d.fix,o.usv,I64 1,o.csv]:=by have:=hc3.tch ht4 (by omega) (by simp);unfold opC at this;rw [et]at this;exact this
         have eF:=fits_t (m:=m) (ns:=ns) (ps:=ps) (o:=o) a0 b0 (by omega);have nx:∀f:sH ps a b=true∨(decide (b∈rF m ns o.d) && clrN ns ps o b)=false,Bad m ns ps o a b:=fun f=>⟨fun _=>by rw[if_neg (by omega)];rcases f with f|f <;> rw[f] <;> simp,fun h9=>by omega⟩;rw [if_neg (by omega)]at eF;repeat' first|refine st ?_|refine ob ?_|refine ob1 ?_|refine cT ?_|refine cF ?_|refine zC ?_|refine cX (fun _=>?_) fun _=>?_|refine zY (vO k4.tb (by omega) a b) ?_|refine ob (a:=_) ?_ (iad_s1 (by decide))|refine zY (rmay0_pur (Tc.tch k4 zA (by omega)) (by omega) hcb ho b) ?_|fail
         · rename_i f1;exact⟨q+1,(by dsimp only;omega),(by repeat' first|exact trivial|refine⟨rfl,?_⟩),ht4,by omega,nxt (nx (.inl f1))⟩
         · rename_i f1 f2;exact finT (by rw[eF f1 f2]) zA
         · rename_i f1 f2;exact⟨q+1,(by dsimp only;omega),(by repeat' first|exact trivial|refine⟨rfl,?_⟩),zA,by omega,nxt (nx (.inr f2))⟩
     · obtain rfl:q=B.length:=by omega
       repeat' first|refine st ?_|refine ob ?_|refine ob1 ?_|refine cT ?_|refine cF ?_|refine zC ?_|refine cX (fun _=>?_) fun _=>?_|fail
       exact⟨i+1,(by dsimp only;omega),(by repeat' first|exact trivial|refine⟨rfl,?_⟩),ht4,by omega,fun j y hj e=>by
        rcases Nat.lt_succ_iff_lt_or_eq.1 hj with h9|rfl
        · exact hno j y h9 e
        · rw[a0]at e;cases e;exact fun q b hb=>hno2 q b (List.getElem?_eq_some_iff.1 hb).1 hb⟩
   · obtain rfl:i=A.length:=by omega
     repeat' first|refine st ?_|refine ob ?_|refine ob1 ?_|refine cT ?_|refine cF ?_|refine zC ?_|refine cX (fun _=>?_) fun _=>?_|fail
     exact finT (by rw[fits_f fun j a ha=>hno j a (List.getElem?_eq_some_iff.1 ha).1 ha]) (Tch.tch ht4 ht (by simp))
end Go.Proofs.YtcmohelnoldfbaaGreat
namespace Go.Ex.M
section
variable {m:MachT} {ns:List Tx} {ps:List Pl}
structure CsOK (m:MachT) (ns:List Tx):Prop where
 ix:∀(i:Nat) c,m.classes[i]? = some c→yT m c.name=(i:Nat)
 ne:∀(i:Nat) c,m.classes[i]? = some c→1≤c.regs.length
 mem:∀(i:Nat) c,m.classes[i]? = some c→∀r∈c.regs,r∈ns
 nd:∀(i:Nat) c,m.classes[i]? = some c→c.regs.Nodup
theorem nodup_pos{l:List Tx}(h:∀(j:Nat) r,l[j]? = some r→pos l r=(j:Nat)):l.Nodup:=by
 refine List.pairwise_iff_getElem.2 fun i j hi hj hij e=>?_;have a:=h i _ (List.getElem?_eq_getElem hi);have b:=h j _ (List.getElem?_eq_getElem hj);rw [← e]at b;omega
theorem CsOK.of(h:ClsErr m ns ps 0):CsOK m ns:=by
 obtain⟨_,h⟩:=h.ok;refine⟨fun i c hc=>(h i c hc).1.2.1,fun i c hc=>(h i c hc).2.1,fun i c hc r hr=>?_,fun i c hc=>nodup_pos fun j r hj=>((h i c hc).2.2.2 j r hj).2.1⟩;obtain⟨j,hj⟩:=List.mem_iff_getElem?.1 hr;exact((h i c hc).2.2.2 j r hj).1
theorem cls_of(hc:CsOK m ns){i:Nat}{c:ClassT}(h:m.classes[i]? = some c):vM m c.name=some c:=by
 have h1:=hc.ix i c h;rcases wE (m:=m) (x:=c.name) with⟨_,h3⟩|⟨j,c',h2,h3,h4,h5,h6⟩
 · rw[h1]at h3;omega
 · have:j=i:=by rw[h1]at h4;omega
   subst this;rw [h]at h3;cases h3;exact h2
theorem filter_one{l:List Tx}{x:Tx}(hn:l.Nodup)(hx:x∈l):l.filter (fun r=>decide (x=r))=[x]:=by
 induction l with
 | nil=>cases hx
 | cons a l ih=>
  rw[List.nodup_cons]at hn;rw [List.filter_cons];by_cases e:x=a
  · subst e;rw [if_pos (by simp)];congr 1
    rw[List.filter_eq_nil_iff];intro b hb;simp
    rintro rfl
    exact hn.1 hb
  · rw[if_neg (by simpa using e)];exact ih hn.2 ((List.mem_cons.1 hx).resolve_left e)
theorem mayL_eq(hc:CsOK m ns){o:OperT}(ho:vS m o=true):uS m ns ps o=(rF m ns o).map (plN ps)∧∀a∈rF m ns o,∃r∈ns,a=pos ns r:=by
 unfold vS at ho;unfold uS rF;rcases wE (m:=m) (x:=o.cls) with⟨h1,h2⟩|⟨i,c,h1,h2,h3,h4,h5⟩
 · rw[h1]at ho;cases ho
 · rw[h1]at ho ⊢;dsimp only at ho ⊢;have hmem:=hc.mem i c h2;by_cases hf:o.fix=[]
   · rw[if_pos hf];have e1:c.regs.filter (mayF o)=c.regs:=List.filter_eq_self.2 fun r _=>by unfold mayF;rw [decide_eq_true hf];rfl
     rw[e1,List.map_map];refine⟨List.map_congr_left fun r hr=>(plN_pos (hmem r hr)).symm,fun a ha=>?_⟩;obtain⟨r,hr,rfl⟩:=List.mem_map.1 ha;exact⟨r,hmem r hr,rfl⟩
   · rw[if_neg hf]
     have hfr:o.fix∈c.regs:=by
      rw[decide_eq_false hf]at ho;simpa using ho
     have e1:c.regs.filter (mayF o)=[o.fix]:=by
      have:mayF o=fun r=>decide (o.fix=r):=by funext r;unfold mayF;rw [decide_eq_false hf];rfl
      rw[this];exact filter_one (hc.nd i c h2) hfr
     have hn:=hmem _ hfr;have e2:uK ns [o.fix]=[pos ns o.fix]:=listN_all fun x hx=>by simp at hx;subst hx;exact hn
     rw[e1,e2];refine⟨by simp[plN_pos hn],fun a ha=>?_⟩;simp at ha;exact⟨o.fix,hn,ha⟩
theorem lapN_pp(hl:ps.length=ns.length){a b:Int}(ha:∃r∈ns,a=pos ns r)(hb:∃r∈ns,b=pos ns r):sH ps a b=tJ (plN ps a) (plN ps b):=by
 obtain⟨r,hr,rfl⟩:=ha;obtain⟨q,hq,rfl⟩:=hb;have h1:=idx_lt hr;have h2:=idx_lt hq;rw [vK hr,vK hq];exact lapN_at (by omega) (by omega) (by omega) (by omega)
theorem clrN_eq(hl:ps.length=ns.length){o:OpT}(hc:∀r∈o.clob,r∈ns){a:Int}(ha:∃r∈ns,a=pos ns r):clrN ns ps o a=sparB ns ps o (plN ps a):=by
 unfold clrN sparB;rw [listN_all hc,List.all_map];refine Bool.eq_iff_iff.2 ?_;rw [List.all_eq_true,List.all_eq_true]
 have e:∀r∈o.clob,(!sH ps (pos ns r) a) = !tJ (plN ps a) (yG ns ps r):=fun r hr=>by
  rw[lapN_pp hl ⟨r,hc r hr,rfl⟩ ha,plN_pos (hc r hr),vN]
 exact⟨fun h r hr=>by rw[← e r hr];exact h r hr,fun h r hr=>by show(!sH ps (pos ns r) a)=true;rw [e r hr];exact h r hr⟩
theorem fits_eq(hc:CsOK m ns)(hl:ps.length=ns.length){o:OpT}(hu:o.uses.length=1∨o.uses.length=2)(hd:vS m o.d=true)(hus:∀u∈o.uses,vS m u=true)(hcl:∀r∈o.clob,r∈ns)(ht:o.tie<o.uses.length)(htd:0≤o.tie→o.uses[o.tie.toNat]? = some o.d):rFits m ns ps o (firI m ns o) (secI m ns o)=fitsB m ns ps o:=by
 obtain⟨dL,dI⟩:=mayL_eq (ps:=ps) hc hd
 have dany:(rF m ns o.d).any (clrN ns ps o)=(uS m ns ps o.d).any (sparB ns ps o):=by
  rw[dL,List.any_map]
  exact Bool.eq_iff_iff.2 (by
   rw[List.any_eq_true,List.any_eq_true];exact⟨fun⟨a,h1,h2⟩=>⟨a,h1,by rw[clrN_eq hl hcl (dI a h1)]at h2;exact h2⟩,fun⟨a,h1,h2⟩=>⟨a,h1,by rw[clrN_eq hl hcl (dI a h1)];exact h2⟩⟩)
 refine Bool.eq_iff_iff.2 ?_;rcases hus2:o.uses with _|⟨u,_|⟨v,_|⟨w,r⟩⟩⟩
 · rw[hus2]at hu;simp at hu
 · have hu1:=hus u (by rw[hus2];simp);obtain⟨uL,uI⟩:=mayL_eq (ps:=ps) hc hu1;have eA:firI m ns o=rF m ns u:=by unfold firI;rw [hus2]
   have eB:secI m ns o=[-1]:=by unfold secI;rw [hus2]
   have eC:chL m ns ps o=(uS m ns ps u).map fun p=>[p]:=by unfold chL;rw [hus2]
   unfold fitsB rFits;rw [eA,eB,eC,uL,List.map_map,List.any_map];have hneg:∀a,sH ps a (-1)=false:=fun a=>lapN_neg (by decide);by_cases htie:0≤o.tie
   · have ht0:o.tie=0:=by rw[hus2]at ht;simp at ht;omega
     have hud:u=o.d:=by have:=htd htie;rw [hus2,ht0]at this;exact Option.some.inj this
     rw[if_pos htie,List.any_eq_true,List.any_eq_true]
     have key:∀a∈rF m ns u,([-1].any fun b=> !sH ps a b && (decide ((if o.tie=0 then a else b)∈rF m ns o.d) && clrN ns ps o (if o.tie=0 then a else b)))=defB m ns ps o [plN ps a]:=fun a ha=>by
      simp only[List.any_cons,List.any_nil,Bool.or_false,hneg,Bool.not_false,Bool.true_and];rw [if_pos ht0,← hud,decide_eq_true ha,clrN_eq hl hcl (uI a ha)];unfold defB;rw [if_pos htie,ht0];rfl
     exact⟨fun⟨a,h1,h2⟩=>⟨a,h1,by rw[key a h1]at h2;exact h2⟩,fun⟨a,h1,h2⟩=>⟨a,h1,by rw[key a h1];exact h2⟩⟩
   · rw[if_neg htie,dany];have e1:∀l,defB m ns ps o l=(uS m ns ps o.d).any (sparB ns ps o):=fun l=>by unfold defB;rw [if_neg htie]
     constructor
     · intro h;obtain⟨h,h2⟩:=Bool.and_eq_true_iff.1 h;obtain⟨a,h1,_⟩:=List.any_eq_true.1 h;exact List.any_eq_true.2 ⟨a,h1,by show defB m ns ps o _=true;rw [e1];exact h2⟩
     · intro h;obtain⟨a,h1,h2⟩:=List.any_eq_true.1 h;have h2:defB m ns ps o _=true:=h2;rw [e1]at h2;exact Bool.and_eq_true_iff.2 ⟨List.any_eq_true.2 ⟨a,h1,by simp[hneg]⟩,h2⟩
 · have hu1:=hus u (by rw[hus2];simp);have hv1:=hus v (by rw[hus2];simp);obtain⟨uL,uI⟩:=mayL_eq (ps:=ps) hc hu1;obtain⟨vL,vI⟩:=mayL_eq (ps:=ps) hc hv1;have eA:firI m ns o=rF m ns u:=by unfold firI;rw [hus2]
   have eB:secI m ns o=rF m ns v:=by unfold secI;rw [hus2]
   have eC:∀l,l∈chL m ns ps o↔∃a∈rF m ns u,∃b∈rF m ns v,sH ps a b=false∧l=[plN ps a,plN ps b]:=fun l=>by
    unfold chL;rw [hus2];dsimp only;rw [uL,vL,List.mem_flatMap];constructor
    · rintro ⟨p,hp,h⟩
      obtain⟨a,ha,rfl⟩:=List.mem_map.1 hp;obtain⟨q,hq,rfl⟩:=List.mem_map.1 h;obtain⟨hq1,hq2⟩:=List.mem_filter.1 hq;obtain⟨b,hb,rfl⟩:=List.mem_map.1 hq1;exact⟨a,ha,b,hb,by rw[lapN_pp hl (uI a ha) (vI b hb)];simpa using hq2,rfl⟩
    · rintro ⟨a,ha,b,hb,h,rfl⟩
      exact⟨_,List.mem_map.2 ⟨a,ha,rfl⟩,List.mem_map.2 ⟨_,List.mem_filter.2 ⟨List.mem_map.2 ⟨b,hb,rfl⟩,by rw[← lapN_pp hl (uI a ha) (vI b hb),h];rfl⟩,rfl⟩⟩
   unfold fitsB rFits;rw [eA,eB];by_cases htie:0≤o.tie
   · rw[if_pos htie,List.any_eq_true,List.any_eq_true]
     have key:∀a∈rF m ns u,∀b∈rF m ns v,(decide ((if o.tie=0 then a else b)∈rF m ns o.d) && clrN ns ps o (if o.tie=0 then a else b))=defB m ns ps o [plN ps a,plN ps b]:=fun a ha b hb=>by
      unfold defB;rw [if_pos htie];rcases(show o.tie=0∨o.tie=1 by rw[hus2]at ht;simp at ht;omega) with ht0|ht0
      · have hud:u=o.d:=by have:=htd htie;rw [hus2,ht0]at this;exact Option.some.inj this
        rw[if_pos ht0,← hud,decide_eq_true ha,clrN_eq hl hcl (uI a ha),ht0];rfl
      · have hud:v=o.d:=by have:=htd htie;rw [hus2,ht0]at this;exact Option.some.inj this
        rw[if_neg (by omega),← hud,decide_eq_true hb,clrN_eq hl hcl (vI b hb),ht0];rfl
     constructor
     · rintro ⟨a,ha,h⟩
       obtain⟨b,hb,h⟩:=List.any_eq_true.1 h;rw [Bool.and_eq_true,key a ha b hb]at h;exact⟨_,(eC _).2 ⟨a,ha,b,hb,by simpa using h.1,rfl⟩,h.2⟩
     · rintro ⟨l,hl2,h⟩
       obtain⟨a,ha,b,hb,h1,rfl⟩:=(eC l).1 hl2;exact⟨a,ha,List.any_eq_true.2 ⟨b,hb,by rw[Bool.and_eq_true,key a ha b hb];exact⟨by rw[h1];rfl,h⟩⟩⟩
   · rw[if_neg htie,dany];have e1:∀l,defB m ns ps o l=(uS m ns ps o.d).any (sparB ns ps o):=fun l=>by unfold defB;rw [if_neg htie]
     constructor
     · intro h;obtain⟨h,h2⟩:=Bool.and_eq_true_iff.1 h;obtain⟨a,ha,h⟩:=List.any_eq_true.1 h;obtain⟨b,hb,h⟩:=List.any_eq_true.1 h;exact List.any_eq_true.2 ⟨_,(eC _).2 ⟨a,ha,b,hb,by simpa using h,rfl⟩,by rw[e1];exact h2⟩
     · intro h;obtain⟨l,hl2,h⟩:=List.any_eq_true.1 h;obtain⟨a,ha,b,hb,h1,rfl⟩:=(eC l).1 hl2;rw [e1]at h;exact Bool.and_eq_true_iff.2 ⟨List.any_eq_true.2 ⟨a,ha,List.any_eq_true.2 ⟨b,hb,by rw[h1];rfl⟩⟩,h⟩
 · rw[hus2]at hu;simp at hu
theorem pair_eq(hc:CsOK m ns)(hl:ps.length=ns.length){i j:Nat}{a b:ClassT}(ha:m.classes[i]? = some a)(hb:m.classes[j]? = some b):rPair ns ps a b=rC m ns ps ⟨a.name,[]⟩ ⟨b.name,[]⟩:=by
 have e:∀{i:Nat} {c:ClassT},m.classes[i]? = some c→uS m ns ps ⟨c.name,[]⟩=c.regs.map (yG ns ps):=fun {i c} h=>by
  unfold uS;rw [cls_of hc h];dsimp only;have e1:c.regs.filter (mayF ⟨c.name,[]⟩)=c.regs:=List.filter_eq_self.2 fun r _=>rfl;rw [e1]
 unfold rPair rC;rw [e ha,e hb,List.any_map,List.any_map];refine Bool.eq_iff_iff.2 ?_;rw [List.any_eq_true,List.any_eq_true]
 have key:∀x∈a.regs,(((b.regs.map (pos ns)).any fun y=> !sH ps (pos ns x) y)=true)↔(((b.regs.map (yG ns ps)).any fun q=> !tJ (yG ns ps x) q)=true):=fun x hx=>by
  rw[List.any_map,List.any_map,List.any_eq_true,List.any_eq_true]
  have k2:∀y∈b.regs,(!sH ps (pos ns x) (pos ns y)) = !tJ (yG ns ps x) (yG ns ps y):=fun y hy=>by
   rw[lapN_pp hl ⟨x,hc.mem _ _ ha x hx,rfl⟩ ⟨y,hc.mem _ _ hb y hy,rfl⟩,plN_pos (hc.mem _ _ ha x hx),plN_pos (hc.mem _ _ hb y hy)]
  exact⟨fun⟨y,h1,h2⟩=>⟨y,h1,by have h2:(!sH ps (pos ns x) (pos ns y))=true:=h2;rw [k2 y h1]at h2;exact h2⟩,fun⟨y,h1,h2⟩=>⟨y,h1,by show(!sH ps (pos ns x) (pos ns y))=true;rw [k2 y h1];exact h2⟩⟩
 exact⟨fun⟨x,h1,h2⟩=>⟨x,h1,(key x h1).1 h2⟩,fun⟨x,h1,h2⟩=>⟨x,h1,(key x h1).2 h2⟩⟩
theorem pairBB_comm(a b:OperT):rC m ns ps a b=rC m ns ps b a:=by
 unfold rC;refine Bool.eq_iff_iff.2 ?_;rw [List.any_eq_true,List.any_eq_true];constructor
 · rintro ⟨p,hp,h⟩
   obtain⟨q,hq,h⟩:=List.any_eq_true.1 h;exact⟨q,hq,List.any_eq_true.2 ⟨p,hp,by rw[vN];exact h⟩⟩
 · rintro ⟨p,hp,h⟩
   obtain⟨q,hq,h⟩:=List.any_eq_true.1 h;exact⟨q,hq,List.any_eq_true.2 ⟨p,hp,by rw[vN];exact h⟩⟩
end
end Go.Ex.M
