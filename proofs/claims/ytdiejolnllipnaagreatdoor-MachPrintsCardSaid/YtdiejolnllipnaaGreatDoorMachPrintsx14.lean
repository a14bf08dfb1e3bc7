/- What the law leans on, part 14 of 24. Conditions: those that each theorem states. -/
import Derived.Test.YtdiejolnllipnaaGreatDoorMachPrintsx12
import Derived.Test.YtdiejolnllipnaaGreatDoorMachPrintsx11
import Derived.Test.YtdiejolnllipnaaGreatDoorMachPrintsx8

set_option linter.unusedVariables false
set_option linter.unusedSimpArgs false
namespace Go.Proofs.YtdiejolnllipnaaGreatDoor
open Go Go.Ex Go.Ex.M
set_option maxRecDepth 100000
set_option maxHeartbeats 8000000
section
abbrev qI:Nat:=9
abbrev ePl:Nat:=158
structure Ck (lo:Nat) (h:zB) (bc z:Nat) (m:MachT) (nsv psv:Value) (ns:List Tx) (ps:List Pl):Prop where
 mm:MachM lo h m
 cel:Cel h bc z 0 (yR m++[nsv,psv])
 rn:Row lo h nsv qI 1 ns.length (ns.map str)
 rp:Row lo h psv ePl 3 ps.length (ps.flatMap plC)
 hb:bc<lo
 hl:ps.length=ns.length
 hn:ns.length<=200
 ok:∀p∈ps,PlOK p
theorem cls1_pur(x:ClassT)(ho:x.rsv.oneCell'=true)(h:zB)(n:Nat):Pur P 8 188 [.agg ⟨clsC x⟩] h n (str x.name):=by
 refine Com.pure (ent λu=>?_) (.inl rfl);repeat' first|refine wk ?_|apply cX <;> intro
 exact finT rfl zA
theorem op1_pur(x:OpT)(ho:x.usv.oneCell'=true/\x.csv.oneCell'=true)(h:zB)(n:Nat):Pur P 8 191 [.agg ⟨opC x⟩] h n (str x.name):=by
 obtain⟨fW,ho2⟩:=ho;refine Com.pure (ent λu=>?_) (.inl rfl);repeat' first|refine wk ?_|apply cX <;> intro
 exact finT rfl zA
theorem index_op1{b1 b2:Nat}{h:zB}{n:Nat}{x:OpT}{s:Tx}(ho:x.usv.oneCell'=true/\x.csv.oneCell'=true)(c1:zD h b1 0=some (.func (.func 191) ⟨[]⟩ ⟨[]⟩))(c2:zD h b2 0=some (str s))(fP:b1<n)(fk:b2<n):Pur P 8 216 [.agg ⟨opC x⟩,ptr b1 0,ptr b2 0] h n (.bool (decide (x.name=s))):=by
 refine Com.pure (ent λu=>?_) (.inl rfl);have gm:=ho;try obtain⟨fW,ho2⟩:=ho
 repeat' first|refine wk ?_|refine cX (λ_=>?_) λ_=>?_|refine zS (op1_pur x gm _ _) ?_|fail
 exact finT rfl zA
theorem index_op{lo e n:Nat}{h:zB}{sv:Value}{l:List OpT}{s:Tx}(r:Row lo h sv e 6 l.length (l.flatMap opC))(hl:l.length<inf)(eE:lo<=n)(fm:∀x∈l,x.usv.oneCell'=true/\x.csv.oneCell'=true):Pur P 8 190 [sv,str s,.func (.func 191) ⟨[]⟩ ⟨[]⟩] h n (I64 (posF (λx=>decide (x.name=s)) l)):=by
 refine Com.pure (ent λu=>?_) (.inl rfl);repeat' first|refine wk ?_|apply cX <;> intro
 refine zS (idxf_op (p:=λx=>decide (x.name=s)) ((r.tch (S:=[]) (h':=_) (n':=n+1+1) zA eE λ_ _ hx=>by cases hx)) hl λx hx=>index_op1 (fm x hx) zJ zJ qJ qJ) ?_;repeat' first|refine wk ?_|apply cX <;> intro
 exact finT rfl zA
theorem index_cls1{b1 b2:Nat}{h:zB}{n:Nat}{x:ClassT}{s:Tx}(ho:x.rsv.oneCell'=true)(c1:zD h b1 0=some (.func (.func 188) ⟨[]⟩ ⟨[]⟩))(c2:zD h b2 0=some (str s))(fP:b1<n)(fk:b2<n):Pur P 8 214 [.agg ⟨clsC x⟩,ptr b1 0,ptr b2 0] h n (.bool (decide (x.name=s))):=by
 refine Com.pure (ent λu=>?_) (.inl rfl);have gm:=ho;try obtain⟨fW,ho2⟩:=ho
 repeat' first|refine wk ?_|refine cX (λ_=>?_) λ_=>?_|refine zS (cls1_pur x gm _ _) ?_|fail
 exact finT rfl zA
theorem index_cls{lo e n:Nat}{h:zB}{sv:Value}{l:List ClassT}{s:Tx}(r:Row lo h sv e 2 l.length (l.flatMap clsC))(hl:l.length<inf)(eE:lo<=n)(fm:∀x∈l,x.rsv.oneCell'=true):Pur P 8 187 [sv,str s,.func (.func 188) ⟨[]⟩ ⟨[]⟩] h n (I64 (posF (λx=>decide (x.name=s)) l)):=by
 refine Com.pure (ent λu=>?_) (.inl rfl);repeat' first|refine wk ?_|apply cX <;> intro
 refine zS (idxf_cls (p:=λx=>decide (x.name=s)) ((r.tch (S:=[]) (h':=_) (n':=n+1+1) zA eE λ_ _ hx=>by cases hx)) hl λx hx=>index_cls1 (fm x hx) zJ zJ qJ qJ) ?_;repeat' first|refine wk ?_|apply cX <;> intro
 exact finT rfl zA
end
section
variable {lo bc z n:Nat} {h:zB} {m:MachT} {nsv psv:Value} {ns:List Tx} {ps:List Pl}
theorem Ck.tch{n':Nat}{h':zB}(k:Ck lo h bc z m nsv psv ns ps)(t:Tch [] h n h' n')(eE:lo<=n):Ck lo h' bc z m nsv psv ns ps:=by
 have:=k.hb;exact⟨k.mm.tch t eE,k.cel.tch t qJ qL,k.rn.tch t eE λ_ _ hx=>(by cases hx),k.rp.tch t eE λ_ _ hx=>(by cases hx),k.hb,k.hl,k.hn,k.ok⟩
theorem Ck.rnT{n':Nat}{h':zB}(k:Ck lo h bc z m nsv psv ns ps)(t:Tch [] h n h' n')(eE:lo<=n):Row lo h' nsv qI 1 ns.length (ns.map str):=(k.tch t eE).rn
theorem class_pur(k:Ck lo h bc z m nsv psv ns ps)(eE:lo<=n)(x:Tx):Pur P 8 141 [ptr bc 0,str x] h n (I64 (xM m x)):=by
 have hc:=k.cel;have r:=k.mm.cls 0;refine ent λu=>?_;repeat' first|refine wk ?_|refine cX (λ_=>?_) λ_=>?_|refine zS (index_cls r k.mm.cls.lt eE λc hc=>(k.mm.clsr c hc 0).one) ?_|fail
 exact fin rfl
theorem class_purE(k:Ck lo h bc z m nsv psv ns ps)(eE:lo<=n)(x:Tx){v:Int}(e:xM m x=v):Pur P 8 141 [ptr bc 0,str x] h n (I64 v):=e ▸ class_pur k eE x
theorem reg_com(k:Ck lo h bc z m nsv psv ns ps)(x:Tx)(e:Int):Com P 8 143 [ptr bc 0,str x,I64 e] h n λo h' n'=>o=(if x∈ns then .ret (I64 (ns.idxOf x:Nat)) else .panic (sR e))/\h'=h/\n'=n:=by
 have hc:=k.cel;have r:=k.rn;have hn:=k.hn;refine ent λu=>?_;by_cases hx:x∈ns
 . have e1:=wY hx;repeat' first|refine wk ?_|refine cX (λ_=>?_) λ_=>?_|refine zS (qG r qJ) ?_|fail
   rw[if_pos hx,e1];exact⟨rfl,rfl,rfl⟩
 . have e1:=pos_out hx;repeat' first|refine wk ?_|refine cX (λ_=>?_) λ_=>?_|refine zS (qG r qJ) ?_|fail
   rw[if_neg hx];exact⟨rfl,rfl,rfl⟩
theorem regK(k:Ck lo h bc z m nsv psv ns ps){G:Prop}{x:Tx}{e:Int}{K:Out->zB->Nat->Prop}[s:IsCall G P 8 143 [ptr bc 0,str x,I64 e] h n K]
(k1:x∈ns->ns.idxOf x<ps.length->Rd h (sbk psv) (sof psv+ns.idxOf x*3) 3 (plC (yJ ns ps x))->zD h (sbk psv) (sof psv+ns.idxOf x*3+2)=some (I64 (yJ ns ps x).width)->PlOK (yJ ns ps x)->sbk psv<lo->K (.ret (I64 (ns.idxOf x:Nat))) h n)(k2:x∉ns->K (.panic (sR e)) h n):G:=
 cal (reg_com k x e) λo h' n' ⟨e1,e2,e3⟩=>by
  subst e2 e3;by_cases hx:x∈ns
  . rw[if_pos hx]at e1;subst e1;have r:=zM k.rp (plc_at hx k.hl);exact k1 hx (by have:=idx_lt hx;have:=k.hl;omega) r (yT r (j:=2) rfl) (k.ok _ (plc_mem hx k.hl)) (k.rp.low (by have:=idx_lt hx;have:=k.hl;omega))
  . rw[if_neg hx]at e1;subst e1;exact k2 hx
theorem regP(k:Ck lo h bc z m nsv psv ns ps){G:Prop}{x:Tx}{e:Int}{K:Out->zB->Nat->Prop}[s:IsCall G P 8 143 [ptr bc 0,str x,I64 e] h n K](hx:x∈ns)
(k1:ns.idxOf x<ps.length->Rd h (sbk psv) (sof psv+ns.idxOf x*3) 3 (plC (yJ ns ps x))->zD h (sbk psv) (sof psv+ns.idxOf x*3+2)=some (I64 (yJ ns ps x).width)->PlOK (yJ ns ps x)->sbk psv<lo->K (.ret (I64 (ns.idxOf x:Nat))) h n):G:=
 regK k (λ_=>k1) λh2=>absurd hx h2
theorem width_pur(k:Ck lo h bc z m nsv psv ns ps)(eE:lo<=n){i:Nat}{c:ClassT}{r0:Tx}{rr:List Tx}(hi:m.classes[i]? = some c)(hc:c.regs=r0::rr)(hr:r0∈ns):Pur P 8 145 [ptr bc 0,I64 (i:Nat)] h n (I64 (wdOf ns ps c)):=by
 have hcel:=k.cel;have r:=k.mm.cls 0;have rp:=k.rp;have rc:=k.mm.clsr c (ae hi) 0;have c1:=zM r hi;have c2:=yT c1 (j:=1) rfl;have c3:=yE (k:=0) (x:=r0) rc (by rw[hc];rfl);have hilt:i<m.classes.length:=(ab.1 hi).1;have eN:0<c.regs.length:=by rw[hc];exact Nat.succ_pos _
 have gw:=k.hb;have l1:=r.low qJ;have l2:=rc.low eN;have l3:=rp.low;have e1:wdOf ns ps c=(yJ ns ps r0).width:=by unfold wdOf;rw [hc]
 refine ent λu=>?_;repeat' first|refine wk ?_|refine cX (λ_=>?_) λ_=>?_|refine regP k hr (λ_ _ _ _ _=>?_)|fail
 exact fin (by rw[e1])
theorem oper_com(k:Ck lo h bc z m nsv psv ns ps)(eE:lo<=n)(o:OperT):Com P 8 192 [ptr bc 0,.agg ⟨oprC o⟩] h n λr h' n'=>r=(if uB m o then .ret (I64 (xM m o.cls)) else .panic (sR 9))/\Tch [] h n h' n':=by
 have gw:=k.hb;refine ent λu=>?_;rcases vD (m:=m) (x:=o.cls) with⟨h1,h2⟩|⟨i,c,h1,h2,h3,h4,h5⟩
 . have e0:uB m o=false:=by unfold uB;rw [h1]
   repeat' first|refine wk ?_|refine cX (λ_=>?_) λ_=>?_|refine zS (class_pur (Ck.tch k zA eE) qJ  _) ?_|fail
   rw[e0];exact⟨rfl,zA⟩
 . have e0:uB m o=(decide (o.fix=[]) || decide (o.fix∈c.regs)):=by unfold uB;rw [h1]
   have r:=k.mm.cls 0;have c2:=yT (zM r h2) (j:=1) rfl;have rcI:=k.mm.clsr c (ae h2);have eM:inf<4611686018427387904:=by decide
   have hl:=rcI.lt;have hcel:=k.cel;have lB:sbk m.csv<lo:=r.low qJ;repeat' first|refine wk ?_|refine cX (λ_=>?_) λ_=>?_|refine zS (class_purE (Ck.tch k zA eE) qJ  _ h3) ?_|refine zS (rJ (RowT.tchE rcI zA eE) qJ) ?_|fail
   all_goals rw[e0]
   . exact⟨by simp[*],zA⟩
   . exact⟨by simp[*],zA⟩
   . exact⟨by simp[*],zA⟩
end
section
def outE(e:Int):Out:=if e=0 then .ret (.tuple #[]) else .panic (sR e)
variable {lo bc z n:Nat} {h:zB} {m:MachT} {nsv psv:Value} {ns:List Tx} {ps:List Pl}
theorem classes_com(k:Ck lo h bc z m nsv psv ns ps)(eE:lo<=n):Com P 8 80 [ptr bc 0] h n λo h' n'=>∃e,o=outE e/\ClsErr m ns ps e/\Tch [] h n h' n':=by
 have gw:=k.hb;have hcel:=k.cel;have r:=k.mm.cls 0;have gf:=k.hn;refine ent λu=>?_;by_cases h64:m.classes.length<=64
 . repeat' first|refine wk ?_|apply cX <;> intro
   refine lpR (λi:Nat=>[(0,ptr bc 0),(19,m.csv),(20,I64 m.classes.length),(21,I64 i)]) (λi h' n'=>Tch [] h n h' n'/\i<=m.classes.length/\∀(j:Nat) c,j<i->m.classes[j]? = some c->clsE m ns ps j c 0) (λi=>m.classes.length - i) 0 ⟨zA,an _,λj _ hj=>by omega⟩ ?_
   rintro i t h' n' ⟨ht,hi,eG⟩
   have eP:=ht.le;have k':=k.tch ht eE;have r':=k'.mm.cls 0;have gU:=k'.cel;by_cases eD:i<m.classes.length
   . have c0:m.classes[i]? = some m.classes[i]:=aa eD;generalize m.classes[i]=c at c0
     have c1:=zM r' c0;have rcI:=k'.mm.clsr c (ae c0);have ro:=(rcI 0).one;have gW:=r'.low qJ;have lB:=rcI.lt;have eM:inf<4611686018427387904:=by decide
     have fK:¬nameOKc m ns i c->∀h2 n2,Tch [] h n h2 n2->∃e,Out.panic (sR 5)=outE e/\ClsErr m ns ps e/\Tch [] h n h2 n2:=λhb h2 n2 t2=>⟨5,rfl,.inr ⟨h64,sN c0 (.inr (.inl ⟨rfl,hb⟩)) qK  eG⟩,t2⟩;repeat' first|refine wk ?_|refine cX (λ_=>?_) λ_=>?_|refine zS (class_pur (Ck.tch k' zA qJ) qJ  _) ?_|refine zS (rJ (Ck.rnT k' zA qJ) qJ) ?_|fail
     . rename_i e1 e2 e3;have fj:nameOKc m ns i c:=⟨e1,e2,e3⟩;have fL:¬restOKc ns ps c->∀h2 n2,Tch [] h n h2 n2->∃e,Out.panic (sR 8)=outE e/\ClsErr m ns ps e/\Tch [] h n h2 n2:=λhb h2 n2 t2=>⟨8,rfl,.inr ⟨h64,sN c0 (.inr (.inr ⟨rfl,fj,hb⟩)) qK  eG⟩,t2⟩;have rc:=rcI 0;repeat' first|refine wk ?_|apply cX <;> intro
       . refine lpR (λj:Nat=>[(0,ptr bc 0),(2,I64 i),(3,ptr n' 0),(19,m.csv),(20,I64 m.classes.length),(21,I64 i),(60,c.rsv),(61,I64 c.regs.length),(62,I64 j)]) (λj h2 n2=>Tch [] h n h2 n2/\n'<n2/\Cel h2 n' (56+1) 0 (clsC c)/\j<=c.regs.length/\∀(j':Nat) x,j'<j->c.regs[j']? = some x->regOKc ns ps c j' x) (λj=>c.regs.length - j) 0 ⟨zA,by omega,zC,an _,λj _ hj=>by omega⟩ ?_
         rintro j t h2 n2 ⟨ht2,hn2,hc2,hj,hno2⟩
         have eS:=ht2.le;have k2:=k.tch ht2 eE;have rp2:=k2.rp;have jn:=k2.mm.clsr c (ae c0) 0;have hcel2:=k2.cel;by_cases eK:j<c.regs.length
         . have d0:c.regs[j]? = some c.regs[j]:=aa eK;generalize c.regs[j]=x at d0
           have d1:=yE jn d0;have bx:¬regOKc ns ps c j x->¬restOKc ns ps c:=λhb hr=>hb (hr.2.2 j x d0)
           have w1:x∈ns->Pur P 8 145 [ptr bc 0,I64 (i:Nat)] h2 n2 (I64 (wdOf ns ps c)):=λhx=>by
            cases hr:c.regs with
            | nil=>rw [hr]at d0;cases d0
            | cons r0 rr=>
             refine width_pur k2 qJ  c0 hr ?_
             cases j with
             | zero=>rw [hr]at d0;cases d0;exact hx
             | succ j=>exact(hno2 0 r0 qJ  (by rw[hr];rfl)).1
           repeat' first|refine wk ?_|refine cX (λ_=>?_) λ_=>?_|refine regK k2 (λ_ _ _ _ _ _=>?_) (λ_=>?_)|refine zS (qG jn qJ) ?_|refine zS (w1 qP) ?_|fail
           . rename_i f1 _ _ _ _ _ f2 f3
             exact rnd (j+1) ⟨ht2,hn2,hc2,by omega,λj' y fy e=>by
              rcases ai.1 fy with h9|rfl
              . exact hno2 j' y h9 e
              . rw[d0]at e;cases e;exact⟨f1,f2,f3⟩⟩
           . rename_i f3;exact fL (bx λhb=>f3 hb.2.2) _ _ ht2
           . rename_i f2;exact fL (bx λhb=>f2 hb.2.1) _ _ ht2
           . rename_i f1;exact fL (bx λhb=>f1 hb.1) _ _ ht2
         . obtain rfl:j=c.regs.length:=by omega
           repeat' first|refine wk ?_|apply cX <;> intro
           exact rnd (i+1) ⟨ht2,by omega,qD c0 (.inl ⟨rfl,fj,by omega,by omega,λj' y e=>hno2 j' y (ab.1 e).1 e⟩) eG⟩
       . rename_i g2;exact fL (λhb=>g2 (by have:=hb.2.1;omega)) _ _ zA
       . rename_i g1;exact fL (λhb=>g1 (by have:=hb.1;omega)) _ _ zA
     . rename_i e3;exact fK (λhb=>hb.2.2 e3) _ _ zA
     . rename_i e2;exact fK (λhb=>e2 hb.2.1) _ _ zA
     . rename_i e1;exact fK (λhb=>by have:=hb.1;rw [e1]at this;cases this) _ _ zA
   . obtain rfl:i=m.classes.length:=by omega
     repeat' first|refine wk ?_|apply cX <;> intro
     exact⟨0,rfl,.inr ⟨h64,first_all eG⟩,ht⟩
 . repeat' first|refine wk ?_|apply cX <;> intro
   exact⟨2,rfl,.inl ⟨rfl,by omega⟩,zA⟩
end
section
theorem opr_eqA(a b c d:Tx):eqA P 58 [str a,str b] [str c,str d]=Bool.rec (some false) (Bool.rec (some false) (some true) (vT b d)) (vT a c):=by kernel_rfl
instance (a b:OperT):BnC P .eql 58 (.agg ⟨oprC a⟩) (.agg ⟨oprC b⟩) (.bool (decide (a=b))):=⟨λox oy=>by
 show(eqA P 58 [str a.cls,str a.fix] [str b.cls,str b.fix]).map Value.bool=_;rw [opr_eqA,vE,vE];obtain⟨a1,a2⟩:=a;obtain⟨b1,b2⟩:=b;by_cases h1:a1=b1
 . by_cases h2:a2=b2
   . subst h1 h2;simp
   . simp[h1,h2]
 . simp[h1]⟩
variable {lo bc z n:Nat} {h:zB} {m:MachT} {nsv psv:Value} {ns:List Tx} {ps:List Pl}
theorem wd_hit(k:Ck lo h bc z m nsv psv ns ps)(eE:lo<=n)(hc:∀c∈m.classes,∃r0 rr,c.regs=r0::rr/\r0∈ns){u:OperT}(hu:uB m u=true):Pur P 8 145 [ptr bc 0,I64 (xM m u.cls)] h n (I64 (wdC m ns ps u.cls)):=by
 rcases vD (m:=m) (x:=u.cls) with⟨h1,h2⟩|⟨i,c,h1,h2,h3,h4,h5⟩
 . unfold uB at hu;rw [h1]at hu;cases hu
 . obtain⟨r0,rr,e1,e2⟩:=hc c (ae h2);rw [h3,show wdC m ns ps u.cls=wdOf ns ps c by unfold wdC;rw [h1]];exact width_pur k eE h2 e1 e2
theorem op_com(k:Ck lo h bc z m nsv psv ns ps)(eE:lo<=n)(eX:∀c∈m.classes,∃r0 rr,c.regs=r0::rr/\r0∈ns){i:Nat}{o:OpT}(hi:m.ops[i]? = some o):Com P 8 146 [ptr bc 0,I64 (i:Nat)] h n λr h' n'=>∃e,r=outE e/\opE m ns ps i o e/\Tch [] h n h' n':=by
 have gw:=k.hb;have hcel:=k.cel;have r:=k.mm.ops 0;have gf:=k.hn;have eD:i<m.ops.length:=(ab.1 hi).1;have eQ:=ae hi;have c1:=zM r hi;have ruI:=k.mm.opsu o eQ;have rcI:=k.mm.opsc o eQ;have ru:=ruI 0;have rc:=rcI 0;have lG:=ru.one;have lE:=rc.one;have jE:=ruI.lt;have hcll:=rcI.lt;have gI:=k.mm.ops.lt;have eM:inf<4611686018427387904:=by decide
 have gW:=r.low qJ;have fm:∀x∈m.ops,x.usv.oneCell'=true/\x.csv.oneCell'=true:=λx hx=>⟨(k.mm.opsu x hx 0).one,(k.mm.opsc x hx 0).one⟩;have fK:¬nameOKo m i o->∀h2 n2,Tch [] h n h2 n2->∃e,Out.panic (sR 5)=outE e/\opE m ns ps i o e/\Tch [] h n h2 n2:=λhb h2 n2 t2=>⟨5,rfl,.inr (.inl ⟨rfl,hb⟩),t2⟩;refine ent λu=>?_;repeat' first|refine wk ?_|refine cX (λ_=>?_) λ_=>?_|refine zS (index_op (RowA.tchE k.mm.ops zA eE) gI qJ  fm) ?_|fail
 . rename_i f0 f1 f2;have fj:nameOKo m i o:=⟨f0,f1⟩;have fc:¬tI m ns ps o->∀h2 n2,Tch [] h n h2 n2->∃e,Out.panic (sR 9)=outE e/\opE m ns ps i o e/\Tch [] h n h2 n2:=λhb h2 n2 t2=>⟨9,rfl,.inr (.inr ⟨rfl,fj,hb⟩),t2⟩;repeat' first|refine wk ?_|apply cX <;> intro
   refine cal (oper_com (Ck.tch k zA eE) qJ  o.d) ?_
   rintro _ h2 n2 ⟨rfl,ht⟩
   have hn2:=ht.le
   cases hd:uB m o.d with
   | false=>
    rw[if_neg qK];repeat' first|refine wk ?_|apply cX <;> intro
    exact fc (λhb=>by have:=hb.2.1;rw [hd]at this;cases this) _ _ zA
   | true=>
    rw[if_pos rfl];have hc2:Cel h2 n (61+1) 0 (opC o):=zC;have fX:Tch [] h n h2 n2:=zA;clear ht;repeat' first|refine wk ?_|apply cX <;> intro
    refine lpR (λj:Nat=>[(0,ptr bc 0),(1,I64 i),(4,ptr n 0),(5,I64 (xM m o.d.cls)),(48,o.usv),(49,I64 o.uses.length),(50,I64 j)]) (λj h2 n2=>Tch [] h n h2 n2/\n<n2/\Cel h2 n (61+1) 0 (opC o)/\j<=o.uses.length/\∀(j':Nat) x,j'<j->o.uses[j']? = some x->useOKo m ns ps o x) (λj=>o.uses.length - j) 0 ⟨fX,by omega,hc2,an _,λj _ hj=>by omega⟩ ?_;clear hc2 fX hn2
    rintro j t h2 n2 ⟨ht2,hn2,hc2,hj,hno2⟩
    have eS:=ht2.le;have k2:=k.tch ht2 eE;have jo:=k2.mm.opsu o eQ 0;have hcel2:=k2.cel;by_cases eK:j<o.uses.length
    . have d0:o.uses[j]? = some o.uses[j]:=aa eK;generalize o.uses[j]=x at d0
      have d1:=zM jo d0;have bx:¬useOKo m ns ps o x->¬tI m ns ps o:=λhb hr=>hb (hr.2.2.1 j x d0);repeat' first|refine wk ?_|apply cX <;> intro
      refine cal (oper_com (Ck.tch k2 zA qJ) qJ  x) ?_
      rintro _ h3 n3 ⟨rfl,ht3⟩
      have fi:=ht3.le
      cases hd3:uB m x with
      | false=>
       rw[if_neg qK];repeat' first|refine wk ?_|apply cX <;> intro
       exact fc (bx λhb=>by have:=hb.1;rw [hd3]at this;cases this) _ _ zA
      | true=>
       rw[if_pos rfl];have ji:Cel h3 n (61+1) 0 (opC o):=zE;have ht4:Tch [] h n h3 n3:=zA;repeat' first|refine wk ?_|refine cX (λ_=>?_) λ_=>?_|refine zS (wd_hit (Ck.tch k ht4 eE) qJ  eX hd3) ?_|refine zS (wd_hit (Ck.tch k ht4 eE) qJ  eX hd) ?_|fail
       . rename_i f3
         exact rnd (j+1) ⟨ht4,by omega,ji,by omega,λj' y fy e=>by
          rcases ai.1 fy with h9|rfl
          . exact hno2 j' y h9 e
          . rw[d0]at e;cases e;exact⟨hd3,f3⟩⟩
       . rename_i f3;exact fc (bx λhb=>f3 hb.2) _ _ ht4
    . obtain rfl:j=o.uses.length:=by omega
      have tiebad:¬(-1<=o.tie/\o.tie<o.uses.length)->¬tI m ns ps o:=λhb hr=>hb ⟨hr.2.2.2.1,hr.2.2.2.2.1⟩;by_cases htie:0<=o.tie/\o.tie<o.uses.length
      . obtain⟨fX,ht1⟩:=htie;have kX:o.tie.toNat<o.uses.length:=by omega
        have d0:o.uses[o.tie.toNat]? = some o.uses[o.tie.toNat]:=aa kX;generalize o.uses[o.tie.toNat]=x at d0
        have d1:=zM jo d0;repeat' first|refine wk ?_|apply cX <;> intro
        . rename_i f3 f4;have tieok:0<=o.tie->o.uses[o.tie.toNat]? = some o.d:=λ_=>by rw[d0,f3]
          refine lpR (λj:Nat=>[(0,ptr bc 0),(1,I64 i),(4,ptr n 0),(98,o.csv),(99,I64 o.clob.length),(100,I64 j)]) (λj h2 n2=>Tch [] h n h2 n2/\n<n2/\Cel h2 n (61+1) 0 (opC o)/\j<=o.clob.length/\∀(j':Nat) x,j'<j->o.clob[j']? = some x->clobOKo ns o j' x) (λj=>o.clob.length - j) 0 ⟨ht2,by omega,hc2,an _,λj _ hj=>by omega⟩ ?_;clear hc2 ht2 hn2 hcel2 k2 jo eS
          rintro j t h3 n3 ⟨ht2,hn2,hc2,kG,hno3⟩
          have eS:=ht2.le;have k2:=k.tch ht2 eE;have jn:=k2.mm.opsc o eQ 0;have hcel2:=k2.cel;by_cases hlt3:j<o.clob.length
          . have e0:o.clob[j]? = some o.clob[j]:=aa hlt3;generalize o.clob[j]=y at e0
            have e1:=yE jn e0;have by':¬clobOKo ns o j y->¬tI m ns ps o:=λhb hr=>hb (hr.2.2.2.2.2.2.2 j y e0);repeat' first|refine wk ?_|refine cX (λ_=>?_) λ_=>?_|refine regK k2 (λ_ _ _ _ _ _=>?_) (λ_=>?_)|refine zS (qG jn qJ) ?_|fail
            . rename_i g1 _ _ _ _ _ g2
              exact rnd (j+1) ⟨ht2,hn2,hc2,by omega,λj' z fy e=>by
               rcases ai.1 fy with h9|rfl
               . exact hno3 j' z h9 e
               . rw[e0]at e;cases e;exact⟨g1,g2⟩⟩
            . rename_i g2;exact fc (by' λhb=>g2 hb.2) _ _ ht2
            . rename_i g1;exact fc (by' λhb=>g1 hb.1) _ _ ht2
          . obtain rfl:j=o.clob.length:=by omega
            repeat' first|refine wk ?_|apply cX <;> intro
            exact⟨0,rfl,.inl ⟨rfl,fj,f2,hd,λj' y e=>hno2 j' y (ab.1 e).1 e,by omega,by omega,tieok,by omega,λj' y e=>hno3 j' y (ab.1 e).1 e⟩,ht2⟩
        . rename_i f4;exact fc (λhb=>f4 (by have:=hb.2.2.2.2.2.2.1;omega)) _ _ ht2
        . rename_i f3;exact fc (λhb=>f3 (by have:=hb.2.2.2.2.2.1 fX;rw [d0]at this;exact(Option.some.inj this).symm)) _ _ ht2
      . repeat' first|refine wk ?_|apply cX <;> intro
        . rename_i f3 f5 f6 f4;have tieok:0<=o.tie->o.uses[o.tie.toNat]? = some o.d:=λ_=>by omega
          refine lpR (λj:Nat=>[(0,ptr bc 0),(1,I64 i),(4,ptr n 0),(98,o.csv),(99,I64 o.clob.length),(100,I64 j)]) (λj h2 n2=>Tch [] h n h2 n2/\n<n2/\Cel h2 n (61+1) 0 (opC o)/\j<=o.clob.length/\∀(j':Nat) x,j'<j->o.clob[j']? = some x->clobOKo ns o j' x) (λj=>o.clob.length - j) 0 ⟨ht2,by omega,hc2,an _,λj _ hj=>by omega⟩ ?_;clear hc2 ht2 hn2 hcel2 k2 jo eS
          rintro j t h3 n3 ⟨ht2,hn2,hc2,kG,hno3⟩
          have eS:=ht2.le;have k2:=k.tch ht2 eE;have jn:=k2.mm.opsc o eQ 0;have hcel2:=k2.cel;by_cases hlt3:j<o.clob.length
          . have e0:o.clob[j]? = some o.clob[j]:=aa hlt3;generalize o.clob[j]=y at e0
            have e1:=yE jn e0;have by':¬clobOKo ns o j y->¬tI m ns ps o:=λhb hr=>hb (hr.2.2.2.2.2.2.2 j y e0);repeat' first|refine wk ?_|refine cX (λ_=>?_) λ_=>?_|refine regK k2 (λ_ _ _ _ _ _=>?_) (λ_=>?_)|refine zS (qG jn qJ) ?_|fail
            . rename_i g1 _ _ _ _ _ g2
              exact rnd (j+1) ⟨ht2,hn2,hc2,by omega,λj' z fy e=>by
               rcases ai.1 fy with h9|rfl
               . exact hno3 j' z h9 e
               . rw[e0]at e;cases e;exact⟨g1,g2⟩⟩
            . rename_i g2;exact fc (by' λhb=>g2 hb.2) _ _ ht2
            . rename_i g1;exact fc (by' λhb=>g1 hb.1) _ _ ht2
          . obtain rfl:j=o.clob.length:=by omega
            repeat' first|refine wk ?_|apply cX <;> intro
            exact⟨0,rfl,.inl ⟨rfl,fj,f2,hd,λj' y e=>hno2 j' y (ab.1 e).1 e,by omega,by omega,tieok,by omega,λj' y e=>hno3 j' y (ab.1 e).1 e⟩,ht2⟩
        . rename_i f4;exact fc (λhb=>f4 (by have:=hb.2.2.2.2.2.2.1;omega)) _ _ ht2
        . rename_i f4;exact fc (tiebad qJ) _ _ ht2
        . rename_i f4;exact fc (tiebad qJ) _ _ ht2
 . rename_i f0 f1 f2;exact⟨9,rfl,.inr (.inr ⟨rfl,⟨f0,f1⟩,λhb=>f2 hb.1⟩),zA⟩
 . rename_i f1;exact fK (λhb=>f1 hb.2) _ _ zA
 . rename_i f1;exact fK (λhb=>f1 hb.1) _ _ zA
end
section
variable {lo bc z n:Nat} {h:zB} {m:MachT} {nsv psv:Value} {ns:List Tx} {ps:List Pl}
theorem ops_com(k:Ck lo h bc z m nsv psv ns ps)(eE:lo<=n)(eX:∀c∈m.classes,∃r0 rr,c.regs=r0::rr/\r0∈ns):Com P 8 81 [ptr bc 0] h n λo h' n'=>∃e,o=outE e/\qE m ns ps e/\Tch [] h n h' n':=by
 have gw:=k.hb;have hcel:=k.cel;have r:=k.mm.ops 0;refine ent λu=>?_;by_cases h64:m.ops.length<=64
 . repeat' first|refine wk ?_|apply cX <;> intro
   refine lpR (λi:Nat=>[(0,ptr bc 0),(16,I64 m.ops.length),(17,I64 i)]) (λi h' n'=>Tch [] h n h' n'/\i<=m.ops.length/\∀(j:Nat) c,j<i->m.ops[j]? = some c->opE m ns ps j c 0) (λi=>m.ops.length - i) 0 ⟨zA,an _,λj _ hj=>by omega⟩ ?_
   rintro i t h' n' ⟨ht,hi,eG⟩
   have eP:=ht.le;have k':=k.tch ht eE;by_cases eD:i<m.ops.length
   . have c0:m.ops[i]? = some m.ops[i]:=aa eD;repeat' first|refine wk ?_|apply cX <;> intro
     refine cal (op_com k' qJ  eX c0) ?_
     rintro _ h2 n2 ⟨e,rfl,he,ht2⟩
     by_cases e0:e=0
     . subst e0;rw [show outE 0 = .ret (.tuple #[]) from rfl];repeat' first|refine wk ?_|apply cX <;> intro
       exact rnd (i+1) ⟨zA,by omega,qD c0 he eG⟩
     . rw[show outE e = .panic (sR e) from if_neg e0];repeat' first|refine wk ?_|apply cX <;> intro
       exact⟨e,(if_neg e0).symm,.inr ⟨h64,sN c0 he e0 eG⟩,zA⟩
   . obtain rfl:i=m.ops.length:=by omega
     repeat' first|refine wk ?_|apply cX <;> intro
     exact⟨0,rfl,.inr ⟨h64,first_all eG⟩,ht⟩
 . repeat' first|refine wk ?_|apply cX <;> intro
   exact⟨2,rfl,.inl ⟨rfl,by omega⟩,zA⟩
end
section
variable {lo bc z n:Nat} {h:zB} {m:MachT} {nsv psv:Value} {ns:List Tx} {ps:List Pl}
theorem apart_com(k:Ck lo h bc z m nsv psv ns ps)(eE:lo<=n){sv:Value}{l:List Tx}{most:Int}(rI:RowI lo h sv 1 l.length (l.map str))(hm:most<=64):Com P 8 147 [ptr bc 0,sv,I64 most] h n λo h' n'=>Tch [] h n h' n'/\((o = .panic (sR 10)/\¬wS ns ps l most)\/∃v,o = .ret v/\wS ns ps l most/\Own n n' h' v ePl 3 l.length ((l.map (yJ ns ps)).flatMap plC)):=by
 have gw:=k.hb;have hcel:=k.cel;have r:=rI 0;have gf:=k.hn;refine ent λu=>?_;by_cases h64:(l.length:Nat)<=most
 . repeat' first|refine wk ?_|apply cX <;> intro
   refine lpR (α :=Nat×Value) (λa=>[(0,ptr bc 0),(7,a.2),(18,sv),(19,I64 l.length),(20,I64 a.1)]) (λa h' n'=>Tch [] h n h' n'/\a.1<=l.length/\Own n n' h' a.2 ePl 3 a.1 (((l.take a.1).map (yJ ns ps)).flatMap plC)/\∀(j:Nat) c,j<a.1->l[j]? = some c->apOK ns ps l j c) (λa=>l.length - a.1) (0,.slice none 0 0) ⟨zA,an _,Own.nil,λj _ hj=>absurd hj (aE _)⟩ ?_
   rintro ⟨i,ov⟩ t h' n' ⟨ht,hi,ho,eG⟩
   dsimp only at hi ho eG ⊢;have eP:=ht.le;have k':=k.tch ht eE;have gU:=k'.cel;have rp':=k'.rp;have r':=(rI.tch ht eE) 0;have ro:=ho.row qK;by_cases eD:i<l.length
   . have c0:l[i]? = some l[i]:=aa eD;generalize l[i]=x at c0
     have c1:=yE r' c0;have bad:¬apOK ns ps l i x->¬wS ns ps l most:=λhb hr=>hb (hr.2 i x c0);have kh:∀ob,Ck lo (hal h' n' ob) bc z m nsv psv ns ps:=λob=>k'.tch (zA:Tch [] h' n' (hal h' n' ob) (n'+1)) qJ;repeat' first|refine wk ?_|refine cX (λ_=>?_) λ_=>?_|refine regK (kh _) (λ_ _ _ _ _ _=>?_) (λ_=>?_)|fail
     . rename_i f1 f2 f3 f4 f5 f6;have fO:=f5;refine lpR (λq:Nat=>[(0,ptr bc 0),(7,ov),(18,sv),(19,I64 l.length),(20,I64 i),(10,ptr n' 0),(33,ov),(34,I64 i),(35,I64 q)]) (λq h2 n2=>Tch [] h n h2 n2/\n'<n2/\Cel h2 n' (ePl+1) 0 (plC (yJ ns ps x))/\Own n n2 h2 ov ePl 3 i (((l.take i).map (yJ ns ps)).flatMap plC)/\q<=i/\∀(j:Nat) y,j<q->l[j]? = some y->sU (yJ ns ps x) (yJ ns ps y)=false) (λq=>i - q) 0 ⟨zA,by omega,zC,ho.tch (S:=[]) zA qL,an _,λj _ hj=>absurd hj (aE _)⟩ ?_
       rintro q t h2 n2 ⟨ht2,hn2,hc2,ho2,hq,hno2⟩
       have eS:=ht2.le;have ro2:=ho2.row qK;by_cases eK:q<i
       . have d0:l[q]? = some l[q]:=aa qJ;generalize l[q]=y at d0
         have hy:y∈ns:=(eG q y eK d0).1;have d1:=zM ro2 (el_at d0 eK);have oky:PlOK (yJ ns ps y):=k.ok _ (plc_mem hy k.hl);repeat' first|refine wk ?_|refine cX (λ_=>?_) λ_=>?_|refine zS (lap_pur _ _ fO oky _ _) ?_|fail
         . rename_i g1
           exact rnd (q+1) ⟨zA,by omega,zE,ho2.tch (S:=[]) zA qL,by omega,λj z hj e=>by
            rcases ai.1 hj with h9|rfl
            . exact hno2 j z h9 e
            . rw[d0]at e;cases e;exact g1⟩
         . rename_i g1;exact⟨zA,.inl ⟨rfl,bad λhb=>by rw[hb.2 q y eK d0]at g1;cases g1⟩⟩
       . obtain rfl:q=i:=by omega
         repeat' first|refine wk ?_|apply cX <;> intro
         refine appO (ho2.tch (S:=[]) zA qL) (zF (e:=ePl) (sz:=3) (len:=1) rfl qK) qJ  ⟨rfl,rfl,rfl,trivial⟩ qJ  ?_
         rintro v' h3 n3 ho3 ht3
         have ht4:Tch [] h n h3 n3:=Tch.tch ht3 zA λx hx=>.inl (zQ ho2 x hx);repeat' first|refine wk ?_|apply cX <;> intro
         exact rnd (q+1,v') ⟨ht4,by omega,by rw[yV c0,aC,aT];exact ho3,λj z hj e=>by
          rcases ai.1 hj with h9|rfl
          . exact eG j z h9 e
          . rw[c0]at e;cases e;exact⟨f1,hno2⟩⟩
     . rename_i f1;exact⟨zA,.inl ⟨rfl,bad λhb=>f1 hb.1⟩⟩
   . obtain rfl:i=l.length:=by omega
     repeat' first|refine wk ?_|apply cX <;> intro
     exact⟨ht,.inr ⟨ov,rfl,⟨h64,λj y e=>eG j y (ab.1 e).1 e⟩,by rwa [aY]at ho⟩⟩
 . repeat' first|refine wk ?_|apply cX <;> intro
   exact⟨zA,.inl ⟨rfl,λhb=>h64 hb.1⟩⟩
end
section
theorem clone_str{lo n len:Nat}{h:zB}{sv:Value}{vs:List Value}(r:Row lo h sv qI 1 len vs)(eE:lo<=n)(h1:∀y∈vs,y.oneCell'=true)(hlim:len<1000000):Ret P 8 87 [sv] h n λv h' n'=>OwnE n n' h' v qI 1 len vs/\Tch [] h n h' n':=by
 refine ent λu=>?_;have r':=r;rcases r with⟨rfl,rfl,rfl⟩|⟨b,off,cap,m,z,kd,_,rfl,_⟩
 . repeat' first|refine wk ?_|apply cX <;> intro
   exact⟨_,rfl,.inl Own.nil,zA⟩
 . repeat' first|refine wk ?_|apply cX <;> intro
   refine appE (.inr ⟨mty_new (ad n),rfl,rfl⟩) ((r'.tch (S:=[]) zA eE λ_ _ hx=>(by cases hx)).up qJ) qJ  h1 qJ  ?_
   rintro v' h2 n2 ho ht
   have ht2:Tch [] h n h2 n2:=Tch.tch ht zA λx hx=>.inl (by
    have hx:x∈(some n).toList:=hx;simp at hx;omega)
   rw[aK,bF]at ho;repeat' first|refine wk ?_|apply cX <;> intro
   exact⟨_,rfl,ho,ht2⟩
theorem str_one(l:List Tx):∀y∈l.map str,y.oneCell'=true:=λy hy=>by obtain⟨z,_,rfl⟩:=aB.1 hy;rfl
variable {lo bc z n:Nat} {h:zB} {m:MachT} {nsv psv:Value} {ns:List Tx} {ps:List Pl}
theorem conv1_pur{b6:Nat}{x:Tx}{c:ClassT}(rI:RowI lo h c.rsv 1 c.regs.length (c.regs.map str))(eE:lo<=n)(hb:b6<n)(hc:zD h b6 0=some (str x)):Pur P 8 148 [.agg ⟨clsC c⟩,ptr b6 0] h n (.bool (decide (x∈c.regs))):=by
 have hl:=rI.lt;have eM:inf<4611686018427387904:=by decide
 have ro:=(rI 0).one;refine Com.pure (ent λu=>?_) (.inl rfl);repeat' first|refine wk ?_|refine cX (λ_=>?_) λ_=>?_|refine zS (rJ (RowI.tchE rI zA eE) qJ) ?_|fail
 exact finT rfl zA
theorem contf_cls{lo e n:Nat}{h:zB}{sv:Value}{l:List ClassT}{g:FuncId}{fs cs:List Value}{p:ClassT->Bool}(r:Row lo h sv e 2 l.length (l.flatMap clsC))(hl:l.length<inf)(hp:∀x∈l,Pur P 8 g (fs++([.agg ⟨clsC x⟩]++cs)) h n (.bool (p x))):Pur P 8 149 [sv,.func (.func g) ⟨fs⟩ ⟨cs⟩] h n (.bool (l.any p)):=by
 refine ent λu=>?_;repeat' first|refine wk ?_|refine cX (λ_=>?_) λ_=>?_|refine zS (idxf_cls r hl hp) ?_|fail
 exact fin (by rw[show decide (0<=posF p l)=l.any p from by cases h9:l.any p with
  | true=>exact decide_eq_true (posF_ge.2 h9)
  | false=>exact decide_eq_false λh=>by rw[posF_ge.1 h]at h9;cases h9])
theorem conv_com(k:Ck lo h bc z m nsv psv ns ps)(eE:lo<=n):Com P 8 82 [ptr bc 0] h n λo h' n'=>∃e,o=outE e/\((e=0/\rH m ns ps (wS ns ps))\/(e=10/\¬rH m ns ps (wS ns ps)))/\Tch [] h n h' n':=by
 have gw:=k.hb;have hcel:=k.cel;have gf:=k.hn;have bad:¬rH m ns ps (wS ns ps)->∀h2 n2,Tch [] h n h2 n2->∃e,Out.panic (sR 10)=outE e/\((e=0/\rH m ns ps (wS ns ps))\/(e=10/\¬rH m ns ps (wS ns ps)))/\Tch [] h n h2 n2:=λhb h2 n2 t2=>⟨10,rfl,.inr ⟨rfl,hb⟩,t2⟩;refine ent λu=>?_;repeat' first|refine wk ?_|apply cX <;> intro
 refine cal (apart_com k eE k.mm.args.toI qK) ?_
 rintro _ h2 n2 ⟨ht2,⟨rfl,hb⟩|⟨v,rfl,eY,ho⟩⟩
 . repeat' first|refine wk ?_|apply cX <;> intro
   exact bad (λhc=>hb hc.1) _ _ ht2
 have hn2:=ht2.le;have k2:=k.tch ht2 eE;have hcel2:=k2.cel;have rp2:=k2.rp;have kh:∀ob,Ck lo (hal h2 n2 ob) bc z m nsv psv ns ps:=λob=>k2.tch (zA:Tch [] h2 n2 (hal h2 n2 ob) (n2+1)) qJ;repeat' first|refine wk ?_|refine cX (λ_=>?_) λ_=>?_|refine regK (kh _) (λ_ _ _ _ _ _=>?_) (λ_=>?_)|fail
 . rename_i f1 f2 f3 f4 f5 f6;refine cal (apart_com (Ck.tch k2 zA qJ) qJ  (RowI.tch (RowA.toI k2.mm.saved) zA qJ) qK) ?_
   rintro _ h3 n3 ⟨ht3,⟨rfl,hb⟩|⟨v3,rfl,iT,ho3⟩⟩
   . repeat' first|refine wk ?_|apply cX <;> intro
     exact bad (λhc=>hb hc.2.2.1) _ _ zA
   have eS:=ht3.le;have hc3:Cel h3 n2 (ePl+1) 0 (plC (yJ ns ps m.result)):=zC;have ht4:Tch [] h n h3 n3:=zA;have r3:=ho3.row qK;clear ht3;repeat' first|refine wk ?_|apply cX <;> intro
   refine lpR (λq:Nat=>[(0,ptr bc 0),(2,ptr n2 0),(34,v3),(35,I64 m.saved.length),(36,I64 q)]) (λq h4 n4=>Tch [] h n h4 n4/\n2<n4/\Cel h4 n2 (ePl+1) 0 (plC (yJ ns ps m.result))/\Own (n2+1) n4 h4 v3 ePl 3 m.saved.length ((m.saved.map (yJ ns ps)).flatMap plC)/\q<=m.saved.length/\∀(j:Nat) y,j<q->m.saved[j]? = some y->sU (yJ ns ps y) (yJ ns ps m.result)=false) (λq=>m.saved.length - q) 0 ⟨ht4,by omega,hc3,ho3,an _,λj _ hj=>absurd hj (aE _)⟩ ?_;clear hc3 ht4 r3 ho3 eS
   rintro q t h4 n4 ⟨ht4,fi,ji,ho4,hq,eG⟩
   have fA:=ht4.le;have r4:=ho4.row qK;have sl:=k.mm.saved.lt;have eM:inf<4611686018427387904:=by decide
   by_cases eD:q<m.saved.length
   . have d0:m.saved[q]? = some m.saved[q]:=aa eD;generalize m.saved[q]=y at d0
     have hy:y∈ns:=(iT.2 q y d0).1;have d1:=zM r4 (show(m.saved.map (yJ ns ps))[q]? = some (yJ ns ps y) by rw[ao,d0];rfl);have oky:PlOK (yJ ns ps y):=k.ok _ (plc_mem hy k.hl);repeat' first|refine wk ?_|refine cX (λ_=>?_) λ_=>?_|refine zS (lap_pur _ _ oky f5 _ _) ?_|fail
     . rename_i g1
       exact rnd (q+1) ⟨zA,by omega,zE,ho4.tch (S:=[]) zA qL,by omega,λj z hj e=>by
        rcases ai.1 hj with h9|rfl
        . exact eG j z h9 e
        . rw[d0]at e;cases e;exact g1⟩
     . rename_i g1;exact bad (λhc=>by rw[hc.2.2.2.1 q y d0]at g1;cases g1) _ _ zA
   . obtain rfl:q=m.saved.length:=by omega
     have k4:=k.tch ht4 eE;have hcel4:=k4.cel;have ra4:Row lo h4 m.asv qI 1 m.args.length (m.args.map str):=k4.mm.args qI;have hal:=eY.1;repeat' first|refine wk ?_|apply cX <;> intro
     . rename_i s1 s2;have tQ:Tch [] h4 n4 (Go.Ex.hal h4 n4 (mkC [str m.result] 0 0)) (n4+1):=zA;have ra5:=ra4.tch tQ qJ qL;refine yG (clone_str ra5 qJ  (str_one _) qJ) ?_
       rintro v5 h5 n5 ⟨ho5,ht5⟩
       have fV:=ht5.le;repeat' first|refine wk ?_|apply cX <;> intro
       refine appE ho5 (((zF (n:=n4) (e:=qI) (sz:=1) (len:=1) (cs:=[str m.result]) rfl qK).tch ht5 (ad _) qL).up fV) qJ  (str_one [m.result]) qJ  ?_
       rintro v6 h6 n6 ho6 ht6
       have ht7:Tch [] h n h6 n6:=Tch.tch ht6 zA λx hx=>.inl (by have:=ho5.low x hx;omega);have ir:=ht6.le;replace ho6:OwnE (n4+1) n6 h6 v6 qI 1 (m.args.length+1) ((m.args++[m.result]).map str):=by rw[aC];exact ho6
       have r6:=ho6.row qK;have eN:(m.args++[m.result]).length=m.args.length+1:=by simp
       generalize m.args.length+1=len at *
       have hlen2:len<=17:=by have:=eY.1;simp at eN;omega
       have allb:∀{q:Nat} {y:Tx},(m.args++[m.result])[q]? = some y->¬m.classes.any (λc=>decide (y∈c.regs))=true->¬rH m ns ps (wS ns ps):=λhd hb hc=>hb (hc.2.2.2.2.2.2 _ _ hd);have hcel5:Cel h5 bc z 0 (yR m++[nsv,psv]):=(hcel4.tch tQ qJ qL).tch ht5 qJ qL;have l8:Cel h6 bc z 0 (yR m++[nsv,psv]):=hcel.tch ht7 qJ qL;clear ht6 ho5 ht5;repeat' first|refine wk ?_|apply cX <;> intro
       refine lpR (λq:Nat=>[(0,ptr bc 0),(73,v6),(74,I64 len),(75,I64 q)]) (λq h7 n7=>Tch [] h n h7 n7/\n4<n7/\OwnE (n4+1) n7 h7 v6 qI 1 len ((m.args++[m.result]).map str)/\q<=len/\∀(j:Nat) y,j<q->(m.args++[m.result])[j]? = some y->m.classes.any (λc=>decide (y∈c.regs))=true) (λq=>len - q) 0 ⟨ht7,by omega,ho6,an _,λj _ hj=>absurd hj (aE _)⟩ ?_
       rintro q t h7 n7 ⟨hta,hna,hoa,hqa,hnoa⟩
       have hna2:=hta.le;have ra:=hoa.row qK;have ka:=k.tch hta eE;have hcela:=ka.cel;by_cases hlta:q<len
       . have d0:(m.args++[m.result])[q]? = some (m.args++[m.result])[q]:=aa qJ;generalize (m.args++[m.result])[q]=y at d0
         have d1:=yE ra d0;repeat' first|refine wk ?_|apply cX <;> intro
         refine zS (contf_cls (p:=λc=>decide (y∈c.regs)) (RowA.tchE ka.mm.cls zA qJ) ka.mm.cls.lt (λc hc=>conv1_pur (RowI.tch (ka.mm.clsr c hc).toI zA qJ) qJ qJ  zJ)) ?_;repeat' first|refine wk ?_|apply cX <;> intro
         . rename_i g1
           exact rnd (q+1) ⟨zA,by omega,hoa.tch (S:=[]) zA qL,by omega,λj z hj e=>by
            rcases ai.1 hj with h9|rfl
            . exact hnoa j z h9 e
            . rw[d0]at e;cases e;exact g1⟩
         . rename_i g1;exact bad (allb d0 (by rw[g1];decide)) _ _ zA
       . obtain rfl:q=len:=by omega
         repeat' first|refine wk ?_|apply cX <;> intro
         exact⟨0,rfl,.inl ⟨rfl,eY,f1,iT,λi x e=>eG i x (ab.1 e).1 e,s1,s2,λi x e=>hnoa i x (by have:=(ab.1 e).1;omega) e⟩,hta⟩
     . rename_i s2;exact bad (λhc=>s2 hc.2.2.2.2.2.1) _ _ ht4
     . rename_i s2;exact bad (λhc=>s2 hc.2.2.2.2.1) _ _ ht4
 . rename_i f1;exact bad (λhc=>f1 hc.2.1) _ _ zA
end
section
variable {lo bc z n:Nat} {h:zB} {m:MachT} {nsv psv:Value} {ns:List Tx} {ps:List Pl}
theorem may1_com{pc po L:Nat}{o:OperT}{c:ClassT}{i:Nat}(hcls:vG m o.cls=some c)(fz:m.classes[i]? = some c)(hcp:xM m o.cls=(i:Nat))(hcr:∀r∈c.regs,r∈ns)(J:List Pl->zB->Nat->Prop)(JF:zB->Nat->Prop)
(hE:∀done h' n',J done h' n'->Ck lo h' bc z m nsv psv ns ps/\lo<=n'/\pc<n'/\po<n'/\zD h' pc 0=some (ptr bc 0)/\zD h' po 0=some (str o.cls)/\zD h' po 1=some (str o.fix))(h0:J [] h n)
(hy:∀done p h' n',J done h' n'->(done++[p]) <+: tL m ns ps o->Rou P 8 L [plV p] h' n' λr h2 n2=>n'<=n2/\((r = .ret (.bool true)/\J (done++[p]) h2 n2)\/(r = .ret (.bool false)/\JF h2 n2))) :
 Com P 8 219 [.func (.yield L) #[] #[],ptr pc 0,ptr po 0] h n λr h' n'=>r = .ret (.tuple #[])/\(J (tL m ns ps o) h' n'\/JF h' n'):=by
 have hL:tL m ns ps o=(c.regs.filter (mayF o)).map (yJ ns ps):=by unfold tL;rw [hcls]
 have hilt:i<m.classes.length:=(ab.1 fz).1;have hcm:=ae fz;obtain⟨k,eE,hpc,hpo,d1,d2,d3⟩:=hE _ _ _ h0;have eM:inf<4611686018427387904:=by decide
 have gw:=k.hb;have hcel:=k.cel;have r:=k.mm.cls 0;have e2:=yT (zM r fz) (j:=1) rfl;have rcI:=k.mm.clsr c hcm;have rc:=rcI 0;have lB:=rcI.lt;have hrl2:=r.low qJ;refine ent λu=>?_;repeat' first|refine wk ?_|refine cX (λ_=>?_) λ_=>?_|refine zS (class_purE k eE _ hcp) ?_|fail
 refine lpR (λq:Nat=>[(0,.func (.yield L) #[] #[]),(1,ptr pc 0),(2,ptr po 0),(17,c.rsv),(18,I64 c.regs.length),(19,I64 q)]) (λq h' n'=>q<=c.regs.length/\J (((c.regs.take q).filter (mayF o)).map (yJ ns ps)) h' n') (λq=>c.regs.length - q) 0 ⟨an _,h0⟩ ?_;clear hcel k d1 d2 d3 eE hpc hpo e2 r rc hrl2
 rintro q t h' n' ⟨hq,hJ⟩
 obtain⟨k,eE,hpc,hpo,d1,d2,d3⟩:=hE _ _ _ hJ;have hcel:=k.cel;have rc:=k.mm.clsr c hcm 0;have rp:=k.rp;by_cases eD:q<c.regs.length
 . have c0:c.regs[q]? = some c.regs[q]:=aa eD;generalize c.regs[q]=x at c0
   have hx:x∈ns:=hcr x (ae c0);have c1:=yE rc c0;have jp:=may_step (o:=o) (f:=yJ ns ps) c0;repeat' first|refine wk ?_|refine cX (λ_=>?_) λ_=>?_|refine regP k hx (λ_ _ _ _ _=>?_)|fail
   . rename_i f1 _ _ _ _ _;have hf:mayF o x=true:=by unfold mayF;rw [f1];rfl
     rw[hf,if_pos rfl]at jp;refine qA (fs:=[]) (cs:=[]) ((hy _ _ _ _ hJ (by rw[hL,<- jp];exact may_pre)).mono ?_)
     rintro _ h2 n2 ⟨hn2,⟨rfl,hJ2⟩|⟨rfl,hF⟩⟩
     . repeat' first|refine wk ?_|apply cX <;> intro
       exact rnd (q+1) ⟨by omega,by rw[jp];exact hJ2⟩
     . repeat' first|refine wk ?_|apply cX <;> intro
       exact⟨rfl,.inr hF⟩
   . rename_i f0 f1 _ _ _ _ _;have hf:mayF o x=true:=by unfold mayF;rw [f1];simp
     rw[hf,if_pos rfl]at jp;refine qA (fs:=[]) (cs:=[]) ((hy _ _ _ _ hJ (by rw[hL,<- jp];exact may_pre)).mono ?_)
     rintro _ h2 n2 ⟨hn2,⟨rfl,hJ2⟩|⟨rfl,hF⟩⟩
     . repeat' first|refine wk ?_|apply cX <;> intro
       exact rnd (q+1) ⟨by omega,by rw[jp];exact hJ2⟩
     . repeat' first|refine wk ?_|apply cX <;> intro
       exact⟨rfl,.inr hF⟩
   . rename_i f0 f1;have hf:mayF o x=false:=by unfold mayF;simp [f0,f1]
     rw[hf]at jp;exact rnd (q+1) ⟨by omega,by rw[jp];exact hJ⟩
 . obtain rfl:q=c.regs.length:=by omega
   repeat' first|refine wk ?_|apply cX <;> intro
   rw[aY,<- hL]at hJ;exact⟨rfl,.inl hJ⟩
def MayE(lo bc z:Nat)(m:MachT)(nsv psv:Value)(ns:List Tx)(ps:List Pl)(o:OperT)(pc po:Nat)(h':zB)(n':Nat):Prop:=Ck lo h' bc z m nsv psv ns ps/\lo<=n'/\pc<n'/\po<n'/\zD h' pc 0=some (ptr bc 0)/\zD h' po 0=some (str o.cls)/\zD h' po 1=some (str o.fix)
theorem may1_it{pc po L:Nat}{o:OperT}{c:ClassT}{i:Nat}(hcls:vG m o.cls=some c)(fz:m.classes[i]? = some c)(hcp:xM m o.cls=(i:Nat))(hcr:∀r∈c.regs,r∈ns):Iter P 8 plV (tL m ns ps o) 219 [.func (.yield L) #[] #[],ptr pc 0,ptr po 0] L h n (MayE lo bc z m nsv psv ns ps o pc po):=
 λJ JF hE h0 hy=>may1_com hcls fz hcp hcr J JF hE h0 hy
theorem may_ret(k:bc<n)(o:OperT):Ret P 8 196 [ptr bc 0,.agg ⟨oprC o⟩] h n λv h' n'=>∃pc po,v = .func (.func 219) ⟨[]⟩ ⟨[ptr pc 0,ptr po 0]⟩/\n<=pc/\n<=po/\pc<n'/\po<n'/\zD h' pc 0=some (ptr bc 0)/\zD h' po 0=some (str o.cls)/\zD h' po 1=some (str o.fix)/\Tch [] h n h' n':=by
 refine ent λu=>?_;repeat' first|refine wk ?_|apply cX <;> intro
 exact⟨_,rfl,n,n+1,rfl,by omega,by omega,by omega,by omega,zJ,zJ,zJ,zA⟩
end
section
variable {lo bc z n:Nat} {h:zB} {m:MachT} {nsv psv:Value} {ns:List Tx} {ps:List Pl}
abbrev opA(c:ClassT):OperT:=⟨c.name,[]⟩
def pairB(m:MachT)(ns:List Tx)(ps:List Pl)(a b:OperT):Prop:=∃p∈tL m ns ps a,∃q∈tL m ns ps b,sU p q=false
theorem pair_ret(k:Ck lo h bc z m nsv psv ns ps)(eE:lo<=n)(hok:∀(i:Nat) c,m.classes[i]? = some c->xM m c.name=(i:Nat)/\∀r∈c.regs,r∈ns){a b:Nat}{ca cb:ClassT}(ha:m.classes[a]? = some ca)(hb:m.classes[b]? = some cb):Com P 8 151 [ptr bc 0,I64 (a:Nat),I64 (b:Nat)] h n λo h' n'=>∃r,o = .ret (.bool r)/\(r=true↔pairB m ns ps (opA ca) (opA cb))/\Tch [] h n h' n':=by
 have gw:=k.hb;have hcel:=k.cel;have r:=k.mm.cls 0;have iq:=(ab.1 ha).1;have gT:=(ab.1 hb).1;have a1:=zM r ha;have b1:=zM r hb;have a2:=yT a1 (j:=0) rfl;have b2:=yT b1 (j:=0) rfl;have gW:=r.low qJ 
 have cf:∀{i:Nat} {c:ClassT},m.classes[i]? = some c->vG m c.name=some c/\xM m c.name=(i:Nat):=fun {i c} hi=>by
  have h1:=(hok i c hi).1;rcases vD (m:=m) (x:=c.name) with⟨_,h3⟩|⟨j,c',h2,h3,h4,h5,h6⟩
  . rw[h1]at h3;omega
  . have:j=i:=by rw[h1]at h4;omega
    subst this;rw [hi]at h3;cases h3;exact⟨h2,h4⟩
 have mok:∀{o:OperT} {p:Pl},p∈tL m ns ps o->PlOK p:=fun {o p} hp=>by
  unfold tL at hp
  cases hc:vG m o.cls with
  | none=>rw [hc]at hp;cases hp
  | some c=>
   rw[hc]at hp;obtain⟨x,hx,rfl⟩:=aB.1 hp;obtain⟨i,hi⟩:=aj.1 (bO hc);exact k.ok _ (plc_mem ((hok i c hi).2 x (b7.1 hx).1) k.hl)
 refine ent λu=>?_;repeat' first|refine wk ?_|apply cX <;> intro
 refine yG (may_ret qJ  (opA ca)) ?_
 rintro _ h2 n2 ⟨pc,po,rfl,p1,p2,p3,p4,p5,p6,p7,ht2⟩
 have hn2:=ht2.le;obtain⟨ka1,ka2⟩:=cf ha;obtain⟨kb1,kb2⟩:=cf hb;repeat' first|refine wk ?_|apply cX <;> intro
 have base:Tch [] h n (hal h2 n2 (.deferred true)) (n2+1):=zA;have g3:zD h2 n 0=some (ptr bc 0):=zJ;have g5:zD h2 (n+1) 0=some (I64 (b:Nat)):=zJ;have g6:Cel h2 (n+2) (4+1) 0 [.bool false]:=zC;clear ht2;refine wc_rg0 (g:=219) (fs:=[]) (cs:=[ptr pc 0,ptr po 0]) (by(apply sL;((conv=>lhs;whnf) <;> exact rfl))) ?_
 refine it_core (enc:=plV) (elems:=tL m ns ps (opA ca)) (ps:=[21]) (λdone h' n'=>Tch [] (hal h2 n2 (.deferred true)) (n2+1) h' n'/\n2+2<=n'/\∀p∈done,∀q∈tL m ns ps (opA cb),sU p q=true)
  (λj h' n'=>j = .ret/\Tch [n+2] (hal h2 n2 (.deferred true)) (n2+1) h' n'/\n2+2<=n'/\Cel h' (n+2) (4+1) 0 [.bool true]/\pairB m ns ps (opA ca) (opA cb)) rfl (may1_it (lo:=lo) (bc:=bc) (z:=z) (nsv:=nsv) (psv:=psv) ka1 ha ka2 (hok a ca ha).2) ?_ vX ⟨zA,by omega,λp hp=>by cases hp⟩ ?_ ?_ ?_
 . rintro done h' n' ⟨ht,eP,_⟩
   exact⟨k.tch (Tch.tch ht base qL) eE,by omega,by omega,by omega,zJ,zJ,zJ⟩
 . rintro done p h' n' ⟨ht,eP,eG⟩ hL hpre
   have gK:p∈tL m ns ps (opA ca):=hpre.subset qL;have g3':zD h' n 0=some (ptr bc 0):=zJ;have g5':zD h' (n+1) 0=some (I64 (b:Nat)):=zJ;have g6':Cel h' (n+2) (4+1) 0 [.bool false]:=zE;have k':=k.tch (Tch.tch ht base qL) eE;have gU:=k'.cel;have r':=k'.mm.cls 0;have b1':=zM r' hb;have b2':=yT b1' (j:=0) rfl;repeat' first|refine wk ?_|apply cX <;> intro
   refine yG (may_ret qJ  (opA cb)) ?_
   rintro _ h4 n4 ⟨pc2,po2,rfl,q1,q2,q3,q4,q5,q6,q7,ht4⟩
   have fi:=ht4.le;repeat' first|refine wk ?_|apply cX <;> intro
   have c7:Cel h4 n' (ePl+1) 0 (plC p):=zC;have g6'':Cel h4 (n+2) (4+1) 0 [.bool false]:=zE;have ht5:Tch [] (hal h2 n2 (.deferred true)) (n2+1) h4 n4:=zA;have hbu:=obe_tch ht4 qJ qL  xO;clear ht4;refine wc_rg1 (g:=219) (fs:=[]) (cs:=[ptr pc2 0,ptr po2 0]) hbu (by(apply sL;((conv=>lhs;whnf) <;> exact rfl))) ?_
   refine it_core (enc:=plV) (elems:=tL m ns ps (opA cb)) (ps:=[34]) (λdone h5 n5=>Tch [] h4 n4 h5 n5/\n4+1<=n5/\∀q∈done,sU p q=true)
    (λj h5 n5=>j = .ret/\Tch [n+2] h4 n4 h5 n5/\n4+1<=n5/\Cel h5 (n+2) (4+1) 0 [.bool true]/\∃q∈tL m ns ps (opA cb),sU p q=false) rfl (may1_it (lo:=lo) (bc:=bc) (z:=z) (nsv:=nsv) (psv:=psv) kb1 hb kb2 (hok b cb hb).2) ?_ vX ⟨zA,by omega,λp hp=>by cases hp⟩ ?_ ?_ ?_
   . rintro done2 h5 n5 ⟨ht6,fA,_⟩
     exact⟨k.tch (Tch.tch (Tch.tch ht6 ht5 qL) base qL) eE,by omega,by omega,by omega,zJ,zJ,zJ⟩
   . rintro done2 q h5 n5 ⟨ht6,fA,hno2⟩ hL2 hpre2
     have lA:q∈tL m ns ps (opA cb):=hpre2.subset qL;repeat' first|refine wk ?_|refine cX (λ_=>?_) λ_=>?_|refine zS (lap_pur _ _ (mok gK) (mok lA) _ _) ?_|fail
     . rename_i f1;exact⟨by omega,.inr ⟨rfl,.ret,xO,rfl,zA,by omega,zC,q,lA,f1⟩⟩
     . rename_i f1
       exact⟨by omega,.inl ⟨rfl,xO,zA,by omega,λx hx=>by
        rcases aA.1 hx with h9|h9
        . exact hno2 x h9
        . simp at h9;subst h9;exact f1⟩⟩
   . rintro h5 n5 ⟨ht6,fA,hno2⟩
     repeat' first|refine wk ?_|apply cX <;> intro
     exact⟨by omega,.inl ⟨rfl,xO,zA,by omega,λx hx=>by
      rcases aA.1 hx with h9|h9
      . exact eG x h9
      . simp at h9;subst h9;exact hno2⟩⟩
   . rintro _ h5 n5 ⟨rfl,ht6,fA,hc2,gJ⟩
     repeat' first|refine wk ?_|apply cX <;> intro
     exact⟨by omega,.inr ⟨rfl,.ret,xO,rfl,zA,by omega,zE,p,gK,gJ⟩⟩
 . rintro h' n' ⟨ht,eP,eG⟩
   repeat' first|refine wk ?_|apply cX <;> intro
   exact⟨false,rfl,⟨Bool.noConfusion,λ⟨p,hp,q,hq,e⟩=>by rw[eG p hp q hq]at e;cases e⟩,zA⟩
 . rintro _ h' n' ⟨rfl,ht,eP,hc,hp⟩
   repeat' first|refine wk ?_|apply cX <;> intro
   exact⟨true,rfl,⟨λ_=>hp,λ_=>rfl⟩,zA⟩
theorem pair_pur(k:Ck lo h bc z m nsv psv ns ps)(eE:lo<=n)(hok:∀(i:Nat) c,m.classes[i]? = some c->xM m c.name=(i:Nat)/\∀r∈c.regs,r∈ns){a b:Nat}{ca cb:ClassT}(ha:m.classes[a]? = some ca)(hb:m.classes[b]? = some cb):Pur P 8 151 [ptr bc 0,I64 (a:Nat),I64 (b:Nat)] h n (.bool (qF m ns ps (opA ca) (opA cb))):=by
 refine Com.pure ((pair_ret k eE hok ha hb).mono λo h' n' ⟨r,e,hr,t⟩=>⟨?_,t⟩) (.inl rfl);rw [e]
 have e2:qF m ns ps (opA ca) (opA cb)=true↔pairB m ns ps (opA ca) (opA cb):=by
  unfold qF pairB;simp [ap]
 congr 2
 exact bL.2 (hr.trans e2.symm)
theorem spared_pur(k:Ck lo h bc z m nsv psv ns ps)(eE:lo<=n){o:OpT}(hm:o∈m.ops)(hc:∀r∈o.clob,r∈ns){p:Pl}(hp:PlOK p):Pur P 8 218 [ptr bc 0,.agg ⟨opC o⟩,plV p] h n (.bool (sparB ns ps o p)):=by
 have gw:=k.hb;have rI:=k.mm.opsc o hm;have lG:=(k.mm.opsu o hm 0).one;have lE:=(rI 0).one;have hl:=rI.lt;have eM:inf<4611686018427387904:=by decide
 have rc:Row lo h o.csv 0 1 o.clob.length (o.clob.map str):=rI 0;refine Com.pure (ent λu=>?_) (.inl rfl);repeat' first|refine wk ?_|apply cX <;> intro
 refine lpR (λq:Nat=>[(0,ptr bc 0),(5,ptr (n+1) 0),(10,o.csv),(11,I64 o.clob.length),(12,I64 q)]) (λq h' n'=>Tch [] h n h' n'/\n+2<=n'/\Cel h' (n+1) (ePl+1) 0 (plC p)/\q<=o.clob.length/\∀(j:Nat) r,j<q->o.clob[j]? = some r->sU p (yJ ns ps r)=false) (λq=>o.clob.length - q) 0 ⟨zA,by omega,zC,an _,λj _ hj=>absurd hj (aE _)⟩ ?_
 rintro q t h' n' ⟨ht,eP,hc5,hq,eG⟩
 have k':=k.tch ht eE;have gU:=k'.cel;have rp':=k'.rp;have rc':=k'.mm.opsc o hm 0;by_cases eD:q<o.clob.length
 . have c0:o.clob[q]? = some o.clob[q]:=aa eD;generalize o.clob[q]=x at c0
   have c1:=yE rc' c0;have hx:x∈ns:=hc x (ae c0);have okx:PlOK (yJ ns ps x):=k.ok _ (plc_mem hx k.hl);repeat' first|refine wk ?_|refine cX (λ_=>?_) λ_=>?_|refine regP k' hx (λ_ _ _ _ _=>?_)|refine zS (lap_pur _ _ hp okx _ _) ?_|fail
   . rename_i f1;exact finT (by unfold sparB;rw [all_false c0 (by rw[f1];rfl)]) ht
   . rename_i f1
     exact rnd (q+1) ⟨ht,eP,hc5,by omega,λj y hj e=>by
      rcases ai.1 hj with h9|rfl
      . exact eG j y h9 e
      . rw[c0]at e;cases e;exact f1⟩
 . obtain rfl:q=o.clob.length:=by omega
   repeat' first|refine wk ?_|apply cX <;> intro
   exact finT (by unfold sparB;rw [all_true λi x hi e=>by rw[eG i x hi e];rfl]) ht
end
section
variable {lo bc z n:Nat} {h:zB} {m:MachT} {nsv psv:Value} {ns:List Tx} {ps:List Pl}
theorem may_ok(k:Ck lo h bc z m nsv psv ns ps)(hok:∀(i:Nat) c,m.classes[i]? = some c->xM m c.name=(i:Nat)/\∀r∈c.regs,r∈ns){o:OperT}{p:Pl}(hp:p∈tL m ns ps o):PlOK p:=by
 unfold tL at hp
 cases hc:vG m o.cls with
 | none=>rw [hc]at hp;cases hp
 | some c=>
  rw[hc]at hp;obtain⟨x,hx,rfl⟩:=aB.1 hp;obtain⟨i,hi⟩:=aj.1 (bO hc);exact k.ok _ (plc_mem ((hok i c hi).2 x (b7.1 hx).1) k.hl)
theorem def_pur(k:Ck lo h bc z m nsv psv ns ps)(eE:lo<=n)(hok:∀(i:Nat) c,m.classes[i]? = some c->xM m c.name=(i:Nat)/\∀r∈c.regs,r∈ns){o:OpT}(hm:o∈m.ops)(hc:∀r∈o.clob,r∈ns){c:ClassT}{i:Nat}(gV:vG m o.d.cls=some c)(iF:m.classes[i]? = some c)(hd3:xM m o.d.cls=(i:Nat))
{lo2:Nat}{uv:Value}{uses:List Pl}(ru:Row lo2 h uv ePl 3 uses.length (uses.flatMap plC))(hlo2:lo2<=n)(hut:o.tie<uses.length)(huo:∀p∈uses,PlOK p)(jE:uses.length<1000):Pur P 8 195 [ptr bc 0,.agg ⟨opC o⟩,uv] h n (.bool (defB m ns ps o uses)):=by
 have gw:=k.hb;have lG:=(k.mm.opsu o hm 0).one;have lE:=(k.mm.opsc o hm 0).one;have rul:=ru.low;refine Com.pure (ent λu=>?_) (.inl rfl);by_cases htie:0<=o.tie
 . have kX:o.tie.toNat<uses.length:=by omega
   have d0:uses[o.tie.toNat]? = some uses[o.tie.toNat]:=aa kX;have e0:defB m ns ps o uses=sparB ns ps o uses[o.tie.toNat]:=by unfold defB;rw [if_pos htie,aZ,d0];rfl
   generalize uses[o.tie.toNat]=x at d0 e0
   have okx:PlOK x:=huo x (ae d0);have d1:=zM ru d0;have fF:=ru.low qJ;have y0:zD h (sbk uv) (sof uv+o.tie.toNat*3)=some (I64 x.root):=yT d1 (j:=0) rfl;have y1:zD h (sbk uv) (sof uv+o.tie.toNat*3+1)=some (I64 x.at_):=yT d1 (j:=1) rfl;have y2:zD h (sbk uv) (sof uv+o.tie.toNat*3+1+1)=some (I64 x.width):=yT d1 (j:=2) rfl;repeat' first|refine wk ?_|refine cX (λ_=>?_) λ_=>?_|refine zS (spared_pur (Ck.tch k zA eE) qJ  hm hc okx) ?_|fail
   exact finT (by rw[e0]) zA
 . have e0:defB m ns ps o uses=(tL m ns ps o.d).any (sparB ns ps o):=by unfold defB;rw [if_neg htie]
   repeat' first|refine wk ?_|apply cX <;> intro
   refine yG (may_ret qJ  o.d) ?_
   rintro _ h2 n2 ⟨pc,po,rfl,p1,p2,p3,p4,p5,p6,p7,ht2⟩
   have hn2:=ht2.le;have g3:zD h2 n 0=some (ptr bc 0):=zJ;have g4:Cel h2 (n+1) (61+1) 0 (opC o):=zC;have g6:Cel h2 (n+2) (4+1) 0 [.bool false]:=zC;have base:Tch [] h n (hal h2 n2 (.deferred true)) (n2+1):=zA;clear ht2;repeat' first|refine wk ?_|apply cX <;> intro
   refine wc_rg0 (g:=219) (fs:=[]) (cs:=[ptr pc 0,ptr po 0]) (by(apply sL;((conv=>lhs;whnf) <;> exact rfl))) ?_
   refine it_core (enc:=plV) (elems:=tL m ns ps o.d) (ps:=[23]) (λdone h' n'=>Tch [] (hal h2 n2 (.deferred true)) (n2+1) h' n'/\n2+2<=n'/\∀p∈done,sparB ns ps o p=false)
    (λj h' n'=>j = .ret/\Tch [n+2] (hal h2 n2 (.deferred true)) (n2+1) h' n'/\n2+2<=n'/\Cel h' (n+2) (4+1) 0 [.bool true]/\∃p∈tL m ns ps o.d,sparB ns ps o p=true) rfl (may1_it (lo:=lo) (bc:=bc) (z:=z) (nsv:=nsv) (psv:=psv) gV iF hd3 (hok i c iF).2) ?_ vX ⟨zA,by omega,λp hp=>by cases hp⟩ ?_ ?_ ?_
   . rintro done h' n' ⟨ht,eP,_⟩
     exact⟨k.tch (Tch.tch ht base qL) eE,by omega,by omega,by omega,zJ,zJ,zJ⟩
   . rintro done p h' n' ⟨ht,eP,eG⟩ hL hpre
     have gK:p∈tL m ns ps o.d:=hpre.subset qL;have k':=k.tch (Tch.tch ht base qL) eE;have g3':zD h' n 0=some (ptr bc 0):=zJ;have g4':Cel h' (n+1) (61+1) 0 (opC o):=zE;have g6':Cel h' (n+2) (4+1) 0 [.bool false]:=zE;repeat' first|refine wk ?_|refine cX (λ_=>?_) λ_=>?_|refine zS (spared_pur (Ck.tch k' zA qJ) qJ  hm hc (may_ok k hok gK)) ?_|fail
     . rename_i f1;exact⟨by omega,.inr ⟨rfl,.ret,xO,rfl,zA,by omega,zC,p,gK,f1⟩⟩
     . rename_i f1
       exact⟨by omega,.inl ⟨rfl,xO,zA,by omega,λx hx=>by
        rcases aA.1 hx with h9|h9
        . exact eG x h9
        . simp at h9;subst h9;exact f1⟩⟩
   . rintro h' n' ⟨ht,eP,eG⟩
     repeat' first|refine wk ?_|apply cX <;> intro
     exact finT (by rw[e0];congr 1;cases e:(tL m ns ps o.d).any (sparB ns ps o) with
      | false=>rfl
      | true=>
       obtain⟨p,hp,e2⟩:=ap.1 e;rw [eG p hp]at e2;cases e2) zA
   . rintro _ h' n' ⟨rfl,ht,eP,hc,p,hp,e2⟩
     repeat' first|refine wk ?_|apply cX <;> intro
     exact finT (by rw[e0,ap.2 ⟨p,hp,e2⟩]) zA
end
section
variable {lo bc z n:Nat} {h:zB} {m:MachT} {nsv psv:Value} {ns:List Tx} {ps:List Pl}
def ClsOK(m:MachT)(ns:List Tx)(x:Tx):Prop:=∃c i,vG m x=some c/\m.classes[i]? = some c/\xM m x=(i:Nat)/\∀r∈c.regs,r∈ns
abbrev plR(l:List Pl)(v:Value)(h:zB)(n:Nat):Prop:=Row n h v ePl 3 l.length (l.flatMap plC)
def ChsE(lo bc z:Nat)(m:MachT)(nsv psv:Value)(ns:List Tx)(ps:List Pl)(o:OpT)(pc po:Nat)(h':zB)(n':Nat):Prop:=Ck lo h' bc z m nsv psv ns ps/\lo<=n'/\pc<n'/\po<n'/\zD h' pc 0=some (ptr bc 0)/\Cel h' po (61+1) 0 (opC o)
theorem chs_ret(gw:bc<n){o:OpT}(ho:o.usv.oneCell'=true/\o.csv.oneCell'=true):Ret P 8 194 [ptr bc 0,.agg ⟨opC o⟩] h n λv h' n'=>∃pc po,v = .func (.func 217) ⟨[]⟩ ⟨[ptr pc 0,ptr po 0]⟩/\n<=pc/\n<=po/\pc<n'/\po<n'/\zD h' pc 0=some (ptr bc 0)/\Cel h' po (61+1) 0 (opC o)/\Tch [] h n h' n':=by
 obtain⟨fW,ho2⟩:=ho;refine ent λu=>?_;repeat' first|refine wk ?_|apply cX <;> intro
 exact⟨_,rfl,n,n+1,rfl,by omega,by omega,by omega,by omega,zJ,zC,zA⟩
theorem one_it{pc po L:Nat}{o:OpT}{us:OperT}(hm:o∈m.ops)(hu:o.uses=[us])(hc:ClsOK m ns us.cls):IterM P 8 plR (chL m ns ps o) 217 [.func (.yield L) #[] #[],ptr pc 0,ptr po 0] L n h n (ChsE lo bc z m nsv psv ns ps o pc po):=by
 intro J JF hE eX hclF h0 hy;obtain⟨c,i,c1,c2,c3,c4⟩:=hc;have eL:chL m ns ps o=(tL m ns ps us).map λp=>[p]:=by unfold chL;rw [hu]
 obtain⟨k,eE,hpc,hpo,d1,d2⟩:=hE _ _ _ h0;have ru:Row lo h o.usv 0 2 1 ([us].flatMap oprC):=by have:=k.mm.opsu o hm 0;rw [hu]at this;exact this
 have jV:=zM ru (k:=0) (x:=us) rfl;have y0:zD h (sbk o.usv) (sof o.usv+0*2)=some (str us.cls):=yT jV (j:=0) rfl;have y1:zD h (sbk o.usv) (sof o.usv+0*2+1)=some (str us.fix):=yT jV (j:=1) rfl;have jE:=ru.low qK;have gw:=k.hb;refine ent λu=>?_;repeat' first|refine wk ?_|apply cX <;> intro
 refine yG (may_ret qJ  us) ?_
 rintro _ h2 n2 ⟨pc',po',rfl,p1,p2,p3,p4,p5,p6,p7,ht2⟩
 have hn2:=ht2.le;repeat' first|refine wk ?_|apply cX <;> intro
 have base:Tch [] h n (hal h2 n2 (.deferred true)) (n2+1):=zA;have g0:zD h2 n 0=some (.func (.yield L) #[] #[]):=zJ;clear ht2;refine wc_rg0 (g:=219) (fs:=[]) (cs:=[ptr pc' 0,ptr po' 0]) (by(apply sL;((conv=>lhs;whnf) <;> exact rfl))) ?_
 refine it_core (enc:=plV) (elems:=tL m ns ps us) (ps:=[12]) (λdone h' n'=>J (done.map λp=>[p]) h' n'/\Tch (List.range n) (hal h2 n2 (.deferred true)) (n2+1) h' n'/\n2+2<=n')
  (λj h' n'=>j = .ret/\JF h' n'/\Tch (List.range n) (hal h2 n2 (.deferred true)) (n2+1) h' n'/\n2+2<=n') rfl (may1_it (lo:=lo) (bc:=bc) (z:=z) (nsv:=nsv) (psv:=psv) c1 c2 c3 c4) ?_ vX ⟨eX _ _ _ _ _ h0 (Tch.lowR (S:=[]) zA (ad _) qL),zA,by omega⟩ ?_ ?_ ?_
 . rintro done h' n' ⟨hj,ht,eP⟩
   obtain⟨k,eE,hpc,hpo,d1,d2⟩:=hE _ _ _ hj;exact⟨k,eE,by omega,by omega,zJ,zJ,zJ⟩
 . rintro done p h' n' ⟨hj,ht,eP⟩ hL hpre
   obtain⟨k,eE,hpc,hpo,d1,d2⟩:=hE _ _ _ hj;have ru:Row lo h' o.usv 0 2 1 ([us].flatMap oprC):=by have:=k.mm.opsu o hm 0;rw [hu]at this;exact this
   have g0':zD h' n 0=some (.func (.yield L) #[] #[]):=zJ;repeat' first|refine wk ?_|apply cX <;> intro
   refine qA (fs:=[]) (cs:=[]) (Rou.mono (hy (done.map λp=>[p]) [p] _ _ _ ?_ ?_ ?_) ?_)
   . exact eX _ _ _ _ _ hj (Tch.lowR (S:=[n2+1]) zA qJ qM)
   . exact zF (e:=ePl) (sz:=3) (len:=1) rfl qK 
   . rw[eL];show done.map (λp=>[p])++[p].map (λp=>[p]) <+: _;rw [<- aC];exact hpre.map _
   rintro _ h3 n3 ⟨eS,⟨rfl,kG,ht3⟩|⟨rfl,hf,ht3⟩⟩
   . repeat' first|refine wk ?_|apply cX <;> intro
     have hj4:=λ(ob:AObj)=>eX _ _ _ (hal h3 (n2+1) ob) n3 kG (Tch.lowR (S:=[n2+1]) (Tch.refl _ _ _ |>.upd (.inr qL)) qJ qM);have ht4:Tch (List.range n) (hal h2 n2 (.deferred true)) (n2+1) h3 n3:=Tch.tch ht3 zA λx hx=>.inr hx;exact⟨by omega,.inl ⟨rfl,xO,by rw[aC];exact hj4 _,zA,by omega⟩⟩
   . repeat' first|refine wk ?_|apply cX <;> intro
     have hf2:=λ(ob:AObj)=>hclF _ _ (hal h3 (n2+1) ob) n3 hf (Tch.lowR (S:=[n2+1]) (Tch.refl _ _ _ |>.upd (.inr qL)) qJ qM);have ht4:Tch (List.range n) (hal h2 n2 (.deferred true)) (n2+1) h3 n3:=Tch.tch ht3 zA λx hx=>.inr hx;exact⟨by omega,.inr ⟨rfl,.ret,xO,rfl,hf2 _,zA,by omega⟩⟩
 . rintro h' n' ⟨hj,ht,eP⟩
   repeat' first|refine wk ?_|apply cX <;> intro
   exact⟨by omega,rfl,.inl (by rw[eL];exact eX _ _ _ _ _ hj (Tch.lowR (S:=[n2,n2+1]) zA qJ qM))⟩
 . rintro _ h' n' ⟨rfl,hf,ht,eP⟩
   repeat' first|refine wk ?_|apply cX <;> intro
   exact⟨by omega,rfl,.inr (hclF _ _ _ _ hf (Tch.lowR (S:=[n2,n2+1]) zA qJ qM))⟩
theorem fl_pre{α β : Type}{f: α->List β}{a b:List α}(h:a <+: b):a.flatMap f <+: b.flatMap f:=by
 obtain⟨t,rfl⟩:=h;rw [aT];exact List.prefix_append _ _
def prs(p:Pl)(l:List Pl):List (List Pl):=(l.filter λq=> !sU p q).map λq=>[p,q]
theorem prs_pre{p:Pl}{a b:List Pl}(h:a <+: b):prs p a <+: prs p b:=(h.filter _).map _
theorem prs_hit{p q:Pl}{a:List Pl}(h:sU p q=false):prs p (a++[q])=prs p a++[[p,q]]:=by unfold prs;rw [dw];simp [h]
theorem prs_no{p q:Pl}{a:List Pl}(h:sU p q=true):prs p (a++[q])=prs p a:=by unfold prs;rw [dw];simp [h]
theorem two_it(hok:∀(i:Nat) c,m.classes[i]? = some c->xM m c.name=(i:Nat)/\∀r∈c.regs,r∈ns){pc po L:Nat}{o:OpT}{us vs:OperT}(hm:o∈m.ops)(hu:o.uses=[us,vs])(hc:ClsOK m ns us.cls)(hd:ClsOK m ns vs.cls):IterM P 8 plR (chL m ns ps o) 217 [.func (.yield L) #[] #[],ptr pc 0,ptr po 0] L n h n (ChsE lo bc z m nsv psv ns ps o pc po):=by
 intro J JF hE eX hclF h0 hy;obtain⟨c,i,c1,c2,c3,c4⟩:=hc;obtain⟨d,j,e1,e2,e3,e4⟩:=hd;have eL:chL m ns ps o=(tL m ns ps us).flatMap λp=>prs p (tL m ns ps vs):=by unfold chL;rw [hu];rfl
 obtain⟨k,eE,hpc,hpo,d1,d2⟩:=hE _ _ _ h0;have ru:Row lo h o.usv 0 2 2 ([us,vs].flatMap oprC):=by have:=k.mm.opsu o hm 0;rw [hu]at this;exact this
 have jV:=zM ru (k:=0) (x:=us) rfl;have y0:zD h (sbk o.usv) (sof o.usv+0*2)=some (str us.cls):=yT jV (j:=0) rfl;have y1:zD h (sbk o.usv) (sof o.usv+0*2+1)=some (str us.fix):=yT jV (j:=1) rfl;have jE:=ru.low qK;have gw:=k.hb;have k0:=k;refine ent λu=>?_;repeat' first|refine wk ?_|apply cX <;> intro
 refine yG (may_ret qJ  us) ?_
 rintro _ h2 n2 ⟨pc',po',rfl,p1,p2,p3,p4,p5,p6,p7,ht2⟩
 have hn2:=ht2.le;repeat' first|refine wk ?_|apply cX <;> intro
 have g0:zD h2 n 0=some (.func (.yield L) #[] #[]):=zJ;have base:Tch [] h n (hal h2 n2 (.deferred true)) (n2+1):=zA;clear ht2;refine wc_rg0 (g:=219) (fs:=[]) (cs:=[ptr pc' 0,ptr po' 0]) (by(apply sL;((conv=>lhs;whnf) <;> exact rfl))) ?_
 refine it_core (enc:=plV) (elems:=tL m ns ps us) (ps:=[12]) (λdone h' n'=>J (done.flatMap λp=>prs p (tL m ns ps vs)) h' n'/\Tch (List.range n) (hal h2 n2 (.deferred true)) (n2+1) h' n'/\n2+2<=n')
  (λj h' n'=>j = .ret/\JF h' n'/\Tch (List.range n) (hal h2 n2 (.deferred true)) (n2+1) h' n'/\n2+2<=n') rfl (may1_it (lo:=lo) (bc:=bc) (z:=z) (nsv:=nsv) (psv:=psv) c1 c2 c3 c4) ?_ vX ⟨eX _ _ _ _ _ h0 (Tch.lowR (S:=[]) zA (ad _) qL),zA,by omega⟩ ?_ ?_ ?_
 . rintro done h' n' ⟨hj,ht,eP⟩
   obtain⟨k,eE,hpc,hpo,d1,d2⟩:=hE _ _ _ hj;exact⟨k,eE,by omega,by omega,zJ,zJ,zJ⟩
 . rintro done p h' n' ⟨hj,ht,eP⟩ hL hpre
   have gK:p∈tL m ns ps us:=hpre.subset qL;obtain⟨k,eE,hpc,hpo,d1,d2⟩:=hE _ _ _ hj;have ru:Row lo h' o.usv 0 2 2 ([us,vs].flatMap oprC):=by have:=k.mm.opsu o hm 0;rw [hu]at this;exact this
   have jV:=zM ru (k:=1) (x:=vs) rfl;have y0:zD h' (sbk o.usv) (sof o.usv+1*2)=some (str vs.cls):=yT jV (j:=0) rfl;have y1:zD h' (sbk o.usv) (sof o.usv+1*2+1)=some (str vs.fix):=yT jV (j:=1) rfl;have jE:=ru.low qK;have g0':zD h' n 0=some (.func (.yield L) #[] #[]):=zJ;repeat' first|refine wk ?_|apply cX <;> intro
   refine yG (may_ret qJ  vs) ?_
   rintro _ h4 n4 ⟨pc2,po2,rfl,q1,q2,q3,q4,q5,q6,q7,ht4⟩
   have fi:=ht4.le;repeat' first|refine wk ?_|apply cX <;> intro
   have c7:Cel h4 n' (ePl+1) 0 (plC p):=zC;have g04:zD h4 n 0=some (.func (.yield L) #[] #[]):=zJ;have hj4:J (done.flatMap λp=>prs p (tL m ns ps vs)) h4 n4:=eX _ _ _ _ _ hj (Tch.lowR (S:=[n2+1]) zA qJ qM);have hbu:=obe_tch ht4 qJ qL  xO;have ht5:Tch (List.range n) (hal h2 n2 (.deferred true)) (n2+1) h4 n4:=Tch.tch ht4 zA qL;clear ht4;refine wc_rg1 (g:=219) (fs:=[]) (cs:=[ptr pc2 0,ptr po2 0]) hbu (by(apply sL;((conv=>lhs;whnf) <;> exact rfl))) ?_
   refine it_core (enc:=plV) (elems:=tL m ns ps vs) (ps:=[28]) (λdone2 h5 n5=>J ((done.flatMap λp=>prs p (tL m ns ps vs))++prs p done2) h5 n5/\Tch (List.range n) h4 n4 h5 n5/\n4+1<=n5)
    (λj h5 n5=>j = .ret/\JF h5 n5/\Tch (List.range n) h4 n4 h5 n5/\n4+1<=n5) rfl (may1_it (lo:=lo) (bc:=bc) (z:=z) (nsv:=nsv) (psv:=psv) e1 e2 e3 e4) ?_ vX ⟨by rw[show prs p []=[] from rfl,bS];exact eX _ _ _ _ _ hj4 (Tch.lowR (S:=[]) zA qJ qL),zA,by omega⟩ ?_ ?_ ?_
   . rintro done2 h5 n5 ⟨hj5,ht6,fA⟩
     obtain⟨k,eE,hpc,hpo,d1,d2⟩:=hE _ _ _ hj5;exact⟨k,eE,by omega,by omega,zJ,zJ,zJ⟩
   . rintro done2 q h5 n5 ⟨hj5,ht6,fA⟩ hL2 hpre2
     have lA:q∈tL m ns ps vs:=hpre2.subset qL;have g05:zD h5 n 0=some (.func (.yield L) #[] #[]):=zJ;have c8:Cel h5 n' (ePl+1) 0 (plC p):=zE;repeat' first|refine wk ?_|refine cX (λ_=>?_) λ_=>?_|refine zS (lap_pur _ _ (may_ok k0 hok gK) (may_ok k0 hok lA) _ _) ?_|fail
     . rename_i f1;refine qA (fs:=[]) (cs:=[]) (Rou.mono (hy ((done.flatMap λp=>prs p (tL m ns ps vs))++prs p done2) [p,q] _ _ _ ?_ ?_ ?_) ?_)
       . exact eX _ _ _ _ _ hj5 (Tch.lowR (S:=[n4]) zA qJ qM)
       . exact zF (e:=ePl) (sz:=3) (len:=2) rfl qK 
       . rw[ba,<- prs_hit f1,eL];refine List.IsPrefix.trans ?_ (fl_pre hpre);rw [aT];exact(cY _).2 (by simpa using prs_pre hpre2)
       rintro _ h6 n6 ⟨fV,⟨rfl,hj6,ht7⟩|⟨rfl,hf,ht7⟩⟩
       . repeat' first|refine wk ?_|apply cX <;> intro
         have hj7:=λ(ob:AObj)=>eX _ _ _ (hal h6 n4 ob) n6 hj6 (Tch.lowR (S:=[n4]) (Tch.refl _ _ _ |>.upd (.inr qL)) qJ qM);have ht8:Tch (List.range n) h4 n4 h6 n6:=Tch.tch ht7 zA λx hx=>.inr hx;exact⟨by omega,.inl ⟨rfl,xO,by rw[prs_hit f1,<- ba];exact hj7 _,zA,by omega⟩⟩
       . repeat' first|refine wk ?_|apply cX <;> intro
         have hf2:=λ(ob:AObj)=>hclF _ _ (hal h6 n4 ob) n6 hf (Tch.lowR (S:=[n4]) (Tch.refl _ _ _ |>.upd (.inr qL)) qJ qM);have ht8:Tch (List.range n) h4 n4 h6 n6:=Tch.tch ht7 zA λx hx=>.inr hx;exact⟨by omega,.inr ⟨rfl,.ret,xO,rfl,hf2 _,zA,by omega⟩⟩
     . rename_i f1;exact⟨by omega,.inl ⟨rfl,xO,by rw[prs_no f1];exact eX _ _ _ _ _ hj5 (Tch.lowR (S:=[n4]) zA qJ qM),zA,by omega⟩⟩
   . rintro h5 n5 ⟨hj5,ht6,fA⟩
     repeat' first|refine wk ?_|apply cX <;> intro
     have hj7:=λ(ob1 ob2:AObj)=>eX _ _ _ (hal (hal h5 n4 ob1) (n2+1) ob2) n5 hj5 (Tch.lowR (S:=[n2+1,n4]) (Tch.refl _ _ _ |>.upd (L:=n4) (.inr qL) |>.upd (L:=n2+1) (.inr qL)) qJ qM);have ht8:Tch (List.range n) (hal h2 n2 (.deferred true)) (n2+1) h5 n5:=Tch.tch ht6 ht5 λx hx=>.inr hx;exact⟨by omega,.inl ⟨rfl,xO,by rw[aT];simpa using hj7 _ _,zA,by omega⟩⟩
   . rintro _ h5 n5 ⟨rfl,hf,ht6,fA⟩
     repeat' first|refine wk ?_|apply cX <;> intro
     have ht8:Tch (List.range n) (hal h2 n2 (.deferred true)) (n2+1) h5 n5:=Tch.tch ht6 ht5 λx hx=>.inr hx;exact⟨by omega,.inr ⟨rfl,.ret,xO,rfl,hclF _ _ _ _ hf (Tch.lowR (S:=[n2+1,n4]) zA qJ qM),zA,by omega⟩⟩
 . rintro h' n' ⟨hj,ht,eP⟩
   repeat' first|refine wk ?_|apply cX <;> intro
   exact⟨by omega,rfl,.inl (by rw[eL];exact eX _ _ _ _ _ hj (Tch.lowR (S:=[n2,n2+1]) zA qJ qM))⟩
 . rintro _ h' n' ⟨rfl,hf,ht,eP⟩
   repeat' first|refine wk ?_|apply cX <;> intro
   exact⟨by omega,rfl,.inr (hclF _ _ _ _ hf (Tch.lowR (S:=[n2,n2+1]) zA qJ qM))⟩
end
section
abbrev stopG(e:Int):zK:=[⟨.iface 154 (.agg ⟨[I64 e]⟩),false,false⟩]
theorem gneed_com(z:Bool)(e:Int)(h:zB)(n:Nat):Com P 8 155 [.bool z,I64 e] h n λo h' n'=>o=(if z then .ret (.tuple #[]) else .panic (stopG e))/\h'=h/\n'=n:=by
 refine ent λu=>?_;cases z
 . repeat' first|refine wk ?_|apply cX <;> intro
   exact⟨rfl,rfl,rfl⟩
 . repeat' first|refine wk ?_|apply cX <;> intro
   exact⟨rfl,rfl,rfl⟩
instance {z:Bool} {e:Int} {h:zB} {n:Nat} {K:Out->zB->Nat->Prop}:Stp (CallB P 8 155 [.bool z,I64 e] h n K) (Ch z (K (.ret (.tuple #[])) h n) (K (.panic (stopG e)) h n)):=⟨λ⟨k1,k2⟩=>cal (gneed_com z e h n) λo h' n' ⟨e1,e2,e3⟩=>by
 subst e1 e2 e3;cases z
 . exact k2 rfl
 . exact k1 rfl⟩
theorem places1_none{b1 b2 b3:Nat}{h:zB}{n:Nat}:Def P 8 89 [ptr b1 0,ptr b2 0,ptr b3 0] none h n λu' h' n'=>u'=none/\Tch [] h n h' n':=by
 refine entD ?_;repeat' first|refine wk ?_|apply cX <;> intro
 exact⟨_,rfl,rfl,zA⟩
theorem places1_some{b1 b2 b3 z1 z2 z3:Nat}{h:zB}{n:Nat}{v1 v2:Value}{e0 e:Int}(h1:b1<n)(h2:b2<n)(h3:b3<n)(h12:b1≠b2)(h13:b1≠b3)(h23:b2≠b3)(c1:Cel h b1 z1 0 [v1])(c2:Cel h b2 z2 0 [v2])(c3:Cel h b3 z3 0 [I64 e0]):Def P 8 89 [ptr b1 0,ptr b2 0,ptr b3 0] (some (stopG e)) h n λu' h' n'=>u'=some [⟨.iface 154 (.agg ⟨[I64 e]⟩),true,false⟩]/\Tch [b1,b2,b3] h n h' n'/\Cel h' b1 z1 0 [.slice none 0 0]/\Cel h' b2 z2 0 [.slice none 0 0]/\Cel h' b3 z3 0 [I64 e]:=by
 refine entD ?_;repeat' first|refine wk ?_|apply cX <;> intro
 exact⟨_,rfl,rfl,zA,zC,zC,zC⟩
end
section
theorem all_ret{h:zB}{n:Nat}{sv:Value}(ho:sv.oneCell'=true):Ret P 8 90 [sv] h n λv h' n'=>∃pl,v = .func (.func 153) ⟨[]⟩ ⟨[ptr pl 0]⟩/\n<=pl/\pl<n'/\zD h' pl 0=some sv/\Tch [] h n h' n':=by
 refine ent λu=>?_;repeat' first|refine wk ?_|apply cX <;> intro
 exact⟨_,rfl,n,rfl,by omega,by omega,zJ,zA⟩
end
section
theorem cel_same{h h':zB}{b z kd:Nat}{vs:List Value}(c:Cel h b z kd vs)(e:zG h' b=zG h b):Cel h' b z kd vs:=by
 unfold Cel zD;rw [e];exact c
theorem down_com{lo L:Nat}{elems:List (RegT×Int)}{J:List (RegT×Int)->zB->Nat->Prop}{JF:zB->Nat->Prop}{JP:zK->zB->Nat->Prop}
(hE:∀done h' n',J done h' n'->lo<=n')(eX:∀done h' n' h2 n2,J done h' n'->Tch [] h' n' h2 n2->J done h2 n2)
(hkeep:∀done h' n' sv l,J done h' n'->∀h0 n0,J [] h0 n0->RegsM lo h0 sv l->RegsM lo h' sv l)
(hy:∀done e h' n',J done h' n'->(done++[e]) <+: elems->Rou P 8 L [.agg ⟨deepC e⟩] h' n' λr h2 n2=>n'<=n2/\((r = .ret (.bool true)/\J (done++[e]) h2 n2/\∀b,b<n'->yC (zG h' b)=some (4,114+1,0)->zG h2 b=zG h' b)\/(r = .ret (.bool false)/\JF h2 n2)\/∃c,r = .panic c/\JP c h2 n2))
{h0:zB}{n0:Nat}(hj0:J [] h0 n0):∀(k:Nat) (d:Int) (l:List RegT) (sv:Value) (done:List (RegT×Int)) (h:zB) (n:Nat),d+k=8->0<d->RegsM lo h0 sv l->J done h n->(done++preL k d l) <+: elems->
 Com P 8 154 [sv,I64 d,.func (.yield L) #[] #[]] h n λo h' n'=>n<=n'/\((o = .ret (.bool true)/\J (done++preL k d l) h' n')\/(o = .ret (.bool false)/\JF h' n')\/∃c,o = .panic c/\JP c h' n'):=by
 intro k
 induction k with
 | zero=>
  intro d l sv done h n hd h0d hr hj hp;refine ent λu=>?_;repeat' first|refine wk ?_|apply cX <;> intro
  exact⟨ad _,.inl ⟨rfl,by unfold preL;rw [bS];exact hj⟩⟩
 | succ k ih=>
  intro d l sv done h n hd h0d hr hj hp;have eE:=hE _ _ _ hj;have hrm:=hkeep _ _ _ _ _ hj _ _ hj0 hr;have r:=hrm.row 0;have hl:=hrm.row.lt;have eM:inf<4611686018427387904:=by decide
  refine ent λu=>?_;repeat' first|refine wk ?_|apply cX <;> intro
  refine lpR (λi:Nat=>[(1,I64 d),(2,.func (.yield L) #[] #[]),(11,sv),(12,I64 l.length),(13,I64 i)]) (λi h' n'=>n<=n'/\i<=l.length/\J (done++preL (k+1) d (l.take i)) h' n') (λi=>l.length - i) 0 ⟨ad _,an _,by unfold preL;simpa using hj⟩ ?_
  rintro i t h' n' ⟨eP,hi,fy⟩
  have gz:=hE _ _ _ fy;have hrm':=hkeep _ _ _ _ _ fy _ _ hj0 hr;have r':=hrm'.row 0;have gW:=r'.low;by_cases eD:i<l.length
  . have c0:l[i]? = some l[i]:=aa eD;generalize l[i]=x at c0
    have c1:=zM r' c0;have jU:=ae c0;have fm:=((hrm'.sub jU).row 0).one
    have hpre:(done++preL (k+1) d (l.take i))++((x,d)::preL k (d+1) x.subs) <+: elems:=by
     rw[ba,<- pre_snoc c0];exact List.IsPrefix.trans ((cY done).2 pre_take) hp
    have mC:(done++preL (k+1) d (l.take i))++[(x,d)] <+: elems:=List.IsPrefix.trans ((cY _).2 ⟨preL k (d+1) x.subs,rfl⟩) hpre;repeat' first|refine wk ?_|apply cX <;> intro
    have ko:Cel (hst (hal h' n' (mkC [str [],I64 0,I64 0,.slice none 0 0] (114+1) 0)) n' 0 [str x.name,I64 x.w,I64 x.a,x.sv]) n' (114+1) 0 (regC x):=zC;refine qA (fs:=[]) (cs:=[]) ((hy _ (x,d) _ _ (eX _ _ _ _ _ fy zA) mC).mono ?_)
    rintro _ h2 n2 ⟨hn2,⟨rfl,gq,hsame⟩|⟨rfl,hf⟩|⟨c,rfl,jQ⟩⟩
    . have hc9:=cel_same ko (hsame n' qJ  ko.1);repeat' first|refine wk ?_|apply cX <;> intro
      refine cal (ih (d+1) x.subs x.sv _ h2 n2 qJ qJ  (hr.sub jU) gq (by rw[ba];exact hpre)) ?_
      rintro _ h3 n3 ⟨eS,⟨rfl,kG⟩|⟨rfl,hf⟩|⟨c,rfl,jQ⟩⟩
      . repeat' first|refine wk ?_|apply cX <;> intro
        exact rnd (i+1) ⟨by omega,by omega,by rw[pre_snoc c0,<- ba];rw [ba]at kG;exact kG⟩
      . repeat' first|refine wk ?_|apply cX <;> intro
        exact⟨by omega,.inr (.inl ⟨rfl,hf⟩)⟩
      . repeat' first|refine wk ?_|apply cX <;> intro
        exact⟨by omega,.inr (.inr ⟨c,rfl,jQ⟩)⟩
    . repeat' first|refine wk ?_|apply cX <;> intro
      exact⟨by omega,.inr (.inl ⟨rfl,hf⟩)⟩
    . repeat' first|refine wk ?_|apply cX <;> intro
      exact⟨by omega,.inr (.inr ⟨c,rfl,jQ⟩)⟩
  . obtain rfl:i=l.length:=by omega
    repeat' first|refine wk ?_|apply cX <;> intro
    rw[aY]at fy;exact⟨eP,.inl ⟨rfl,fy⟩⟩
theorem all1_com{lo L pl:Nat}{l:List RegT}{sv:Value}{J:List (RegT×Int)->zB->Nat->Prop}{JF:zB->Nat->Prop}{JP:zK->zB->Nat->Prop}
(hE:∀done h' n',J done h' n'->lo<=n')(eX:∀done h' n' h2 n2,J done h' n'->Tch [] h' n' h2 n2->J done h2 n2)
(hkeep:∀done h' n' sv l,J done h' n'->∀h0 n0,J [] h0 n0->RegsM lo h0 sv l->RegsM lo h' sv l)
(hy:∀done e h' n',J done h' n'->(done++[e]) <+: preL 7 1 l->Rou P 8 L [.agg ⟨deepC e⟩] h' n' λr h2 n2=>n'<=n2/\((r = .ret (.bool true)/\J (done++[e]) h2 n2/\∀b,b<n'->yC (zG h' b)=some (4,114+1,0)->zG h2 b=zG h' b)\/(r = .ret (.bool false)/\JF h2 n2)\/∃c,r = .panic c/\JP c h2 n2))
{h:zB}{n:Nat}(hj:J [] h n)(hr:RegsM lo h sv l)(hc:zD h pl 0=some sv):Com P 8 153 [.func (.yield L) #[] #[],ptr pl 0] h n λo h' n'=>n<=n'/\((o = .ret (.tuple #[])/\(J (preL 7 1 l) h' n'\/JF h' n'))\/∃c,o = .panic c/\JP c h' n'):=by
 refine ent λu=>?_;repeat' first|refine wk ?_|apply cX <;> intro
 refine cal (down_com hE eX hkeep hy hj 7 1 l sv [] h n qK qK  hr hj qL) ?_
 rintro _ h2 n2 ⟨hn,⟨rfl,gq⟩|⟨rfl,hf⟩|⟨c,rfl,hp⟩⟩
 . repeat' first|refine wk ?_|apply cX <;> intro
   exact⟨hn,.inl ⟨rfl,.inl gq⟩⟩
 . repeat' first|refine wk ?_|apply cX <;> intro
   exact⟨hn,.inl ⟨rfl,.inr hf⟩⟩
 . repeat' first|refine wk ?_|apply cX <;> intro
   exact⟨hn,.inr ⟨c,rfl,hp⟩⟩
end
section
variable {lo bc z n:Nat} {h:zB} {m:MachT} {nsv psv:Value} {ns:List Tx} {ps:List Pl}
theorem tch_rng{nI n n' L:Nat}{h h':zB}{o:AObj}(hL:L<nI)(t:Tch (List.range nI) h n h' n'):Tch (List.range nI) h n (hal h' L o) n':=⟨t.1,λb hb hS=>by
 rw[zO,if_neg (by rintro rfl;exact hS (bU.2 hL))];exact t.2 b hb hS⟩
theorem tch_low{S:List Nat}{nI n n' n2:Nat}{h h' h2:zB}(t:Tch S h n h' n')(l:Low nI h' n' h2 n2)(hn:n<=nI):Tch S h n h2 n2:=⟨aW t.1 l.1,λb hb hS=>by rw[l.2 b qJ];exact t.2 b hb hS⟩
theorem cel_low{nI n n' b z kd:Nat}{h h':zB}{vs:List Value}(c:Cel h b z kd vs)(l:Low nI h n h' n')(hn:b<nI):Cel h' b z kd vs:=cel_same c (l.2 b hn)
theorem row_ne{n L e sz len D:Nat}{h:zB}{v:Value}{vs:List Value}{st:LoopState}{pe:Option Code}{fn:FuncId}{pa:Array Tmp}{asg bo:Code}{t:Fr}(r:Row n h v e sz len vs)(hL:zG h L=LoO st pe fn pa asg bo D t):∀b,zH v=some b->b∉[L]:=λb hb=>by
 rcases r with⟨rfl,_,_⟩|⟨b',off,cap,m,z,kd,_,rfl,_,hi,_⟩
 . cases hb
 . injection hb with hb
   have hb:b'=b:=hb;subst hb;simp
   rintro rfl
   rw[hL]at hi;cases hi
structure OpOK (m:MachT) (ns:List Tx) (o:OpT):Prop where
 hm:o∈m.ops
 us:∀u∈o.uses,ClsOK m ns u.cls
 d:ClsOK m ns o.d.cls
 cl:∀r∈o.clob,r∈ns
 tie:o.tie<o.uses.length
 len:o.uses.length=1\/o.uses.length=2
theorem ch_len{o:OpT}{l:List Pl}(h:l∈chL m ns ps o):l.length=o.uses.length\/(2<o.uses.length/\l.length=2):=by
 unfold chL at h;split at h
 . cases h
 . rename_i u hu;obtain⟨p,_,rfl⟩:=aB.1 h;rw [hu];exact .inl rfl
 . rename_i u v r hu;obtain⟨p,_,h⟩:=bE.1 h;obtain⟨q,_,rfl⟩:=aB.1 h;rw [hu]
   cases r with
   | nil=>exact .inl rfl
   | cons=>exact .inr ⟨by simp,rfl⟩
theorem ch_mem{o:OpT}{l:List Pl}(h:l∈chL m ns ps o):∀p∈l,∃u∈o.uses,p∈tL m ns ps u:=by
 unfold chL at h;split at h
 . cases h
 . rename_i u hu;obtain⟨p,hp,rfl⟩:=aB.1 h;intro q hq;simp at hq;subst hq;exact⟨u,by rw[hu];simp,hp⟩
 . rename_i u v r hu;obtain⟨p,hp,h⟩:=bE.1 h;obtain⟨q,hq,rfl⟩:=aB.1 h;intro x hx;simp at hx;rcases hx with rfl|rfl
   . exact⟨u,by rw[hu];simp,hp⟩
   . exact⟨v,by rw[hu];simp,(b7.1 hq).1⟩
theorem fits_pur(k:Ck lo h bc z m nsv psv ns ps)(eE:lo<=n)(hok:∀(i:Nat) c,m.classes[i]? = some c->xM m c.name=(i:Nat)/\∀r∈c.regs,r∈ns){o:OpT}(ho:OpOK m ns o):Pur P 8 150 [ptr bc 0,.agg ⟨opC o⟩] h n (.bool (fitsB m ns ps o)):=by
 obtain⟨hm,hus,⟨dc,di,d1,d2,d3,d4⟩,eX,htie,eN⟩:=ho;have gw:=k.hb;have lG:=(k.mm.opsu o hm 0).one;have lE:=(k.mm.opsc o hm 0).one;refine Com.pure (ent λu=>?_) (.inl rfl);repeat' first|refine wk ?_|apply cX <;> intro
 refine yG (chs_ret qJ  ⟨lG,lE⟩) ?_
 rintro _ h2 n2 ⟨pc,po,rfl,p1,p2,p3,p4,p5,p6,ht2⟩
 have hn2:=ht2.le;have g3:zD h2 n 0=some (ptr bc 0):=zJ;have g4:Cel h2 (n+1) (61+1) 0 (opC o):=zC;have g6:Cel h2 (n+2) (4+1) 0 [.bool false]:=zC;have base:Tch [] h n (hal h2 n2 (.deferred true)) (n2+1):=zA;clear ht2;repeat' first|refine wk ?_|apply cX <;> intro
 refine wc_rg0 (g:=217) (fs:=[]) (cs:=[ptr pc 0,ptr po 0]) (by(apply sL;((conv=>lhs;whnf) <;> exact rfl))) ?_
 refine it_coreM (elR:=plR) (elems:=chL m ns ps o) (ps:=[9]) (nI:=n2+2) (E:=ChsE lo bc z m nsv psv ns ps o pc po) (λdone h' n'=>Tch [] (hal h2 n2 (.deferred true)) (n2+1) h' n'/\n2+2<=n'/\∀l∈done,defB m ns ps o l=false)
  (λj h' n'=>j = .ret/\Tch [n+2] (hal h2 n2 (.deferred true)) (n2+1) h' n'/\n2+2<=n'/\Cel h' (n+2) (4+1) 0 [.bool true]/\∃l∈chL m ns ps o,defB m ns ps o l=true) rfl ?_ ?_ ?_ ?_ qJ  vX ⟨zA,by omega,λp hp=>by cases hp⟩ ?_ ?_ ?_
 . rcases hu:o.uses with _|⟨u1,_|⟨u2,_|⟨u3,r⟩⟩⟩
   . rw[hu]at eN;simp at eN
   . exact one_it hm hu (hus u1 (by rw[hu];simp))
   . exact two_it hok hm hu (hus u1 (by rw[hu];simp)) (hus u2 (by rw[hu];simp))
   . rw[hu]at eN;simp at eN
 . rintro done h' n' ⟨ht,eP,_⟩
   exact⟨k.tch (Tch.tch ht base qL) eE,by omega,by omega,by omega,zJ,zE⟩
 . rintro done h' n' h3 n3 ⟨ht,eP,eG⟩ lw
   have:=lw.1;exact⟨tch_low ht lw qJ,by omega,eG⟩
 . rintro j h' n' h3 n3 ⟨rfl,ht,eP,hc,he⟩ lw
   have:=lw.1;exact⟨rfl,tch_low ht lw qJ,by omega,cel_low hc lw qJ,he⟩
 . rintro done l v h' n' ⟨ht,eP,eG⟩ hL hr hpre
   have hlm:l∈chL m ns ps o:=hpre.subset qL;have k':=k.tch (Tch.tch ht base qL) eE;have g3':zD h' n 0=some (ptr bc 0):=zJ;have g4':Cel h' (n+1) (61+1) 0 (opC o):=zE;have g6':Cel h' (n+2) (4+1) 0 [.bool false]:=zE;have gY:l.length=o.uses.length:=by rcases ch_len hlm with h9|h9 <;> omega
   have hr':∀o',plR l v (hal h' (n2+1) o') n':=λo'=>hr.tch (S:=[n2+1]) ⟨ad _,λb hb hS=>by rw[zO,if_neg (by rintro rfl;simp at hS)]⟩ (ad _) (row_ne hr hL);repeat' first|refine wk ?_|refine cX (λ_=>?_) λ_=>?_|refine zS (def_pur (Ck.tch k' zA qJ) qJ  hok hm eX d1 d2 d3 (hr' _) (ad _) qJ  (λp hp=>by obtain⟨u,hu,hp⟩:=ch_mem hlm p hp;exact may_ok k hok hp) qJ) ?_|fail
   . rename_i f1;exact⟨by omega,.inr ⟨rfl,⟨.ret,xO,rfl,zA,by omega,zC,l,hlm,f1⟩,tch_rng qJ  ((tch_rng qJ  (Tch.refl _ _ _)).hst (.inr (bU.2 qJ)))⟩⟩
   . rename_i f1
     exact⟨by omega,.inl ⟨rfl,xO,⟨zA,by omega,λx hx=>by
      rcases aA.1 hx with h9|h9
      . exact eG x h9
      . simp at h9;subst h9;exact f1⟩,tch_rng qJ  (tch_rng qJ  (Tch.refl _ _ _))⟩⟩
 . rintro h' n' kM ⟨ht,eP,eG⟩
   repeat' first|refine wk ?_|apply cX <;> intro
   exact finT (by unfold fitsB;congr 1;cases e:(chL m ns ps o).any (defB m ns ps o) with
    | false=>rfl
    | true=>
     obtain⟨p,hp,e2⟩:=ap.1 e;rw [eG p hp]at e2;cases e2) zA
 . rintro _ h' n' kM ⟨rfl,ht,eP,hc,p,hp,e2⟩
   repeat' first|refine wk ?_|apply cX <;> intro
   exact finT (by unfold fitsB;rw [ap.2 ⟨p,hp,e2⟩]) zA
end
end Go.Proofs.YtdiejolnllipnaaGreatDoor
