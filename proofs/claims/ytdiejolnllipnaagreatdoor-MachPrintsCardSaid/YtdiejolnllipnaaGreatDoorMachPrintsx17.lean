/- What the law leans on, part 17 of 24. Conditions: those that each theorem states. -/
import Derived.Test.YtdiejolnllipnaaGreatDoorMachPrintsx12
import Derived.Test.YtdiejolnllipnaaGreatDoorMachPrintsx14
import Derived.Test.YtdiejolnllipnaaGreatDoorMachPrintsx15
import Derived.Test.YtdiejolnllipnaaGreatDoorMachPrintsx11

set_option linter.unusedVariables false
set_option linter.unusedSimpArgs false
namespace Go.Proofs.YtdiejolnllipnaaGreatDoor
open Go Go.Ex Go.Ex.M
set_option maxRecDepth 100000
set_option maxHeartbeats 8000000
section
attribute [local simp] zY
theorem ownE_pos{lo n:Nat}{h:zB}{v:Value}{e sz len:Nat}{vs:List Value}(r:OwnE lo n h v e sz len vs)(hl:0<len):Own lo n h v e sz len vs:=by
 rcases r with r|⟨_,rfl,_⟩
 . exact r
 . omega
theorem xF{lo n:Nat}{h:zB}{v:Value}{e sz len:Nat}{vs:List Value}(r:OwnE lo n h v e sz len vs):v.oneCell'=true:=by
 rcases r with r|⟨⟨b,z,kd,_,_,rfl,_⟩,_,_⟩
 . exact r.one
 . rfl
theorem iadO{sz b len cap i:Nat}(h:i<len):Iad sz (.slice (some ⟨b,0,none⟩) len cap) (I64 (i:Nat)) (ptr b (i*sz)):=⟨b,0,len,cap,.i64,i,rfl,rfl,h,by rw[aK]⟩
theorem own_at{lo n bb len cap e sz k:Nat}{h:zB}{vs:List Value}{x:Value}(o:Own lo n h (.slice (some ⟨bb,0,none⟩) len cap) e sz len vs)(hs:1<=sz)(hx:vs[k]? = some x):zD h bb k=some x:=by
 have:=(o.row hs).at hx
 rwa [show sof (.slice (some ⟨bb,0,none⟩) len cap)+k=k from aK _]at this
theorem regC_one{lo:Nat}{h:zB}{sv:Value}{l:List RegT}(hr:RegsM lo h sv l):∀y∈l.flatMap regC,y.oneCell'=true:=λy hy=>by
 obtain⟨r,hm,hy⟩:=bE.1 hy;have:=((hr.sub hm).row 0).one;simp at hy;rcases hy with rfl|rfl|rfl|rfl
 . rfl
 . rfl
 . rfl
 . exact this
theorem regs_ret:∀(k:Nat) {l:List RegT} {lo n:Nat} {h:zB} {sv:Value},Sml k l->RegsM lo h sv l->lo<=n->Ret P 8 84 [sv] h n λv h' n'=>v.oneCell'=true/\Tch [] h n h' n':=by
 intro k
 induction k with
 | zero=>
  intro l lo n h sv hs hr eE;have hs:l=[]:=hs;subst hs;have fm:=(hr.row 0).one;have fX:Tch [] h n h n:=Tch.refl _ _ _;refine ent λu=>?_;repeat' first|refine wk ?_|apply cX <;> intro
  refine yG (clone_reg (hr.row 0) eE (regC_one hr) qK) ?_
  rintro v h2 n2 ⟨ho,ht⟩
  have hn2:=ht.le;have r2:=ho.row qK;have o1:=xF ho;repeat' first|refine wk ?_|apply cX <;> intro
  refine lpR (λi:Nat=>[(0,v),(7,I64 (0:Nat)),(8,I64 i)]) (λi h' n'=>Tch [] h n h' n') (λi=>0) 0 ht ?_
  rintro i t h' n' ht'
  repeat' first|refine wk ?_|apply cX <;> intro
  exact⟨_,rfl,o1,zA⟩
 | succ k ih=>
  intro l lo n h sv hs hr eE;obtain⟨jk,jB⟩:=hs;have eM:inf<4611686018427387904:=by decide
  have fm:=(hr.row 0).one;refine ent λu=>?_;repeat' first|refine wk ?_|apply cX <;> intro
  refine yG (clone_reg (hr.row 0) eE (regC_one hr) qJ) ?_
  rintro v h2 n2 ⟨ho,ht⟩
  have hn2:=ht.le;have r2:=ho.row qK;have o1:=xF ho;repeat' first|refine wk ?_|apply cX <;> intro
  refine lpR (λi:Nat=>[(0,v),(7,I64 l.length),(8,I64 i)]) (λi h' n'=>Tch [] h n h' n'/\i<=l.length/\∃l':List RegT,l'.length=l.length/\OwnE n n' h' v 114 4 l.length (l'.flatMap regC)/\∀j,i<=j->l'[j]? = l[j]?) (λi=>l.length - i) 0 ⟨ht,an _,l,rfl,ho,λ_ _=>rfl⟩ ?_;clear r2 ho
  rintro i t h' n' ⟨ht',hi,l',hl',ho,hsame⟩
  have eP:=ht'.le;by_cases eD:i<l.length
  . have c0:l[i]? = some l[i]:=aa eD;generalize l[i]=x at c0
    have c0':l'[i]? = some x:=by rw[hsame i (ad _)];exact c0
    have hx:=ae c0;have ho:=ownE_pos ho qJ;obtain⟨bb,rfl,fP,fk⟩:=own_head ho qJ;have y3:zD h' bb (i*4+3)=some x.sv:=own_at ho qK  (uZ (f:=regC) (sz:=4) (λ_=>rfl) c0' (j:=3) rfl);have iad:=iadO (sz:=4) (b:=bb) (cap:=inf) eD;have hxo:=((hr.sub hx).row 0).one;repeat' first|refine ob (a:=ptr bb (i*4)) ?_ iad|refine wk ?_|apply cX <;> intro
    refine yG (ih (jB x hx) (RegsM.tch ht' eE (hr.sub hx)) qJ) ?_
    rintro v2 h3 n3 ⟨o2,t3⟩
    have eS:=t3.le;have ho3:=ho.tch t3 qL;have jm:i*4+3<(l'.flatMap regC).length:=by rw[flat_len (f:=regC) (sz:=4) (λ_=>rfl)];omega
    repeat' first|refine ob (a:=ptr bb (i*4)) ?_ iad|refine ob (a:=hst _ bb (i*4+3) [v2]) ?_ (stp_own ho3 rfl jm o2)|refine wk ?_|apply cX <;> intro
    have hp:=own_put (x:=v2) ho3 rfl jm;rw [flat_set (f:=regC) (sz:=4) (y:=.mk x.name x.w x.a v2 x.subs) (λ_=>rfl) qK  rfl c0']at hp;exact rnd (i+1) ⟨zA,by omega,_,by rw[bh];exact hl',.inl hp,λj hj=>by rw[bH qJ];exact hsame j qJ⟩
  . obtain rfl:i=l.length:=by omega
    repeat' first|refine wk ?_|apply cX <;> intro
    exact⟨_,rfl,o1,zA⟩
end
section
attribute [local simp] zY
abbrev eCls:Nat:=56
abbrev eOp:Nat:=61
abbrev eOpr:Nat:=58
abbrev zMc:Nat:=27+1
theorem tP{lo lo' n n':Nat}{h:zB}{v v':Value}{e sz len e' sz' len':Nat}{vs vs':List Value}(o:OwnE lo n h v e sz len vs)(o':Own lo' n' h v' e' sz' len' vs')(eJ:e≠e'\/sz≠sz')(hs:1<=sz'):Dj v v':=λb hb e2=>by
 rcases o with o|⟨⟨b1,z,kd,_,_,rfl,q3,_⟩,_,_⟩
 . exact sQ o o' eJ b hb e2
 . rcases o' with⟨rfl,_⟩|⟨b2,_,_,rfl,p3,p4,p5,_⟩
   . cases e2
   . injection hb with hb
     injection e2 with e2
     have hb:b1=b:=hb;have e2:b2=b:=e2;subst hb e2;rw [q3]at p3;injection p3 with p3
     injection p3 with p3 _
     have:0<len'*sz':=Nat.mul_pos p5 hs;omega
theorem ownE_lt{lo n b0:Nat}{h:zB}{v:Value}{e sz len:Nat}{vs:List Value}(o:OwnE lo n h v e sz len vs)(hb:b0<lo):∀b,zH v=some b->b∉[b0]:=λb fk hx=>by
 have:=o.low b (by rw[fk];simp);simp at hx;omega
theorem wB{lo lo' n:Nat}{h:zB}{v:Value}{e sz len:Nat}{vs:List Value}(o:OwnE lo n h v e sz len vs)(hl:lo'<=lo):OwnE lo' n h v e sz len vs:=by
 rcases o with o|⟨⟨b,z,kd,h1,h2⟩,h3⟩
 . exact .inl (o.dnl hl)
 . exact .inr ⟨⟨b,z,kd,by omega,h2⟩,h3⟩
structure CpC (lo n:Nat) (h:zB) (c c':ClassT):Prop where
 nm:c'.name=c.name
 rg:c'.regs=c.regs
 row:OwnE lo n h c'.rsv qI 1 c.regs.length (c.regs.map str)
structure CpO (lo n:Nat) (h:zB) (o o':OpT):Prop where
 nm:o'.name=o.name
 d:o'.d=o.d
 tie:o'.tie=o.tie
 us:o'.uses=o.uses
 cb:o'.clob=o.clob
 ru:OwnE lo n h o'.usv eOpr 2 o.uses.length (o.uses.flatMap oprC)
 rc:OwnE lo n h o'.csv qI 1 o.clob.length (o.clob.map str)
structure CpM (lo n:Nat) (h:zB) (m m':MachT):Prop where
 nm:m'.name=m.name
 res:m'.result=m.result
 slots:m'.slots=m.slots
 ag:m'.args=m.args
 sd:m'.saved=m.saved
 r1:m'.rsv.oneCell'=true
 cl:m'.classes.length=m.classes.length
 cr:OwnE lo n h m'.csv eCls 2 m.classes.length (m'.classes.flatMap clsC)
 ce:∀(i:Nat) c,m.classes[i]? = some c->∃c',m'.classes[i]? = some c'/\CpC lo n h c c'
 ol:m'.ops.length=m.ops.length
 orr:OwnE lo n h m'.osv eOp 6 m.ops.length (m'.ops.flatMap opC)
 oe:∀(i:Nat) o,m.ops[i]? = some o->∃o',m'.ops[i]? = some o'/\CpO lo n h o o'
 ar:OwnE lo n h m'.asv qI 1 m.args.length (m.args.map str)
 sr:OwnE lo n h m'.ssv qI 1 m.saved.length (m.saved.map str)
theorem CpC.tchS{S:List Nat}{lo n n':Nat}{h h':zB}{c c':ClassT}(k:CpC lo n h c c')(t:Tch S h n h' n')(hS:∀b,zH c'.rsv=some b->b∉S):CpC lo n' h' c c':=⟨k.nm,k.rg,k.row.tch t hS⟩
theorem CpO.tchS{S:List Nat}{lo n n':Nat}{h h':zB}{o o':OpT}(k:CpO lo n h o o')(t:Tch S h n h' n')(hS:∀b,zH o'.usv=some b->b∉S)(hS2:∀b,zH o'.csv=some b->b∉S):CpO lo n' h' o o':=⟨k.nm,k.d,k.tie,k.us,k.cb,k.ru.tch t hS,k.rc.tch t hS2⟩
structure SmlM (m:MachT):Prop where
 rg:Sml 6 m.regs
 cls:m.classes.length<=64
 clr:∀c∈m.classes,c.regs.length<=64
 ops:m.ops.length<=64
 opu:∀o∈m.ops,o.uses.length<=2
 opc:∀o∈m.ops,o.clob.length<=200
 args:m.args.length<=200
 saved:m.saved.length<=200
theorem clsC_one{lo:Nat}{h:zB}{m:MachT}(mm:MachM lo h m):∀y∈m.classes.flatMap clsC,y.oneCell'=true:=λy hy=>by
 obtain⟨c,hm,hy⟩:=bE.1 hy;have:=(mm.clsr c hm 0).one;simp at hy;rcases hy with rfl|rfl
 . rfl
 . exact this
theorem opC_one{lo:Nat}{h:zB}{m:MachT}(mm:MachM lo h m):∀y∈m.ops.flatMap opC,y.oneCell'=true:=λy hy=>by
 obtain⟨c,hm,hy⟩:=bE.1 hy;have h1:=(mm.opsu c hm 0).one;have h2:=(mm.opsc c hm 0).one;simp at hy;rcases hy with rfl|rfl|rfl|rfl|rfl|rfl
 . rfl
 . rfl
 . rfl
 . exact h1
 . rfl
 . exact h2
theorem oprC_one(l:List OperT):∀y∈l.flatMap oprC,y.oneCell'=true:=λy hy=>by
 obtain⟨c,hm,hy⟩:=bE.1 hy;simp at hy;rcases hy with rfl|rfl <;> rfl
abbrev mc0:List Value:=[str [],.slice none 0 0,.slice none 0 0,.slice none 0 0,.slice none 0 0,str [],.slice none 0 0,I64 0]
theorem rs_agg{l:List (Nat×Value)}{t:Fr}{h:zB}{i ty sz b off:Nat}{vs:List Value}[s:ShC P ty (.agg sz)](e:lk l t i = .pointer (some ⟨b,off,none⟩))(hl:vs.length=sz)(h0:0<sz)(hr:∀(j:Nat) x,vs[j]? = some x->zD h b (off+j)=some x):Rs P l t h [.cell i ty] [.agg ⟨vs⟩]:=⟨_,_,rfl,by rw[e];exact load_agg s.ok hl h0 hr,rfl⟩
variable {lo n:Nat} {h:zB} {m:MachT}
theorem copied_ret(mm:MachM lo h m)(eE:lo<=n)(sm:SmlM m):Ret P 8 37 [.agg ⟨yR m⟩] h n λv h' n'=>∃m',v = .agg ⟨yR m'⟩/\CpM n n' h' m m'/\Tch [] h n h' n':=by
 obtain⟨o1,o2,o3,o4,o5⟩:=sS mm;have eM:inf<4611686018427387904:=by decide
 have s1:=sm.cls;have s2:=sm.ops;refine ent λu=>?_;repeat' first|refine wk ?_|apply cX <;> intro
 refine yG (regs_ret 6 sm.rg (RegsM.tch zA eE mm.regs) qJ) ?_
 rintro v1 h2 n2 ⟨ov1,ht2⟩
 have hn2:=ht2.le;repeat' first|refine wk ?_|apply cX <;> intro
 have t2:Tch [] h n (hst h2 n (0+1) [v1]) n2:=zA;have io:Cel (hst h2 n (0+1) [v1]) n zMc 0 [str m.name,v1,m.csv,m.osv,m.asv,str m.result,m.ssv,I64 m.slots]:=zC;have iB:Cel (hst h2 n (0+1) [v1]) (n+1) zMc 0 mc0:=zC;generalize hst h2 n (0+1) [v1]=h3 at *
 have m3:=mm.tch t2 eE;have zc:=mm.cls 0;have zo:=mm.ops 0;have za:=mm.args 0;have zs:=mm.saved 0;clear ht2;refine yG (clone_cls (m3.cls _) qJ  (clsC_one mm) qJ) ?_
 rintro v4 h4 n4 ⟨w4,t4⟩
 have fi:=t4.le;have ov4:=xF w4;repeat' first|refine wk ?_|apply cX <;> intro
 refine yG (clone_op (MachM.tch t4 qJ  m3 |>.ops _) qJ  (opC_one mm) qJ) ?_
 rintro v5 h5 n5 ⟨w5,t5⟩
 have fA:=t5.le;have ov5:=xF w5;have w4r:=w4.row qK;have w5r:=w5.row qK;repeat' first|refine wk ?_|apply cX <;> intro
 have t6:Tch [] h n (hst (hst h5 n (0+2) [v4]) n (0+3) [v5]) n5:=zA;have d0:Cel (hst (hst h5 n (0+2) [v4]) n (0+3) [v5]) n zMc 0 [str m.name,v1,v4,v5,m.asv,str m.result,m.ssv,I64 m.slots]:=zC;have d1:Cel (hst (hst h5 n (0+2) [v4]) n (0+3) [v5]) (n+1) zMc 0 mc0:=zC;have tS:Tch [n] h5 n5 (hst (hst h5 n (0+2) [v4]) n (0+3) [v5]) n5:=zA;have w4:=wB (lo':=n+2) ((w4.tch t5 qL).tch tS (ownE_lt w4 qJ)) qJ;have w5:=wB (lo':=n+2) (w5.tch tS (ownE_lt w5 qJ)) qJ;generalize hst (hst h5 n (0+2) [v4]) n (0+3) [v5]=h6 at *
 clear tS t5 t4 w4r w5r io iB m3 t2;refine lpR (λi:Nat=>[(1,ptr n 0),(2,ptr (n+1) 0),(19,I64 m.classes.length),(20,I64 i)]) (λi h' n'=>Tch [] h n h' n'/\n+2<=n'/\Cel h' n zMc 0 [str m.name,v1,v4,v5,m.asv,str m.result,m.ssv,I64 m.slots]/\Cel h' (n+1) zMc 0 mc0/\i<=m.classes.length/\OwnE (n+2) n' h' v5 eOp 6 m.ops.length (m.ops.flatMap opC)/\∃cs:List ClassT,cs.length=m.classes.length/\OwnE (n+2) n' h' v4 eCls 2 m.classes.length (cs.flatMap clsC)/\(∀(j:Nat) c,j<i->m.classes[j]? = some c->∃c',cs[j]? = some c'/\CpC (n+2) n' h' c c')/\∀j,i<=j->cs[j]? = m.classes[j]?) (λi=>m.classes.length - i) 0 ⟨t6,by omega,d0,d1,an _,w5,m.classes,rfl,w4,λj c hj=>by omega,λ_ _=>rfl⟩ ?_;clear w4 w5 d0 d1 t6
 rintro i t h' n' ⟨ht,eP,d0,d1,hi,wo,cs,eX,wc,hdone,hsame⟩
 have kM:=ht.le;by_cases eD:i<m.classes.length
 . have c0:m.classes[i]? = some m.classes[i]:=aa eD;generalize m.classes[i]=c at c0
   have c0':cs[i]? = some c:=by rw[hsame i (ad _)];exact c0
   have hx:=ae c0;have ho:=ownE_pos wc qJ;obtain⟨bb,rfl,fP,fk⟩:=own_head ho qJ;have hor:=ho.row qK;have y1:zD h' bb (i*2+1)=some c.rsv:=own_at ho qK  (uZ (f:=clsC) (sz:=2) (λ_=>rfl) c0' (j:=1) rfl);have iad:=iadO (sz:=2) (b:=bb) (cap:=inf) eD;have zr:=mm.clsr c hx 0;have hxo:=zr.one;have hle:=sm.clr c hx;repeat' first|refine ob (a:=ptr bb (i*2)) ?_ iad|refine wk ?_|apply cX <;> intro
   refine yG (clone_str ((mm.tch ht eE).clsr c hx 0) qJ  (str_one _) qJ) ?_
   rintro v7 h7 n7 ⟨w7,t7⟩
   have ir:=t7.le;have ov7:=xF w7;have ho7:=ho.tch t7 qL;have wo7:=wo.tch t7 qL;have w7r:=w7.row qK;have jm:i*2+1<(cs.flatMap clsC).length:=by rw[flat_len (f:=clsC) (sz:=2) (λ_=>rfl)];omega
   repeat' first|refine ob (a:=ptr bb (i*2)) ?_ iad|refine ob (a:=hst _ bb (i*2+1) [v7]) ?_ (stp_own ho7 rfl jm ov7)|refine wk ?_|apply cX <;> intro
   have hp:=own_put (x:=v7) ho7 rfl jm;rw [flat_set (f:=clsC) (sz:=2) (y:=⟨c.name,v7,c.regs⟩) (λ_=>rfl) qK  rfl c0']at hp;have tB:Tch [bb] h7 n7 (hst h7 bb (i*2+1) [v7]) n7:=zA
   exact rnd (i+1) ⟨zA,by omega,zC,zC,by omega,wo7.tch tB (tP wo7 ho7 (.inl qK) qK).no,_,by rw[bh];exact eX,.inl hp,λj c1 hj e=>by
    rcases ai.1 hj with h9|rfl
    . obtain⟨c',e1,e2⟩:=hdone j c1 h9 e;have e2:=CpC.tchS e2 t7 qL;exact⟨c',by rw[bH qJ];exact e1,CpC.tchS e2 tB (tP e2.row ho7 (.inl qK) qK).no⟩
    . rw[c0]at e;cases e;exact⟨_,bY qJ,rfl,rfl,wB (w7.tch tB (ownE_lt w7 qJ)) qJ⟩,λj hj=>by rw[bH qJ];exact hsame j qJ⟩
 obtain rfl:i=m.classes.length:=by omega
 clear hsame eD hi;have wor:=wo.row qK;repeat' first|refine wk ?_|apply cX <;> intro
 clear wor;refine lpR (λi:Nat=>[(1,ptr n 0),(2,ptr (n+1) 0),(38,I64 m.ops.length),(39,I64 i)]) (λi h' n'=>Tch [] h n h' n'/\n+2<=n'/\Cel h' n zMc 0 [str m.name,v1,v4,v5,m.asv,str m.result,m.ssv,I64 m.slots]/\Cel h' (n+1) zMc 0 mc0/\i<=m.ops.length/\OwnE (n+2) n' h' v4 eCls 2 m.classes.length (cs.flatMap clsC)/\(∀(j:Nat) c,m.classes[j]? = some c->∃c',cs[j]? = some c'/\CpC (n+2) n' h' c c')/\∃os:List OpT,os.length=m.ops.length/\OwnE (n+2) n' h' v5 eOp 6 m.ops.length (os.flatMap opC)/\(∀(j:Nat) o,j<i->m.ops[j]? = some o->∃o',os[j]? = some o'/\CpO (n+2) n' h' o o')/\∀j,i<=j->os[j]? = m.ops[j]?) (λi=>m.ops.length - i) 0 ⟨ht,by omega,d0,d1,an _,wc,λj c e=>hdone j c (ab.1 e).1 e,m.ops,rfl,wo,λj c hj=>by omega,λ_ _=>rfl⟩ ?_;clear wo wc hdone d0 d1 ht
 rintro i t h' n' ⟨ht,eP,d0,d1,hi,wc,hcd,os,gI,wo,hdone,hsame⟩
 have kM:=ht.le;by_cases eD:i<m.ops.length
 . have c0:m.ops[i]? = some m.ops[i]:=aa eD;generalize m.ops[i]=o at c0
   have c0':os[i]? = some o:=by rw[hsame i (ad _)];exact c0
   have hx:=ae c0;have ho:=ownE_pos wo qJ;obtain⟨bb,rfl,fP,fk⟩:=own_head ho qJ;have hor:=ho.row qK;have y3:zD h' bb (i*6+3)=some o.usv:=own_at ho qK  (uZ (f:=opC) (sz:=6) (λ_=>rfl) c0' (j:=3) rfl);have y5:zD h' bb (i*6+5)=some o.csv:=own_at ho qK  (uZ (f:=opC) (sz:=6) (λ_=>rfl) c0' (j:=5) rfl);have iad:=iadO (sz:=6) (b:=bb) (cap:=inf) eD;have zu:=mm.opsu o hx 0;have zv:=mm.opsc o hx 0;have hxo:=zu.one;have hxv:=zv.one;have hle:=sm.opu o hx;have ig:=sm.opc o hx;repeat' first|refine ob (a:=ptr bb (i*6)) ?_ iad|refine wk ?_|apply cX <;> intro
   refine yG (clone_opr ((mm.tch ht eE).opsu o hx _) qJ  (oprC_one _) qJ) ?_
   rintro v7 h7 n7 ⟨w7,t7⟩
   have ir:=t7.le;have ov7:=xF w7;have w7r:=w7.row qK;have ho7:=ho.tch t7 qL;have z5:zD h7 bb (i*6+5)=some o.csv:=own_at ho7 qK  (uZ (f:=opC) (sz:=6) (λ_=>rfl) c0' (j:=5) rfl);repeat' first|refine ob (a:=ptr bb (i*6)) ?_ iad|refine wk ?_|apply cX <;> intro
   refine yG (clone_str (((mm.tch ht eE).tch t7 qJ).opsc o hx _) qJ  (str_one _) qJ) ?_
   rintro v8 h8 n8 ⟨w8,t8⟩
   have jj:=t8.le;have ov8:=xF w8;have w8r:=w8.row qK;have lz:=ho7.tch t8 qL;have wc8:=(wc.tch t7 qL).tch t8 qL;have lm:(os.flatMap opC).length=os.length*6:=flat_len (f:=opC) (sz:=6) (λ_=>rfl) os;have jm:i*6+3<(os.flatMap opC).length:=by omega
   have hp:=own_put (x:=v7) lz rfl jm;rw [flat_set (f:=opC) (sz:=6) (y:=⟨o.name,o.d,v7,o.uses,o.tie,o.csv,o.clob⟩) (λ_=>rfl) qK  rfl c0']at hp;have c0s:(os.set i ⟨o.name,o.d,v7,o.uses,o.tie,o.csv,o.clob⟩)[i]? = some ⟨o.name,o.d,v7,o.uses,o.tie,o.csv,o.clob⟩:=bY qJ;have mP:i*6+5<((os.set i ⟨o.name,o.d,v7,o.uses,o.tie,o.csv,o.clob⟩).flatMap opC).length:=by rw[flat_len (f:=opC) (sz:=6) (λ_=>rfl),bh];omega
   repeat' first|refine ob (a:=ptr bb (i*6)) ?_ iad|refine ob (a:=hst (hst _ bb (i*6+3) [v7]) bb (i*6+5) [v8]) ?_ (stp_own hp rfl mP ov8)|refine ob (a:=hst _ bb (i*6+3) [v7]) ?_ (stp_own lz rfl jm ov7)|refine wk ?_|apply cX <;> intro
   have gJ:=own_put (x:=v8) hp rfl mP;rw [flat_set (f:=opC) (sz:=6) (y:=⟨o.name,o.d,v7,o.uses,o.tie,v8,o.clob⟩) (λ_=>rfl) qK  rfl c0s]at gJ;have tB:Tch [bb] h8 n8 (hst (hst h8 bb (i*6+3) [v7]) bb (i*6+5) [v8]) n8:=zA
   exact rnd (i+1) ⟨zA,by omega,zC,zC,by omega,wc8.tch tB (tP wc8 lz (.inl qK) qK).no,λj c e=>by
    obtain⟨c',e1,e2⟩:=hcd j c e;have e2:=CpC.tchS (CpC.tchS e2 t7 qL) t8 qL;exact⟨c',e1,CpC.tchS e2 tB (tP e2.row lz (.inl qK) qK).no⟩,_,by rw[bh,bh];exact gI,.inl gJ,λj c1 hj e=>by
    rcases ai.1 hj with h9|rfl
    . obtain⟨c',e1,e2⟩:=hdone j c1 h9 e;have e2:=CpO.tchS (CpO.tchS e2 t7 qL qL) t8 qL qL;exact⟨c',by rw[bH qJ,bH qJ];exact e1,CpO.tchS e2 tB (tP e2.ru lz (.inl qK) qK).no (tP e2.rc lz (.inl qK) qK).no⟩
    . rw[c0]at e;cases e;have w7':=w7.tch t8 qL;exact⟨_,bY (by rw[bh];omega),rfl,rfl,rfl,rfl,rfl,wB (w7'.tch tB (ownE_lt w7' qJ)) qJ,wB (w8.tch tB (ownE_lt w8 qJ)) qJ⟩,λj hj=>by rw[bH qJ,bH qJ];exact hsame j qJ⟩
 obtain rfl:i=m.ops.length:=by omega
 clear hsame eD hi;have s3:=sm.args;have s4:=sm.saved;repeat' first|refine wk ?_|apply cX <;> intro
 refine yG (clone_str ((mm.tch ht eE).args _) qJ  (str_one _) qJ) ?_
 rintro v7 h7 n7 ⟨w7,t7⟩
 have ir:=t7.le;have ov7:=xF w7;have w7r:=w7.row qK;repeat' first|refine wk ?_|apply cX <;> intro
 refine yG (clone_str (((mm.tch ht eE).tch t7 qJ).saved _) qJ  (str_one _) qJ) ?_
 rintro v8 h8 n8 ⟨w8,t8⟩
 have jj:=t8.le;have ov8:=xF w8;have w8r:=w8.row qK;have wcr:=xF wc;have wor:=xF wo;repeat' first|refine wk ?_|apply cX <;> intro
 have q1:Cel (hst (hst (hst h8 n (0+4) [v7]) n (0+6) [v8]) (n+1) 0 [str m.name,v1,v4,v5,v7,str m.result,v8,I64 m.slots]) (n+1) zMc 0 [str m.name,v1,v4,v5,v7,str m.result,v8,I64 m.slots]:=zC;have tE:Tch [n,n+1] h8 n8 (hst (hst (hst h8 n (0+4) [v7]) n (0+6) [v8]) (n+1) 0 [str m.name,v1,v4,v5,v7,str m.result,v8,I64 m.slots]) n8:=zA;have tF:Tch [n,n+1] h' n' (hst (hst (hst h8 n (0+4) [v7]) n (0+6) [v8]) (n+1) 0 [str m.name,v1,v4,v5,v7,str m.result,v8,I64 m.slots]) n8:=zA;have tG:Tch [n,n+1] h7 n7 (hst (hst (hst h8 n (0+4) [v7]) n (0+6) [v8]) (n+1) 0 [str m.name,v1,v4,v5,v7,str m.result,v8,I64 m.slots]) n8:=zA;have tZ:Tch [] h n (hst (hst (hst h8 n (0+4) [v7]) n (0+6) [v8]) (n+1) 0 [str m.name,v1,v4,v5,v7,str m.result,v8,I64 m.slots]) n8:=zA;refine ob (a:=[.agg ⟨[str m.name,v1,v4,v5,v7,str m.result,v8,I64 m.slots]⟩]) ?_ (rs_agg (b:=n+1) (off:=0) (by(apply qB;((conv=>lhs;whnf) <;> exact rfl))) rfl qL  λj x hj=>(congrArg (zD _ _) (aK j)).trans ((q1.2 j).trans hj));repeat' first|refine wk ?_|apply cX <;> intro
 have no:∀{lo' n1 h1 v e sz len vs},OwnE lo' n1 h1 v e sz len vs->n+2<=lo'->∀b,zH v=some b->b∉[n,n+1]:=λo hl b hb hx=>by
  have:=o.low b (by rw[hb];simp);simp at hx;omega
 exact⟨_,rfl,⟨m.name,v1,m.regs,v4,cs,v5,os,v7,m.args,m.result,v8,m.saved,m.slots⟩,rfl,⟨rfl,rfl,rfl,rfl,rfl,ov1,eX,wB (wc.tch tF (no wc (ad _))) qJ,λj c e=>by
  obtain⟨c',e1,e2⟩:=hcd j c e;have e3:=CpC.tchS e2 tF (no e2.row (ad _));exact⟨c',e1,e3.nm,e3.rg,wB e3.row qJ⟩,gI,wB (wo.tch tF (no wo (ad _))) qJ,λj o e=>by
  obtain⟨o',e1,e2⟩:=hdone j o (ab.1 e).1 e;have e3:=CpO.tchS e2 tF (no e2.ru (ad _)) (no e2.rc (ad _));exact⟨o',e1,e3.nm,e3.d,e3.tie,e3.us,e3.cb,wB e3.ru qJ,wB e3.rc qJ⟩,wB (w7.tch tG (no w7 qJ)) qJ,wB (w8.tch tE (no w8 qJ)) qJ⟩,tZ⟩
end
section
attribute [local simp] zY
abbrev vR:Nat:=3
abbrev eSet:Nat:=105
abbrev yX:Nat:=49
abbrev eSets:Nat:=100
abbrev zTb:Nat:=107+1
def SetEl(lo n:Nat)(h:zB)(p:Value×List Nat):Prop:=SetW p.2/\Kep lo n h p.1 tU 1 p.2.length (p.2.map U64)
def IntEl(lo n:Nat)(h:zB)(p:Value×List Int):Prop:=Own lo n h p.1 vR 1 p.2.length (p.2.map I64)
abbrev Sets(lo n:Nat)(h:zB)(v:Value)(L:List (Value×List Nat)):Prop:=Lst eSet (λp:Value×List Nat=>p.1) SetEl lo n h v L
abbrev Ints(lo n:Nat)(h:zB)(v:Value)(L:List (Value×List Int)):Prop:=Lst yX (λp:Value×List Int=>p.1) IntEl lo n h v L
theorem SetEl.kx{e lo n n':Nat}{h h':zB}{p:Value×List Nat}(s:SetEl lo n h p)(k:Kx e h n h' n')(eJ:tU≠e):SetEl lo n' h' p:=⟨s.1,s.2.kx k (.inl eJ)⟩
theorem IntEl.kx{e lo n n':Nat}{h h':zB}{p:Value×List Int}(s:IntEl lo n h p)(k:Kx e h n h' n')(eJ:vR≠e):IntEl lo n' h' p:=Own.kx s k (.inl eJ)
theorem yH{e lo n n':Nat}{h h':zB}{v:Value}{L:List (Value×List Nat)}(o:Sets lo n h v L)(k:Kx e h n h' n')(h1:eSet≠e)(h2:tU≠e):Sets lo n' h' v L:=o.kx k h1 λ_ s=>SetEl.kx s k h2
theorem vB{e lo n n':Nat}{h h':zB}{v:Value}{L:List (Value×List Int)}(o:Ints lo n h v L)(k:Kx e h n h' n')(h1:yX≠e)(h2:vR≠e):Ints lo n' h' v L:=o.kx k h1 λ_ s=>IntEl.kx s k h2
def LapW(ps:List Pl)(j:Nat)(ws:List Nat):Prop:=∀k,vY ws k=match ps[j]?,ps[k]? with|some a,some b=>sU a b|_,_=>false
variable {lo bt n:Nat} {h:zB} {psv:Value} {ps:List Pl} {x0 x1 x2 x3 x4 x5 x6 x7 x8 x10 x11 x12 x14 x15 x16 x17 x18 x19 x20:Value}
theorem lapping_com(hc:Cel h bt zTb 0 [x0,x1,x2,x3,x4,x5,x6,x7,x8,psv,x10,x11,x12,.slice none 0 0,x14,x15,x16,x17,x18,x19,x20])(hb:bt<n)(op:Own lo n h psv ePl 3 ps.length (ps.flatMap plC))(eE:lo<=n)(hl:ps.length<=200)(fO:∀p∈ps,PlG p):Com P 8 42 [ptr bt 0] h n λo h' n'=>o = .ret (.tuple #[])/\Tch [bt] h n h' n'/\∃lv L,Cel h' bt zTb 0 [x0,x1,x2,x3,x4,x5,x6,x7,x8,psv,x10,x11,x12,lv,x14,x15,x16,x17,x18,x19,x20]/\Sets n n' h' lv L/\L.length=ps.length/\∀(j:Nat) p,L[j]? = some p->LapW ps j p.2:=by
 have eM:inf<4611686018427387904:=by decide
 have iH:1000000<=inf:=by decide
 have hpb:=yK hc op;have rp:=op.row qK;refine ent λu=>?_;repeat' first|refine wk ?_|apply cX <;> intro
 refine lpR (λi:Nat=>[(0,ptr bt 0),(10,psv),(11,I64 ps.length),(12,I64 i)]) (λi h' n'=>Tch [bt] h n h' n'/\i<=ps.length/\∃lv L,Cel h' bt zTb 0 [x0,x1,x2,x3,x4,x5,x6,x7,x8,psv,x10,x11,x12,lv,x14,x15,x16,x17,x18,x19,x20]/\Sets n n' h' lv L/\L.length=i/\∀(j:Nat) p,L[j]? = some p->LapW ps j p.2) (λi=>ps.length - i) 0 ⟨zA,an _,_,[],hc,Lst.nil,rfl,λj p e=>by cases e⟩ ?_;clear rp
 rintro i t h' n' ⟨ht,hi,lv,L,fE,hS,iy,hL⟩
 have eP:=ht.le;have op':=op.tch ht (yW hpb);have rp':=op'.row qK;by_cases eD:i<ps.length
 . have c0:ps[i]? = some ps[i]:=aa eD;generalize ps[i]=p at c0
   have c1:=zM rp' c0;have gK:=ae c0;have gA:=rp'.low qJ;repeat' first|refine wk ?_|apply cX <;> intro
   refine lpR (α :=Nat×Value×List Int) (λa=>[(0,ptr bt 0),(3,ptr n' 0),(4,a.2.1),(10,psv),(11,I64 ps.length),(12,I64 i),(19,psv),(20,I64 ps.length),(21,I64 a.1)]) (λa h2 n2=>Tch [] h' n' h2 n2/\n'<n2/\Cel h2 n' (ePl+1) 0 (plC p)/\a.1<=ps.length/\Own n' n2 h2 a.2.1 vR 1 a.2.2.length (a.2.2.map I64)/\a.2.2.length<=a.1/\∀k:Nat,((k:Nat):Int)∈a.2.2↔k<a.1/\∃q,ps[k]? = some q/\sU p q=true) (λa=>ps.length - a.1) (0,.slice none 0 0,[]) ⟨zA,by omega,zC,an _,Own.nil,ad _,λk=>⟨λh=>(by cases h),λh=>by omega⟩⟩ ?_
   rintro ⟨q,v4,l4⟩ t h2 n2 ⟨ht2,hn2,hcp,hq,ho,gY,fe⟩
   dsimp only at hq ho gY fe ⊢;have op2:=op'.tch ht2 qL;have rp2:=op2.row qK;by_cases eK:q<ps.length
   . have d0:ps[q]? = some ps[q]:=aa eK;generalize ps[q]=y at d0
     have d1:=zM rp2 d0;have hym:=ae d0;have mn:=rp2.low qJ;repeat' first|refine wk ?_|refine cX (λ_=>?_) λ_=>?_|refine zS (lap_pur _ _ (fO p gK).ok (fO y hym).ok _ _) ?_|fail
     . rename_i f1;refine appO (ho.tch (S:=[]) zA qL) (zF (e:=vR) (sz:=1) (len:=1) rfl qK) qJ  ⟨rfl,trivial⟩ qJ  ?_
       rintro v5 h5 n5 ho5 ht5
       have fA:=ht5.le;have ht6:Tch [] h' n' h5 n5:=Tch.tch ht5 zA λx hx=>.inl (zQ ho x hx);have hcp5:Cel h5 n' (ePl+1) 0 (plC p):=Cel.app (hcp.tch (S:=[]) zA qJ qL) (ho.tch (S:=[]) zA qL) ht5 qJ;repeat' first|refine wk ?_|apply cX <;> intro
       exact rnd ((q+1,v5,l4++[((q:Nat):Int)])) ⟨ht6,by omega,hcp5,by dsimp only;omega,by dsimp only;rw [ah,aC];exact ho5,by dsimp only;rw [ah];simp;omega,λk=>by
        dsimp only;rw [aA,fe k];refine⟨λh9=>?_,λ⟨h9,z,e,e2⟩=>?_⟩
        . rcases h9 with⟨h9,h8⟩|h9
          . exact⟨by omega,h8⟩
          . simp at h9;have h9:k=q:=by omega
            subst h9;exact⟨be _,y,d0,f1⟩
        . rcases ai.1 h9 with h9|rfl
          . exact .inl ⟨h9,z,e,e2⟩
          . exact .inr qL⟩
     . rename_i f1
       exact rnd (q+1,v4,l4) ⟨zA,by omega,zC,by dsimp only;omega,ho.tch (S:=[]) zA qL,by dsimp only;omega,λk=>by
        dsimp only;rw [fe k];refine⟨λ⟨h9,h8⟩=>⟨by omega,h8⟩,λ⟨h9,z,e,e2⟩=>?_⟩;rcases ai.1 h9 with h9|rfl
        . exact⟨h9,z,e,e2⟩
        . rw[d0]at e;cases e;rw [f1]at e2;cases e2⟩
   . obtain rfl:q=ps.length:=by omega
     have hcb:Cel h2 bt zTb 0 [x0,x1,x2,x3,x4,x5,x6,x7,x8,psv,x10,x11,x12,lv,x14,x15,x16,x17,x18,x19,x20]:=zC;have lrow:=hS.1.row qK;have lone:=hS.1.one;have o4:=ho.one;have tq:Tch [] h' n' h2 n2:=ht2;repeat' first|refine wk ?_|apply cX <;> intro
     refine yG (of_ret (ho.row qK) qJ qJ) ?_
     rintro _ h5 n5 ⟨wv,ws,rfl,hsw,jb,kw,t5⟩
     have fA:=t5.le;have wone:=kw.one;have tq5:Tch [] h' n' h5 n5:=Tch.tch t5 tq qL;have hS5:=yH (e:=yX) hS tq5.kx qK qK;have kq:=hcb.tch t5 qJ qL;clear hcp ht2 op2 rp2 t5 tq;have gR:∀x,Sets n (n5+1) (hal h5 n5 x) lv L:=λx=>yH (e:=yX) hS5 (Tch.kx (zA:Tch [] h5 n5 (hal h5 n5 x) (n5+1))) qK qK;repeat' first|refine wk ?_|apply cX <;> intro
     refine appN (gR _).1 (zF (e:=eSet) (sz:=1) (len:=1) rfl qK) qK  ⟨wone,trivial⟩ qJ  ?_
     rintro v6 h6 n6 o6 t6
     have fV:=t6.le;have o6o:=o6.one;have hcb6:=Cel.app (Cel.tch (S:=[]) kq zA qJ qL) (gR _).1 t6 qJ;have kx6:Kx eSet _ _ h6 n6:=kx_own (gR _).1 t6;have hS6:Sets n n6 h6 v6 (L++[(wv,ws)]):=Lst.app (gR _) o6 qJ  (λy s=>SetEl.kx s kx6 qK) (SetEl.kx (n:=n5+1) (h:=hal h5 n5 _) ⟨hsw,Kep.kx (Kep.dnl kw qJ) (Tch.kx (e:=yX) (zA:Tch [] h5 n5 _ _)) (.inl qK)⟩ kx6 qK);have tb5:Tch [bt] h n h5 n5:=Tch.tch tq5 ht qL;have tz6:Tch [bt] h n h6 n6:=Tch.tch t6 (zA:Tch [bt] h n (hal h5 n5 _) (n5+1)) λx hx=>.inl (zQ (gR (mkC [wv] 0 0)).1 x hx);clear gR hS5 tq5 tb5 t6;repeat' first|refine wk ?_|apply cX <;> intro
     have tS:Tch [bt] h6 n6 (hst h6 bt (0+13) [v6]) n6:=zA;have kS:Kx yX h6 n6 (hst h6 bt (0+13) [v6]) n6:=kx_cel hcb6 tS
     exact rnd (i+1) ⟨zA,by omega,v6,L++[(wv,ws)],zC,yH hS6 kS qK qK,by rw[ah,iy];rfl,λj r e=>by
      rcases aS j L.length with h9|h9
      . rw[az h9]at e;exact hL j r e
      . rw[ax h9]at e
        have h8:j - L.length=0:=by
         rcases bK (j - L.length) with h8|h8
         . exact h8
         . rw[aw qM]at e;cases e
        rw[h8]at e;cases e
        obtain rfl:j=i:=by omega
        intro k;rw [c0];have h7:=jb k;rw [fe k]at h7
        cases e9:ps[k]? with
        | none =>
         show vY ws k=false
         cases e8:vY ws k with
         | false=>rfl
         | true=>
          obtain⟨⟨_,z,e7,_⟩,_⟩:=h7.1 e8;rw [e9]at e7;cases e7
        | some z=>
         show vY ws k=sU p z;have hk:=(ab.1 e9).1;refine bL.2 (h7.trans ⟨λ⟨⟨_,z',e7,e6⟩,_⟩=>?_,λe7=>⟨⟨hk,z,e9,e7⟩,by omega⟩⟩);rw [e9]at e7;cases e7;exact e6⟩
 . obtain rfl:i=ps.length:=by omega
   repeat' first|refine wk ?_|apply cX <;> intro
   exact⟨rfl,ht,lv,L,fE,hS,iy,hL⟩
end
section
attribute [local simp] zY
theorem idxf_int{lo e n:Nat}{h:zB}{sv:Value}{l:List Int}{g:FuncId}{fs cs:List Value}{p:Int->Bool}(r:Row lo h sv e 1 l.length (l.map I64))(hl:l.length<inf)(hp:∀x∈l,Pur P 8 g (fs++([I64 x]++cs)) h n (.bool (p x))):Pur P 8 158 [sv,.func (.func g) ⟨fs⟩ ⟨cs⟩] h n (I64 (posF p l)):=by
 have eM:inf<4611686018427387904:=by decide
 refine ent λu=>?_;repeat' first|refine wk ?_|apply cX <;> intro
 refine lpR (λk:Nat=>[(0,sv),(1,.func (.func g) ⟨fs⟩ ⟨cs⟩),(7,I64 l.length),(8,I64 k)]) (λk h' n'=>h'=h/\n'=n/\k<=l.length/\∀(j:Nat) y,j<k->l[j]? = some y->p y=false) (λk=>l.length - k) 0 ⟨rfl,rfl,an _,λj y hj=>by omega⟩ ?_
 rintro k t h' n' ⟨rfl,rfl,hk,eG⟩
 by_cases eD:k<l.length
 . have c0:l[k]? = some l[k]:=aa eD;have c1:=yE r c0;have c2:=hp l[k] (aM eD);repeat' first|refine wk ?_|refine cX (λ_=>?_) λ_=>?_|refine zS c2 ?_|fail
   . rename_i e1;exact fin (by rw[posF_hit c0 e1 eG])
   . rename_i e1
     exact rnd (k+1) ⟨rfl,rfl,by omega,λj y hj e2=>by
      rcases ai.1 hj with h9|rfl
      . exact eG j y h9 e2
      . rw[c0]at e2;cases e2;exact e1⟩
 . obtain rfl:k=l.length:=by omega
   repeat' first|refine wk ?_|apply cX <;> intro
   exact fin (by rw[posF_no λj y hj=>eG j y (ab.1 hj).1 hj])
theorem contf_int{lo e n:Nat}{h:zB}{sv:Value}{l:List Int}{g:FuncId}{fs cs:List Value}{p:Int->Bool}(r:Row lo h sv e 1 l.length (l.map I64))(hl:l.length<inf)(hp:∀x∈l,Pur P 8 g (fs++([I64 x]++cs)) h n (.bool (p x))):Pur P 8 97 [sv,.func (.func g) ⟨fs⟩ ⟨cs⟩] h n (.bool (l.any p)):=by
 refine ent λu=>?_;repeat' first|refine wk ?_|refine cX (λ_=>?_) λ_=>?_|refine zS (idxf_int r hl hp) ?_|fail
 exact fin (by rw[show decide (0<=posF p l)=l.any p from by cases h9:l.any p with
  | true=>exact decide_eq_true (posF_ge.2 h9)
  | false=>exact decide_eq_false λh=>by rw[posF_ge.1 h]at h9;cases h9])
variable {lo bt n:Nat} {h:zB} {psv sav:Value} {ps:List Pl} {sl:List Int} {x0 x1 x2 x3 x4 x5 x6 x7 x8 x10 x11 x12 x13 x14 x15 x16 x17 x18 x19 x20:Value}
def wAt(ps:List Pl)(p:Pl)(s:Int):Bool:=match ps[s.toNat]? with|some q=>withinB p q|none=>false
def surB(ps:List Pl)(sl:List Int)(p:Pl):Bool:=sl.any (wAt ps p)
theorem surv1_pur{pc tc:Nat}{a b:Pl}{s:Nat}(hc:Cel h bt zTb 0 [x0,x1,x2,x3,x4,x5,x6,x7,x8,psv,x10,x11,x12,x13,x14,x15,x16,sav,x18,x19,x20])(rp:Row n h psv ePl 3 ps.length (ps.flatMap plC))(ha:PlOK a)(hb:PlOK b)(hs:ps[s]? = some b)(hl:ps.length<=200)(c1:Cel h pc (ePl+1) 0 (plC a))(c2:zD h tc 0=some (ptr bt 0))(h1:bt<n)(h2:pc<n)(h3:tc<n):Pur P 8 95 [I64 (s:Nat),ptr pc 0,ptr tc 0] h n (.bool (withinB a b)):=by
 have r1:=zM rp hs;have fB:=(ab.1 hs).1;have gA:=rp.low qJ;refine Com.pure (ent λu=>?_) (.inl rfl);repeat' first|refine wk ?_|refine cX (λ_=>?_) λ_=>?_|refine zS (within_pur _ _ ha hb _ _) ?_|fail
 exact finT rfl zA
abbrev zPt:Nat:=34+1
theorem surviving_com(hc:Cel h bt zTb 0 [x0,x1,x2,x3,x4,x5,x6,x7,x8,psv,x10,x11,x12,x13,x14,x15,x16,x17,sav,x19,x20])(hb:bt<n)(op:Own lo n h psv ePl 3 ps.length (ps.flatMap plC))(os:Own lo n h sav vR 1 sl.length (sl.map I64))(eE:lo<=n)(hl:ps.length<=200)(fB:sl.length<=200)(fO:∀p∈ps,PlG p)(hs:∀s∈sl,∃k:Nat,s=(k:Nat)/\k<ps.length):Com P 8 44 [ptr bt 0] h n λo h' n'=>o = .ret (.tuple #[])/\Tch [bt] h n h' n'/\∃kv ws,Cel h' bt zTb 0 [x0,x1,x2,x3,x4,x5,x6,x7,x8,psv,x10,x11,x12,x13,x14,x15,x16,x17,sav,x19,kv]/\SetEl n n' h' (kv,ws)/\∀k:Nat,vY ws k=match ps[k]? with|some p=>surB ps sl p|none=>false:=by
 have eM:inf<4611686018427387904:=by decide
 have iH:1000000<=inf:=by decide
 have rp:=op.row qK;have rs:=os.row qK;refine ent λu=>?_;repeat' first|refine wk ?_|apply cX <;> intro
 refine lpR (α :=Nat×Value×List Int) (λa=>[(1,ptr n 0),(2,a.2.1),(9,psv),(10,I64 ps.length),(11,I64 a.1)]) (λa h2 n2=>Tch [] h n h2 n2/\n<n2/\Cel h2 n zPt 0 [ptr bt 0]/\a.1<=ps.length/\Own n n2 h2 a.2.1 vR 1 a.2.2.length (a.2.2.map I64)/\a.2.2.length<=a.1/\∀k:Nat,((k:Nat):Int)∈a.2.2↔k<a.1/\∃p,ps[k]? = some p/\surB ps sl p=true) (λa=>ps.length - a.1) (0,.slice none 0 0,[]) ⟨zA,by omega,zC,an _,Own.nil,ad _,λk=>⟨λh=>(by cases h),λh=>by omega⟩⟩ ?_
 rintro ⟨q,v4,l4⟩ t h2 n2 ⟨ht2,hn2,hcp,hq,ho,gY,fe⟩
 dsimp only at hq ho gY fe ⊢;have op2:=op.tch ht2 qL;have os2:=os.tch ht2 qL;have rp2:=op2.row qK;have rs2:=os2.row qK;have hc2:=hc.tch ht2 hb qL;by_cases eK:q<ps.length
 . have d0:ps[q]? = some ps[q]:=aa eK;generalize ps[q]=y at d0
   have d1:=zM rp2 d0;have hym:=ae d0;have mn:=rp2.low qJ;have kA:Cel (hst (hal h2 n2 (mkC [I64 0,I64 0,I64 0] (ePl+1) 0)) n2 0 (plC y)) bt zTb 0 [x0,x1,x2,x3,x4,x5,x6,x7,x8,psv,x10,x11,x12,x13,x14,x15,x16,x17,sav,x19,x20]:=zC;have kB:Cel (hst (hal h2 n2 (mkC [I64 0,I64 0,I64 0] (ePl+1) 0)) n2 0 (plC y)) n2 (ePl+1) 0 (plC y):=zC;have kC:zD (hst (hal h2 n2 (mkC [I64 0,I64 0,I64 0] (ePl+1) 0)) n2 0 (plC y)) n 0=some (ptr bt 0):=zJ
   have hp9:∀x∈sl,Pur P 8 95 ([]++([I64 x]++[ptr n2 0,ptr n 0])) (hst (hal h2 n2 (mkC [I64 0,I64 0,I64 0] (ePl+1) 0)) n2 0 (plC y)) (n2+1) (.bool (wAt ps y x)):=λx hx=>by
    obtain⟨k,rfl,hk⟩:=hs x hx;have e0:ps[k]? = some ps[k]:=aa hk;have e1:ps[((k:Nat):Int).toNat]? = some ps[k]:=e0;unfold wAt;rw [e1];exact surv1_pur kA ((op2.tch (S:=[]) zA qL).row qK) (fO y hym).ok (fO _ (aM hk)).ok e0 hl kB kC qJ qJ qJ 
   repeat' first|refine wk ?_|refine cX (λ_=>?_) λ_=>?_|refine zS (show Pur P 8 _ _ _ _ (.bool (surB ps sl y)) from contf_int (p:=wAt ps y) ((os2.tch (S:=[]) zA qL).row qK) qJ  hp9) ?_|fail
   . rename_i f1;refine appO (ho.tch (S:=[]) zA qL) (zF (e:=vR) (sz:=1) (len:=1) rfl qK) qJ  ⟨rfl,trivial⟩ qJ  ?_
     rintro v5 h5 n5 ho5 ht5
     have fA:=ht5.le;have ht6:Tch [] h n h5 n5:=Tch.tch ht5 zA λx hx=>.inl (zQ ho x hx);have hcp5:Cel h5 n zPt 0 [ptr bt 0]:=Cel.app (hcp.tch (S:=[]) zA qJ qL) (ho.tch (S:=[]) zA qL) ht5 qJ;repeat' first|refine wk ?_|apply cX <;> intro
     exact rnd ((q+1,v5,l4++[((q:Nat):Int)])) ⟨ht6,by omega,hcp5,by dsimp only;omega,by dsimp only;rw [ah,aC];exact ho5,by dsimp only;rw [ah];simp;omega,λk=>by
      dsimp only;rw [aA,fe k];refine⟨λh9=>?_,λ⟨h9,z,e,e2⟩=>?_⟩
      . rcases h9 with⟨h9,h8⟩|h9
        . exact⟨by omega,h8⟩
        . simp at h9;have h9:k=q:=by omega
          subst h9;exact⟨be _,y,d0,f1⟩
      . rcases ai.1 h9 with h9|rfl
        . exact .inl ⟨h9,z,e,e2⟩
        . exact .inr qL⟩
   . rename_i f1
     exact rnd (q+1,v4,l4) ⟨zA,by omega,zC,by dsimp only;omega,ho.tch (S:=[]) zA qL,by dsimp only;omega,λk=>by
      dsimp only;rw [fe k];refine⟨λ⟨h9,h8⟩=>⟨by omega,h8⟩,λ⟨h9,z,e,e2⟩=>?_⟩;rcases ai.1 h9 with h9|rfl
      . exact⟨h9,z,e,e2⟩
      . rw[d0]at e;cases e;rw [f1]at e2;cases e2⟩
 . obtain rfl:q=ps.length:=by omega
   have o4:=ho.one;repeat' first|refine wk ?_|apply cX <;> intro
   refine yG (of_ret (ho.row qK) qJ qJ) ?_
   rintro _ h5 n5 ⟨wv,ws,rfl,hsw,jb,kw,t5⟩
   have fA:=t5.le;have wone:=kw.one;have hc5:=hc2.tch t5 qJ qL;have hcp5:=hcp.tch t5 qJ qL;repeat' first|refine wk ?_|apply cX <;> intro
   have tb5:Tch [] h n h5 n5:=Tch.tch t5 ht2 qL;have tS:Tch [bt] h5 n5 (hst h5 bt (0+20) [wv]) n5:=zA;have kS:Kx yX h5 n5 (hst h5 bt (0+20) [wv]) n5:=kx_cel hc5 tS;have tbb:Tch [bt] h n (hst h5 bt (0+20) [wv]) n5:=zA
   exact⟨rfl,tbb,wv,ws,zC,SetEl.kx ⟨hsw,kw.dnl qJ⟩ kS qK,λk=>by
    have h7:=jb k;rw [fe k]at h7
    cases e9:ps[k]? with
    | none =>
     show vY ws k=false
     cases e8:vY ws k with
     | false=>rfl
     | true=>
      obtain⟨⟨_,z,e7,_⟩,_⟩:=h7.1 e8;rw [e9]at e7;cases e7
    | some z=>
     show vY ws k=surB ps sl z;have hk:=(ab.1 e9).1;refine bL.2 (h7.trans ⟨λ⟨⟨_,z',e7,e6⟩,_⟩=>?_,λe7=>⟨⟨hk,z,e9,e7⟩,by omega⟩⟩);rw [e9]at e7;cases e7;exact e6⟩
end
section
attribute [local simp] zY
theorem celE{lo n b z:Nat}{h:zB}{v:Value}{e sz len:Nat}{vs ws:List Value}(c:Cel h b z 0 ws)(h0:0<ws.length)(o:OwnE lo n h v e sz len vs):∀b',zH v=some b'->b'∉[b]:=λb' hb hx=>by
 simp at hx;subst hx;rcases o with o|⟨⟨b1,z',kd,_,_,rfl,q3,_⟩,_,_⟩
 . exact yK c o (by rw[hb];simp)
 . injection hb with hb
   have hb:b1=b':=hb;subst hb;rw [c.1]at q3;injection q3 with q3
   injection q3 with q3 _
   omega
theorem wJ{lo n n' bt z:Nat}{h h':zB}{cs:List Value}{v:Value}{L:List (Value×List Nat)}(o:Sets lo n h v L)(c:Cel h bt z 0 cs)(t:Tch [bt] h n h' n'):Sets lo n' h' v L:=yH (e:=yX) o (kx_cel c t) qK qK 
theorem uR{lo n n' bt z:Nat}{h h':zB}{cs:List Value}{v:Value}{L:List (Value×List Int)}(o:Ints lo n h v L)(c:Cel h bt z 0 cs)(t:Tch [bt] h n h' n'):Ints lo n' h' v L:=vB (e:=eSets) o (kx_cel c t) qK qK 
theorem own_slv{lo n:Nat}{h:zB}{v:Value}{e sz len:Nat}{vs:List Value}(o:Own lo n h v e sz len vs):∃a b c,v = .slice a b c:=by
 rcases o with⟨rfl,_⟩|⟨b,_,_,rfl,_⟩ <;> exact⟨_,_,_,rfl⟩
structure Opd (lo n:Nat) (h:zB) (rb cb:Nat) (osv lapv inv:Value) (os:List OpT) (ns cns:List Tx) (L I:List (Value×List Nat)):Prop where
 ops:OwnE lo n h osv eOp 6 os.length (os.flatMap opC)
 ru:∀o∈os,OwnE lo n h o.usv eOpr 2 o.uses.length (o.uses.flatMap oprC)
 rc:∀o∈os,OwnE lo n h o.csv qI 1 o.clob.length (o.clob.map str)
 mr:MpS h rb (numL ns)
 mc:MpS h cb (numL cns)
 hb:rb<n/\cb<n
 lap:Sets lo n h lapv L
 ins:Sets lo n h inv I
section
variable {lo n n' rb cb:Nat} {h h':zB} {osv lapv inv:Value} {os:List OpT} {ns cns:List Tx} {L I:List (Value×List Nat)}
theorem Opd.tchB{bt z:Nat}{cs:List Value}(k:Opd lo n h rb cb osv lapv inv os ns cns L I)(c:Cel h bt z 0 cs)(h0:0<cs.length)(t:Tch [bt] h n h' n'):Opd lo n' h' rb cb osv lapv inv os ns cns L I:=by
 obtain⟨b1,b2⟩:=k.hb;have:=t.le;exact⟨k.ops.tch t (celE c h0 k.ops),λo ho=>(k.ru o ho).tch t (celE c h0 (k.ru o ho)),λo ho=>(k.rc o ho).tch t (celE c h0 (k.rc o ho)),k.mr.tch t b1 (by simpa using xH k.mr c),k.mc.tch t b2 (by simpa using xH k.mc c),⟨by omega,by omega⟩,wJ k.lap c t,wJ k.ins c t⟩
theorem Opd.tchN(k:Opd lo n h rb cb osv lapv inv os ns cns L I)(t:Tch [] h n h' n'):Opd lo n' h' rb cb osv lapv inv os ns cns L I:=by
 obtain⟨b1,b2⟩:=k.hb;have:=t.le;exact⟨k.ops.tch t qL,λo ho=>(k.ru o ho).tch t qL,λo ho=>(k.rc o ho).tch t qL,k.mr.tch t b1 qL,k.mc.tch t b2 qL,⟨by omega,by omega⟩,yH (e:=yX) k.lap t.kx qK qK,yH (e:=yX) k.ins t.kx qK qK⟩
theorem Opd.own{e lo' len:Nat}{v':Value}{vs:List Value}(k:Opd lo n h rb cb osv lapv inv os ns cns L I)(o:Own lo' n h v' e 1 len vs)(t:Tch (zH v').toList h n h' n')(h1:eOp≠e)(h2:eOpr≠e)(h3:qI≠e)(h4:eSet≠e)(h5:tU≠e):Opd lo n' h' rb cb osv lapv inv os ns cns L I:=by
 obtain⟨b1,b2⟩:=k.hb;have:=t.le;exact⟨k.ops.tch t (tP k.ops o (.inl h1) qK).no,λx hx=>(k.ru x hx).tch t (tP (k.ru x hx) o (.inl h2) qK).no,λx hx=>(k.rc x hx).tch t (tP (k.rc x hx) o (.inl h3) qK).no,k.mr.tch t b1 (rO k.mr o),k.mc.tch t b2 (rO k.mc o),⟨by omega,by omega⟩,yH k.lap (kx_own o t) h4 h5,yH k.ins (kx_own o t) h4 h5⟩
end
structure OpdOK (ns cns:List Tx) (o:OpT):Prop where
 len:o.uses.length=1\/o.uses.length=2
 cl:∀x∈o.d::o.uses,x.cls∈cns/\(x.fix=[]\/x.fix∈ns)
 cb:∀r∈o.clob,r∈ns
 cbl:o.clob.length<=200
def memI(L:List (Value×List Nat))(i r:Nat):Bool:=match L[i]? with|some p=>vY p.2 r|none=>false
def mayF(L I:List (Value×List Nat))(ns cns:List Tx)(o:OpT)(k:Nat)(x:OperT)(r:Nat):Bool:=(if x.fix=[] then memI I (cns.idxOf x.cls) r else decide (r=ns.idxOf x.fix)) && !(decide (k=0) && o.clob.any λc=>memI L (ns.idxOf c) r)
def basF(I:List (Value×List Nat))(ns cns:List Tx)(x:OperT)(r:Nat):Bool:=if x.fix=[] then memI I (cns.idxOf x.cls) r else decide (r=ns.idxOf x.fix)
theorem lkN{h:zB}{b:Nat}{ns:List Tx}{x:Tx}(m:MpS h b (numL ns))(hn:ns.Nodup)(hx:x∈ns):xG P h 99 (.map (some b)) (str x) false=some (I64 (ns.idxOf x:Nat)):=by
 obtain⟨A,B,e1,e2⟩:=uO (idx_at hx) hn;rw [e1]at m;exact lku_at (P:=P) (ty:=99) (ok:=false) m e2
abbrev MayEl(lo n:Nat)(h:zB)(p:Value×List (Value×List Nat)):Prop:=Sets lo n h p.1 p.2
abbrev Mays(lo n:Nat)(h:zB)(v:Value)(M:List (Value×List (Value×List Nat))):Prop:=Lst eSets (λp:Value×List (Value×List Nat)=>p.1) MayEl lo n h v M
variable {lo n bt rb cb:Nat} {h:zB} {osv lapv inv:Value} {os:List OpT} {ns cns:List Tx} {L I:List (Value×List Nat)} {x0 x1 x2 x4 x5 x6 x7 x8 x9 x12 x14 x18 x19 x20:Value}
theorem operands_com(k:Opd lo n h rb cb osv lapv inv os ns cns L I)(hc:Cel h bt zTb 0 [x0,x1,x2,osv,x4,x5,x6,x7,x8,x9,.map (some rb),.map (some cb),x12,lapv,x14,inv,.slice none 0 0,.slice none 0 0,x18,x19,x20])(l7:bt<n)(eE:lo<=n)(gf:ns.Nodup)(ku:cns.Nodup)(iy:L.length=ns.length)(hIl:I.length=cns.length)(hn2:ns.length<=200)(gI:os.length<=64)(ho:∀o∈os,OpdOK ns cns o):Com P 8 43 [ptr bt 0] h n λo h' n'=>o = .ret (.tuple #[])/\Tch [bt] h n h' n'/\∃mv M cv C,Cel h' bt zTb 0 [x0,x1,x2,osv,x4,x5,x6,x7,x8,x9,.map (some rb),.map (some cb),x12,lapv,x14,inv,mv,cv,x18,x19,x20]/\Mays lo n' h' mv M/\Ints n n' h' cv C/\M.length=os.length/\C.length=os.length/\∀(j:Nat) o,os[j]? = some o->(∃cv',C[j]? = some (cv',o.clob.map λr=>((ns.idxOf r:Nat):Int)))/\∃sv S,M[j]? = some (sv,S)/\S.length=(o.d::o.uses).length/\∀(k:Nat) x p,(o.d::o.uses)[k]? = some x->S[k]? = some p->∀r,vY p.2 r=mayF L I ns cns o k x r:=by
 have eM:inf<4611686018427387904:=by decide
 have iH:1000000<=inf:=by decide
 have orow:=k.ops.row qK;refine ent λu=>?_;repeat' first|refine wk ?_|apply cX <;> intro
 refine lpR (λi:Nat=>[(0,ptr bt 0),(14,osv),(15,I64 os.length),(16,I64 i)]) (λi h' n'=>Tch [bt] h n h' n'/\i<=os.length/\∃mv M cv C,Cel h' bt zTb 0 [x0,x1,x2,osv,x4,x5,x6,x7,x8,x9,.map (some rb),.map (some cb),x12,lapv,x14,inv,mv,cv,x18,x19,x20]/\Mays lo n' h' mv M/\(∀b∈(zH mv).toList,n<=b)/\Ints n n' h' cv C/\M.length=i/\C.length=i/\∀(j:Nat) o,j<i->os[j]? = some o->(∃cv',C[j]? = some (cv',o.clob.map λr=>((ns.idxOf r:Nat):Int)))/\∃sv S,M[j]? = some (sv,S)/\S.length=(o.d::o.uses).length/\∀(k:Nat) x p,(o.d::o.uses)[k]? = some x->S[k]? = some p->∀r,vY p.2 r=mayF L I ns cns o k x r) (λi=>os.length - i) 0 ⟨zA,an _,_,[],_,[],hc,Lst.nil,λb hb=>(by cases hb),Lst.nil,rfl,rfl,λj o hj=>by omega⟩ ?_;clear orow
 rintro i t h' n' ⟨ht,hi,mv,M,cv,C,fE,hM,hMb,hC,hMl,hCl,eH⟩
 have eP:=ht.le;have k':=Opd.tchB k hc qL  ht;obtain⟨hrb,hcb⟩:=k'.hb;have orow:=k'.ops.row qK;by_cases eD:i<os.length
 . have c0:os[i]? = some os[i]:=aa eD;generalize os[i]=o at c0
   have c1:=zM orow c0;have ft:=ae c0;have hok:=ho o ft;have gA:=orow.low qJ;have ou1:=xF (k'.ru o ft);have oc1:=xF (k'.rc o ft);have urow:=(k'.ru o ft).row qK;have crow:=(k'.rc o ft).row qK;have mrow:=hM.1.row qK;have vrow:=hC.1.row qK;have kA:Cel (hst (hal h' n' (mkC [str [],str [],str [],.slice none 0 0,I64 0,.slice none 0 0] (eOp+1) 0)) n' 0 (opC o)) bt zTb 0 [x0,x1,x2,osv,x4,x5,x6,x7,x8,x9,.map (some rb),.map (some cb),x12,lapv,x14,inv,mv,cv,x18,x19,x20]:=zC;repeat' first|refine wk ?_|apply cX <;> intro
   refine yG (vJ (e:=qI) (br:=rb) (ns:=ns) (crow.tch (S:=[]) zA (ad _) qL) qJ  (by have:=hok.cbl;omega) qJ qJ  (kA.cell rfl) ((k'.mr).tch (S:=[]) zA hrb qL) gf hok.cb) ?_
   rintro v2 h2 n2 ⟨w2,t2⟩
   have ii:=t2.le;obtain⟨s1,s2,s3,rfl⟩:=own_slv w2;have kB:=kA.tch t2 qJ qL;have cO:Cel h2 n' (eOp+1) 0 (opC o):=zC;have tA:Tch [] h' n' h2 n2:=zA;clear t2 kA;have jI:∀x,Ints n (n2+1) (hal h2 n2 x) cv C:=λx=>vB (e:=eSets) hC (Tch.kx (zA:Tch [] h' n' (hal h2 n2 x) (n2+1))) qK qK;repeat' first|refine wk ?_|apply cX <;> intro
   refine appN (jI _).1 (zF (e:=yX) (sz:=1) (len:=1) rfl qK) qK  ⟨rfl,trivial⟩ qJ  ?_
   rintro v3 h3 n3 w3 t3
   have eS:=t3.le;have o3:=w3.one;have kx3:Kx yX _ _ h3 n3:=kx_own (jI _).1 t3;have kC:=Cel.app (Cel.tch (S:=[]) kB zA qJ qL) (jI _).1 t3 qJ;have cP:=Cel.app (Cel.tch (S:=[]) cO zA qJ qL) (jI _).1 t3 qJ 
   have hC3:Ints n n3 h3 v3 (C++[(.slice s1 s2 s3,o.clob.map λr=>((ns.idxOf r:Nat):Int))]):=Lst.app (jI _) w3 qJ  (λy s=>IntEl.kx s kx3 qK) (IntEl.kx (n:=n2+1) (h:=hal h2 n2 _) (show Own n (n2+1) (hal h2 n2 _) (.slice s1 s2 s3) vR 1 (o.clob.map λr=>((ns.idxOf r:Nat):Int)).length ((o.clob.map λr=>((ns.idxOf r:Nat):Int)).map I64) from by
    rw[cV,aD];exact Own.dnl (w2.tch (S:=[]) zA qL) qJ) kx3 qK)
   have tX3:Tch [] h' n' (hal h2 n2 (mkC [.slice s1 s2 s3] 0 0)) (n2+1):=zA;have kxM:Kx yX h' n' h3 n3:=Kx.trans (Tch.kx tX3) kx3;have hM3:Mays lo n3 h3 mv M:=Lst.kx hM kxM qK  λ_ s=>yH s kxM qK qK;have k3:Opd lo n3 h3 rb cb osv lapv inv os ns cns L I:=Opd.own (Opd.tchN k' tX3) (jI _).1 t3 qK qK qK qK qK;have fo:Tch [bt] h n h3 n3:=Tch.tch t3 (zA:Tch [bt] h n (hal h2 n2 (mkC [.slice s1 s2 s3] 0 0)) (n2+1)) λx hx=>.inl (zQ (jI (mkC [.slice s1 s2 s3] 0 0)).1 x hx);clear t3 cO tA jI tX3 kx3 kxM;have jY:=(k3.ru o ft).row qK;have lM:=(k3.rc o ft).row qK;repeat' first|refine wk ?_|apply cX <;> intro
   have jE:0<o.uses.length:=by have:=hok.len;omega
   refine uX (lo:=n3) (way_new (e:=eOpr) (sz:=2) (len:=1) (ad _) rfl qK) (λy hy=>by simp at hy;rcases hy with rfl|rfl <;> rfl) qJ  ((Row.tch jY (S:=[bt]) (by exact zA) qJ  (celE kC qL  (k3.ru o ft))).up qJ) jE (oprC_one _) (by have:=hok.len;omega) ?_
   rintro v4 h4 n4 w4 _ t4
   have fi:=t4.le;have tS:Tch [bt] h3 n3 (hst h3 bt (0+17) [v3]) n3:=zA
   have tY:Tch [] (hst h3 bt (0+17) [v3]) n3 h4 n4:=Tch.tch t4 (zA:Tch [] (hst h3 bt (0+17) [v3]) n3 (hal (hst h3 bt (0+17) [v3]) n3 (mkC [str o.d.cls,str o.d.fix] 0 0)) (n3+1)) λx hx=>.inl (by
    have hx:x∈(some n3).toList:=hx;simp at hx;omega)
   have k4:=Opd.tchN (Opd.tchB k3 kC qL  tS) tY;have kS:Kx eSet h3 n3 (hst h3 bt (0+17) [v3]) n3:=kx_cel kC tS;have hM4:Mays lo n4 h4 mv M:=Lst.kx (Lst.cel hM3 kC tS λ_ s=>wJ s kC tS) (Tch.kx (e:=yX) tY) qK  λ_ s=>yH (e:=yX) s tY.kx qK qK;have hC4:=vB (e:=eSets) (uR hC3 kC tS) tY.kx qK qK;have cT:Cel (hst h3 bt (0+17) [v3]) bt zTb 0 [x0,x1,x2,osv,x4,x5,x6,x7,x8,x9,.map (some rb),.map (some cb),x12,lapv,x14,inv,mv,v3,x18,x19,x20]:=zC;have c4:=cT.tch tY qJ qL;have cP4:Cel h4 n' (eOp+1) 0 (opC o):=(show Cel (hst h3 bt (0+17) [v3]) n' (eOp+1) 0 (opC o) from zC).tch tY qJ qL;have t04':Tch [bt] h n h4 n4:=Tch.tch tY (zA:Tch [bt] h n (hst h3 bt (0+17) [v3]) n3) qL 
   have xrow:Row n4 h4 v4 eOpr 2 (o.d::o.uses).length ((o.d::o.uses).flatMap oprC):=by
    have:=w4.row qK;rw [Nat.add_comm 1 o.uses.length]at this;exact this
   have jc:(o.d::o.uses).length<=3:=by have:=hok.len;simp;omega
   have hxs:=hok.cl;clear t4 tY tS kS cT w4 k3 hM3 hC3 jY lM kC kB cP fo hC hM k' orow urow crow mrow vrow fE;generalize hxe:o.d::o.uses=xs at xrow jc hxs
   repeat' first|refine wk ?_|apply cX <;> intro
   refine lpR (α :=Nat×Value×List (Value×List Nat)) (λa=>[(0,ptr bt 0),(3,ptr n' 0),(14,osv),(15,I64 os.length),(16,I64 i),(38,v4),(39,I64 xs.length),(40,I64 a.1),(4,a.2.1)]) (λa h5 n5=>Tch [] h4 n4 h5 n5/\a.1<=xs.length/\Sets lo n5 h5 a.2.1 a.2.2/\(∀b∈(zH a.2.1).toList,n4<=b)/\a.2.2.length=a.1/\∀(k:Nat) x p,k<a.1->xs[k]? = some x->a.2.2[k]? = some p->∀r,vY p.2 r=mayF L I ns cns o k x r) (λa=>xs.length - a.1) (0,.slice none 0 0,[]) ⟨zA,an _,Lst.nil,λb hb=>(by cases hb),rfl,λk x p hk=>by dsimp only at hk;omega⟩ ?_
   rintro ⟨q,v7,S⟩ t h5 n5 ⟨t5,hq,hS,hSb,hSl,hSe⟩
   dsimp only at hq hS hSb hSl hSe ⊢;have fA:=t5.le;have k5:=Opd.tchN k4 t5;obtain⟨hrb5,kq⟩:=k5.hb;have c5:=c4.tch t5 qJ qL;have cP5:=cP4.tch t5 qJ qL;have xrow5:=xrow.tch t5 (ad _) qL;by_cases hltq:q<xs.length
   . have d0:xs[q]? = some xs[q]:=aa hltq;generalize xs[q]=x at d0
     have d1:=zM xrow5 d0;have jU:=ae d0;obtain⟨hxc,hxf⟩:=hxs x jU;have hlow5:=xrow5.low qJ;have ilt:=bj.2 hxc;have irow:=k5.ins.1.row qK;have hI:I[cns.idxOf x.cls]? = some I[cns.idxOf x.cls]:=aa qJ;have hIe:=k5.ins.2 _ (aM (by omega:cns.idxOf x.cls<I.length));generalize I[cns.idxOf x.cls]=pI at hI hIe
     have yI:zD h5 (sbk inv) (sof inv+cns.idxOf x.cls*1)=some pI.1:=by rw[aQ];exact irow.at (by rw[ao,hI];rfl)
     have ilow:=irow.low qJ;have oI:=hIe.2.one;have lk1:xG P (hal (hst (hal h5 n5 (mkC [str [],str []] (eOpr+1) 0)) n5 0 [str x.cls,str x.fix]) (n5+1) (mkC [.slice none 0 0] (eSet+1) 0)) 99 (.map (some cb)) (str x.cls) false=some (I64 (cns.idxOf x.cls:Nat)):=lkN (k5.mc.tch (zA:Tch [] h5 n5 (hal (hst (hal h5 n5 (mkC [str [],str []] (eOpr+1) 0)) n5 0 [str x.cls,str x.fix]) (n5+1) (mkC [.slice none 0 0] (eSet+1) 0)) (n5+1+1)) kq qL) ku hxc;repeat' first|refine wk ?_|apply cX <;> intro
     . rename_i f1;have hxf:=hxf.resolve_left f1;have lD:xG P (hst (hal (hst (hal h5 n5 (mkC [str [],str []] (eOpr+1) 0)) n5 0 [str x.cls,str x.fix]) (n5+1) (mkC [.slice none 0 0] (eSet+1) 0)) (n5+1) 0 [pI.1]) 99 (.map (some rb)) (str x.fix) false=some (I64 (ns.idxOf x.fix:Nat)):=lkN (k5.mr.tch (zA:Tch [] h5 n5 (hst (hal (hst (hal h5 n5 (mkC [str [],str []] (eOpr+1) 0)) n5 0 [str x.cls,str x.fix]) (n5+1) (mkC [.slice none 0 0] (eSet+1) 0)) (n5+1) 0 [pI.1]) (n5+1+1)) hrb5 qL) gf hxf;repeat' first|refine wk ?_|apply cX <;> intro
       refine yG (of_ret (l:=[((ns.idxOf x.fix:Nat):Int)]) (zF (e:=vR) (sz:=1) (len:=1) rfl qK) (ad _) (by show 1<inf;decide)) ?_
       rintro _ h7 n7 ⟨wv,ws,rfl,hsw,gM,kw,t7⟩
       have ir:=t7.le;have oW:=kw.one;repeat' first|refine wk ?_|apply cX <;> intro
       have t6:Tch [] h5 n5 (hst h7 (n5+1) 0 [wv]) n7:=zA;have tS:Tch [n5+1] h7 n7 (hst h7 (n5+1) 0 [wv]) n7:=zA;have c7':Cel h7 (n5+1) (eSet+1) 0 [pI.1]:=zC;have c7:Cel (hst h7 (n5+1) 0 [wv]) (n5+1) (eSet+1) 0 [wv]:=zC;have sW:SetEl lo n7 (hst h7 (n5+1) 0 [wv]) (wv,ws):=SetEl.kx (e:=yX) ⟨hsw,kw.dnl qJ⟩ (kx_cel c7' tS) qK 
       have jb:∀r,vY ws r=basF I ns cns x r:=λr=>by
        have hlt9:=bj.2 hxf;unfold basF;rw [if_neg f1];refine bL.2 ((gM r).trans ?_);rw [decide_eq_true_iff];refine⟨λ⟨h9,_⟩=>by simp at h9;omega,λh9=>⟨by simp;omega,by omega⟩⟩
       have hn65:n5+1<n7:=by omega
       generalize hst h7 (n5+1) 0 [wv]=h6 at *
       clear lk1 lD t7 kw c7' tS;generalize n7=n6 at *
       have fV:=t6.le;have hcbl:=hok.cbl;have k6:=Opd.tchN k5 t6;have c46:=c5.tch t6 qJ qL;have cP6:=cP5.tch t6 qJ qL;have gv:=(k6.rc o ft).row qK;obtain⟨hrb6,_⟩:=k6.hb;repeat' first|refine wk ?_|apply cX <;> intro
       refine yG (vJ (e:=qI) (br:=rb) (ns:=ns) gv (ad _) (by have:=hok.cbl;omega) qJ qJ  (c46.cell rfl) k6.mr gf hok.cb) ?_
       rintro v8 h8 n8 ⟨w8,t8⟩
       have jj:=t8.le;have t68:Tch [] h5 n5 h8 n8:=Tch.tch t8 t6 qL;have lI:=c7.tch t8 qJ qL;have mZ:SetEl lo n8 h8 (wv,ws):=SetEl.kx (e:=yX) sW t8.kx qK;have lf:=w8.row qK;clear t6 t8 c7 sW k6 c46 cP6 gv;repeat' first|refine wk ?_|apply cX <;> intro
       refine lpR (λe:Nat=>[(0,ptr bt 0),(3,ptr n' 0),(14,osv),(15,I64 os.length),(16,I64 i),(38,v4),(39,I64 xs.length),(40,I64 q),(4,v7),(5,I64 q),(7,ptr (n5+1) 0),(73,v8),(74,I64 o.clob.length),(75,I64 e)]) (λe h9 n9=>Tch [n5+1] h8 n8 h9 n9/\e<=o.clob.length/\∃wv ws,Cel h9 (n5+1) (eSet+1) 0 [wv]/\SetEl lo n9 h9 (wv,ws)/\∀r,vY ws r=(basF I ns cns x r && !(decide (q=0) && (o.clob.take e).any λc=>memI L (ns.idxOf c) r))) (λe=>o.clob.length - e) 0 ⟨Tch.refl _ _ _,an _,wv,ws,lI,mZ,λr=>by rw[jb r];simp⟩ ?_;clear lI mZ lf
       rintro e t h9 n9 ⟨t9,he,wv',ws',c9,s9,hw9⟩
       have kM:=t9.le;have w9:=w8.tch t9 (xX w8 qJ);have row9:=w9.row qK;have t59:Tch [] h5 n5 h9 n9:=Tch.tch t9 t68 λx hx=>.inl (by simp at hx;omega);have k9:=Opd.tchN k5 t59;have c59:=c5.tch t59 qJ qL;have o9:=s9.2.one;by_cases hlte:e<o.clob.length
       . have e0:o.clob[e]? = some o.clob[e]:=aa hlte;generalize o.clob[e]=cR at e0
         have e1:zD h9 (sbk v8) (sof v8+e*1)=some (I64 (ns.idxOf cR:Nat)):=by rw[aQ];exact row9.at (by rw[ao,e0];rfl)
         have low8:=row9.low qJ;have hcm:=hok.cb cR (ae e0);have llt:=bj.2 hcm;have lrow:=k9.lap.1.row qK;have kf:L[ns.idxOf cR]? = some L[ns.idxOf cR]:=aa qJ;have jr:=k9.lap.2 _ (aM (by omega:ns.idxOf cR<L.length));generalize L[ns.idxOf cR]=pL at kf jr
         have yL:zD h9 (sbk lapv) (sof lapv+ns.idxOf cR*1)=some pL.1:=by rw[aQ];exact lrow.at (by rw[ao,kf];rfl)
         have llow:=lrow.low qJ;have oL:=jr.2.one;repeat' first|refine wk ?_|apply cX <;> intro
         . rename_i g1;refine yG (sub_ret (s9.2.row qK) (jr.2.row qK) (ad _) s9.1 jr.1) ?_
           rintro _ hA nA ⟨wv2,ws2,rfl,jB,mQ,kw2,tA⟩
           have hnA:=tA.le;have ow2:=kw2.one;have cA':=c9.tch tA qJ qL;repeat' first|refine wk ?_|apply cX <;> intro
           have tS9:Tch [n5+1] hA nA (hst hA (n5+1) 0 [wv2]) nA:=zA
           exact rnd (e+1) ⟨Tch.tch tS9 (Tch.tch tA t9 qL) (λx hx=>.inr hx),by omega,wv2,ws2,zC,SetEl.kx (e:=yX) ⟨jB,kw2.dnl qJ⟩ (kx_cel cA' tS9) qK,λr=>by
            rw[mQ r,hw9 r,yV e0,List.any_append];have jz:q=0:=by omega
            have hm:memI L (ns.idxOf cR) r=vY pL.2 r:=by unfold memI;rw [kf]
            simp only[dN,List.any_nil,eu,hm,jz,decide_true,dK];cases basF I ns cns x r <;> cases (o.clob.take e).any (λc=>memI L (ns.idxOf c) r) <;> cases vY pL.2 r <;> rfl⟩
         . rename_i g1
           exact rnd (e+1) ⟨t9,by omega,wv',ws',c9,s9,λr=>by
            rw[hw9 r];have jz:¬q=0:=by omega
            rw[decide_eq_false jz];rfl⟩
       . obtain rfl:e=o.clob.length:=by omega
         have hS9:=yH (e:=yX) hS t59.kx qK qK;have gR:∀x,Sets lo (n9+1) (hal h9 n9 x) v7 S:=λx=>yH (e:=yX) hS9 (Tch.kx (zA:Tch [] h9 n9 (hal h9 n9 x) (n9+1))) qK qK;repeat' first|refine wk ?_|apply cX <;> intro
         refine appN (gR _).1 (zF (e:=eSet) (sz:=1) (len:=1) rfl qK) qK  ⟨o9,trivial⟩ qJ  ?_
         rintro v10 fM n10 w10 t10
         have hn10:=t10.le;have je:Kx eSet _ _ fM n10:=kx_own (gR _).1 t10;have ki:Sets lo n10 fM v10 (S++[(wv',ws')]):=Lst.app (gR _) w10 qJ  (λy s=>SetEl.kx s je qK) (SetEl.kx (n:=n9+1) (h:=hal h9 n9 _) (SetEl.kx (e:=yX) s9 (Tch.kx (zA:Tch [] h9 n9 (hal h9 n9 _) (n9+1))) qK) je qK);have lg:Tch [] h4 n4 fM n10:=Tch.tch t10 (zA:Tch [] h4 n4 (hal h9 n9 (mkC [wv'] 0 0)) (n9+1)) λx hx=>.inl (hSb x hx);repeat' first|refine wk ?_|apply cX <;> intro
         exact rnd (q+1,v10,S++[(wv',ws')]) ⟨lg,by dsimp only;omega,ki,λb hb=>by have:=zQ w10 b hb;omega,by dsimp only;rw [ah,hSl];rfl,λk y p hk e1 e2 r=>by
          dsimp only at hk e2;rcases ai.1 hk with h9|rfl
          . rw[az qJ]at e2;exact hSe k y p h9 e1 e2 r
          . rw[d0]at e1;cases e1;rw [ax qJ,hSl,bB]at e2;cases e2;rw [hw9 r,aY];rfl⟩
     . rename_i f1;have hf:x.fix=[]:=cK.1 f1;have t6:Tch [] h5 n5 (hst (hal (hst (hal h5 n5 (mkC [str [],str []] (eOpr+1) 0)) n5 0 [str x.cls,str x.fix]) (n5+1) (mkC [.slice none 0 0] (eSet+1) 0)) (n5+1) 0 [pI.1]) (n5+1+1):=zA;have c7:Cel (hst (hal (hst (hal h5 n5 (mkC [str [],str []] (eOpr+1) 0)) n5 0 [str x.cls,str x.fix]) (n5+1) (mkC [.slice none 0 0] (eSet+1) 0)) (n5+1) 0 [pI.1]) (n5+1) (eSet+1) 0 [pI.1]:=zC;have sW:SetEl lo (n5+1+1) (hst (hal (hst (hal h5 n5 (mkC [str [],str []] (eOpr+1) 0)) n5 0 [str x.cls,str x.fix]) (n5+1) (mkC [.slice none 0 0] (eSet+1) 0)) (n5+1) 0 [pI.1]) (pI.1,pI.2):=SetEl.kx (e:=yX) hIe t6.kx qK;have jb:∀r,vY pI.2 r=basF I ns cns x r:=λr=>by unfold basF memI;rw [if_pos hf,hI]
       have hn65:n5+1<n5+1+1:=be _;generalize (hst (hal (hst (hal h5 n5 (mkC [str [],str []] (eOpr+1) 0)) n5 0 [str x.cls,str x.fix]) (n5+1) (mkC [.slice none 0 0] (eSet+1) 0)) (n5+1) 0 [pI.1])=h6 at *
       generalize n5+1+1=n6 at *
       clear lk1;have fV:=t6.le;have hcbl:=hok.cbl;have k6:=Opd.tchN k5 t6;have c46:=c5.tch t6 qJ qL;have cP6:=cP5.tch t6 qJ qL;have gv:=(k6.rc o ft).row qK;obtain⟨hrb6,_⟩:=k6.hb;repeat' first|refine wk ?_|apply cX <;> intro
       refine yG (vJ (e:=qI) (br:=rb) (ns:=ns) gv (ad _) (by have:=hok.cbl;omega) qJ qJ  (c46.cell rfl) k6.mr gf hok.cb) ?_
       rintro v8 h8 n8 ⟨w8,t8⟩
       have jj:=t8.le;have t68:Tch [] h5 n5 h8 n8:=Tch.tch t8 t6 qL;have lI:=c7.tch t8 qJ qL;have mZ:SetEl lo n8 h8 (pI.1,pI.2):=SetEl.kx (e:=yX) sW t8.kx qK;have lf:=w8.row qK;clear t6 t8 c7 sW k6 c46 cP6 gv;repeat' first|refine wk ?_|apply cX <;> intro
       refine lpR (λe:Nat=>[(0,ptr bt 0),(3,ptr n' 0),(14,osv),(15,I64 os.length),(16,I64 i),(38,v4),(39,I64 xs.length),(40,I64 q),(4,v7),(5,I64 q),(7,ptr (n5+1) 0),(73,v8),(74,I64 o.clob.length),(75,I64 e)]) (λe h9 n9=>Tch [n5+1] h8 n8 h9 n9/\e<=o.clob.length/\∃wv ws,Cel h9 (n5+1) (eSet+1) 0 [wv]/\SetEl lo n9 h9 (wv,ws)/\∀r,vY ws r=(basF I ns cns x r && !(decide (q=0) && (o.clob.take e).any λc=>memI L (ns.idxOf c) r))) (λe=>o.clob.length - e) 0 ⟨Tch.refl _ _ _,an _,pI.1,pI.2,lI,mZ,λr=>by rw[jb r];simp⟩ ?_;clear lI mZ lf
       rintro e t h9 n9 ⟨t9,he,wv',ws',c9,s9,hw9⟩
       have kM:=t9.le;have w9:=w8.tch t9 (xX w8 qJ);have row9:=w9.row qK;have t59:Tch [] h5 n5 h9 n9:=Tch.tch t9 t68 λx hx=>.inl (by simp at hx;omega);have k9:=Opd.tchN k5 t59;have c59:=c5.tch t59 qJ qL;have o9:=s9.2.one;by_cases hlte:e<o.clob.length
       . have e0:o.clob[e]? = some o.clob[e]:=aa hlte;generalize o.clob[e]=cR at e0
         have e1:zD h9 (sbk v8) (sof v8+e*1)=some (I64 (ns.idxOf cR:Nat)):=by rw[aQ];exact row9.at (by rw[ao,e0];rfl)
         have low8:=row9.low qJ;have hcm:=hok.cb cR (ae e0);have llt:=bj.2 hcm;have lrow:=k9.lap.1.row qK;have kf:L[ns.idxOf cR]? = some L[ns.idxOf cR]:=aa qJ;have jr:=k9.lap.2 _ (aM (by omega:ns.idxOf cR<L.length));generalize L[ns.idxOf cR]=pL at kf jr
         have yL:zD h9 (sbk lapv) (sof lapv+ns.idxOf cR*1)=some pL.1:=by rw[aQ];exact lrow.at (by rw[ao,kf];rfl)
         have llow:=lrow.low qJ;have oL:=jr.2.one;repeat' first|refine wk ?_|apply cX <;> intro
         . rename_i g1;refine yG (sub_ret (s9.2.row qK) (jr.2.row qK) (ad _) s9.1 jr.1) ?_
           rintro _ hA nA ⟨wv2,ws2,rfl,jB,mQ,kw2,tA⟩
           have hnA:=tA.le;have ow2:=kw2.one;have cA':=c9.tch tA qJ qL;repeat' first|refine wk ?_|apply cX <;> intro
           have tS9:Tch [n5+1] hA nA (hst hA (n5+1) 0 [wv2]) nA:=zA
           exact rnd (e+1) ⟨Tch.tch tS9 (Tch.tch tA t9 qL) (λx hx=>.inr hx),by omega,wv2,ws2,zC,SetEl.kx (e:=yX) ⟨jB,kw2.dnl qJ⟩ (kx_cel cA' tS9) qK,λr=>by
            rw[mQ r,hw9 r,yV e0,List.any_append];have jz:q=0:=by omega
            have hm:memI L (ns.idxOf cR) r=vY pL.2 r:=by unfold memI;rw [kf]
            simp only[dN,List.any_nil,eu,hm,jz,decide_true,dK];cases basF I ns cns x r <;> cases (o.clob.take e).any (λc=>memI L (ns.idxOf c) r) <;> cases vY pL.2 r <;> rfl⟩
         . rename_i g1
           exact rnd (e+1) ⟨t9,by omega,wv',ws',c9,s9,λr=>by
            rw[hw9 r];have jz:¬q=0:=by omega
            rw[decide_eq_false jz];rfl⟩
       . obtain rfl:e=o.clob.length:=by omega
         have hS9:=yH (e:=yX) hS t59.kx qK qK;have gR:∀x,Sets lo (n9+1) (hal h9 n9 x) v7 S:=λx=>yH (e:=yX) hS9 (Tch.kx (zA:Tch [] h9 n9 (hal h9 n9 x) (n9+1))) qK qK;repeat' first|refine wk ?_|apply cX <;> intro
         refine appN (gR _).1 (zF (e:=eSet) (sz:=1) (len:=1) rfl qK) qK  ⟨o9,trivial⟩ qJ  ?_
         rintro v10 fM n10 w10 t10
         have hn10:=t10.le;have je:Kx eSet _ _ fM n10:=kx_own (gR _).1 t10;have ki:Sets lo n10 fM v10 (S++[(wv',ws')]):=Lst.app (gR _) w10 qJ  (λy s=>SetEl.kx s je qK) (SetEl.kx (n:=n9+1) (h:=hal h9 n9 _) (SetEl.kx (e:=yX) s9 (Tch.kx (zA:Tch [] h9 n9 (hal h9 n9 _) (n9+1))) qK) je qK);have lg:Tch [] h4 n4 fM n10:=Tch.tch t10 (zA:Tch [] h4 n4 (hal h9 n9 (mkC [wv'] 0 0)) (n9+1)) λx hx=>.inl (hSb x hx);repeat' first|refine wk ?_|apply cX <;> intro
         exact rnd (q+1,v10,S++[(wv',ws')]) ⟨lg,by dsimp only;omega,ki,λb hb=>by have:=zQ w10 b hb;omega,by dsimp only;rw [ah,hSl];rfl,λk y p hk e1 e2 r=>by
          dsimp only at hk e2;rcases ai.1 hk with h9|rfl
          . rw[az qJ]at e2;exact hSe k y p h9 e1 e2 r
          . rw[d0]at e1;cases e1;rw [ax qJ,hSl,bB]at e2;cases e2;rw [hw9 r,aY];rfl⟩
   . obtain rfl:q=xs.length:=by omega
     obtain⟨s4,s5,s6,rfl⟩:=own_slv hS.1;have hM5:Mays lo n5 h5 mv M:=Lst.kx hM4 (Tch.kx (e:=yX) t5) qK  λ_ s=>yH (e:=yX) s t5.kx qK qK;have hC5:=vB (e:=eSets) hC4 t5.kx qK qK 
     have hMX:∀x,Mays lo (n5+1) (hal h5 n5 x) mv M:=λx=>by
      have tx:Tch [] h5 n5 (hal h5 n5 x) (n5+1):=zA;exact Lst.kx hM5 (Tch.kx (e:=yX) tx) qK  λ_ s=>yH (e:=yX) s tx.kx qK qK 
     repeat' first|refine wk ?_|apply cX <;> intro
     refine appN (hMX _).1 (zF (e:=eSets) (sz:=1) (len:=1) rfl qK) qK  ⟨rfl,trivial⟩ qJ  ?_
     rintro v11 h11 n11 w11 t11
     have mu:=t11.le;have o11:=w11.one;have tX5:Tch [] h5 n5 (hal h5 n5 (mkC [.slice s4 s5 s6] 0 0)) (n5+1):=zA;have ld:Kx eSets _ _ h11 n11:=kx_own (hMX _).1 t11;have c11:=Cel.app (Cel.tch (S:=[]) c5 tX5 qJ qL) (hMX _).1 t11 qJ;have hM11:Mays lo n11 h11 v11 (M++[(.slice s4 s5 s6,S)]):=Lst.app (hMX _) w11 qJ  (λy s=>yH s ld qK qK) (yH (yH (e:=yX) hS tX5.kx qK qK) ld qK qK);have hC11:=vB (vB (e:=eSets) hC5 tX5.kx qK qK) ld qK qK;have t0X:Tch [bt] h n (hal h5 n5 (mkC [.slice s4 s5 s6] 0 0)) (n5+1):=Tch.tch tX5 (Tch.tch t5 t04' qL) qL;have jg:Tch [bt] h n h11 n11:=Tch.tch t11 t0X λx hx=>.inl (hMb x hx);clear t11 t0X;repeat' first|refine wk ?_|apply cX <;> intro
     have tS:Tch [bt] h11 n11 (hst h11 bt (0+16) [v11]) n11:=zA
     have hCl':∀(j:Nat) o',j<i+1->os[j]? = some o'->(∃cv',(C++[(.slice s1 s2 s3,o.clob.map λr=>((ns.idxOf r:Nat):Int))])[j]? = some (cv',o'.clob.map λr=>((ns.idxOf r:Nat):Int)))/\∃sv S',(M++[(.slice s4 s5 s6,S)])[j]? = some (sv,S')/\S'.length=(o'.d::o'.uses).length/\∀(k:Nat) x p,(o'.d::o'.uses)[k]? = some x->S'[k]? = some p->∀r,vY p.2 r=mayF L I ns cns o' k x r:=λj o' hj e=>by
      rcases ai.1 hj with h9|rfl
      . obtain⟨⟨cv',a1⟩,sv,S',a2,a3,a4⟩:=eH j o' h9 e;exact⟨⟨cv',by rw[az qJ];exact a1⟩,sv,S',by rw[az qJ];exact a2,a3,a4⟩
      . rw[c0]at e;cases e;refine⟨⟨_,by rw[ax qJ,hCl,bB];rfl⟩,_,S,by rw[ax qJ,hMl,bB];rfl,by rw[hxe];exact hSl,λk x p e1 e2 r=>?_⟩;rw [hxe]at e1;exact hSe k x p (ab.1 e1).1 e1 e2 r
     exact rnd (i+1) ⟨Tch.tch tS jg (λx hx=>.inr hx),by omega,v11,_,v3,_,zC,Lst.cel hM11 c11 tS λ_ s=>wJ s c11 tS,λb hb=>by have:=zQ w11 b hb;omega,uR hC11 c11 tS,by rw[ah,hMl];rfl,by rw[ah,hCl];rfl,hCl'⟩
 . obtain rfl:i=os.length:=by omega
   repeat' first|refine wk ?_|apply cX <;> intro
   exact⟨rfl,ht,mv,M,cv,C,fE,hM,hC,hMl,hCl,λj o e=>eH j o (ab.1 e).1 e⟩
end
section
attribute [local simp] zY
theorem MOK.oo{m:MachT}{ns:List Tx}{ps:List Pl}(k:MOK m ns ps):∀o∈m.ops,tI m ns ps o/\(o.uses.length=1\/o.uses.length=2):=λo ho=>by
 obtain⟨i,hi⟩:=aj.1 ho;have iN:=k.ops;rcases iN with⟨h9,_⟩|⟨_,⟨_,h9⟩|⟨_,_,_,_,h9,_⟩⟩
 . omega
 . rcases h9 i o hi with⟨_,h8,h7⟩|⟨h8,_⟩|⟨h8,_⟩
   . have:=h7.1;have h6:=h8.1;have:=ar_geG o.name;exact⟨h7,by omega⟩
   . omega
   . omega
 . omega
theorem MOK.sml{m:MachT}{ns:List Tx}{ps:List Pl}(k:MOK m ns ps):SmlM m:=by
 obtain⟨c1,c2⟩:=ClsErr.ok k.cls
 have gI:m.ops.length<=64:=by
  rcases k.ops with⟨h9,_⟩|⟨h9,_⟩
  . omega
  . exact h9
 refine⟨geo_sml k.geo,c1,λc hc=>?_,gI,λo ho=>by have:=(MOK.oo k o ho).2;omega,λo ho=>?_,by have:=k.conv.1.1;omega,by have:=k.conv.2.2.1.1;omega⟩
 . obtain⟨i,hi⟩:=aj.1 hc;exact(c2 i c hi).2.2.1
 . have:=(MOK.oo k o ho).1.2.2.2.2.2.2.1;omega
def cNs(m:MachT):List Tx:=m.classes.map (·.name)
def oNs(m:MachT):List Tx:=m.ops.map (·.name)
theorem nodup_ix{α : Type}{l:List α}{f: α->Tx}{p:Tx->Int}(h:∀(i:Nat) x,l[i]? = some x->p (f x)=(i:Nat)):(l.map f).Nodup:=by
 refine List.pairwise_iff_getElem.2 λi j hi hj hij e=>?_;rw [aD]at hi hj;have a:=h i _ (aa hi);have b:=h j _ (aa hj);rw [List.getElem_map,List.getElem_map]at e;rw [e]at a;omega
theorem MOK.cnd{m:MachT}{ns:List Tx}{ps:List Pl}(k:MOK m ns ps):(cNs m).Nodup:=nodup_ix (p:=xM m) (CsOK.of k.cls).ix
theorem MOK.ond{m:MachT}{ns:List Tx}{ps:List Pl}(k:MOK m ns ps):(oNs m).Nodup:=nodup_ix (p:=λs=>posF (λx:OpT=>decide (x.name=s)) m.ops) λi o hi=>by
 rcases k.ops with⟨h9,_⟩|⟨_,⟨_,h9⟩|⟨_,_,_,_,h9,_⟩⟩
 . omega
 . rcases h9 i o hi with⟨_,h8,h7⟩|⟨h8,_⟩|⟨h8,_⟩
   . exact h8.2
   . omega
   . omega
 . omega
theorem opr_in{m:MachT}{ns:List Tx}{x:OperT}(cs:CsOK m ns)(h:uB m x=true):x.cls∈cNs m/\(x.fix=[]\/x.fix∈ns):=by
 unfold uB at h;rcases vD (m:=m) (x:=x.cls) with⟨h1,h2⟩|⟨i,c,h1,h2,h3,h4,h5⟩
 . rw[h1]at h;cases h
 . rw[h1]at h;refine⟨aB.2 ⟨c,ae h2,h5⟩,?_⟩;simp at h;rcases h with h|h
   . exact .inl h
   . exact .inr (cs.mem i c h2 _ h)
theorem MOK.opd{m:MachT}{ns:List Tx}{ps:List Pl}(k:MOK m ns ps){o o':OpT}(ho:o∈m.ops)(h1:o'.d=o.d)(h2:o'.uses=o.uses)(h3:o'.clob=o.clob):OpdOK ns (cNs m) o':=by
 have cs:=CsOK.of k.cls;obtain⟨⟨g1,g2,g3,g4,g5,g6,g7,g8⟩,glen⟩:=MOK.oo k o ho;refine⟨by rw[h2];exact glen,λx hx=>?_,λr hr=>?_,by rw[h3];omega⟩
 . rw[h1,h2]at hx;rcases au.1 hx with rfl|hx
   . exact opr_in cs g2
   . obtain⟨j,hj⟩:=aj.1 hx;exact opr_in cs (g3 j x hj).1
 . rw[h3]at hr;obtain⟨j,hj⟩:=aj.1 hr;exact(g8 j r hj).1
end
section
attribute [local simp] zY
abbrev nlS:Value:=.slice none 0 0
section
variable {lo lo' n n':Nat} {h h':zB} {v:Value}
theorem sets_dn{L:List (Value×List Nat)}(o:Sets lo n h v L)(hl:lo'<=lo):Sets lo' n h v L:=⟨o.1.dnl hl,λx hx=>⟨(o.2 x hx).1,(o.2 x hx).2.dnl hl⟩⟩
theorem ints_dn{L:List (Value×List Int)}(o:Ints lo n h v L)(hl:lo'<=lo):Ints lo' n h v L:=⟨o.1.dnl hl,λx hx=>Own.dnl (o.2 x hx) hl⟩
theorem mays_dn{L:List (Value×List (Value×List Nat))}(o:Mays lo n h v L)(hl:lo'<=lo):Mays lo' n h v L:=⟨o.1.dnl hl,λx hx=>sets_dn (o.2 x hx) hl⟩
theorem mays_kx{e:Nat}{L:List (Value×List (Value×List Nat))}(o:Mays lo n h v L)(k:Kx e h n h' n')(h1:eSets≠e)(h2:eSet≠e)(h3:tU≠e):Mays lo n' h' v L:=Lst.kx o k h1 λ_ s=>yH s k h2 h3
theorem mays_cel{bt z:Nat}{cs:List Value}{L:List (Value×List (Value×List Nat))}(o:Mays lo n h v L)(c:Cel h bt z 0 cs)(t:Tch [bt] h n h' n'):Mays lo n' h' v L:=mays_kx (e:=yX) o (kx_cel c t) qK qK qK 
theorem cpm_dn{m m':MachT}(k:CpM lo n h m m')(hl:lo'<=lo):CpM lo' n h m m':=⟨k.nm,k.res,k.slots,k.ag,k.sd,k.r1,k.cl,wB k.cr hl,λi c hc=>by
 obtain⟨c',e1,e2⟩:=k.ce i c hc;exact⟨c',e1,⟨e2.nm,e2.rg,wB e2.row hl⟩⟩,k.ol,wB k.orr hl,λi o ho=>by
 obtain⟨o',e1,e2⟩:=k.oe i o ho;exact⟨o',e1,⟨e2.nm,e2.d,e2.tie,e2.us,e2.cb,wB e2.ru hl,wB e2.rc hl⟩⟩,wB k.ar hl,wB k.sr hl⟩
end
theorem cpm_gen{lo n:Nat}{h:zB}{m:MachT}{S:List Nat}{n':Nat}{h':zB}{m':MachT}(k:CpM lo n h m m')(t:Tch S h n h' n')(hS:∀{v e sz len vs},OwnE lo n h v e sz len vs->∀b,zH v=some b->b∉S):CpM lo n' h' m m':=⟨k.nm,k.res,k.slots,k.ag,k.sd,k.r1,k.cl,k.cr.tch t (hS k.cr),λi c hc=>by
 obtain⟨c',e1,e2⟩:=k.ce i c hc;exact⟨c',e1,CpC.tchS e2 t (hS e2.row)⟩,k.ol,k.orr.tch t (hS k.orr),λi o ho=>by
 obtain⟨o',e1,e2⟩:=k.oe i o ho;exact⟨o',e1,CpO.tchS e2 t (hS e2.ru) (hS e2.rc)⟩,k.ar.tch t (hS k.ar),k.sr.tch t (hS k.sr)⟩
theorem cpm_tch{lo n:Nat}{h:zB}{m:MachT}{n':Nat}{h':zB}{m':MachT}(k:CpM lo n h m m')(t:Tch [] h n h' n'):CpM lo n' h' m m':=cpm_gen k t λ_ _ _=>by simp
theorem cpm_cel{lo n:Nat}{h:zB}{m:MachT}{bt z n':Nat}{h':zB}{m':MachT}{cs:List Value}(k:CpM lo n h m m')(c:Cel h bt z 0 cs)(h0:0<cs.length)(t:Tch [bt] h n h' n'):CpM lo n' h' m m':=cpm_gen k t λo=>celE c h0 o
def ixs(ns l:List Tx):List Int:=l.map λr=>((ns.idxOf r:Nat):Int)
theorem ixs_row{lo n:Nat}{h:zB}{v:Value}{e:Nat}{ns l:List Tx}(o:Own lo n h v e 1 l.length (l.map λx=>I64 (ns.idxOf x:Nat))):Own lo n h v e 1 (ixs ns l).length ((ixs ns l).map I64):=by
 unfold ixs;rw [cV,aD];exact o
structure TabV where
 mc:MachT
 nsv:Value
 psv:Value
 rb:Nat
 cb:Nat
 ob:Nat
 lv:Value
 ofv:Value
 inv:Value
 mv:Value
 cv:Value
 sv:Value
 av:Value
 kv:Value
 L:List (Value×List Nat)
 O:List (Value×List Int)
 I:List (Value×List Nat)
 M:List (Value×List (Value×List Nat))
 C:List (Value×List Int)
 ks:List Nat
abbrev tabC(v:TabV):List Value:=yR v.mc++[v.nsv,v.psv,.map (some v.rb),.map (some v.cb),.map (some v.ob),v.lv,v.ofv,v.inv,v.mv,v.cv,v.sv,v.av,v.kv]
structure TabM (lo n:Nat) (h:zB) (bt:Nat) (m:MachT) (ns:List Tx) (ps:List Pl) (v:TabV):Prop where
 hb:lo<=bt/\bt<n
 hr:v.rb<n/\v.cb<n/\v.ob<n
 cel:Cel h bt zTb 0 (tabC v)
 cp:CpM lo n h m v.mc
 on:Own lo n h v.nsv qI 1 ns.length (ns.map str)
 op:Own lo n h v.psv ePl 3 ps.length (ps.flatMap plC)
 mr:MpS h v.rb (numL ns)
 mc:MpS h v.cb (numL (cNs m))
 mo:MpS h v.ob (numL (oNs m))
 lap:Sets lo n h v.lv v.L
 lapl:v.L.length=ps.length
 lapw:∀(j:Nat) p,v.L[j]? = some p->LapW ps j p.2
 ofs:Ints lo n h v.ofv v.O
 ofl:v.O.length=m.classes.length
 ofe:∀(j:Nat) c,m.classes[j]? = some c->∃x,v.O[j]? = some (x,ixs ns c.regs)
 ins:Sets lo n h v.inv v.I
 inl:v.I.length=m.classes.length
 ine:∀(j:Nat) c,m.classes[j]? = some c->∃p,v.I[j]? = some p/\∀r:Nat,vY p.2 r=c.regs.any λx=>decide (ns.idxOf x=r)
 may:Mays lo n h v.mv v.M
 mayl:v.M.length=m.ops.length
 clob:Ints lo n h v.cv v.C
 clol:v.C.length=m.ops.length
 ope:∀(j:Nat) o,m.ops[j]? = some o->(∃x,v.C[j]? = some (x,ixs ns o.clob))/\∃sv S,v.M[j]? = some (sv,S)/\S.length=(o.d::o.uses).length/\∀(k:Nat) x p,(o.d::o.uses)[k]? = some x->S[k]? = some p->∀r,vY p.2 r=mayF v.L v.I ns (cNs m) o k x r
 sv:Own lo n h v.sv vR 1 (ixs ns m.saved).length ((ixs ns m.saved).map I64)
 av:Own lo n h v.av vR 1 (ixs ns m.args).length ((ixs ns m.args).map I64)
 ks:SetEl lo n h (v.kv,v.ks)
 ksw:∀k:Nat,vY v.ks k=match ps[k]? with|some p=>surB ps (ixs ns m.saved) p|none=>false
theorem TabM.tch{lo n n' bt:Nat}{h h':zB}{m:MachT}{ns:List Tx}{ps:List Pl}{v:TabV}(k:TabM lo n h bt m ns ps v)(t:Tch [] h n h' n'):TabM lo n' h' bt m ns ps v:=by
 obtain⟨b1,b2⟩:=k.hb;obtain⟨r1,r2,r3⟩:=k.hr;have:=t.le
 exact⟨⟨b1,by omega⟩,⟨by omega,by omega,by omega⟩,k.cel.tch t b2 qL,cpm_tch k.cp t,k.on.tch t qL,k.op.tch t qL,k.mr.tch t r1 qL,k.mc.tch t r2 qL,k.mo.tch t r3 qL,
  yH (e:=yX) k.lap t.kx qK qK,k.lapl,k.lapw,vB (e:=eSets) k.ofs t.kx qK qK,k.ofl,k.ofe,yH (e:=yX) k.ins t.kx qK qK,k.inl,k.ine,mays_kx (e:=yX) k.may t.kx qK qK qK,k.mayl,vB (e:=eSets) k.clob t.kx qK qK,k.clol,k.ope,k.sv.tch t qL,k.av.tch t qL,SetEl.kx (e:=yX) k.ks t.kx qK,k.ksw⟩
end
section
variable {lo n bt:Nat} {h:zB} {m:MachT} {ns:List Tx} {ps:List Pl} {v:TabV}
theorem cnx'{x:Tx}(hx:x∈cNs m):∃c,m.classes[(cNs m).idxOf x]? = some c/\c.name=x:=by
 have h2:(cNs m)[(cNs m).idxOf x]? = some x:=idx_at hx;generalize (cNs m).idxOf x=i at *
 unfold cNs at h2;rw [ao]at h2
 cases e:m.classes[i]? with
 | none=>rw [e]at h2;cases h2
 | some c=>rw [e]at h2;exact⟨c,rfl,by injection h2⟩
theorem mayI_in(cs:CsOK m ns){x:OperT}(hc:x.cls∈cNs m)(hf:x.fix=[]\/x.fix∈ns):∃c,m.classes[(cNs m).idxOf x.cls]? = some c/\sP m ns x=if x.fix=[] then c.regs.map (pos ns) else [pos ns x.fix]:=by
 obtain⟨c,h1,h2⟩:=cnx' hc;refine⟨c,h1,?_⟩;have h3:vG m x.cls=some c:=by rw[<- h2];exact cls_of cs h1
 unfold sP;rw [h3];dsimp only;by_cases h4:x.fix=[]
 . rw[if_pos h4,if_pos h4]
 . rw[if_neg h4,if_neg h4,sO (λy hy=>by simp at hy;subst hy;exact hf.resolve_left h4)];rfl
theorem may_eq(k:TabM lo n h bt m ns ps v)(ok:MOK m ns ps){op q:Nat}{o:OpT}{x:OperT}(ho:m.ops[op]? = some o)(hx:(o.d::o.uses)[q]? = some x)(r:Int):(decide (0<=r) && mayF v.L v.I ns (cNs m) o q x r.toNat)=mayB m ns ps o q x r:=by
 have cs:=CsOK.of ok.cls;have od:=MOK.opd ok (ae ho) rfl rfl rfl;obtain⟨hc,hf⟩:=od.cl x (ae hx);obtain⟨c,h1,h2⟩:=mayI_in cs hc hf;have gok:=geo_ok ok.geo;have fO:ps.length=ns.length:=gok.len;by_cases h0:0<=r
 . obtain⟨a,rfl⟩:=bC h0;rw [decide_eq_true h0,dK,bM];unfold mayF mayB;congr 1
   . rw[h2];by_cases h4:x.fix=[]
     . rw[if_pos h4,if_pos h4];obtain⟨p,e1,e2⟩:=k.ine _ _ h1;unfold memI;rw [e1];dsimp only;rw [e2];refine bL.2 ?_;rw [ap,decide_eq_true_iff];constructor
       . rintro ⟨y,hy,e⟩
         exact aB.2 ⟨y,hy,by rw[wY (cs.mem _ _ h1 y hy),of_decide_eq_true e]⟩
       . intro hm;obtain⟨y,hy,e⟩:=aB.1 hm;rw [wY (cs.mem _ _ h1 y hy)]at e;exact⟨y,hy,decide_eq_true qJ⟩
     . rw[if_neg h4,if_neg h4,wY (hf.resolve_left h4)];refine bL.2 ?_;rw [decide_eq_true_iff,decide_eq_true_iff];simp only[aq];omega
   . have e1:clrN ns ps o (a:Nat) = !(o.clob.any λc=>memI v.L (ns.idxOf c) a):=by
      unfold clrN;rw [sO od.cb,List.all_map]
      have:∀l:List Tx,(∀r∈l,r∈ns)->(l.all ((λc=> !rR ps c (a:Nat)) ∘ pos ns)) = !(l.any λc=>memI v.L (ns.idxOf c) a):=by
       intro l
       induction l with
       | nil=>intro _;rfl
       | cons y l ih=>
        intro hl;rw [dM,dN,ih λr hr=>hl r (aL _ hr),Bool.not_or];congr 1
        show(!rR ps (pos ns y) (a:Nat))=_;have hy:=hl y (aN ..);have eD:=bj.2 hy;have hL:=k.lapl;have e3:v.L[ns.idxOf y]? = some v.L[ns.idxOf y]:=aa qJ;have e4:=k.lapw _ _ e3 a;rw [wY hy];unfold memI;rw [e3];dsimp only;rw [e4];unfold rR;rw [decide_eq_true qJ,decide_eq_true qJ];rfl
      exact this _ od.cb
     rw[e1];by_cases hq:q=0
     . rw[decide_eq_true hq,decide_eq_false (λh9=>h9 hq)];simp
     . rw[decide_eq_false hq,decide_eq_true hq];rfl
 . rw[decide_eq_false h0,dp];unfold mayB;rw [decide_eq_false (λhm=>?_),dp];rw [h2]at hm;split at hm
   . obtain⟨y,hy,rfl⟩:=aB.1 hm;exact h0 (pos_ge.2 (cs.mem _ _ h1 y hy))
   . rename_i h4;rw [aq.1 hm]at h0;exact h0 (pos_ge.2 (hf.resolve_left h4))
end
end Go.Proofs.YtdiejolnllipnaaGreatDoor
