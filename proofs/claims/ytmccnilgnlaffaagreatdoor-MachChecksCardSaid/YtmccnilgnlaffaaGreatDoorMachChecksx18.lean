/- What the law leans on, part 18 of 22. Conditions: those that each theorem states. -/
import Derived.Test.YtmccnilgnlaffaaGreatDoorMachChecksx13
import Derived.Test.YtmccnilgnlaffaaGreatDoorMachChecksx15
import Derived.Test.YtmccnilgnlaffaaGreatDoorMachChecksx16
import Derived.Test.YtmccnilgnlaffaaGreatDoorMachChecksx12

set_option linter.unusedVariables false
set_option linter.unusedSimpArgs false
namespace Go.Proofs.YtmccnilgnlaffaaGreatDoor
open Go Go.Ex Go.Ex.M
set_option maxRecDepth 100000
set_option maxHeartbeats 8000000
section
attribute [local simp] vB
theorem ownE_pos{lo n:Nat}{h:zB}{v:Value}{e sz len:Nat}{vs:List Value}(r:OwnE lo n h v e sz len vs)(hl:0<len):Own lo n h v e sz len vs:=by
 rcases r with r|⟨_,rfl,_⟩
 · exact r
 · omega
theorem xB{lo n:Nat}{h:zB}{v:Value}{e sz len:Nat}{vs:List Value}(r:OwnE lo n h v e sz len vs):v.oneCell'=true:=by
 rcases r with r|⟨⟨b,z,kd,_,_,rfl,_⟩,_,_⟩
 · exact r.one
 · rfl
theorem iadO{sz b len cap i:Nat}(h:i<len):Iad sz (.slice (some ⟨b,0,none⟩) len cap) (I64 (i:Nat)) (ptr b (i*sz)):=⟨b,0,len,cap,.i64,i,rfl,rfl,h,by rw[aG]⟩
theorem own_at{lo n bb len cap e sz k:Nat}{h:zB}{vs:List Value}{x:Value}(o:Own lo n h (.slice (some ⟨bb,0,none⟩) len cap) e sz len vs)(hs:1≤sz)(hx:vs[k]? = some x):zC h bb k=some x:=by
 have:=(o.row hs).at hx
 rwa [show sof (.slice (some ⟨bb,0,none⟩) len cap)+k=k from aG _]at this
theorem regC_one{lo:Nat}{h:zB}{sv:Value}{l:List RegT}(hr:RegsM lo h sv l):∀y∈l.flatMap regC,y.oneCell'=true:=λy hy=>by
 obtain⟨r,hm,hy⟩:=bF.1 hy;have:=((hr.sub hm).row 0).one;simp at hy;rcases hy with rfl|rfl|rfl|rfl
 · rfl
 · rfl
 · rfl
 · exact this
theorem regs_ret:∀(k:Nat) {l:List RegT} {lo n:Nat} {h:zB} {sv:Value},Sml k l→RegsM lo h sv l→lo≤n→Ret P 8 78 [sv] h n λv h' n'=>v.oneCell'=true∧Tch [] h n h' n':=by
 intro k
 induction k with
 | zero=>
  intro l lo n h sv hs hr dX;have hs:l=[]:=hs;subst hs;have eQ:=(hr.row 0).one;have fI:Tch [] h n h n:=Tch.refl _ _ _;refine ent λu=>?_;repeat' first|refine wk ?_|refine cX (λ_=>?_) λ_=>?_|fail
  refine wY (clone_reg (hr.row 0) dX (regC_one hr) (by decide)) ?_
  rintro v h2 n2 ⟨ho,ht⟩
  have hn2:=ht.le;have r2:=ho.row (by decide);have o1:=xB ho;repeat' first|refine wk ?_|refine cX (λ_=>?_) λ_=>?_|fail
  refine lpR (λi:Nat=>[(0,v),(7,I64 (0:Nat)),(8,I64 i)]) (λi h' n'=>Tch [] h n h' n') (λi=>0) 0 ht ?_
  rintro i t h' n' ht'
  repeat' first|refine wk ?_|refine cX (λ_=>?_) λ_=>?_|fail
  exact⟨_,rfl,o1,zA⟩
 | succ k ih=>
  intro l lo n h sv hs hr dX;obtain⟨fJ,hs2⟩:=hs;have d9:inf<4611686018427387904:=by decide
  have eQ:=(hr.row 0).one;refine ent λu=>?_;repeat' first|refine wk ?_|refine cX (λ_=>?_) λ_=>?_|fail
  refine wY (clone_reg (hr.row 0) dX (regC_one hr) (by omega)) ?_
  rintro v h2 n2 ⟨ho,ht⟩
  have hn2:=ht.le;have r2:=ho.row (by decide);have o1:=xB ho;repeat' first|refine wk ?_|refine cX (λ_=>?_) λ_=>?_|fail
  refine lpR (λi:Nat=>[(0,v),(7,I64 l.length),(8,I64 i)]) (λi h' n'=>Tch [] h n h' n'∧i≤l.length∧∃l':List RegT,l'.length=l.length∧OwnE n n' h' v 52 4 l.length (l'.flatMap regC)∧∀j,i≤j→l'[j]? = l[j]?) (λi=>l.length - i) 0 ⟨ht,am _,l,rfl,ho,λ_ _=>rfl⟩ ?_;clear r2 ho
  rintro i t h' n' ⟨ht',hi,l',fQ,ho,hsame⟩
  have eu:=ht'.le;by_cases dV:i<l.length
  · have c0:l[i]? = some l[i]:=aa dV;generalize l[i]=x at c0
    have c0':l'[i]? = some x:=by rw[hsame i (ae _)];exact c0
    have hx:=ah c0;have ho:=ownE_pos ho (by omega);obtain⟨bb,rfl,fw,hb2⟩:=own_head ho (by omega);have y3:zC h' bb (i*4+3)=some x.sv:=own_at ho (by decide) (tK (f:=regC) (sz:=4) (λ_=>rfl) c0' (j:=3) rfl);have iad:=iadO (sz:=4) (b:=bb) (cap:=inf) dV;have hxo:=((hr.sub hx).row 0).one;repeat' first|refine ob (a:=ptr bb (i*4)) ?_ iad|refine wk ?_|refine cX (λ_=>?_) λ_=>?_|fail
    refine wY (ih (hs2 x hx) (RegsM.tch ht' dX (hr.sub hx)) (by omega)) ?_
    rintro v2 h3 n3 ⟨o2,t3⟩
    have eH:=t3.le;have ho3:=ho.tch t3 (by simp);have iQ:i*4+3<(l'.flatMap regC).length:=by rw[flat_len (f:=regC) (sz:=4) (λ_=>rfl)];omega
    repeat' first|refine ob (a:=ptr bb (i*4)) ?_ iad|refine ob (a:=hst _ bb (i*4+3) [v2]) ?_ (stp_own ho3 rfl iQ o2)|refine wk ?_|refine cX (λ_=>?_) λ_=>?_|fail
    have hp:=own_put (x:=v2) ho3 rfl iQ;rw [flat_set (f:=regC) (sz:=4) (y:=.mk x.name x.w x.a v2 x.subs) (λ_=>rfl) (by decide) rfl c0']at hp;exact rnd (i+1) ⟨zA,by omega,_,by rw[aW];exact fQ,.inl hp,λj hj=>by rw[bp (by omega)];exact hsame j (by omega)⟩
  · obtain rfl:i=l.length:=by omega
    repeat' first|refine wk ?_|refine cX (λ_=>?_) λ_=>?_|fail
    exact⟨_,rfl,o1,zA⟩
end
section
attribute [local simp] vB
abbrev eCls:Nat:=66
abbrev eOp:Nat:=50
abbrev eOpr:Nat:=47
abbrev zMc:Nat:=27+1
theorem tT{lo lo' n n':Nat}{h:zB}{v v':Value}{e sz len e' sz' len':Nat}{vs vs':List Value}(o:OwnE lo n h v e sz len vs)(o':Own lo' n' h v' e' sz' len' vs')(eh:e≠e'∨sz≠sz')(hs:1≤sz'):Dj v v':=λb hb e2=>by
 rcases o with o|⟨⟨b1,z,kd,_,_,rfl,q3,_⟩,_,_⟩
 · exact sM o o' eh b hb e2
 · rcases o' with⟨rfl,_⟩|⟨b2,_,_,rfl,p3,p4,p5,_⟩
   · cases e2
   · injection hb with hb
     injection e2 with e2
     have hb:b1=b:=hb;have e2:b2=b:=e2;subst hb e2;rw [q3]at p3;injection p3 with p3
     injection p3 with p3 _
     have:0<len'*sz':=Nat.mul_pos p5 hs;omega
theorem ownE_lt{lo n b0:Nat}{h:zB}{v:Value}{e sz len:Nat}{vs:List Value}(o:OwnE lo n h v e sz len vs)(hb:b0<lo):∀b,zP v=some b→b∉[b0]:=λb hb2 hx=>by
 have:=o.low b (by rw[hb2];simp);simp at hx;omega
theorem xY{lo lo' n:Nat}{h:zB}{v:Value}{e sz len:Nat}{vs:List Value}(o:OwnE lo n h v e sz len vs)(hl:lo'≤lo):OwnE lo' n h v e sz len vs:=by
 rcases o with o|⟨⟨b,z,kd,h1,h2⟩,h3⟩
 · exact .inl (o.dnl hl)
 · exact .inr ⟨⟨b,z,kd,by omega,h2⟩,h3⟩
structure CpC (lo n:Nat) (h:zB) (c c':ClassT):Prop where
 nm:c'.name=c.name
 rg:c'.regs=c.regs
 row:OwnE lo n h c'.rsv eStr 1 c.regs.length (c.regs.map str)
structure CpO (lo n:Nat) (h:zB) (o o':OpT):Prop where
 nm:o'.name=o.name
 d:o'.d=o.d
 tie:o'.tie=o.tie
 us:o'.uses=o.uses
 cb:o'.clob=o.clob
 ru:OwnE lo n h o'.usv eOpr 2 o.uses.length (o.uses.flatMap oprC)
 rc:OwnE lo n h o'.csv eStr 1 o.clob.length (o.clob.map str)
structure CpM (lo n:Nat) (h:zB) (m m':MachT):Prop where
 nm:m'.name=m.name
 res:m'.result=m.result
 slots:m'.slots=m.slots
 ag:m'.args=m.args
 sd:m'.saved=m.saved
 r1:m'.rsv.oneCell'=true
 cl:m'.classes.length=m.classes.length
 cr:OwnE lo n h m'.csv eCls 2 m.classes.length (m'.classes.flatMap clsC)
 ce:∀(i:Nat) c,m.classes[i]? = some c→∃c',m'.classes[i]? = some c'∧CpC lo n h c c'
 ol:m'.ops.length=m.ops.length
 orr:OwnE lo n h m'.osv eOp 6 m.ops.length (m'.ops.flatMap opC)
 oe:∀(i:Nat) o,m.ops[i]? = some o→∃o',m'.ops[i]? = some o'∧CpO lo n h o o'
 ar:OwnE lo n h m'.asv eStr 1 m.args.length (m.args.map str)
 sr:OwnE lo n h m'.ssv eStr 1 m.saved.length (m.saved.map str)
theorem CpC.tchS{S:List Nat}{lo n n':Nat}{h h':zB}{c c':ClassT}(k:CpC lo n h c c')(t:Tch S h n h' n')(hS:∀b,zP c'.rsv=some b→b∉S):CpC lo n' h' c c':=⟨k.nm,k.rg,k.row.tch t hS⟩
theorem CpO.tchS{S:List Nat}{lo n n':Nat}{h h':zB}{o o':OpT}(k:CpO lo n h o o')(t:Tch S h n h' n')(hS:∀b,zP o'.usv=some b→b∉S)(hS2:∀b,zP o'.csv=some b→b∉S):CpO lo n' h' o o':=⟨k.nm,k.d,k.tie,k.us,k.cb,k.ru.tch t hS,k.rc.tch t hS2⟩
structure SmlM (m:MachT):Prop where
 rg:Sml 6 m.regs
 cls:m.classes.length≤64
 clr:∀c∈m.classes,c.regs.length≤64
 ops:m.ops.length≤64
 opu:∀o∈m.ops,o.uses.length≤2
 opc:∀o∈m.ops,o.clob.length≤200
 args:m.args.length≤200
 saved:m.saved.length≤200
theorem clsC_one{lo:Nat}{h:zB}{m:MachT}(mm:MachM lo h m):∀y∈m.classes.flatMap clsC,y.oneCell'=true:=λy hy=>by
 obtain⟨c,hm,hy⟩:=bF.1 hy;have:=(mm.clsr c hm 0).one;simp at hy;rcases hy with rfl|rfl
 · rfl
 · exact this
theorem opC_one{lo:Nat}{h:zB}{m:MachT}(mm:MachM lo h m):∀y∈m.ops.flatMap opC,y.oneCell'=true:=λy hy=>by
 obtain⟨c,hm,hy⟩:=bF.1 hy;have h1:=(mm.opsu c hm 0).one;have h2:=(mm.opsc c hm 0).one;simp at hy;rcases hy with rfl|rfl|rfl|rfl|rfl|rfl
 · rfl
 · rfl
 · rfl
 · exact h1
 · rfl
 · exact h2
theorem oprC_one(l:List OperT):∀y∈l.flatMap oprC,y.oneCell'=true:=λy hy=>by
 obtain⟨c,hm,hy⟩:=bF.1 hy;simp at hy;rcases hy with rfl|rfl <;> rfl
abbrev mc0:List Value:=[str [],.slice none 0 0,.slice none 0 0,.slice none 0 0,.slice none 0 0,str [],.slice none 0 0,I64 0]
theorem rs_agg{l:List (Nat×Value)}{t:Fr}{h:zB}{i ty sz b off:Nat}{vs:List Value}[s:ShC P ty (.agg sz)](e:lk l t i = .pointer (some ⟨b,off,none⟩))(hl:vs.length=sz)(h0:0<sz)(hr:∀(j:Nat) x,vs[j]? = some x→zC h b (off+j)=some x):Rs P l t h [.cell i ty] [.agg ⟨vs⟩]:=⟨_,_,rfl,by rw[e];exact load_agg s.ok hl h0 hr,rfl⟩
variable {lo n:Nat} {h:zB} {m:MachT}
theorem copied_ret(mm:MachM lo h m)(dX:lo≤n)(sm:SmlM m):Ret P 8 28 [.agg ⟨yU m⟩] h n λv h' n'=>∃m',v = .agg ⟨yU m'⟩∧CpM n n' h' m m'∧Tch [] h n h' n':=by
 obtain⟨o1,o2,o3,o4,o5⟩:=sO mm;have d9:inf<4611686018427387904:=by decide
 have s1:=sm.cls;have s2:=sm.ops;refine ent λu=>?_;repeat' first|refine wk ?_|refine cX (λ_=>?_) λ_=>?_|fail
 refine wY (regs_ret 6 sm.rg (RegsM.tch zA dX mm.regs) (by omega)) ?_
 rintro v1 h2 n2 ⟨ov1,ht2⟩
 have hn2:=ht2.le;repeat' first|refine wk ?_|refine cX (λ_=>?_) λ_=>?_|fail
 have t2:Tch [] h n (hst h2 n (0+1) [v1]) n2:=zA;have gY:Cel (hst h2 n (0+1) [v1]) n zMc 0 [str m.name,v1,m.csv,m.osv,m.asv,str m.result,m.ssv,I64 m.slots]:=zD;have iZ:Cel (hst h2 n (0+1) [v1]) (n+1) zMc 0 mc0:=zD;generalize hst h2 n (0+1) [v1]=h3 at *
 have m3:=mm.tch t2 dX;have zc:=mm.cls 0;have zo:=mm.ops 0;have za:=mm.args 0;have zs:=mm.saved 0;clear ht2;refine wY (clone_cls (m3.cls _) (by omega) (clsC_one mm) (by omega)) ?_
 rintro v4 h4 n4 ⟨w4,t4⟩
 have fL:=t4.le;have ov4:=xB w4;repeat' first|refine wk ?_|refine cX (λ_=>?_) λ_=>?_|fail
 refine wY (clone_op (MachM.tch t4 (by omega) m3 |>.ops _) (by omega) (opC_one mm) (by omega)) ?_
 rintro v5 h5 n5 ⟨w5,t5⟩
 have fm:=t5.le;have ov5:=xB w5;have w4r:=w4.row (by decide);have w5r:=w5.row (by decide);repeat' first|refine wk ?_|refine cX (λ_=>?_) λ_=>?_|fail
 have t6:Tch [] h n (hst (hst h5 n (0+2) [v4]) n (0+3) [v5]) n5:=zA;have d0:Cel (hst (hst h5 n (0+2) [v4]) n (0+3) [v5]) n zMc 0 [str m.name,v1,v4,v5,m.asv,str m.result,m.ssv,I64 m.slots]:=zD;have d1:Cel (hst (hst h5 n (0+2) [v4]) n (0+3) [v5]) (n+1) zMc 0 mc0:=zD;have tS:Tch [n] h5 n5 (hst (hst h5 n (0+2) [v4]) n (0+3) [v5]) n5:=zA;have w4:=xY (lo':=n+2) ((w4.tch t5 (by simp)).tch tS (ownE_lt w4 (by omega))) (by omega);have w5:=xY (lo':=n+2) (w5.tch tS (ownE_lt w5 (by omega))) (by omega);generalize hst (hst h5 n (0+2) [v4]) n (0+3) [v5]=h6 at *
 clear tS t5 t4 w4r w5r gY iZ m3 t2;refine lpR (λi:Nat=>[(1,ptr n 0),(2,ptr (n+1) 0),(19,I64 m.classes.length),(20,I64 i)]) (λi h' n'=>Tch [] h n h' n'∧n+2≤n'∧Cel h' n zMc 0 [str m.name,v1,v4,v5,m.asv,str m.result,m.ssv,I64 m.slots]∧Cel h' (n+1) zMc 0 mc0∧i≤m.classes.length∧OwnE (n+2) n' h' v5 eOp 6 m.ops.length (m.ops.flatMap opC)∧∃cs:List ClassT,cs.length=m.classes.length∧OwnE (n+2) n' h' v4 eCls 2 m.classes.length (cs.flatMap clsC)∧(∀(j:Nat) c,j<i→m.classes[j]? = some c→∃c',cs[j]? = some c'∧CpC (n+2) n' h' c c')∧∀j,i≤j→cs[j]? = m.classes[j]?) (λi=>m.classes.length - i) 0 ⟨t6,by omega,d0,d1,am _,w5,m.classes,rfl,w4,λj c hj=>by omega,λ_ _=>rfl⟩ ?_;clear w4 w5 d0 d1 t6
 rintro i t h' n' ⟨ht,eu,d0,d1,hi,wo,cs,eG,wc,hdone,hsame⟩
 have kj:=ht.le;by_cases dV:i<m.classes.length
 · have c0:m.classes[i]? = some m.classes[i]:=aa dV;generalize m.classes[i]=c at c0
   have c0':cs[i]? = some c:=by rw[hsame i (ae _)];exact c0
   have hx:=ah c0;have ho:=ownE_pos wc (by omega);obtain⟨bb,rfl,fw,hb2⟩:=own_head ho (by omega);have hor:=ho.row (by decide);have y1:zC h' bb (i*2+1)=some c.rsv:=own_at ho (by decide) (tK (f:=clsC) (sz:=2) (λ_=>rfl) c0' (j:=1) rfl);have iad:=iadO (sz:=2) (b:=bb) (cap:=inf) dV;have zr:=mm.clsr c hx 0;have hxo:=zr.one;have hle:=sm.clr c hx;repeat' first|refine ob (a:=ptr bb (i*2)) ?_ iad|refine wk ?_|refine cX (λ_=>?_) λ_=>?_|fail
   refine wY (clone_str ((mm.tch ht dX).clsr c hx 0) (by omega) (str_one _) (by omega)) ?_
   rintro v7 h7 n7 ⟨w7,t7⟩
   have jd:=t7.le;have ov7:=xB w7;have ho7:=ho.tch t7 (by simp);have wo7:=wo.tch t7 (by simp);have w7r:=w7.row (by decide);have iQ:i*2+1<(cs.flatMap clsC).length:=by rw[flat_len (f:=clsC) (sz:=2) (λ_=>rfl)];omega
   repeat' first|refine ob (a:=ptr bb (i*2)) ?_ iad|refine ob (a:=hst _ bb (i*2+1) [v7]) ?_ (stp_own ho7 rfl iQ ov7)|refine wk ?_|refine cX (λ_=>?_) λ_=>?_|fail
   have hp:=own_put (x:=v7) ho7 rfl iQ;rw [flat_set (f:=clsC) (sz:=2) (y:=⟨c.name,v7,c.regs⟩) (λ_=>rfl) (by decide) rfl c0']at hp;have tB:Tch [bb] h7 n7 (hst h7 bb (i*2+1) [v7]) n7:=zA
   exact rnd (i+1) ⟨zA,by omega,zD,zD,by omega,wo7.tch tB (tT wo7 ho7 (.inl (by decide)) (by decide)).no,_,by rw[aW];exact eG,.inl hp,λj c1 hj e=>by
    rcases ai.1 hj with h9|rfl
    · obtain⟨c',e1,e2⟩:=hdone j c1 h9 e;have e2:=CpC.tchS e2 t7 (by simp);exact⟨c',by rw[bp (by omega)];exact e1,CpC.tchS e2 tB (tT e2.row ho7 (.inl (by decide)) (by decide)).no⟩
    · rw[c0]at e;cases e;exact⟨_,bQ (by omega),rfl,rfl,xY (w7.tch tB (ownE_lt w7 (by omega))) (by omega)⟩,λj hj=>by rw[bp (by omega)];exact hsame j (by omega)⟩
 obtain rfl:i=m.classes.length:=by omega
 clear hsame dV hi;have wor:=wo.row (by decide);repeat' first|refine wk ?_|refine cX (λ_=>?_) λ_=>?_|fail
 clear wor;refine lpR (λi:Nat=>[(1,ptr n 0),(2,ptr (n+1) 0),(38,I64 m.ops.length),(39,I64 i)]) (λi h' n'=>Tch [] h n h' n'∧n+2≤n'∧Cel h' n zMc 0 [str m.name,v1,v4,v5,m.asv,str m.result,m.ssv,I64 m.slots]∧Cel h' (n+1) zMc 0 mc0∧i≤m.ops.length∧OwnE (n+2) n' h' v4 eCls 2 m.classes.length (cs.flatMap clsC)∧(∀(j:Nat) c,m.classes[j]? = some c→∃c',cs[j]? = some c'∧CpC (n+2) n' h' c c')∧∃os:List OpT,os.length=m.ops.length∧OwnE (n+2) n' h' v5 eOp 6 m.ops.length (os.flatMap opC)∧(∀(j:Nat) o,j<i→m.ops[j]? = some o→∃o',os[j]? = some o'∧CpO (n+2) n' h' o o')∧∀j,i≤j→os[j]? = m.ops[j]?) (λi=>m.ops.length - i) 0 ⟨ht,by omega,d0,d1,am _,wc,λj c e=>hdone j c (ab.1 e).1 e,m.ops,rfl,wo,λj c hj=>by omega,λ_ _=>rfl⟩ ?_;clear wo wc hdone d0 d1 ht
 rintro i t h' n' ⟨ht,eu,d0,d1,hi,wc,hcd,os,gu,wo,hdone,hsame⟩
 have kj:=ht.le;by_cases dV:i<m.ops.length
 · have c0:m.ops[i]? = some m.ops[i]:=aa dV;generalize m.ops[i]=o at c0
   have c0':os[i]? = some o:=by rw[hsame i (ae _)];exact c0
   have hx:=ah c0;have ho:=ownE_pos wo (by omega);obtain⟨bb,rfl,fw,hb2⟩:=own_head ho (by omega);have hor:=ho.row (by decide);have y3:zC h' bb (i*6+3)=some o.usv:=own_at ho (by decide) (tK (f:=opC) (sz:=6) (λ_=>rfl) c0' (j:=3) rfl);have y5:zC h' bb (i*6+5)=some o.csv:=own_at ho (by decide) (tK (f:=opC) (sz:=6) (λ_=>rfl) c0' (j:=5) rfl);have iad:=iadO (sz:=6) (b:=bb) (cap:=inf) dV;have zu:=mm.opsu o hx 0;have zv:=mm.opsc o hx 0;have hxo:=zu.one;have hxv:=zv.one;have hle:=sm.opu o hx;have ic:=sm.opc o hx;repeat' first|refine ob (a:=ptr bb (i*6)) ?_ iad|refine wk ?_|refine cX (λ_=>?_) λ_=>?_|fail
   refine wY (clone_opr ((mm.tch ht dX).opsu o hx _) (by omega) (oprC_one _) (by omega)) ?_
   rintro v7 h7 n7 ⟨w7,t7⟩
   have jd:=t7.le;have ov7:=xB w7;have w7r:=w7.row (by decide);have ho7:=ho.tch t7 (by simp);have z5:zC h7 bb (i*6+5)=some o.csv:=own_at ho7 (by decide) (tK (f:=opC) (sz:=6) (λ_=>rfl) c0' (j:=5) rfl);repeat' first|refine ob (a:=ptr bb (i*6)) ?_ iad|refine wk ?_|refine cX (λ_=>?_) λ_=>?_|fail
   refine wY (clone_str (((mm.tch ht dX).tch t7 (by omega)).opsc o hx _) (by omega) (str_one _) (by omega)) ?_
   rintro v8 h8 n8 ⟨w8,t8⟩
   have iV:=t8.le;have ov8:=xB w8;have w8r:=w8.row (by decide);have kJ:=ho7.tch t8 (by simp);have wc8:=(wc.tch t7 (by simp)).tch t8 (by simp);have kL:(os.flatMap opC).length=os.length*6:=flat_len (f:=opC) (sz:=6) (λ_=>rfl) os;have iQ:i*6+3<(os.flatMap opC).length:=by omega
   have hp:=own_put (x:=v7) kJ rfl iQ;rw [flat_set (f:=opC) (sz:=6) (y:=⟨o.name,o.d,v7,o.uses,o.tie,o.csv,o.clob⟩) (λ_=>rfl) (by decide) rfl c0']at hp;have c0s:(os.set i ⟨o.name,o.d,v7,o.uses,o.tie,o.csv,o.clob⟩)[i]? = some ⟨o.name,o.d,v7,o.uses,o.tie,o.csv,o.clob⟩:=bQ (by omega);have lW:i*6+5<((os.set i ⟨o.name,o.d,v7,o.uses,o.tie,o.csv,o.clob⟩).flatMap opC).length:=by rw[flat_len (f:=opC) (sz:=6) (λ_=>rfl),aW];omega
   repeat' first|refine ob (a:=ptr bb (i*6)) ?_ iad|refine ob (a:=hst (hst _ bb (i*6+3) [v7]) bb (i*6+5) [v8]) ?_ (stp_own hp rfl lW ov8)|refine ob (a:=hst _ bb (i*6+3) [v7]) ?_ (stp_own kJ rfl iQ ov7)|refine wk ?_|refine cX (λ_=>?_) λ_=>?_|fail
   have kP:=own_put (x:=v8) hp rfl lW;rw [flat_set (f:=opC) (sz:=6) (y:=⟨o.name,o.d,v7,o.uses,o.tie,v8,o.clob⟩) (λ_=>rfl) (by decide) rfl c0s]at kP;have tB:Tch [bb] h8 n8 (hst (hst h8 bb (i*6+3) [v7]) bb (i*6+5) [v8]) n8:=zA
   exact rnd (i+1) ⟨zA,by omega,zD,zD,by omega,wc8.tch tB (tT wc8 kJ (.inl (by decide)) (by decide)).no,λj c e=>by
    obtain⟨c',e1,e2⟩:=hcd j c e;have e2:=CpC.tchS (CpC.tchS e2 t7 (by simp)) t8 (by simp);exact⟨c',e1,CpC.tchS e2 tB (tT e2.row kJ (.inl (by decide)) (by decide)).no⟩,_,by rw[aW,aW];exact gu,.inl kP,λj c1 hj e=>by
    rcases ai.1 hj with h9|rfl
    · obtain⟨c',e1,e2⟩:=hdone j c1 h9 e;have e2:=CpO.tchS (CpO.tchS e2 t7 (by simp) (by simp)) t8 (by simp) (by simp);exact⟨c',by rw[bp (by omega),bp (by omega)];exact e1,CpO.tchS e2 tB (tT e2.ru kJ (.inl (by decide)) (by decide)).no (tT e2.rc kJ (.inl (by decide)) (by decide)).no⟩
    · rw[c0]at e;cases e;have w7':=w7.tch t8 (by simp);exact⟨_,bQ (by rw[aW];omega),rfl,rfl,rfl,rfl,rfl,xY (w7'.tch tB (ownE_lt w7' (by omega))) (by omega),xY (w8.tch tB (ownE_lt w8 (by omega))) (by omega)⟩,λj hj=>by rw[bp (by omega),bp (by omega)];exact hsame j (by omega)⟩
 obtain rfl:i=m.ops.length:=by omega
 clear hsame dV hi;have s3:=sm.args;have s4:=sm.saved;repeat' first|refine wk ?_|refine cX (λ_=>?_) λ_=>?_|fail
 refine wY (clone_str ((mm.tch ht dX).args _) (by omega) (str_one _) (by omega)) ?_
 rintro v7 h7 n7 ⟨w7,t7⟩
 have jd:=t7.le;have ov7:=xB w7;have w7r:=w7.row (by decide);repeat' first|refine wk ?_|refine cX (λ_=>?_) λ_=>?_|fail
 refine wY (clone_str (((mm.tch ht dX).tch t7 (by omega)).saved _) (by omega) (str_one _) (by omega)) ?_
 rintro v8 h8 n8 ⟨w8,t8⟩
 have iV:=t8.le;have ov8:=xB w8;have w8r:=w8.row (by decide);have wcr:=xB wc;have wor:=xB wo;repeat' first|refine wk ?_|refine cX (λ_=>?_) λ_=>?_|fail
 have q1:Cel (hst (hst (hst h8 n (0+4) [v7]) n (0+6) [v8]) (n+1) 0 [str m.name,v1,v4,v5,v7,str m.result,v8,I64 m.slots]) (n+1) zMc 0 [str m.name,v1,v4,v5,v7,str m.result,v8,I64 m.slots]:=zD;have tE:Tch [n,n+1] h8 n8 (hst (hst (hst h8 n (0+4) [v7]) n (0+6) [v8]) (n+1) 0 [str m.name,v1,v4,v5,v7,str m.result,v8,I64 m.slots]) n8:=zA;have tF:Tch [n,n+1] h' n' (hst (hst (hst h8 n (0+4) [v7]) n (0+6) [v8]) (n+1) 0 [str m.name,v1,v4,v5,v7,str m.result,v8,I64 m.slots]) n8:=zA;have tG:Tch [n,n+1] h7 n7 (hst (hst (hst h8 n (0+4) [v7]) n (0+6) [v8]) (n+1) 0 [str m.name,v1,v4,v5,v7,str m.result,v8,I64 m.slots]) n8:=zA;have tZ:Tch [] h n (hst (hst (hst h8 n (0+4) [v7]) n (0+6) [v8]) (n+1) 0 [str m.name,v1,v4,v5,v7,str m.result,v8,I64 m.slots]) n8:=zA;refine ob (a:=[.agg ⟨[str m.name,v1,v4,v5,v7,str m.result,v8,I64 m.slots]⟩]) ?_ (rs_agg (b:=n+1) (off:=0) (by(apply lk_box;((conv=>lhs;whnf) <;> exact rfl))) rfl (by simp) λj x hj=>(congrArg (zC _ _) (aG j)).trans ((q1.2 j).trans hj))
 repeat' first|refine wk ?_|refine cX (λ_=>?_) λ_=>?_|fail
 have no:∀{lo' n1 h1 v e sz len vs},OwnE lo' n1 h1 v e sz len vs→n+2≤lo'→∀b,zP v=some b→b∉[n,n+1]:=λo hl b hb hx=>by
  have:=o.low b (by rw[hb];simp);simp at hx;omega
 exact⟨_,rfl,⟨m.name,v1,m.regs,v4,cs,v5,os,v7,m.args,m.result,v8,m.saved,m.slots⟩,rfl,⟨rfl,rfl,rfl,rfl,rfl,ov1,eG,xY (wc.tch tF (no wc (ae _))) (by omega),λj c e=>by
  obtain⟨c',e1,e2⟩:=hcd j c e;have e3:=CpC.tchS e2 tF (no e2.row (ae _));exact⟨c',e1,e3.nm,e3.rg,xY e3.row (by omega)⟩,gu,xY (wo.tch tF (no wo (ae _))) (by omega),λj o e=>by
  obtain⟨o',e1,e2⟩:=hdone j o (ab.1 e).1 e;have e3:=CpO.tchS e2 tF (no e2.ru (ae _)) (no e2.rc (ae _));exact⟨o',e1,e3.nm,e3.d,e3.tie,e3.us,e3.cb,xY e3.ru (by omega),xY e3.rc (by omega)⟩,xY (w7.tch tG (no w7 (by omega))) (by omega),xY (w8.tch tE (no w8 (by omega))) (by omega)⟩,tZ⟩
end
section
attribute [local simp] vB
abbrev vU:Nat:=3
abbrev eSet:Nat:=92
abbrev yS:Nat:=55
abbrev eSets:Nat:=88
abbrev zTb:Nat:=94+1
def SetEl(lo n:Nat)(h:zB)(p:Value×List Nat):Prop:=SetW p.2∧Kep lo n h p.1 tU 1 p.2.length (p.2.map U64)
def IntEl(lo n:Nat)(h:zB)(p:Value×List Int):Prop:=Own lo n h p.1 vU 1 p.2.length (p.2.map I64)
abbrev Sets(lo n:Nat)(h:zB)(v:Value)(L:List (Value×List Nat)):Prop:=Lst eSet (λp:Value×List Nat=>p.1) SetEl lo n h v L
abbrev Ints(lo n:Nat)(h:zB)(v:Value)(L:List (Value×List Int)):Prop:=Lst yS (λp:Value×List Int=>p.1) IntEl lo n h v L
theorem SetEl.kx{e lo n n':Nat}{h h':zB}{p:Value×List Nat}(s:SetEl lo n h p)(k:Kx e h n h' n')(eh:tU≠e):SetEl lo n' h' p:=⟨s.1,s.2.kx k (.inl eh)⟩
theorem IntEl.kx{e lo n n':Nat}{h h':zB}{p:Value×List Int}(s:IntEl lo n h p)(k:Kx e h n h' n')(eh:vU≠e):IntEl lo n' h' p:=Own.kx s k (.inl eh)
theorem yD{e lo n n':Nat}{h h':zB}{v:Value}{L:List (Value×List Nat)}(o:Sets lo n h v L)(k:Kx e h n h' n')(h1:eSet≠e)(h2:tU≠e):Sets lo n' h' v L:=o.kx k h1 λ_ s=>SetEl.kx s k h2
theorem vC{e lo n n':Nat}{h h':zB}{v:Value}{L:List (Value×List Int)}(o:Ints lo n h v L)(k:Kx e h n h' n')(h1:yS≠e)(h2:vU≠e):Ints lo n' h' v L:=o.kx k h1 λ_ s=>IntEl.kx s k h2
def LapW(ps:List Pl)(j:Nat)(ws:List Nat):Prop:=∀k,uB ws k=match ps[j]?,ps[k]? with|some a,some b=>sP a b|_,_=>false
variable {lo bt n:Nat} {h:zB} {psv:Value} {ps:List Pl} {x0 x1 x2 x3 x4 x5 x6 x7 x8 x10 x11 x12 x14 x15 x16 x17 x18 x19 x20:Value}
theorem lapping_com(hc:Cel h bt zTb 0 [x0,x1,x2,x3,x4,x5,x6,x7,x8,psv,x10,x11,x12,.slice none 0 0,x14,x15,x16,x17,x18,x19,x20])(hb:bt<n)(op:Own lo n h psv ePl 3 ps.length (ps.flatMap plC))(dX:lo≤n)(hl:ps.length≤200)(eR:∀p∈ps,PlG p):Com P 8 33 [ptr bt 0] h n λo h' n'=>o = .ret (.tuple #[])∧Tch [bt] h n h' n'∧∃lv L,Cel h' bt zTb 0 [x0,x1,x2,x3,x4,x5,x6,x7,x8,psv,x10,x11,x12,lv,x14,x15,x16,x17,x18,x19,x20]∧Sets n n' h' lv L∧L.length=ps.length∧∀(j:Nat) p,L[j]? = some p→LapW ps j p.2:=by
 have d9:inf<4611686018427387904:=by decide
 have iC:1000000≤inf:=by decide
 have hpb:=yE hc op;have rp:=op.row (by decide);refine ent λu=>?_;repeat' first|refine wk ?_|refine cX (λ_=>?_) λ_=>?_|fail
 refine lpR (λi:Nat=>[(0,ptr bt 0),(10,psv),(11,I64 ps.length),(12,I64 i)]) (λi h' n'=>Tch [bt] h n h' n'∧i≤ps.length∧∃lv L,Cel h' bt zTb 0 [x0,x1,x2,x3,x4,x5,x6,x7,x8,psv,x10,x11,x12,lv,x14,x15,x16,x17,x18,x19,x20]∧Sets n n' h' lv L∧L.length=i∧∀(j:Nat) p,L[j]? = some p→LapW ps j p.2) (λi=>ps.length - i) 0 ⟨zA,am _,_,[],hc,Lst.nil,rfl,λj p e=>by cases e⟩ ?_;clear rp
 rintro i t h' n' ⟨ht,hi,lv,L,eS,hS,ip,hL⟩
 have eu:=ht.le;have op':=op.tch ht (yR hpb);have rp':=op'.row (by decide);by_cases dV:i<ps.length
 · have c0:ps[i]? = some ps[i]:=aa dV;generalize ps[i]=p at c0
   have c1:=zK rp' c0;have hpm:=ah c0;have fH:=rp'.low (by omega);repeat' first|refine wk ?_|refine cX (λ_=>?_) λ_=>?_|fail
   refine lpR (α :=Nat×Value×List Int) (λa=>[(0,ptr bt 0),(3,ptr n' 0),(4,a.2.1),(10,psv),(11,I64 ps.length),(12,I64 i),(19,psv),(20,I64 ps.length),(21,I64 a.1)]) (λa h2 n2=>Tch [] h' n' h2 n2∧n'<n2∧Cel h2 n' (ePl+1) 0 (plC p)∧a.1≤ps.length∧Own n' n2 h2 a.2.1 vU 1 a.2.2.length (a.2.2.map I64)∧a.2.2.length≤a.1∧∀k:Nat,((k:Nat):Int)∈a.2.2↔k<a.1∧∃q,ps[k]? = some q∧sP p q=true) (λa=>ps.length - a.1) (0,.slice none 0 0,[]) ⟨zA,by omega,zD,am _,Own.nil,ae _,λk=>⟨λh=>(by cases h),λh=>by omega⟩⟩ ?_
   rintro ⟨q,v4,l4⟩ t h2 n2 ⟨ht2,hn2,hcp,hq,ho,hU,eJ⟩
   dsimp only at hq ho hU eJ ⊢;have op2:=op'.tch ht2 (by simp);have rp2:=op2.row (by decide);by_cases d5:q<ps.length
   · have d0:ps[q]? = some ps[q]:=aa d5;generalize ps[q]=y at d0
     have d1:=zK rp2 d0;have hym:=ah d0;have lf:=rp2.low (by omega);repeat' first|refine wk ?_|refine cX (λ_=>?_) λ_=>?_|refine zX (lap_pur _ _ (eR p hpm).ok (eR y hym).ok _ _) ?_|fail
     · rename_i f1;refine appO (ho.tch (S:=[]) zA (by simp)) (zL (e:=vU) (sz:=1) (len:=1) rfl (by decide)) (by omega) ⟨rfl,trivial⟩ (by omega) ?_
       rintro v5 h5 n5 ho5 ht5
       have fm:=ht5.le;have ht6:Tch [] h' n' h5 n5:=Tch.tch ht5 zA λx hx=>.inl (zZ ho x hx);have hcp5:Cel h5 n' (ePl+1) 0 (plC p):=Cel.app (hcp.tch (S:=[]) zA (by omega) (by simp)) (ho.tch (S:=[]) zA (by simp)) ht5 (by omega);repeat' first|refine wk ?_|refine cX (λ_=>?_) λ_=>?_|fail
       exact rnd ((q+1,v5,l4++[((q:Nat):Int)])) ⟨ht6,by omega,hcp5,by dsimp only;omega,by dsimp only;rw [ak,aK];exact ho5,by dsimp only;rw [ak];simp;omega,λk=>by
        dsimp only;rw [az,eJ k];refine⟨λh9=>?_,λ⟨h9,z,e,e2⟩=>?_⟩
        · rcases h9 with⟨h9,h8⟩|h9
          · exact⟨by omega,h8⟩
          · simp at h9;have h9:k=q:=by omega
            subst h9;exact⟨aS _,y,d0,f1⟩
        · rcases ai.1 h9 with h9|rfl
          · exact .inl ⟨h9,z,e,e2⟩
          · exact .inr (by simp)⟩
     · rename_i f1
       exact rnd (q+1,v4,l4) ⟨zA,by omega,zD,by dsimp only;omega,ho.tch (S:=[]) zA (by simp),by dsimp only;omega,λk=>by
        dsimp only;rw [eJ k];refine⟨λ⟨h9,h8⟩=>⟨by omega,h8⟩,λ⟨h9,z,e,e2⟩=>?_⟩;rcases ai.1 h9 with h9|rfl
        · exact⟨h9,z,e,e2⟩
        · rw[d0]at e;cases e;rw [f1]at e2;cases e2⟩
   · obtain rfl:q=ps.length:=by omega
     have hcb:Cel h2 bt zTb 0 [x0,x1,x2,x3,x4,x5,x6,x7,x8,psv,x10,x11,x12,lv,x14,x15,x16,x17,x18,x19,x20]:=zD;have lrow:=hS.1.row (by decide);have lone:=hS.1.one;have o4:=ho.one;have tq:Tch [] h' n' h2 n2:=ht2;repeat' first|refine wk ?_|refine cX (λ_=>?_) λ_=>?_|fail
     refine wY (of_ret (ho.row (by decide)) (by omega) (by omega)) ?_
     rintro _ h5 n5 ⟨wv,ws,rfl,hsw,iK,kw,t5⟩
     have fm:=t5.le;have wone:=kw.one;have tq5:Tch [] h' n' h5 n5:=Tch.tch t5 tq (by simp);have hS5:=yD (e:=yS) hS tq5.kx (by decide) (by decide);have j2:=hcb.tch t5 (by omega) (by simp);clear hcp ht2 op2 rp2 t5 tq;have gE:∀x,Sets n (n5+1) (hal h5 n5 x) lv L:=λx=>yD (e:=yS) hS5 (Tch.kx (zA:Tch [] h5 n5 (hal h5 n5 x) (n5+1))) (by decide) (by decide);repeat' first|refine wk ?_|refine cX (λ_=>?_) λ_=>?_|fail
     refine appN (gE _).1 (zL (e:=eSet) (sz:=1) (len:=1) rfl (by decide)) (by decide) ⟨wone,trivial⟩ (by omega) ?_
     rintro v6 h6 n6 o6 t6
     have gM:=t6.le;have o6o:=o6.one;have hcb6:=Cel.app (Cel.tch (S:=[]) j2 zA (by omega) (by simp)) (gE _).1 t6 (by omega);have kx6:Kx eSet _ _ h6 n6:=kx_own (gE _).1 t6;have hS6:Sets n n6 h6 v6 (L++[(wv,ws)]):=Lst.app (gE _) o6 (by omega) (λy s=>SetEl.kx s kx6 (by decide)) (SetEl.kx (n:=n5+1) (h:=hal h5 n5 _) ⟨hsw,Kep.kx (Kep.dnl kw (by omega)) (Tch.kx (e:=yS) (zA:Tch [] h5 n5 _ _)) (.inl (by decide))⟩ kx6 (by decide));have tb5:Tch [bt] h n h5 n5:=Tch.tch tq5 ht (by simp);have tz6:Tch [bt] h n h6 n6:=Tch.tch t6 (zA:Tch [bt] h n (hal h5 n5 _) (n5+1)) λx hx=>.inl (zZ (gE (mkC [wv] 0 0)).1 x hx);clear gE hS5 tq5 tb5 t6;repeat' first|refine wk ?_|refine cX (λ_=>?_) λ_=>?_|fail
     have tS:Tch [bt] h6 n6 (hst h6 bt (0+13) [v6]) n6:=zA;have kS:Kx yS h6 n6 (hst h6 bt (0+13) [v6]) n6:=kx_cel hcb6 tS
     exact rnd (i+1) ⟨zA,by omega,v6,L++[(wv,ws)],zD,yD hS6 kS (by decide) (by decide),by rw[ak,ip];rfl,λj r e=>by
      rcases aw j L.length with h9|h9
      · rw[ax h9]at e;exact hL j r e
      · rw[au h9]at e
        have h8:j - L.length=0:=by
         rcases bz (j - L.length) with h8|h8
         · exact h8
         · rw[an (by simp;omega)]at e;cases e
        rw[h8]at e;cases e
        obtain rfl:j=i:=by omega
        intro k;rw [c0];have h7:=iK k;rw [eJ k]at h7
        cases e9:ps[k]? with
        | none =>
         show uB ws k=false
         cases e8:uB ws k with
         | false=>rfl
         | true=>
          obtain⟨⟨_,z,e7,_⟩,_⟩:=h7.1 e8;rw [e9]at e7;cases e7
        | some z=>
         show uB ws k=sP p z;have hk:=(ab.1 e9).1;refine bC.2 (h7.trans ⟨λ⟨⟨_,z',e7,e6⟩,_⟩=>?_,λe7=>⟨⟨hk,z,e9,e7⟩,by omega⟩⟩);rw [e9]at e7;cases e7;exact e6⟩
 · obtain rfl:i=ps.length:=by omega
   repeat' first|refine wk ?_|refine cX (λ_=>?_) λ_=>?_|fail
   exact⟨rfl,ht,lv,L,eS,hS,ip,hL⟩
end
section
attribute [local simp] vB
theorem idxf_int{lo e n:Nat}{h:zB}{sv:Value}{l:List Int}{g:FuncId}{fs cs:List Value}{p:Int→Bool}(r:Row lo h sv e 1 l.length (l.map I64))(hl:l.length<inf)(hp:∀x∈l,Pur P 8 g (fs++([I64 x]++cs)) h n (.bool (p x))):Pur P 8 144 [sv,.func (.func g) ⟨fs⟩ ⟨cs⟩] h n (I64 (posF p l)):=by
 have d9:inf<4611686018427387904:=by decide
 refine ent λu=>?_;repeat' first|refine wk ?_|refine cX (λ_=>?_) λ_=>?_|fail
 refine lpR (λk:Nat=>[(0,sv),(1,.func (.func g) ⟨fs⟩ ⟨cs⟩),(7,I64 l.length),(8,I64 k)]) (λk h' n'=>h'=h∧n'=n∧k≤l.length∧∀(j:Nat) y,j<k→l[j]? = some y→p y=false) (λk=>l.length - k) 0 ⟨rfl,rfl,am _,λj y hj=>by omega⟩ ?_
 rintro k t h' n' ⟨rfl,rfl,hk,dY⟩
 by_cases dV:k<l.length
 · have c0:l[k]? = some l[k]:=aa dV;have c1:=xF r c0;have c2:=hp l[k] (aR dV);repeat' first|refine wk ?_|refine cX (λ_=>?_) λ_=>?_|refine zX c2 ?_|fail
   · rename_i e1;exact fin (by rw[posF_hit c0 e1 dY])
   · rename_i e1
     exact rnd (k+1) ⟨rfl,rfl,by omega,λj y hj e2=>by
      rcases ai.1 hj with h9|rfl
      · exact dY j y h9 e2
      · rw[c0]at e2;cases e2;exact e1⟩
 · obtain rfl:k=l.length:=by omega
   repeat' first|refine wk ?_|refine cX (λ_=>?_) λ_=>?_|fail
   exact fin (by rw[posF_no λj y hj=>dY j y (ab.1 hj).1 hj])
theorem contf_int{lo e n:Nat}{h:zB}{sv:Value}{l:List Int}{g:FuncId}{fs cs:List Value}{p:Int→Bool}(r:Row lo h sv e 1 l.length (l.map I64))(hl:l.length<inf)(hp:∀x∈l,Pur P 8 g (fs++([I64 x]++cs)) h n (.bool (p x))):Pur P 8 91 [sv,.func (.func g) ⟨fs⟩ ⟨cs⟩] h n (.bool (l.any p)):=by
 refine ent λu=>?_;repeat' first|refine wk ?_|refine cX (λ_=>?_) λ_=>?_|refine zX (idxf_int r hl hp) ?_|fail
 exact fin (by rw[show decide (0≤posF p l)=l.any p from by cases h9:l.any p with
  | true=>exact decide_eq_true (posF_ge.2 h9)
  | false=>exact decide_eq_false λh=>by rw[posF_ge.1 h]at h9;cases h9])
variable {lo bt n:Nat} {h:zB} {psv sav:Value} {ps:List Pl} {sl:List Int} {x0 x1 x2 x3 x4 x5 x6 x7 x8 x10 x11 x12 x13 x14 x15 x16 x17 x18 x19 x20:Value}
def wAt(ps:List Pl)(p:Pl)(s:Int):Bool:=match ps[s.toNat]? with|some q=>withinB p q|none=>false
def surB(ps:List Pl)(sl:List Int)(p:Pl):Bool:=sl.any (wAt ps p)
theorem surv1_pur{pc tc:Nat}{a b:Pl}{s:Nat}(hc:Cel h bt zTb 0 [x0,x1,x2,x3,x4,x5,x6,x7,x8,psv,x10,x11,x12,x13,x14,x15,x16,sav,x18,x19,x20])(rp:Row n h psv ePl 3 ps.length (ps.flatMap plC))(ha:PlOK a)(hb:PlOK b)(hs:ps[s]? = some b)(hl:ps.length≤200)(c1:Cel h pc (ePl+1) 0 (plC a))(c2:zC h tc 0=some (ptr bt 0))(h1:bt<n)(h2:pc<n)(h3:tc<n):Pur P 8 89 [I64 (s:Nat),ptr pc 0,ptr tc 0] h n (.bool (withinB a b)):=by
 have r1:=zK rp hs;have hsl:=(ab.1 hs).1;have fH:=rp.low (by omega);refine Com.pure (ent λu=>?_) (.inl rfl);repeat' first|refine wk ?_|refine cX (λ_=>?_) λ_=>?_|refine zX (within_pur _ _ ha hb _ _) ?_|fail
 exact finT rfl zA
abbrev zPt:Nat:=34+1
theorem surviving_com(hc:Cel h bt zTb 0 [x0,x1,x2,x3,x4,x5,x6,x7,x8,psv,x10,x11,x12,x13,x14,x15,x16,x17,sav,x19,x20])(hb:bt<n)(op:Own lo n h psv ePl 3 ps.length (ps.flatMap plC))(os:Own lo n h sav vU 1 sl.length (sl.map I64))(dX:lo≤n)(hl:ps.length≤200)(hsl:sl.length≤200)(eR:∀p∈ps,PlG p)(hs:∀s∈sl,∃k:Nat,s=(k:Nat)∧k<ps.length):Com P 8 35 [ptr bt 0] h n λo h' n'=>o = .ret (.tuple #[])∧Tch [bt] h n h' n'∧∃kv ws,Cel h' bt zTb 0 [x0,x1,x2,x3,x4,x5,x6,x7,x8,psv,x10,x11,x12,x13,x14,x15,x16,x17,sav,x19,kv]∧SetEl n n' h' (kv,ws)∧∀k:Nat,uB ws k=match ps[k]? with|some p=>surB ps sl p|none=>false:=by
 have d9:inf<4611686018427387904:=by decide
 have iC:1000000≤inf:=by decide
 have rp:=op.row (by decide);have rs:=os.row (by decide);refine ent λu=>?_;repeat' first|refine wk ?_|refine cX (λ_=>?_) λ_=>?_|fail
 refine lpR (α :=Nat×Value×List Int) (λa=>[(1,ptr n 0),(2,a.2.1),(9,psv),(10,I64 ps.length),(11,I64 a.1)]) (λa h2 n2=>Tch [] h n h2 n2∧n<n2∧Cel h2 n zPt 0 [ptr bt 0]∧a.1≤ps.length∧Own n n2 h2 a.2.1 vU 1 a.2.2.length (a.2.2.map I64)∧a.2.2.length≤a.1∧∀k:Nat,((k:Nat):Int)∈a.2.2↔k<a.1∧∃p,ps[k]? = some p∧surB ps sl p=true) (λa=>ps.length - a.1) (0,.slice none 0 0,[]) ⟨zA,by omega,zD,am _,Own.nil,ae _,λk=>⟨λh=>(by cases h),λh=>by omega⟩⟩ ?_
 rintro ⟨q,v4,l4⟩ t h2 n2 ⟨ht2,hn2,hcp,hq,ho,hU,eJ⟩
 dsimp only at hq ho hU eJ ⊢;have op2:=op.tch ht2 (by simp);have os2:=os.tch ht2 (by simp);have rp2:=op2.row (by decide);have rs2:=os2.row (by decide);have hc2:=hc.tch ht2 hb (by simp);by_cases d5:q<ps.length
 · have d0:ps[q]? = some ps[q]:=aa d5;generalize ps[q]=y at d0
   have d1:=zK rp2 d0;have hym:=ah d0;have lf:=rp2.low (by omega);have kA:Cel (hst (hal h2 n2 (mkC [I64 0,I64 0,I64 0] (ePl+1) 0)) n2 0 (plC y)) bt zTb 0 [x0,x1,x2,x3,x4,x5,x6,x7,x8,psv,x10,x11,x12,x13,x14,x15,x16,x17,sav,x19,x20]:=zD;have kB:Cel (hst (hal h2 n2 (mkC [I64 0,I64 0,I64 0] (ePl+1) 0)) n2 0 (plC y)) n2 (ePl+1) 0 (plC y):=zD;have kC:zC (hst (hal h2 n2 (mkC [I64 0,I64 0,I64 0] (ePl+1) 0)) n2 0 (plC y)) n 0=some (ptr bt 0):=zM
   have hp9:∀x∈sl,Pur P 8 89 ([]++([I64 x]++[ptr n2 0,ptr n 0])) (hst (hal h2 n2 (mkC [I64 0,I64 0,I64 0] (ePl+1) 0)) n2 0 (plC y)) (n2+1) (.bool (wAt ps y x)):=λx hx=>by
    obtain⟨k,rfl,hk⟩:=hs x hx;have e0:ps[k]? = some ps[k]:=aa hk;have e1:ps[((k:Nat):Int).toNat]? = some ps[k]:=e0;unfold wAt;rw [e1];exact surv1_pur kA ((op2.tch (S:=[]) zA (by simp)).row (by decide)) (eR y hym).ok (eR _ (aR hk)).ok e0 hl kB kC (by omega) (by omega) (by omega)
   repeat' first|refine wk ?_|refine cX (λ_=>?_) λ_=>?_|refine zX (show Pur P 8 _ _ _ _ (.bool (surB ps sl y)) from contf_int (p:=wAt ps y) ((os2.tch (S:=[]) zA (by simp)).row (by decide)) (by omega) hp9) ?_|fail
   · rename_i f1;refine appO (ho.tch (S:=[]) zA (by simp)) (zL (e:=vU) (sz:=1) (len:=1) rfl (by decide)) (by omega) ⟨rfl,trivial⟩ (by omega) ?_
     rintro v5 h5 n5 ho5 ht5
     have fm:=ht5.le;have ht6:Tch [] h n h5 n5:=Tch.tch ht5 zA λx hx=>.inl (zZ ho x hx);have hcp5:Cel h5 n zPt 0 [ptr bt 0]:=Cel.app (hcp.tch (S:=[]) zA (by omega) (by simp)) (ho.tch (S:=[]) zA (by simp)) ht5 (by omega);repeat' first|refine wk ?_|refine cX (λ_=>?_) λ_=>?_|fail
     exact rnd ((q+1,v5,l4++[((q:Nat):Int)])) ⟨ht6,by omega,hcp5,by dsimp only;omega,by dsimp only;rw [ak,aK];exact ho5,by dsimp only;rw [ak];simp;omega,λk=>by
      dsimp only;rw [az,eJ k];refine⟨λh9=>?_,λ⟨h9,z,e,e2⟩=>?_⟩
      · rcases h9 with⟨h9,h8⟩|h9
        · exact⟨by omega,h8⟩
        · simp at h9;have h9:k=q:=by omega
          subst h9;exact⟨aS _,y,d0,f1⟩
      · rcases ai.1 h9 with h9|rfl
        · exact .inl ⟨h9,z,e,e2⟩
        · exact .inr (by simp)⟩
   · rename_i f1
     exact rnd (q+1,v4,l4) ⟨zA,by omega,zD,by dsimp only;omega,ho.tch (S:=[]) zA (by simp),by dsimp only;omega,λk=>by
      dsimp only;rw [eJ k];refine⟨λ⟨h9,h8⟩=>⟨by omega,h8⟩,λ⟨h9,z,e,e2⟩=>?_⟩;rcases ai.1 h9 with h9|rfl
      · exact⟨h9,z,e,e2⟩
      · rw[d0]at e;cases e;rw [f1]at e2;cases e2⟩
 · obtain rfl:q=ps.length:=by omega
   have o4:=ho.one;repeat' first|refine wk ?_|refine cX (λ_=>?_) λ_=>?_|fail
   refine wY (of_ret (ho.row (by decide)) (by omega) (by omega)) ?_
   rintro _ h5 n5 ⟨wv,ws,rfl,hsw,iK,kw,t5⟩
   have fm:=t5.le;have wone:=kw.one;have hc5:=hc2.tch t5 (by omega) (by simp);have hcp5:=hcp.tch t5 (by omega) (by simp);repeat' first|refine wk ?_|refine cX (λ_=>?_) λ_=>?_|fail
   have tb5:Tch [] h n h5 n5:=Tch.tch t5 ht2 (by simp);have tS:Tch [bt] h5 n5 (hst h5 bt (0+20) [wv]) n5:=zA;have kS:Kx yS h5 n5 (hst h5 bt (0+20) [wv]) n5:=kx_cel hc5 tS;have tbb:Tch [bt] h n (hst h5 bt (0+20) [wv]) n5:=zA
   exact⟨rfl,tbb,wv,ws,zD,SetEl.kx ⟨hsw,kw.dnl (by omega)⟩ kS (by decide),λk=>by
    have h7:=iK k;rw [eJ k]at h7
    cases e9:ps[k]? with
    | none =>
     show uB ws k=false
     cases e8:uB ws k with
     | false=>rfl
     | true=>
      obtain⟨⟨_,z,e7,_⟩,_⟩:=h7.1 e8;rw [e9]at e7;cases e7
    | some z=>
     show uB ws k=surB ps sl z;have hk:=(ab.1 e9).1;refine bC.2 (h7.trans ⟨λ⟨⟨_,z',e7,e6⟩,_⟩=>?_,λe7=>⟨⟨hk,z,e9,e7⟩,by omega⟩⟩);rw [e9]at e7;cases e7;exact e6⟩
end
section
attribute [local simp] vB
theorem celE{lo n b z:Nat}{h:zB}{v:Value}{e sz len:Nat}{vs ws:List Value}(c:Cel h b z 0 ws)(h0:0<ws.length)(o:OwnE lo n h v e sz len vs):∀b',zP v=some b'→b'∉[b]:=λb' hb hx=>by
 simp at hx;subst hx;rcases o with o|⟨⟨b1,z',kd,_,_,rfl,q3,_⟩,_,_⟩
 · exact yE c o (by rw[hb];simp)
 · injection hb with hb
   have hb:b1=b':=hb;subst hb;rw [c.1]at q3;injection q3 with q3
   injection q3 with q3 _
   omega
theorem wK{lo n n' bt z:Nat}{h h':zB}{cs:List Value}{v:Value}{L:List (Value×List Nat)}(o:Sets lo n h v L)(c:Cel h bt z 0 cs)(t:Tch [bt] h n h' n'):Sets lo n' h' v L:=yD (e:=yS) o (kx_cel c t) (by decide) (by decide)
theorem uS{lo n n' bt z:Nat}{h h':zB}{cs:List Value}{v:Value}{L:List (Value×List Int)}(o:Ints lo n h v L)(c:Cel h bt z 0 cs)(t:Tch [bt] h n h' n'):Ints lo n' h' v L:=vC (e:=eSets) o (kx_cel c t) (by decide) (by decide)
theorem own_slv{lo n:Nat}{h:zB}{v:Value}{e sz len:Nat}{vs:List Value}(o:Own lo n h v e sz len vs):∃a b c,v = .slice a b c:=by
 rcases o with⟨rfl,_⟩|⟨b,_,_,rfl,_⟩ <;> exact⟨_,_,_,rfl⟩
structure Opd (lo n:Nat) (h:zB) (rb cb:Nat) (osv lapv inv:Value) (os:List OpT) (ns cns:List Tx) (L I:List (Value×List Nat)):Prop where
 ops:OwnE lo n h osv eOp 6 os.length (os.flatMap opC)
 ru:∀o∈os,OwnE lo n h o.usv eOpr 2 o.uses.length (o.uses.flatMap oprC)
 rc:∀o∈os,OwnE lo n h o.csv eStr 1 o.clob.length (o.clob.map str)
 mr:MpS h rb (numL ns)
 mc:MpS h cb (numL cns)
 hb:rb<n∧cb<n
 lap:Sets lo n h lapv L
 ins:Sets lo n h inv I
section
variable {lo n n' rb cb:Nat} {h h':zB} {osv lapv inv:Value} {os:List OpT} {ns cns:List Tx} {L I:List (Value×List Nat)}
theorem Opd.tchB{bt z:Nat}{cs:List Value}(k:Opd lo n h rb cb osv lapv inv os ns cns L I)(c:Cel h bt z 0 cs)(h0:0<cs.length)(t:Tch [bt] h n h' n'):Opd lo n' h' rb cb osv lapv inv os ns cns L I:=by
 obtain⟨b1,b2⟩:=k.hb;have:=t.le;exact⟨k.ops.tch t (celE c h0 k.ops),λo ho=>(k.ru o ho).tch t (celE c h0 (k.ru o ho)),λo ho=>(k.rc o ho).tch t (celE c h0 (k.rc o ho)),k.mr.tch t b1 (by simpa using xC k.mr c),k.mc.tch t b2 (by simpa using xC k.mc c),⟨by omega,by omega⟩,wK k.lap c t,wK k.ins c t⟩
theorem Opd.tchN(k:Opd lo n h rb cb osv lapv inv os ns cns L I)(t:Tch [] h n h' n'):Opd lo n' h' rb cb osv lapv inv os ns cns L I:=by
 obtain⟨b1,b2⟩:=k.hb;have:=t.le;exact⟨k.ops.tch t (by simp),λo ho=>(k.ru o ho).tch t (by simp),λo ho=>(k.rc o ho).tch t (by simp),k.mr.tch t b1 (by simp),k.mc.tch t b2 (by simp),⟨by omega,by omega⟩,yD (e:=yS) k.lap t.kx (by decide) (by decide),yD (e:=yS) k.ins t.kx (by decide) (by decide)⟩
theorem Opd.own{e lo' len:Nat}{v':Value}{vs:List Value}(k:Opd lo n h rb cb osv lapv inv os ns cns L I)(o:Own lo' n h v' e 1 len vs)(t:Tch (zP v').toList h n h' n')(h1:eOp≠e)(h2:eOpr≠e)(h3:eStr≠e)(h4:eSet≠e)(h5:tU≠e):Opd lo n' h' rb cb osv lapv inv os ns cns L I:=by
 obtain⟨b1,b2⟩:=k.hb;have:=t.le;exact⟨k.ops.tch t (tT k.ops o (.inl h1) (by decide)).no,λx hx=>(k.ru x hx).tch t (tT (k.ru x hx) o (.inl h2) (by decide)).no,λx hx=>(k.rc x hx).tch t (tT (k.rc x hx) o (.inl h3) (by decide)).no,k.mr.tch t b1 (rH k.mr o),k.mc.tch t b2 (rH k.mc o),⟨by omega,by omega⟩,yD k.lap (kx_own o t) h4 h5,yD k.ins (kx_own o t) h4 h5⟩
end
structure OpdOK (ns cns:List Tx) (o:OpT):Prop where
 len:o.uses.length=1∨o.uses.length=2
 cl:∀x∈o.d::o.uses,x.cls∈cns∧(x.fix=[]∨x.fix∈ns)
 cb:∀r∈o.clob,r∈ns
 cbl:o.clob.length≤200
def memI(L:List (Value×List Nat))(i r:Nat):Bool:=match L[i]? with|some p=>uB p.2 r|none=>false
def mayF(L I:List (Value×List Nat))(ns cns:List Tx)(o:OpT)(k:Nat)(x:OperT)(r:Nat):Bool:=(if x.fix=[] then memI I (cns.idxOf x.cls) r else decide (r=ns.idxOf x.fix)) && !(decide (k=0) && o.clob.any λc=>memI L (ns.idxOf c) r)
def basF(I:List (Value×List Nat))(ns cns:List Tx)(x:OperT)(r:Nat):Bool:=if x.fix=[] then memI I (cns.idxOf x.cls) r else decide (r=ns.idxOf x.fix)
theorem lkN{h:zB}{b:Nat}{ns:List Tx}{x:Tx}(m:MpS h b (numL ns))(hn:ns.Nodup)(hx:x∈ns):yX P h 87 (.map (some b)) (str x) false=some (I64 (ns.idxOf x:Nat)):=by
 obtain⟨A,B,e1,e2⟩:=qB (idx_at hx) hn;rw [e1]at m;exact lku_at (P:=P) (ty:=87) (ok:=false) m e2
abbrev MayEl(lo n:Nat)(h:zB)(p:Value×List (Value×List Nat)):Prop:=Sets lo n h p.1 p.2
abbrev Mays(lo n:Nat)(h:zB)(v:Value)(M:List (Value×List (Value×List Nat))):Prop:=Lst eSets (λp:Value×List (Value×List Nat)=>p.1) MayEl lo n h v M
variable {lo n bt rb cb:Nat} {h:zB} {osv lapv inv:Value} {os:List OpT} {ns cns:List Tx} {L I:List (Value×List Nat)} {x0 x1 x2 x4 x5 x6 x7 x8 x9 x12 x14 x18 x19 x20:Value}
theorem operands_com(k:Opd lo n h rb cb osv lapv inv os ns cns L I)(hc:Cel h bt zTb 0 [x0,x1,x2,osv,x4,x5,x6,x7,x8,x9,.map (some rb),.map (some cb),x12,lapv,x14,inv,.slice none 0 0,.slice none 0 0,x18,x19,x20])(hbt:bt<n)(dX:lo≤n)(gT:ns.Nodup)(fW:cns.Nodup)(ip:L.length=ns.length)(hIl:I.length=cns.length)(hn2:ns.length≤200)(gu:os.length≤64)(ho:∀o∈os,OpdOK ns cns o):Com P 8 34 [ptr bt 0] h n λo h' n'=>o = .ret (.tuple #[])∧Tch [bt] h n h' n'∧∃mv M cv C,Cel h' bt zTb 0 [x0,x1,x2,osv,x4,x5,x6,x7,x8,x9,.map (some rb),.map (some cb),x12,lapv,x14,inv,mv,cv,x18,x19,x20]∧Mays lo n' h' mv M∧Ints n n' h' cv C∧M.length=os.length∧C.length=os.length∧∀(j:Nat) o,os[j]? = some o→(∃cv',C[j]? = some (cv',o.clob.map λr=>((ns.idxOf r:Nat):Int)))∧∃sv S,M[j]? = some (sv,S)∧S.length=(o.d::o.uses).length∧∀(k:Nat) x p,(o.d::o.uses)[k]? = some x→S[k]? = some p→∀r,uB p.2 r=mayF L I ns cns o k x r:=by
 have d9:inf<4611686018427387904:=by decide
 have iC:1000000≤inf:=by decide
 have orow:=k.ops.row (by decide);refine ent λu=>?_;repeat' first|refine wk ?_|refine cX (λ_=>?_) λ_=>?_|fail
 refine lpR (λi:Nat=>[(0,ptr bt 0),(14,osv),(15,I64 os.length),(16,I64 i)]) (λi h' n'=>Tch [bt] h n h' n'∧i≤os.length∧∃mv M cv C,Cel h' bt zTb 0 [x0,x1,x2,osv,x4,x5,x6,x7,x8,x9,.map (some rb),.map (some cb),x12,lapv,x14,inv,mv,cv,x18,x19,x20]∧Mays lo n' h' mv M∧(∀b∈(zP mv).toList,n≤b)∧Ints n n' h' cv C∧M.length=i∧C.length=i∧∀(j:Nat) o,j<i→os[j]? = some o→(∃cv',C[j]? = some (cv',o.clob.map λr=>((ns.idxOf r:Nat):Int)))∧∃sv S,M[j]? = some (sv,S)∧S.length=(o.d::o.uses).length∧∀(k:Nat) x p,(o.d::o.uses)[k]? = some x→S[k]? = some p→∀r,uB p.2 r=mayF L I ns cns o k x r) (λi=>os.length - i) 0 ⟨zA,am _,_,[],_,[],hc,Lst.nil,λb hb=>(by cases hb),Lst.nil,rfl,rfl,λj o hj=>by omega⟩ ?_;clear orow
 rintro i t h' n' ⟨ht,hi,mv,M,cv,C,eS,hM,hMb,hC,hMl,hCl,dZ⟩
 have eu:=ht.le;have k':=Opd.tchB k hc (by simp) ht;obtain⟨hrb,hcb⟩:=k'.hb;have orow:=k'.ops.row (by decide);by_cases dV:i<os.length
 · have c0:os[i]? = some os[i]:=aa dV;generalize os[i]=o at c0
   have c1:=zK orow c0;have eU:=ah c0;have hok:=ho o eU;have fH:=orow.low (by omega);have ou1:=xB (k'.ru o eU);have oc1:=xB (k'.rc o eU);have urow:=(k'.ru o eU).row (by decide);have crow:=(k'.rc o eU).row (by decide);have mrow:=hM.1.row (by decide);have vrow:=hC.1.row (by decide);have kA:Cel (hst (hal h' n' (mkC [str [],str [],str [],.slice none 0 0,I64 0,.slice none 0 0] (eOp+1) 0)) n' 0 (opC o)) bt zTb 0 [x0,x1,x2,osv,x4,x5,x6,x7,x8,x9,.map (some rb),.map (some cb),x12,lapv,x14,inv,mv,cv,x18,x19,x20]:=zD;repeat' first|refine wk ?_|refine cX (λ_=>?_) λ_=>?_|fail
   refine wY (vJ (e:=eStr) (br:=rb) (ns:=ns) (crow.tch (S:=[]) zA (ae _) (by simp)) (by omega) (by have:=hok.cbl;omega) (by omega) (by omega) (kA.cell rfl) ((k'.mr).tch (S:=[]) zA hrb (by simp)) gT hok.cb) ?_
   rintro v2 h2 n2 ⟨w2,t2⟩
   have gR:=t2.le;obtain⟨s1,s2,s3,rfl⟩:=own_slv w2;have kB:=kA.tch t2 (by omega) (by simp);have cO:Cel h2 n' (eOp+1) 0 (opC o):=zD;have tA:Tch [] h' n' h2 n2:=zA;clear t2 kA;have ju:∀x,Ints n (n2+1) (hal h2 n2 x) cv C:=λx=>vC (e:=eSets) hC (Tch.kx (zA:Tch [] h' n' (hal h2 n2 x) (n2+1))) (by decide) (by decide);repeat' first|refine wk ?_|refine cX (λ_=>?_) λ_=>?_|fail
   refine appN (ju _).1 (zL (e:=yS) (sz:=1) (len:=1) rfl (by decide)) (by decide) ⟨rfl,trivial⟩ (by omega) ?_
   rintro v3 h3 n3 w3 t3
   have eH:=t3.le;have o3:=w3.one;have kx3:Kx yS _ _ h3 n3:=kx_own (ju _).1 t3;have kC:=Cel.app (Cel.tch (S:=[]) kB zA (by omega) (by simp)) (ju _).1 t3 (by omega);have cP:=Cel.app (Cel.tch (S:=[]) cO zA (by omega) (by simp)) (ju _).1 t3 (by omega)
   have hC3:Ints n n3 h3 v3 (C++[(.slice s1 s2 s3,o.clob.map λr=>((ns.idxOf r:Nat):Int))]):=Lst.app (ju _) w3 (by omega) (λy s=>IntEl.kx s kx3 (by decide)) (IntEl.kx (n:=n2+1) (h:=hal h2 n2 _) (show Own n (n2+1) (hal h2 n2 _) (.slice s1 s2 s3) vU 1 (o.clob.map λr=>((ns.idxOf r:Nat):Int)).length ((o.clob.map λr=>((ns.idxOf r:Nat):Int)).map I64) from by
    rw[cE,aE];exact Own.dnl (w2.tch (S:=[]) zA (by simp)) (by omega)) kx3 (by decide))
   have tX3:Tch [] h' n' (hal h2 n2 (mkC [.slice s1 s2 s3] 0 0)) (n2+1):=zA;have kxM:Kx yS h' n' h3 n3:=Kx.trans (Tch.kx tX3) kx3;have hM3:Mays lo n3 h3 mv M:=Lst.kx hM kxM (by decide) λ_ s=>yD s kxM (by decide) (by decide);have k3:Opd lo n3 h3 rb cb osv lapv inv os ns cns L I:=Opd.own (Opd.tchN k' tX3) (ju _).1 t3 (by decide) (by decide) (by decide) (by decide) (by decide);have fz:Tch [bt] h n h3 n3:=Tch.tch t3 (zA:Tch [bt] h n (hal h2 n2 (mkC [.slice s1 s2 s3] 0 0)) (n2+1)) λx hx=>.inl (zZ (ju (mkC [.slice s1 s2 s3] 0 0)).1 x hx);clear t3 cO tA ju tX3 kx3 kxM;have jv:=(k3.ru o eU).row (by decide);have ma:=(k3.rc o eU).row (by decide);repeat' first|refine wk ?_|refine cX (λ_=>?_) λ_=>?_|fail
   have iY:0<o.uses.length:=by have:=hok.len;omega
   refine way_app (lo:=n3) (way_new (e:=eOpr) (sz:=2) (len:=1) (ae _) rfl (by decide)) (λy hy=>by simp at hy;rcases hy with rfl|rfl <;> rfl) (by omega) ((Row.tch jv (S:=[bt]) (by exact zA) (by omega) (celE kC (by simp) (k3.ru o eU))).up (by omega)) iY (oprC_one _) (by have:=hok.len;omega) ?_
   rintro v4 h4 n4 w4 _ t4
   have fL:=t4.le;have tS:Tch [bt] h3 n3 (hst h3 bt (0+17) [v3]) n3:=zA
   have tY:Tch [] (hst h3 bt (0+17) [v3]) n3 h4 n4:=Tch.tch t4 (zA:Tch [] (hst h3 bt (0+17) [v3]) n3 (hal (hst h3 bt (0+17) [v3]) n3 (mkC [str o.d.cls,str o.d.fix] 0 0)) (n3+1)) λx hx=>.inl (by
    have hx:x∈(some n3).toList:=hx;simp at hx;omega)
   have k4:=Opd.tchN (Opd.tchB k3 kC (by simp) tS) tY;have kS:Kx eSet h3 n3 (hst h3 bt (0+17) [v3]) n3:=kx_cel kC tS;have hM4:Mays lo n4 h4 mv M:=Lst.kx (Lst.cel hM3 kC tS λ_ s=>wK s kC tS) (Tch.kx (e:=yS) tY) (by decide) λ_ s=>yD (e:=yS) s tY.kx (by decide) (by decide);have hC4:=vC (e:=eSets) (uS hC3 kC tS) tY.kx (by decide) (by decide);have cT:Cel (hst h3 bt (0+17) [v3]) bt zTb 0 [x0,x1,x2,osv,x4,x5,x6,x7,x8,x9,.map (some rb),.map (some cb),x12,lapv,x14,inv,mv,v3,x18,x19,x20]:=zD;have c4:=cT.tch tY (by omega) (by simp);have cP4:Cel h4 n' (eOp+1) 0 (opC o):=(show Cel (hst h3 bt (0+17) [v3]) n' (eOp+1) 0 (opC o) from zD).tch tY (by omega) (by simp);have t04':Tch [bt] h n h4 n4:=Tch.tch tY (zA:Tch [bt] h n (hst h3 bt (0+17) [v3]) n3) (by simp)
   have xrow:Row n4 h4 v4 eOpr 2 (o.d::o.uses).length ((o.d::o.uses).flatMap oprC):=by
    have:=w4.row (by decide);rw [Nat.add_comm 1 o.uses.length]at this;exact this
   have gA:(o.d::o.uses).length≤3:=by have:=hok.len;simp;omega
   have hxs:=hok.cl;clear t4 tY tS kS cT w4 k3 hM3 hC3 jv ma kC kB cP fz hC hM k' orow urow crow mrow vrow eS;generalize hxe:o.d::o.uses=xs at xrow gA hxs
   repeat' first|refine wk ?_|refine cX (λ_=>?_) λ_=>?_|fail
   refine lpR (α :=Nat×Value×List (Value×List Nat)) (λa=>[(0,ptr bt 0),(3,ptr n' 0),(14,osv),(15,I64 os.length),(16,I64 i),(38,v4),(39,I64 xs.length),(40,I64 a.1),(4,a.2.1)]) (λa h5 n5=>Tch [] h4 n4 h5 n5∧a.1≤xs.length∧Sets lo n5 h5 a.2.1 a.2.2∧(∀b∈(zP a.2.1).toList,n4≤b)∧a.2.2.length=a.1∧∀(k:Nat) x p,k<a.1→xs[k]? = some x→a.2.2[k]? = some p→∀r,uB p.2 r=mayF L I ns cns o k x r) (λa=>xs.length - a.1) (0,.slice none 0 0,[]) ⟨zA,am _,Lst.nil,λb hb=>(by cases hb),rfl,λk x p hk=>by dsimp only at hk;omega⟩ ?_
   rintro ⟨q,v7,S⟩ t h5 n5 ⟨t5,hq,hS,hSb,hSl,hSe⟩
   dsimp only at hq hS hSb hSl hSe ⊢;have fm:=t5.le;have k5:=Opd.tchN k4 t5;obtain⟨hrb5,j2⟩:=k5.hb;have c5:=c4.tch t5 (by omega) (by simp);have cP5:=cP4.tch t5 (by omega) (by simp);have xrow5:=xrow.tch t5 (ae _) (by simp);by_cases hltq:q<xs.length
   · have d0:xs[q]? = some xs[q]:=aa hltq;generalize xs[q]=x at d0
     have d1:=zK xrow5 d0;have jt:=ah d0;obtain⟨hxc,hxf⟩:=hxs x jt;have hlow5:=xrow5.low (by omega);have ilt:=ba.2 hxc;have irow:=k5.ins.1.row (by decide);have hI:I[cns.idxOf x.cls]? = some I[cns.idxOf x.cls]:=aa (by omega);have hIe:=k5.ins.2 _ (aR (by omega:cns.idxOf x.cls<I.length));generalize I[cns.idxOf x.cls]=pI at hI hIe
     have yI:zC h5 (sbk inv) (sof inv+cns.idxOf x.cls*1)=some pI.1:=by rw[aP];exact irow.at (by rw[ap,hI];rfl)
     have ilow:=irow.low (by omega);have oI:=hIe.2.one;have lk1:yX P (hst (hal h5 n5 (mkC [str [],str []] (eOpr+1) 0)) n5 0 [str x.cls,str x.fix]) 87 (.map (some cb)) (str x.cls) false=some (I64 (cns.idxOf x.cls:Nat)):=lkN (k5.mc.tch (zA:Tch [] h5 n5 (hst (hal h5 n5 (mkC [str [],str []] (eOpr+1) 0)) n5 0 [str x.cls,str x.fix]) (n5+1)) j2 (by simp)) fW hxc;repeat' first|refine wk ?_|refine cX (λ_=>?_) λ_=>?_|fail
     · rename_i f1;have hxf:=hxf.resolve_left f1;have kz:yX P (hst (hal (hst (hal h5 n5 (mkC [str [],str []] (eOpr+1) 0)) n5 0 [str x.cls,str x.fix]) (n5+1) (mkC [.slice none 0 0] (eSet+1) 0)) (n5+1) 0 [pI.1]) 87 (.map (some rb)) (str x.fix) false=some (I64 (ns.idxOf x.fix:Nat)):=lkN (k5.mr.tch (zA:Tch [] h5 n5 (hst (hal (hst (hal h5 n5 (mkC [str [],str []] (eOpr+1) 0)) n5 0 [str x.cls,str x.fix]) (n5+1) (mkC [.slice none 0 0] (eSet+1) 0)) (n5+1) 0 [pI.1]) (n5+1+1)) hrb5 (by simp)) gT hxf;repeat' first|refine wk ?_|refine cX (λ_=>?_) λ_=>?_|fail
       refine wY (of_ret (l:=[((ns.idxOf x.fix:Nat):Int)]) (zL (e:=vU) (sz:=1) (len:=1) rfl (by decide)) (ae _) (by show 1<inf;decide)) ?_
       rintro _ h7 n7 ⟨wv,ws,rfl,hsw,gt,kw,t7⟩
       have jd:=t7.le;have oW:=kw.one;repeat' first|refine wk ?_|refine cX (λ_=>?_) λ_=>?_|fail
       have t6:Tch [] h5 n5 (hst h7 (n5+1) 0 [wv]) n7:=zA;have tS:Tch [n5+1] h7 n7 (hst h7 (n5+1) 0 [wv]) n7:=zA;have c7':Cel h7 (n5+1) (eSet+1) 0 [pI.1]:=zD;have c7:Cel (hst h7 (n5+1) 0 [wv]) (n5+1) (eSet+1) 0 [wv]:=zD;have sW:SetEl lo n7 (hst h7 (n5+1) 0 [wv]) (wv,ws):=SetEl.kx (e:=yS) ⟨hsw,kw.dnl (by omega)⟩ (kx_cel c7' tS) (by decide)
       have iK:∀r,uB ws r=basF I ns cns x r:=λr=>by
        have hlt9:=ba.2 hxf;unfold basF;rw [if_neg f1];refine bC.2 ((gt r).trans ?_);rw [decide_eq_true_iff];refine⟨λ⟨h9,_⟩=>by simp at h9;omega,λh9=>⟨by simp;omega,by omega⟩⟩
       have hn65:n5+1<n7:=by omega
       generalize hst h7 (n5+1) 0 [wv]=h6 at *
       clear lk1 kz t7 kw c7' tS;generalize n7=n6 at *
       have gM:=t6.le;have hcbl:=hok.cbl;have k6:=Opd.tchN k5 t6;have c46:=c5.tch t6 (by omega) (by simp);have cP6:=cP5.tch t6 (by omega) (by simp);have gd:=(k6.rc o eU).row (by decide);obtain⟨hrb6,_⟩:=k6.hb;repeat' first|refine wk ?_|refine cX (λ_=>?_) λ_=>?_|fail
       refine wY (vJ (e:=eStr) (br:=rb) (ns:=ns) gd (ae _) (by have:=hok.cbl;omega) (by omega) (by omega) (c46.cell rfl) k6.mr gT hok.cb) ?_
       rintro v8 h8 n8 ⟨w8,t8⟩
       have iV:=t8.le;have t68:Tch [] h5 n5 h8 n8:=Tch.tch t8 t6 (by simp);have lB:=c7.tch t8 (by omega) (by simp);have lm:SetEl lo n8 h8 (wv,ws):=SetEl.kx (e:=yS) sW t8.kx (by decide);have j1:=w8.row (by decide);clear t6 t8 c7 sW k6 c46 cP6 gd;repeat' first|refine wk ?_|refine cX (λ_=>?_) λ_=>?_|fail
       refine lpR (λe:Nat=>[(0,ptr bt 0),(3,ptr n' 0),(14,osv),(15,I64 os.length),(16,I64 i),(38,v4),(39,I64 xs.length),(40,I64 q),(4,v7),(5,I64 q),(7,ptr (n5+1) 0),(73,v8),(74,I64 o.clob.length),(75,I64 e)]) (λe h9 n9=>Tch [n5+1] h8 n8 h9 n9∧e≤o.clob.length∧∃wv ws,Cel h9 (n5+1) (eSet+1) 0 [wv]∧SetEl lo n9 h9 (wv,ws)∧∀r,uB ws r=(basF I ns cns x r && !(decide (q=0) && (o.clob.take e).any λc=>memI L (ns.idxOf c) r))) (λe=>o.clob.length - e) 0 ⟨Tch.refl _ _ _,am _,wv,ws,lB,lm,λr=>by rw[iK r];simp⟩ ?_;clear lB lm j1
       rintro e t h9 n9 ⟨t9,he,wv',ws',c9,s9,hw9⟩
       have kj:=t9.le;have w9:=w8.tch t9 (xV w8 (by omega));have row9:=w9.row (by decide);have t59:Tch [] h5 n5 h9 n9:=Tch.tch t9 t68 λx hx=>.inl (by simp at hx;omega);have k9:=Opd.tchN k5 t59;have c59:=c5.tch t59 (by omega) (by simp);have o9:=s9.2.one;by_cases hlte:e<o.clob.length
       · have e0:o.clob[e]? = some o.clob[e]:=aa hlte;generalize o.clob[e]=cR at e0
         have e1:zC h9 (sbk v8) (sof v8+e*1)=some (I64 (ns.idxOf cR:Nat)):=by rw[aP];exact row9.at (by rw[ap,e0];rfl)
         have low8:=row9.low (by omega);have hcm:=hok.cb cR (ah e0);have llt:=ba.2 hcm;have lrow:=k9.lap.1.row (by decide);have jW:L[ns.idxOf cR]? = some L[ns.idxOf cR]:=aa (by omega);have iX:=k9.lap.2 _ (aR (by omega:ns.idxOf cR<L.length));generalize L[ns.idxOf cR]=pL at jW iX
         have yL:zC h9 (sbk lapv) (sof lapv+ns.idxOf cR*1)=some pL.1:=by rw[aP];exact lrow.at (by rw[ap,jW];rfl)
         have llow:=lrow.low (by omega);have oL:=iX.2.one;repeat' first|refine wk ?_|refine cX (λ_=>?_) λ_=>?_|fail
         · rename_i g1;refine wY (sub_ret (s9.2.row (by decide)) (iX.2.row (by decide)) (ae _) s9.1 iX.1) ?_
           rintro _ hA nA ⟨wv2,ws2,rfl,hs2,hw2,kw2,tA⟩
           have hnA:=tA.le;have ow2:=kw2.one;have cA':=c9.tch tA (by omega) (by simp);repeat' first|refine wk ?_|refine cX (λ_=>?_) λ_=>?_|fail
           have tS9:Tch [n5+1] hA nA (hst hA (n5+1) 0 [wv2]) nA:=zA
           exact rnd (e+1) ⟨Tch.tch tS9 (Tch.tch tA t9 (by simp)) (λx hx=>.inr hx),by omega,wv2,ws2,zD,SetEl.kx (e:=yS) ⟨hs2,kw2.dnl (by omega)⟩ (kx_cel cA' tS9) (by decide),λr=>by
            rw[hw2 r,hw9 r,xS e0,List.any_append];have ij:q=0:=by omega
            have hm:memI L (ns.idxOf cR) r=uB pL.2 r:=by unfold memI;rw [jW]
            simp only[dq,List.any_nil,dU,hm,ij,decide_true,dM];cases basF I ns cns x r <;> cases (o.clob.take e).any (λc=>memI L (ns.idxOf c) r) <;> cases uB pL.2 r <;> rfl⟩
         · rename_i g1
           exact rnd (e+1) ⟨t9,by omega,wv',ws',c9,s9,λr=>by
            rw[hw9 r];have ij:¬q=0:=by omega
            rw[decide_eq_false ij];rfl⟩
       · obtain rfl:e=o.clob.length:=by omega
         have hS9:=yD (e:=yS) hS t59.kx (by decide) (by decide);have gE:∀x,Sets lo (n9+1) (hal h9 n9 x) v7 S:=λx=>yD (e:=yS) hS9 (Tch.kx (zA:Tch [] h9 n9 (hal h9 n9 x) (n9+1))) (by decide) (by decide);repeat' first|refine wk ?_|refine cX (λ_=>?_) λ_=>?_|fail
         refine appN (gE _).1 (zL (e:=eSet) (sz:=1) (len:=1) rfl (by decide)) (by decide) ⟨o9,trivial⟩ (by omega) ?_
         rintro v10 ft n10 w10 t10
         have hn10:=t10.le;have iy:Kx eSet _ _ ft n10:=kx_own (gE _).1 t10;have ki:Sets lo n10 ft v10 (S++[(wv',ws')]):=Lst.app (gE _) w10 (by omega) (λy s=>SetEl.kx s iy (by decide)) (SetEl.kx (n:=n9+1) (h:=hal h9 n9 _) (SetEl.kx (e:=yS) s9 (Tch.kx (zA:Tch [] h9 n9 (hal h9 n9 _) (n9+1))) (by decide)) iy (by decide));have jO:Tch [] h4 n4 ft n10:=Tch.tch t10 (zA:Tch [] h4 n4 (hal h9 n9 (mkC [wv'] 0 0)) (n9+1)) λx hx=>.inl (hSb x hx);repeat' first|refine wk ?_|refine cX (λ_=>?_) λ_=>?_|fail
         exact rnd (q+1,v10,S++[(wv',ws')]) ⟨jO,by dsimp only;omega,ki,λb hb=>by have:=zZ w10 b hb;omega,by dsimp only;rw [ak,hSl];rfl,λk y p hk e1 e2 r=>by
          dsimp only at hk e2;rcases ai.1 hk with h9|rfl
          · rw[ax (by omega)]at e2;exact hSe k y p h9 e1 e2 r
          · rw[d0]at e1;cases e1;rw [au (by omega),hSl,bA]at e2;cases e2;rw [hw9 r,bG];rfl⟩
     · rename_i f1;have hf:x.fix=[]:=ci.1 f1;have t6:Tch [] h5 n5 (hst (hal (hst (hal h5 n5 (mkC [str [],str []] (eOpr+1) 0)) n5 0 [str x.cls,str x.fix]) (n5+1) (mkC [.slice none 0 0] (eSet+1) 0)) (n5+1) 0 [pI.1]) (n5+1+1):=zA;have c7:Cel (hst (hal (hst (hal h5 n5 (mkC [str [],str []] (eOpr+1) 0)) n5 0 [str x.cls,str x.fix]) (n5+1) (mkC [.slice none 0 0] (eSet+1) 0)) (n5+1) 0 [pI.1]) (n5+1) (eSet+1) 0 [pI.1]:=zD;have sW:SetEl lo (n5+1+1) (hst (hal (hst (hal h5 n5 (mkC [str [],str []] (eOpr+1) 0)) n5 0 [str x.cls,str x.fix]) (n5+1) (mkC [.slice none 0 0] (eSet+1) 0)) (n5+1) 0 [pI.1]) (pI.1,pI.2):=SetEl.kx (e:=yS) hIe t6.kx (by decide);have iK:∀r,uB pI.2 r=basF I ns cns x r:=λr=>by unfold basF memI;rw [if_pos hf,hI]
       have hn65:n5+1<n5+1+1:=aS _;generalize (hst (hal (hst (hal h5 n5 (mkC [str [],str []] (eOpr+1) 0)) n5 0 [str x.cls,str x.fix]) (n5+1) (mkC [.slice none 0 0] (eSet+1) 0)) (n5+1) 0 [pI.1])=h6 at *
       generalize n5+1+1=n6 at *
       clear lk1;have gM:=t6.le;have hcbl:=hok.cbl;have k6:=Opd.tchN k5 t6;have c46:=c5.tch t6 (by omega) (by simp);have cP6:=cP5.tch t6 (by omega) (by simp);have gd:=(k6.rc o eU).row (by decide);obtain⟨hrb6,_⟩:=k6.hb;repeat' first|refine wk ?_|refine cX (λ_=>?_) λ_=>?_|fail
       refine wY (vJ (e:=eStr) (br:=rb) (ns:=ns) gd (ae _) (by have:=hok.cbl;omega) (by omega) (by omega) (c46.cell rfl) k6.mr gT hok.cb) ?_
       rintro v8 h8 n8 ⟨w8,t8⟩
       have iV:=t8.le;have t68:Tch [] h5 n5 h8 n8:=Tch.tch t8 t6 (by simp);have lB:=c7.tch t8 (by omega) (by simp);have lm:SetEl lo n8 h8 (pI.1,pI.2):=SetEl.kx (e:=yS) sW t8.kx (by decide);have j1:=w8.row (by decide);clear t6 t8 c7 sW k6 c46 cP6 gd;repeat' first|refine wk ?_|refine cX (λ_=>?_) λ_=>?_|fail
       refine lpR (λe:Nat=>[(0,ptr bt 0),(3,ptr n' 0),(14,osv),(15,I64 os.length),(16,I64 i),(38,v4),(39,I64 xs.length),(40,I64 q),(4,v7),(5,I64 q),(7,ptr (n5+1) 0),(73,v8),(74,I64 o.clob.length),(75,I64 e)]) (λe h9 n9=>Tch [n5+1] h8 n8 h9 n9∧e≤o.clob.length∧∃wv ws,Cel h9 (n5+1) (eSet+1) 0 [wv]∧SetEl lo n9 h9 (wv,ws)∧∀r,uB ws r=(basF I ns cns x r && !(decide (q=0) && (o.clob.take e).any λc=>memI L (ns.idxOf c) r))) (λe=>o.clob.length - e) 0 ⟨Tch.refl _ _ _,am _,pI.1,pI.2,lB,lm,λr=>by rw[iK r];simp⟩ ?_;clear lB lm j1
       rintro e t h9 n9 ⟨t9,he,wv',ws',c9,s9,hw9⟩
       have kj:=t9.le;have w9:=w8.tch t9 (xV w8 (by omega));have row9:=w9.row (by decide);have t59:Tch [] h5 n5 h9 n9:=Tch.tch t9 t68 λx hx=>.inl (by simp at hx;omega);have k9:=Opd.tchN k5 t59;have c59:=c5.tch t59 (by omega) (by simp);have o9:=s9.2.one;by_cases hlte:e<o.clob.length
       · have e0:o.clob[e]? = some o.clob[e]:=aa hlte;generalize o.clob[e]=cR at e0
         have e1:zC h9 (sbk v8) (sof v8+e*1)=some (I64 (ns.idxOf cR:Nat)):=by rw[aP];exact row9.at (by rw[ap,e0];rfl)
         have low8:=row9.low (by omega);have hcm:=hok.cb cR (ah e0);have llt:=ba.2 hcm;have lrow:=k9.lap.1.row (by decide);have jW:L[ns.idxOf cR]? = some L[ns.idxOf cR]:=aa (by omega);have iX:=k9.lap.2 _ (aR (by omega:ns.idxOf cR<L.length));generalize L[ns.idxOf cR]=pL at jW iX
         have yL:zC h9 (sbk lapv) (sof lapv+ns.idxOf cR*1)=some pL.1:=by rw[aP];exact lrow.at (by rw[ap,jW];rfl)
         have llow:=lrow.low (by omega);have oL:=iX.2.one;repeat' first|refine wk ?_|refine cX (λ_=>?_) λ_=>?_|fail
         · rename_i g1;refine wY (sub_ret (s9.2.row (by decide)) (iX.2.row (by decide)) (ae _) s9.1 iX.1) ?_
           rintro _ hA nA ⟨wv2,ws2,rfl,hs2,hw2,kw2,tA⟩
           have hnA:=tA.le;have ow2:=kw2.one;have cA':=c9.tch tA (by omega) (by simp);repeat' first|refine wk ?_|refine cX (λ_=>?_) λ_=>?_|fail
           have tS9:Tch [n5+1] hA nA (hst hA (n5+1) 0 [wv2]) nA:=zA
           exact rnd (e+1) ⟨Tch.tch tS9 (Tch.tch tA t9 (by simp)) (λx hx=>.inr hx),by omega,wv2,ws2,zD,SetEl.kx (e:=yS) ⟨hs2,kw2.dnl (by omega)⟩ (kx_cel cA' tS9) (by decide),λr=>by
            rw[hw2 r,hw9 r,xS e0,List.any_append];have ij:q=0:=by omega
            have hm:memI L (ns.idxOf cR) r=uB pL.2 r:=by unfold memI;rw [jW]
            simp only[dq,List.any_nil,dU,hm,ij,decide_true,dM];cases basF I ns cns x r <;> cases (o.clob.take e).any (λc=>memI L (ns.idxOf c) r) <;> cases uB pL.2 r <;> rfl⟩
         · rename_i g1
           exact rnd (e+1) ⟨t9,by omega,wv',ws',c9,s9,λr=>by
            rw[hw9 r];have ij:¬q=0:=by omega
            rw[decide_eq_false ij];rfl⟩
       · obtain rfl:e=o.clob.length:=by omega
         have hS9:=yD (e:=yS) hS t59.kx (by decide) (by decide);have gE:∀x,Sets lo (n9+1) (hal h9 n9 x) v7 S:=λx=>yD (e:=yS) hS9 (Tch.kx (zA:Tch [] h9 n9 (hal h9 n9 x) (n9+1))) (by decide) (by decide);repeat' first|refine wk ?_|refine cX (λ_=>?_) λ_=>?_|fail
         refine appN (gE _).1 (zL (e:=eSet) (sz:=1) (len:=1) rfl (by decide)) (by decide) ⟨o9,trivial⟩ (by omega) ?_
         rintro v10 ft n10 w10 t10
         have hn10:=t10.le;have iy:Kx eSet _ _ ft n10:=kx_own (gE _).1 t10;have ki:Sets lo n10 ft v10 (S++[(wv',ws')]):=Lst.app (gE _) w10 (by omega) (λy s=>SetEl.kx s iy (by decide)) (SetEl.kx (n:=n9+1) (h:=hal h9 n9 _) (SetEl.kx (e:=yS) s9 (Tch.kx (zA:Tch [] h9 n9 (hal h9 n9 _) (n9+1))) (by decide)) iy (by decide));have jO:Tch [] h4 n4 ft n10:=Tch.tch t10 (zA:Tch [] h4 n4 (hal h9 n9 (mkC [wv'] 0 0)) (n9+1)) λx hx=>.inl (hSb x hx);repeat' first|refine wk ?_|refine cX (λ_=>?_) λ_=>?_|fail
         exact rnd (q+1,v10,S++[(wv',ws')]) ⟨jO,by dsimp only;omega,ki,λb hb=>by have:=zZ w10 b hb;omega,by dsimp only;rw [ak,hSl];rfl,λk y p hk e1 e2 r=>by
          dsimp only at hk e2;rcases ai.1 hk with h9|rfl
          · rw[ax (by omega)]at e2;exact hSe k y p h9 e1 e2 r
          · rw[d0]at e1;cases e1;rw [au (by omega),hSl,bA]at e2;cases e2;rw [hw9 r,bG];rfl⟩
   · obtain rfl:q=xs.length:=by omega
     obtain⟨s4,s5,s6,rfl⟩:=own_slv hS.1;have hM5:Mays lo n5 h5 mv M:=Lst.kx hM4 (Tch.kx (e:=yS) t5) (by decide) λ_ s=>yD (e:=yS) s t5.kx (by decide) (by decide);have hC5:=vC (e:=eSets) hC4 t5.kx (by decide) (by decide)
     have hMX:∀x,Mays lo (n5+1) (hal h5 n5 x) mv M:=λx=>by
      have tx:Tch [] h5 n5 (hal h5 n5 x) (n5+1):=zA;exact Lst.kx hM5 (Tch.kx (e:=yS) tx) (by decide) λ_ s=>yD (e:=yS) s tx.kx (by decide) (by decide)
     repeat' first|refine wk ?_|refine cX (λ_=>?_) λ_=>?_|fail
     refine appN (hMX _).1 (zL (e:=eSets) (sz:=1) (len:=1) rfl (by decide)) (by decide) ⟨rfl,trivial⟩ (by omega) ?_
     rintro v11 h11 n11 w11 t11
     have lR:=t11.le;have o11:=w11.one;have tX5:Tch [] h5 n5 (hal h5 n5 (mkC [.slice s4 s5 s6] 0 0)) (n5+1):=zA;have jU:Kx eSets _ _ h11 n11:=kx_own (hMX _).1 t11;have c11:=Cel.app (Cel.tch (S:=[]) c5 tX5 (by omega) (by simp)) (hMX _).1 t11 (by omega);have hM11:Mays lo n11 h11 v11 (M++[(.slice s4 s5 s6,S)]):=Lst.app (hMX _) w11 (by omega) (λy s=>yD s jU (by decide) (by decide)) (yD (yD (e:=yS) hS tX5.kx (by decide) (by decide)) jU (by decide) (by decide));have hC11:=vC (vC (e:=eSets) hC5 tX5.kx (by decide) (by decide)) jU (by decide) (by decide);have t0X:Tch [bt] h n (hal h5 n5 (mkC [.slice s4 s5 s6] 0 0)) (n5+1):=Tch.tch tX5 (Tch.tch t5 t04' (by simp)) (by simp);have iz:Tch [bt] h n h11 n11:=Tch.tch t11 t0X λx hx=>.inl (hMb x hx);clear t11 t0X;repeat' first|refine wk ?_|refine cX (λ_=>?_) λ_=>?_|fail
     have tS:Tch [bt] h11 n11 (hst h11 bt (0+16) [v11]) n11:=zA
     have hCl':∀(j:Nat) o',j<i+1→os[j]? = some o'→(∃cv',(C++[(.slice s1 s2 s3,o.clob.map λr=>((ns.idxOf r:Nat):Int))])[j]? = some (cv',o'.clob.map λr=>((ns.idxOf r:Nat):Int)))∧∃sv S',(M++[(.slice s4 s5 s6,S)])[j]? = some (sv,S')∧S'.length=(o'.d::o'.uses).length∧∀(k:Nat) x p,(o'.d::o'.uses)[k]? = some x→S'[k]? = some p→∀r,uB p.2 r=mayF L I ns cns o' k x r:=λj o' hj e=>by
      rcases ai.1 hj with h9|rfl
      · obtain⟨⟨cv',a1⟩,sv,S',a2,a3,a4⟩:=dZ j o' h9 e;exact⟨⟨cv',by rw[ax (by omega)];exact a1⟩,sv,S',by rw[ax (by omega)];exact a2,a3,a4⟩
      · rw[c0]at e;cases e;refine⟨⟨_,by rw[au (by omega),hCl,bA];rfl⟩,_,S,by rw[au (by omega),hMl,bA];rfl,by rw[hxe];exact hSl,λk x p e1 e2 r=>?_⟩;rw [hxe]at e1;exact hSe k x p (ab.1 e1).1 e1 e2 r
     exact rnd (i+1) ⟨Tch.tch tS iz (λx hx=>.inr hx),by omega,v11,_,v3,_,zD,Lst.cel hM11 c11 tS λ_ s=>wK s c11 tS,λb hb=>by have:=zZ w11 b hb;omega,uS hC11 c11 tS,by rw[ak,hMl];rfl,by rw[ak,hCl];rfl,hCl'⟩
 · obtain rfl:i=os.length:=by omega
   repeat' first|refine wk ?_|refine cX (λ_=>?_) λ_=>?_|fail
   exact⟨rfl,ht,mv,M,cv,C,eS,hM,hC,hMl,hCl,λj o e=>dZ j o (ab.1 e).1 e⟩
end
section
attribute [local simp] vB
theorem MOK.oo{m:MachT}{ns:List Tx}{ps:List Pl}(k:MOK m ns ps):∀o∈m.ops,tL m ns ps o∧(o.uses.length=1∨o.uses.length=2):=λo ho=>by
 obtain⟨i,hi⟩:=aj.1 ho;have iH:=k.ops;rcases iH with⟨h9,_⟩|⟨_,⟨_,h9⟩|⟨_,_,_,_,h9,_⟩⟩
 · omega
 · rcases h9 i o hi with⟨_,h8,h7⟩|⟨h8,_⟩|⟨h8,_⟩
   · have:=h7.1;have h6:=h8.1;have:=ar_geG o.name;exact⟨h7,by omega⟩
   · omega
   · omega
 · omega
theorem MOK.sml{m:MachT}{ns:List Tx}{ps:List Pl}(k:MOK m ns ps):SmlM m:=by
 obtain⟨c1,c2⟩:=ClsErr.ok k.cls
 have gu:m.ops.length≤64:=by
  rcases k.ops with⟨h9,_⟩|⟨h9,_⟩
  · omega
  · exact h9
 refine⟨geo_sml k.geo,c1,λc hc=>?_,gu,λo ho=>by have:=(MOK.oo k o ho).2;omega,λo ho=>?_,by have:=k.conv.1.1;omega,by have:=k.conv.2.2.1.1;omega⟩
 · obtain⟨i,hi⟩:=aj.1 hc;exact(c2 i c hi).2.2.1
 · have:=(MOK.oo k o ho).1.2.2.2.2.2.2.1;omega
def cNs(m:MachT):List Tx:=m.classes.map (·.name)
def oNs(m:MachT):List Tx:=m.ops.map (·.name)
theorem nodup_ix{α : Type}{l:List α}{f: α→Tx}{p:Tx→Int}(h:∀(i:Nat) x,l[i]? = some x→p (f x)=(i:Nat)):(l.map f).Nodup:=by
 refine List.pairwise_iff_getElem.2 λi j hi hj hij e=>?_;rw [aE]at hi hj;have a:=h i _ (aa hi);have b:=h j _ (aa hj);rw [List.getElem_map,List.getElem_map]at e;rw [e]at a;omega
theorem MOK.cnd{m:MachT}{ns:List Tx}{ps:List Pl}(k:MOK m ns ps):(cNs m).Nodup:=nodup_ix (p:=xG m) (CsOK.of k.cls).ix
theorem MOK.ond{m:MachT}{ns:List Tx}{ps:List Pl}(k:MOK m ns ps):(oNs m).Nodup:=nodup_ix (p:=λs=>posF (λx:OpT=>decide (x.name=s)) m.ops) λi o hi=>by
 rcases k.ops with⟨h9,_⟩|⟨_,⟨_,h9⟩|⟨_,_,_,_,h9,_⟩⟩
 · omega
 · rcases h9 i o hi with⟨_,h8,h7⟩|⟨h8,_⟩|⟨h8,_⟩
   · exact h8.2
   · omega
   · omega
 · omega
theorem opr_in{m:MachT}{ns:List Tx}{x:OperT}(cs:CsOK m ns)(h:uE m x=true):x.cls∈cNs m∧(x.fix=[]∨x.fix∈ns):=by
 unfold uE at h;rcases vE (m:=m) (x:=x.cls) with⟨h1,h2⟩|⟨i,c,h1,h2,h3,h4,h5⟩
 · rw[h1]at h;cases h
 · rw[h1]at h;refine⟨ao.2 ⟨c,ah h2,h5⟩,?_⟩;simp at h;rcases h with h|h
   · exact .inl h
   · exact .inr (cs.mem i c h2 _ h)
theorem MOK.opd{m:MachT}{ns:List Tx}{ps:List Pl}(k:MOK m ns ps){o o':OpT}(ho:o∈m.ops)(h1:o'.d=o.d)(h2:o'.uses=o.uses)(h3:o'.clob=o.clob):OpdOK ns (cNs m) o':=by
 have cs:=CsOK.of k.cls;obtain⟨⟨g1,g2,g3,g4,g5,g6,g7,g8⟩,glen⟩:=MOK.oo k o ho;refine⟨by rw[h2];exact glen,λx hx=>?_,λr hr=>?_,by rw[h3];omega⟩
 · rw[h1,h2]at hx;rcases aA.1 hx with rfl|hx
   · exact opr_in cs g2
   · obtain⟨j,hj⟩:=aj.1 hx;exact opr_in cs (g3 j x hj).1
 · rw[h3]at hr;obtain⟨j,hj⟩:=aj.1 hr;exact(g8 j r hj).1
end
section
attribute [local simp] vB
abbrev nlS:Value:=.slice none 0 0
section
variable {lo lo' n n':Nat} {h h':zB} {v:Value}
theorem sets_dn{L:List (Value×List Nat)}(o:Sets lo n h v L)(hl:lo'≤lo):Sets lo' n h v L:=⟨o.1.dnl hl,λx hx=>⟨(o.2 x hx).1,(o.2 x hx).2.dnl hl⟩⟩
theorem ints_dn{L:List (Value×List Int)}(o:Ints lo n h v L)(hl:lo'≤lo):Ints lo' n h v L:=⟨o.1.dnl hl,λx hx=>Own.dnl (o.2 x hx) hl⟩
theorem mays_dn{L:List (Value×List (Value×List Nat))}(o:Mays lo n h v L)(hl:lo'≤lo):Mays lo' n h v L:=⟨o.1.dnl hl,λx hx=>sets_dn (o.2 x hx) hl⟩
theorem mays_kx{e:Nat}{L:List (Value×List (Value×List Nat))}(o:Mays lo n h v L)(k:Kx e h n h' n')(h1:eSets≠e)(h2:eSet≠e)(h3:tU≠e):Mays lo n' h' v L:=Lst.kx o k h1 λ_ s=>yD s k h2 h3
theorem mays_cel{bt z:Nat}{cs:List Value}{L:List (Value×List (Value×List Nat))}(o:Mays lo n h v L)(c:Cel h bt z 0 cs)(t:Tch [bt] h n h' n'):Mays lo n' h' v L:=mays_kx (e:=yS) o (kx_cel c t) (by decide) (by decide) (by decide)
theorem cpm_dn{m m':MachT}(k:CpM lo n h m m')(hl:lo'≤lo):CpM lo' n h m m':=⟨k.nm,k.res,k.slots,k.ag,k.sd,k.r1,k.cl,xY k.cr hl,λi c hc=>by
 obtain⟨c',e1,e2⟩:=k.ce i c hc;exact⟨c',e1,⟨e2.nm,e2.rg,xY e2.row hl⟩⟩,k.ol,xY k.orr hl,λi o ho=>by
 obtain⟨o',e1,e2⟩:=k.oe i o ho;exact⟨o',e1,⟨e2.nm,e2.d,e2.tie,e2.us,e2.cb,xY e2.ru hl,xY e2.rc hl⟩⟩,xY k.ar hl,xY k.sr hl⟩
end
theorem cpm_gen{lo n:Nat}{h:zB}{m:MachT}{S:List Nat}{n':Nat}{h':zB}{m':MachT}(k:CpM lo n h m m')(t:Tch S h n h' n')(hS:∀{v e sz len vs},OwnE lo n h v e sz len vs→∀b,zP v=some b→b∉S):CpM lo n' h' m m':=⟨k.nm,k.res,k.slots,k.ag,k.sd,k.r1,k.cl,k.cr.tch t (hS k.cr),λi c hc=>by
 obtain⟨c',e1,e2⟩:=k.ce i c hc;exact⟨c',e1,CpC.tchS e2 t (hS e2.row)⟩,k.ol,k.orr.tch t (hS k.orr),λi o ho=>by
 obtain⟨o',e1,e2⟩:=k.oe i o ho;exact⟨o',e1,CpO.tchS e2 t (hS e2.ru) (hS e2.rc)⟩,k.ar.tch t (hS k.ar),k.sr.tch t (hS k.sr)⟩
theorem cpm_tch{lo n:Nat}{h:zB}{m:MachT}{n':Nat}{h':zB}{m':MachT}(k:CpM lo n h m m')(t:Tch [] h n h' n'):CpM lo n' h' m m':=cpm_gen k t λ_ _ _=>by simp
theorem cpm_cel{lo n:Nat}{h:zB}{m:MachT}{bt z n':Nat}{h':zB}{m':MachT}{cs:List Value}(k:CpM lo n h m m')(c:Cel h bt z 0 cs)(h0:0<cs.length)(t:Tch [bt] h n h' n'):CpM lo n' h' m m':=cpm_gen k t λo=>celE c h0 o
def ixs(ns l:List Tx):List Int:=l.map λr=>((ns.idxOf r:Nat):Int)
theorem ixs_row{lo n:Nat}{h:zB}{v:Value}{e:Nat}{ns l:List Tx}(o:Own lo n h v e 1 l.length (l.map λx=>I64 (ns.idxOf x:Nat))):Own lo n h v e 1 (ixs ns l).length ((ixs ns l).map I64):=by
 unfold ixs;rw [cE,aE];exact o
structure TabV where
 mc:MachT
 nsv:Value
 psv:Value
 rb:Nat
 cb:Nat
 ob:Nat
 lv:Value
 ofv:Value
 inv:Value
 mv:Value
 cv:Value
 sv:Value
 av:Value
 kv:Value
 L:List (Value×List Nat)
 O:List (Value×List Int)
 I:List (Value×List Nat)
 M:List (Value×List (Value×List Nat))
 C:List (Value×List Int)
 ks:List Nat
abbrev tabC(v:TabV):List Value:=yU v.mc++[v.nsv,v.psv,.map (some v.rb),.map (some v.cb),.map (some v.ob),v.lv,v.ofv,v.inv,v.mv,v.cv,v.sv,v.av,v.kv]
structure TabM (lo n:Nat) (h:zB) (bt:Nat) (m:MachT) (ns:List Tx) (ps:List Pl) (v:TabV):Prop where
 hb:lo≤bt∧bt<n
 hr:v.rb<n∧v.cb<n∧v.ob<n
 cel:Cel h bt zTb 0 (tabC v)
 cp:CpM lo n h m v.mc
 on:Own lo n h v.nsv eStr 1 ns.length (ns.map str)
 op:Own lo n h v.psv ePl 3 ps.length (ps.flatMap plC)
 mr:MpS h v.rb (numL ns)
 mc:MpS h v.cb (numL (cNs m))
 mo:MpS h v.ob (numL (oNs m))
 lap:Sets lo n h v.lv v.L
 lapl:v.L.length=ps.length
 lapw:∀(j:Nat) p,v.L[j]? = some p→LapW ps j p.2
 ofs:Ints lo n h v.ofv v.O
 ofl:v.O.length=m.classes.length
 ofe:∀(j:Nat) c,m.classes[j]? = some c→∃x,v.O[j]? = some (x,ixs ns c.regs)
 ins:Sets lo n h v.inv v.I
 inl:v.I.length=m.classes.length
 ine:∀(j:Nat) c,m.classes[j]? = some c→∃p,v.I[j]? = some p∧∀r:Nat,uB p.2 r=c.regs.any λx=>decide (ns.idxOf x=r)
 may:Mays lo n h v.mv v.M
 mayl:v.M.length=m.ops.length
 clob:Ints lo n h v.cv v.C
 clol:v.C.length=m.ops.length
 ope:∀(j:Nat) o,m.ops[j]? = some o→(∃x,v.C[j]? = some (x,ixs ns o.clob))∧∃sv S,v.M[j]? = some (sv,S)∧S.length=(o.d::o.uses).length∧∀(k:Nat) x p,(o.d::o.uses)[k]? = some x→S[k]? = some p→∀r,uB p.2 r=mayF v.L v.I ns (cNs m) o k x r
 sv:Own lo n h v.sv vU 1 (ixs ns m.saved).length ((ixs ns m.saved).map I64)
 av:Own lo n h v.av vU 1 (ixs ns m.args).length ((ixs ns m.args).map I64)
 ks:SetEl lo n h (v.kv,v.ks)
 ksw:∀k:Nat,uB v.ks k=match ps[k]? with|some p=>surB ps (ixs ns m.saved) p|none=>false
theorem TabM.tch{lo n n' bt:Nat}{h h':zB}{m:MachT}{ns:List Tx}{ps:List Pl}{v:TabV}(k:TabM lo n h bt m ns ps v)(t:Tch [] h n h' n'):TabM lo n' h' bt m ns ps v:=by
 obtain⟨b1,b2⟩:=k.hb;obtain⟨r1,r2,r3⟩:=k.hr;have:=t.le
 exact⟨⟨b1,by omega⟩,⟨by omega,by omega,by omega⟩,k.cel.tch t b2 (by simp),cpm_tch k.cp t,k.on.tch t (by simp),k.op.tch t (by simp),k.mr.tch t r1 (by simp),k.mc.tch t r2 (by simp),k.mo.tch t r3 (by simp),
  yD (e:=yS) k.lap t.kx (by decide) (by decide),k.lapl,k.lapw,vC (e:=eSets) k.ofs t.kx (by decide) (by decide),k.ofl,k.ofe,yD (e:=yS) k.ins t.kx (by decide) (by decide),k.inl,k.ine,mays_kx (e:=yS) k.may t.kx (by decide) (by decide) (by decide),k.mayl,vC (e:=eSets) k.clob t.kx (by decide) (by decide),k.clol,k.ope,k.sv.tch t (by simp),k.av.tch t (by simp),SetEl.kx (e:=yS) k.ks t.kx (by decide),k.ksw⟩
end
section
variable {lo n bt:Nat} {h:zB} {m:MachT} {ns:List Tx} {ps:List Pl} {v:TabV}
theorem cnx'{x:Tx}(hx:x∈cNs m):∃c,m.classes[(cNs m).idxOf x]? = some c∧c.name=x:=by
 have h2:(cNs m)[(cNs m).idxOf x]? = some x:=idx_at hx;generalize (cNs m).idxOf x=i at *
 unfold cNs at h2;rw [ap]at h2
 cases e:m.classes[i]? with
 | none=>rw [e]at h2;cases h2
 | some c=>rw [e]at h2;exact⟨c,rfl,by injection h2⟩
theorem mayI_in(cs:CsOK m ns){x:OperT}(hc:x.cls∈cNs m)(hf:x.fix=[]∨x.fix∈ns):∃c,m.classes[(cNs m).idxOf x.cls]? = some c∧sL m ns x=if x.fix=[] then c.regs.map (pos ns) else [pos ns x.fix]:=by
 obtain⟨c,h1,h2⟩:=cnx' hc;refine⟨c,h1,?_⟩;have h3:vH m x.cls=some c:=by rw[← h2];exact cls_of cs h1
 unfold sL;rw [h3];dsimp only;by_cases h4:x.fix=[]
 · rw[if_pos h4,if_pos h4]
 · rw[if_neg h4,if_neg h4,sK (λy hy=>by simp at hy;subst hy;exact hf.resolve_left h4)];rfl
theorem may_eq(k:TabM lo n h bt m ns ps v)(ok:MOK m ns ps){op q:Nat}{o:OpT}{x:OperT}(ho:m.ops[op]? = some o)(hx:(o.d::o.uses)[q]? = some x)(r:Int):(decide (0≤r) && mayF v.L v.I ns (cNs m) o q x r.toNat)=mayB m ns ps o q x r:=by
 have cs:=CsOK.of ok.cls;have od:=MOK.opd ok (ah ho) rfl rfl rfl;obtain⟨hc,hf⟩:=od.cl x (ah hx);obtain⟨c,h1,h2⟩:=mayI_in cs hc hf;have gok:=geo_ok ok.geo;have eR:ps.length=ns.length:=gok.len;by_cases h0:0≤r
 · obtain⟨a,rfl⟩:=cu h0;rw [decide_eq_true h0,dM,cg];unfold mayF mayB;congr 1
   · rw[h2];by_cases h4:x.fix=[]
     · rw[if_pos h4,if_pos h4];obtain⟨p,e1,e2⟩:=k.ine _ _ h1;unfold memI;rw [e1];dsimp only;rw [e2];refine bC.2 ?_;rw [aq,decide_eq_true_iff];constructor
       · rintro ⟨y,hy,e⟩
         exact ao.2 ⟨y,hy,by rw[vA (cs.mem _ _ h1 y hy),of_decide_eq_true e]⟩
       · intro hm;obtain⟨y,hy,e⟩:=ao.1 hm;rw [vA (cs.mem _ _ h1 y hy)]at e;exact⟨y,hy,decide_eq_true (by omega)⟩
     · rw[if_neg h4,if_neg h4,vA (hf.resolve_left h4)];refine bC.2 ?_;rw [decide_eq_true_iff,decide_eq_true_iff];simp only[bD];omega
   · have e1:clrN ns ps o (a:Nat) = !(o.clob.any λc=>memI v.L (ns.idxOf c) a):=by
      unfold clrN;rw [sK od.cb,List.all_map]
      have:∀l:List Tx,(∀r∈l,r∈ns)→(l.all ((λc=> !rJ ps c (a:Nat)) ∘ pos ns)) = !(l.any λc=>memI v.L (ns.idxOf c) a):=by
       intro l
       induction l with
       | nil=>intro _;rfl
       | cons y l ih=>
        intro hl;rw [cK,dq,ih λr hr=>hl r (aT _ hr),Bool.not_or];congr 1
        show(!rJ ps (pos ns y) (a:Nat))=_;have hy:=hl y (aY ..);have dV:=ba.2 hy;have hL:=k.lapl;have e3:v.L[ns.idxOf y]? = some v.L[ns.idxOf y]:=aa (by omega);have e4:=k.lapw _ _ e3 a;rw [vA hy];unfold memI;rw [e3];dsimp only;rw [e4];unfold rJ;rw [decide_eq_true (by omega),decide_eq_true (by omega)];rfl
      exact this _ od.cb
     rw[e1];by_cases hq:q=0
     · rw[decide_eq_true hq,decide_eq_false (λh9=>h9 hq)];simp
     · rw[decide_eq_false hq,decide_eq_true hq];rfl
 · rw[decide_eq_false h0,da];unfold mayB;rw [decide_eq_false (λhm=>?_),da];rw [h2]at hm;split at hm
   · obtain⟨y,hy,rfl⟩:=ao.1 hm;exact h0 (pos_ge.2 (cs.mem _ _ h1 y hy))
   · rename_i h4;rw [bD.1 hm]at h0;exact h0 (pos_ge.2 (hf.resolve_left h4))
end
end Go.Proofs.YtmccnilgnlaffaaGreatDoor
