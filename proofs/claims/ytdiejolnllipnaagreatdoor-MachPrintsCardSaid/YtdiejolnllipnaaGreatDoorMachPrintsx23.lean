/- What the law leans on, part 23 of 24. Conditions: those that each theorem states. -/
import Derived.Test.YtdiejolnllipnaaGreatDoorMachPrintsx22
import Derived.Test.YtdiejolnllipnaaGreatDoorMachPrintsx8
import Derived.Test.YtdiejolnllipnaaGreatDoorMachPrintsx21
import Derived.Test.YtdiejolnllipnaaGreatDoorMachPrintsx18
import Derived.Test.YtdiejolnllipnaaGreatDoorMachPrintsx12
import Derived.Test.YtdiejolnllipnaaGreatDoorMachPrintsx19
import Derived.Test.YtdiejolnllipnaaGreatDoorMachPrintsx20

set_option linter.unusedVariables false
set_option linter.unusedSimpArgs false
namespace Go.Proofs.YtdiejolnllipnaaGreatDoor
open Go Go.Ex Go.Ex.M
set_option maxRecDepth 100000
set_option maxHeartbeats 8000000
section
attribute [local simp] zY
variable {n lo lo':Nat} {h:zB}
theorem int_at{lo e len:Nat}{v:Value}{l:List Int}{k:Nat}{x:Int}(r:Row lo h v e 1 len (l.map I64))(hx:l[k]? = some x):zD h (sbk v) (sof v+k*1)=some (I64 x):=by
 rw[aQ];exact r.at (by rw[ao,hx];rfl)
theorem same_ints{e e':Nat}{av bv:Value}{a:List Int}(ra:Row lo h av e 1 a.length (a.map I64))(rb:Row lo' h bv e' 1 a.length (a.map I64))(hl:a.length<inf):Pur P 8 137 [av,bv] h n (.bool true):=by
 have eM:inf<4611686018427387904:=by decide
 refine ent λu=>?_;have hd:¬(((a.length:Nat):Int)≠(a.length:Nat)):=by omega
 repeat' first|refine wk ?_|apply cX <;> intro
 refine lpR (λk:Nat=>[(0,av),(1,bv),(5,I64 (k:Nat))]) (λk h' n'=>h'=h/\n'=n/\k<=a.length) (λk=>a.length - k) 0 ⟨rfl,rfl,an _⟩ ?_
 rintro k t h' n' ⟨rfl,rfl,hk⟩
 by_cases eD:k<a.length
 . have c0:a[k]? = some a[k]:=aa eD;generalize a[k]=x at c0
   have c1:=int_at ra c0;have d1:=int_at rb c0;have iF:¬(x≠x):=λh9=>h9 rfl;repeat' first|refine wk ?_|apply cX <;> intro
   exact rnd (k+1) ⟨rfl,rfl,eD⟩
 . obtain rfl:k=a.length:=by omega
   repeat' first|refine wk ?_|apply cX <;> intro
   exact fin rfl
theorem same_ins{i j:InsT}(ra:RowT 3 lo h i.av 1 i.args.length (i.args.map I64))(rb:RowT 3 lo' h j.av 1 j.args.length (j.args.map I64))(eE:lo<=n)(gz:lo'<=n)(he:nav i=nav j):Pur P 8 76 [.agg ⟨wZ i⟩,.agg ⟨wZ j⟩] h n (.bool true):=by
 have o1:=ra.r.one;have o2:=rb.r.one;have hl:=ra.lt;obtain⟨i1,i2,i3,i4,i5,i6,av,l,i7,i8⟩:=i;obtain⟨j1,j2,j3,j4,j5,j6,bv,l',j7,j8⟩:=j;injection he with h1 h2 h3 h4 h5 h6 _ h7 h8 h9
 subst h1 h2 h3 h4 h5 h6 h7 h8 h9;have ra1:=ra.r;have rb1:=rb.r;dsimp only at ra1 rb1 hl o1 o2;show Pur P 8 _ [.agg ⟨[I64 i1,I64 i2,I64 i3,I64 i4,I64 i5,str i6,av,I64 i7,I64 i8]⟩,.agg ⟨[I64 i1,I64 i2,I64 i3,I64 i4,I64 i5,str i6,bv,I64 i7,I64 i8]⟩] h n _;refine Com.pure (ent λu=>?_) (.inl rfl);repeat' first|refine wk ?_|refine cX (λ_=>?_) λf=>absurd rfl f|refine zS (same_ints (Row.tch (S:=[]) ra1 zA eE qL) (Row.tch (S:=[]) rb1 zA gz qL) hl) ?_|fail
 all_goals exact finT qL  zA
theorem ins_rd{lo e len:Nat}{v:Value}{l:List InsT}{k:Nat}{i:InsT}(r:Row lo h v e 9 len (l.flatMap wZ))(hk:l[k]? = some i):Rd h (sbk v) (sof v+k*9) 9 (wZ i):=zM r hk
theorem val_at{lo e len:Nat}{v:Value}{l:List (Value×List InsT)}{k:Nat}{x:Value×List InsT}(r:Row lo h v e 1 len (l.map (·.1)))(hx:l[k]? = some x):zD h (sbk v) (sof v+k*1)=some x.1:=by
 rw[aQ];exact r.at (by rw[ao,hx];rfl)
structure BlkK (lo:Nat) (h:zB) (v:Value) (A:List (Value×List InsT)):Prop where
 bv:RowI lo h v 1 A.length (A.map (·.1))
 el:∀x∈A,RowI lo h x.1 9 x.2.length (x.2.flatMap wZ)
 ar:∀x∈A,∀i∈x.2,RowT 3 lo h i.av 1 i.args.length (i.args.map I64)
theorem same_blocks{av bv:Value}{A B:List (Value×List InsT)}(qa:BlkK lo h av A)(qb:BlkK lo' h bv B)(eE:lo<=n)(gz:lo'<=n)(heq:A.map (λx=>x.2.map nav)=B.map λx=>x.2.map nav):Pur P 8 35 [av,bv] h n (.bool true):=by
 have eM:inf<4611686018427387904:=by decide
 have ra:=qa.bv 0;have rb:=qb.bv 0;have hl:A.length=B.length:=by have:=congrArg List.length heq;simpa using this
 have hA:=qa.bv.lt;refine ent λu=>?_;have hd:¬(((A.length:Nat):Int)≠(B.length:Nat)):=by omega
 repeat' first|refine wk ?_|apply cX <;> intro
 refine lpR (λk:Nat=>[(0,av),(1,bv),(5,I64 (k:Nat))]) (λk h' n'=>h'=h/\n'=n/\k<=A.length) (λk=>A.length - k) 0 ⟨rfl,rfl,an _⟩ ?_
 rintro k t h' n' ⟨e1,e2,hk⟩
 subst e1 e2;by_cases eD:k<A.length
 rotate_left
 . obtain rfl:k=A.length:=by omega
   repeat' first|refine wk ?_|apply cX <;> intro
   exact fin rfl
 have c0:A[k]? = some A[k]:=aa eD;have d0:B[k]? = some (B[k]' qJ):=aa qJ;have ma:=aM eD;have mb:B[k]' qJ ∈B:=aM _
 have e1:(A[k]).2.map nav=(B[k]' qJ).2.map nav:=by
  have:=congrArg (·[k]?) heq;simp only[ao,c0,d0,dY]at this;injection this
 generalize A[k]=x at c0 ma e1
 generalize (B[k]' qJ)=y at d0 mb e1
 have c1:=val_at ra c0;have d1:=val_at rb d0;have rx:=qa.el x ma 0;have ry:=qb.el y mb 0;have fF:x.2.length=y.2.length:=by have:=congrArg List.length e1;simpa using this
 have iF:¬(((x.2.length:Nat):Int)≠(y.2.length:Nat)):=by omega
 have hx:=(qa.el x ma).lt;obtain⟨xv,xl⟩:=x;obtain⟨yv,yl⟩:=y;dsimp only at c1 d1 rx ry fF iF hx e1;have oxv:=rx.one;have oyv:=ry.one;repeat' first|refine wk ?_|apply cX <;> intro
 refine lpR (λq:Nat=>[(0,av),(1,bv),(5,I64 (k:Nat)),(6,I64 (q:Nat))]) (λq h2 n2=>h2=h'/\n2=n'/\q<=xl.length) (λq=>xl.length - q) 0 ⟨rfl,rfl,an _⟩ ?_
 rintro q t h2 n2 ⟨e3,e4,hq⟩
 subst e3 e4;by_cases eK:q<xl.length
 . have i0:xl[q]? = some xl[q]:=aa eK;have j0:yl[q]? = some (yl[q]' qJ):=aa qJ;have mi:=aM eK;have mj:yl[q]' qJ ∈yl:=aM _
   have e5:nav xl[q]=nav (yl[q]' qJ):=by
    have:=congrArg (·[q]?) e1;simp only[ao,i0,j0,dY]at this;injection this
   generalize xl[q]=i at i0 mi e5
   generalize (yl[q]' qJ)=j at j0 mj e5
   have ri:=ins_rd rx i0;have rj:=ins_rd ry j0;have gi:=qa.ar _ ma i mi;have gj:=qb.ar _ mb j mj;have oi:=gi.r.one;have oj:=gj.r.one;have p:=same_ins (n:=n2) gi gj eE gz e5;repeat' first|refine wk ?_|refine cX (λ_=>?_) λ_=>?_|refine zS p ?_|fail
   exact rnd (q+1) ⟨rfl,rfl,eK⟩
 . obtain rfl:q=xl.length:=by omega
   repeat' first|refine wk ?_|apply cX <;> intro
   exact rnd (k+1) ⟨rfl,rfl,eD⟩
end
section
attribute [local simp] zY
variable {n lo lo':Nat} {h:zB}
def avC(i:InsT):Value:=if i.kind=3 then i.av else .slice none 0 0
theorem rclear_ret{i:InsT}(o:i.av.oneCell'=true)(hk:1<=i.kind/\i.kind<=11):Ret P 8 34 [.agg ⟨wZ i⟩] h n λv h' n'=>v = .agg ⟨wZ (rQ i (avC i))⟩/\Tch [] h n h' n':=by
 obtain⟨kd,d,a,b,x,nm,av,ag,t,f⟩:=i;dsimp only at o hk;show Ret P 8 _ [.agg ⟨[I64 kd,I64 d,I64 a,I64 b,I64 x,str nm,av,I64 t,I64 f]⟩] h n _;refine ent λu=>?_;rcases(by omega:kd=1\/kd=2\/kd=3\/kd=4\/kd=5\/kd=6\/kd=7\/kd=8\/kd=9\/kd=10\/kd=11) with rfl|rfl|rfl|rfl|rfl|rfl|rfl|rfl|rfl|rfl|rfl
 all_goals
  repeat' first|refine wk ?_|refine cX (λ_=>?_) λf=>absurd rfl f|refine cX (λf=>absurd f qK) λ_=>?_|refine ob (a:=_) ?_ rM|fail
  exact⟨_,rfl,rfl,zA⟩
end
section
attribute [local simp] zY
variable {n lo lo':Nat} {h:zB} {c d:CodeT}
structure AcC (lo q n:Nat) (h:zB) (lv:Value) (A:List (Value×List InsT)):Prop where
 bv:Own q n h lv tBk 1 A.length (A.map (·.1))
 el:∀x∈A,Own q n h x.1 tIn 9 x.2.length (x.2.flatMap wZ)
 ar:∀x∈A,∀i∈x.2,RowT 3 lo h i.av 1 i.args.length (i.args.map I64)
theorem AcC.tch{q n':Nat}{h':zB}{lv:Value}{A:List (Value×List InsT)}{S:List Nat}(a:AcC lo q n h lv A)(eE:lo<=q)(t:Tch S h n h' n')(hS:∀x∈S,n<=x)(hn:q<=n):AcC lo q n' h' lv A:=
 have k:∀{v:Value} {e sz len:Nat} {vs:List Value},Own q n h v e sz len vs->∀b,zH v=some b->b∉S:=λo b hb hx=>by have:=(o.blk hb).2;have:=hS b hx;omega
 ⟨a.bv.tch t (k a.bv),λx hx=>(a.el x hx).tch t (k (a.el x hx)),λx hx i hi=>RowT.tch (n:=lo) (n':=lo) (a.ar x hx i hi) ⟨ad _,λb hb _=>t.2 b qJ  λhm=>by have:=hS b hm;omega⟩ (ad _)⟩
theorem rsame_ret(cm:CodeM lo h c)(dm:CodeM lo' h d)(eE:lo<=n)(gz:lo'<=n)(T:Twin c d)(hk:∀b∈c.blocks,b.2.length<=25600/\∀i∈b.2,1<=i.kind/\i.kind<=11)(hb:c.blocks.length<=200):Ret P 8 12 [.agg ⟨yQ c⟩,.agg ⟨yQ d⟩] h n λv h' n'=>v = .bool true/\Tch [] h n h' n':=by
 have o1:=(cm.bl 0).one;have o2:=(dm.bl 0).one;refine ent λu=>?_;repeat' first|refine wk ?_|apply cX <;> intro
 refine lpR (α :=Nat×Value×List (Value×List InsT)) (λa=>[(2,ptr n 0),(3,ptr (n+1) 0),(5,a.2.1),(6,I64 (a.1:Nat))]) (λa h' n'=>Tch [] h n h' n'/\n+2<=n'/\Cel h' n (30+1) 0 (yQ c)/\Cel h' (n+1) (30+1) 0 (yQ d)/\a.1<=c.blocks.length/\AcC lo (n+2) n' h' a.2.1 a.2.2/\(∀x∈a.2.2,x.2.length<=25600)/\(a.2.2.map λx=>x.2.map nav)=(c.blocks.take a.1).map λb=>b.2.map (rQ · niS)) (λa=>c.blocks.length - a.1) (0,.slice none 0 0,[]) ⟨zA,by omega,zC,zC,an _,⟨Own.nil,λx hx=>(by cases hx),λx hx=>(by cases hx)⟩,λx hx=>(by cases hx),rfl⟩ ?_
 rintro ⟨k,lv,A⟩ t h1 n1 ⟨t1,jO,c1,d1,hk1,hA,hL,heq⟩
 dsimp only at hk1 hA hL heq ⊢;have ol:=hA.bv.one;have rb:=cm.bl.tch t1 eE 0;have lN:A.length=k:=by have:=congrArg List.length heq;simp at this;omega
 by_cases eD:k<c.blocks.length
 rotate_left
 . obtain rfl:k=c.blocks.length:=by omega
   rw[aY]at heq;have q:=same_blocks (n:=n1) (h:=h1) (lo:=n1) (lo':=lo') (av:=lv) (bv:=d.bv) (A:=A) (B:=d.blocks) ⟨⟨bV (show A.length<=200 by omega) qK,_,hA.bv.row qK⟩,λx hx=>⟨bV (hL x hx) qK,_,(hA.el x hx).row qK⟩,λx hx i hi=>(hA.ar x hx i hi).up qJ⟩ ⟨dm.bl.tch t1 gz,λx hx=>(dm.el x hx).1.tch t1 gz,λx hx i hi=>(dm.ins x hx i hi).ar.tch t1 gz⟩ (ad _) qJ  (heq.trans T.2.2.symm);have e1:=T.1;have e2:=T.2.1;repeat' first|refine wk ?_|refine cX (λ_=>?_) λf=>absurd (by simp[*]) f|refine zS q ?_|fail
   all_goals exact⟨_,rfl,by simp[*],t1⟩
 have c0:c.blocks[k]? = some c.blocks[k]:=aa eD;have mJ:=bZ (l:=c.blocks) (i:=k);rw [c0]at mJ;generalize c.blocks[k]=x at c0 mJ
 have mx:=ae c0;obtain⟨xv,xl⟩:=x;obtain⟨k7,hx2⟩:=hk _ mx;have hxr:=(cm.el _ mx).1;have jJ:=cm.ins _ mx;dsimp only at k7 hx2 hxr jJ;have ox:=(hxr 0).one;repeat' first|refine wk ?_|apply cX <;> intro
 refine lpR (α :=Nat×Value×List InsT) (λa=>[(2,ptr n 0),(3,ptr (n+1) 0),(5,lv),(6,I64 (k:Nat)),(7,a.2.1),(8,I64 (a.1:Nat))]) (λa h' n'=>Tch [] h1 n1 h' n'/\a.1<=xl.length/\Own n1 n' h' a.2.1 tIn 9 a.2.2.length (a.2.2.flatMap wZ)/\(∀i∈a.2.2,RowT 3 lo h' i.av 1 i.args.length (i.args.map I64))/\(a.2.2.map nav)=(xl.take a.1).map (rQ · niS)) (λa=>xl.length - a.1) (0,.slice none 0 0,[]) ⟨zA,an _,Own.nil,λx hx=>(by cases hx),rfl⟩ ?_
 rintro ⟨p,v,D⟩ t h2 n2 ⟨t2,hp,hD,hDr,hDe⟩
 dsimp only at hp hD hDr hDe ⊢;have hn2:=t2.le;have ov:=hD.one;have hDl:D.length=p:=by have:=congrArg List.length hDe;simp at this;omega
 have gu:Tch [] h n h2 n2:=Tch.tch t2 t1 qL;have c2:=c1.tch t2 qJ qL;have d2:=d1.tch t2 qJ qL;have rb2:=cm.bl.tch gu eE 0;have c3:zD h2 (sbk c.bv) (sof c.bv+k*1)=some xv:=by rw[aQ];exact rb2.at (by rw[ao,c0];rfl)
 have rx2:=hxr.tch gu eE 0;by_cases gJ:p<xl.length
 . have i0:xl[p]? = some xl[p]:=aa gJ;have mi:=aM gJ;generalize xl[p]=i at i0 mi
   have ri:Rd h2 (sbk xv) (sof xv+p*9) 9 (wZ i):=zM rx2 i0;have Im:=jJ i mi;have oi:=Im.ar.r.one;have low:=rx2.low qJ;have oc:(avC i).oneCell'=true:=by unfold avC;split <;> first|exact oi|rfl
   have rA:RowT 3 lo h (avC i) 1 (rQ i (avC i)).args.length ((rQ i (avC i)).args.map I64):=by
    unfold avC rQ;dsimp only;split
    . exact Im.ar
    . exact⟨by decide,.inl ⟨rfl,rfl,rfl⟩⟩
   repeat' first|refine wk ?_|refine cX (λ_=>?_) λ_=>?_|refine yG (rclear_ret oi (hx2 i mi)) ?_|fail
   rintro _ h3 n3 ⟨rfl,t3⟩
   have eS:=t3.le;have hD3:=hD.tch t3 qL;have t13:Tch [] h1 n1 h3 n3:=Tch.tch t3 t2 qL;generalize hic:rQ i (avC i)=ic at rA ⊢
   have o6:ic.av.oneCell'=true:=by subst hic;exact oc
   clear t3;repeat' first|refine wk ?_|apply cX <;> intro
   refine appO (hD3.tch (S:=[]) zA qL) (zF (e:=tIn) (sz:=9) (len:=1) rfl qK) qJ  ⟨rfl,rfl,rfl,rfl,rfl,rfl,o6,rfl,rfl,trivial⟩ qJ  ?_
   rintro v4 h4 n4 ho4 ht4
   have fi:=ht4.le;have o4:=ho4.one;have t4:Tch (zH v).toList h3 n3 h4 n4:=Tch.tch ht4 zA λx hx=>.inr hx;have t14:Tch [] h1 n1 h4 n4:=Tch.tch t4 t13 λx hx=>.inl (zQ hD x hx);have t24:Tch [] h2 lo h4 lo:=⟨ad _,λb hb _=>(t14.2 b qJ qL).trans (t2.2 b qJ qL).symm⟩;have fY:Tch [] h n h4 n4:=Tch.tch t14 t1 qL;clear ht4;repeat' first|refine wk ?_|apply cX <;> intro
   exact rnd (p+1,v4,D++[ic]) ⟨t14,gJ,by simpa using ho4,λz hz=>by
    rcases aA.1 hz with hz|hz
    . exact(hDr z hz).tch t24 (ad _)
    . rw[aq.1 hz];subst hic;exact rA.tch fY eE,by
    dsimp only;rw [aC,hDe,yV i0,aC];subst hic;rfl⟩
 . obtain rfl:p=xl.length:=by omega
   rw[aY]at hDe;have hA2:=hA.tch (lo:=lo) qJ  t2 qL jO;obtain⟨p9,c9,rfl⟩:=hD.sl;repeat' first|refine wk ?_|refine cX (λ_=>?_) λ_=>?_|refine ob (a:=[.slice p9 D.length c9]) ?_ qN |fail
   refine appO (hA2.bv.tch (S:=[]) zA qL) (zF (e:=tBk) (sz:=1) (len:=1) rfl qK) qJ  ⟨ov,trivial⟩ qJ  ?_
   rintro w h3 n3 ho3 ht3
   have eS:=ht3.le;have ow:=ho3.one;have t3:Tch (zH lv).toList h2 n2 h3 n3:=Tch.tch ht3 zA λx hx=>.inr hx;have fo:Tch [] h n h3 n3:=Tch.tch t3 gu λx hx=>.inl (by have:=zQ hA.bv x hx;omega);have jG:Tch [] h2 lo h3 lo:=⟨ad _,λb hb _=>t3.2 b qJ  λhm=>by have:=zQ hA.bv b hm;omega⟩;have c4:Cel h3 n (30+1) 0 (yQ c):=c2.tch t3 qJ  λhm=>by have:=zQ hA.bv _ hm;omega
   have d4:Cel h3 (n+1) (30+1) 0 (yQ d):=d2.tch t3 qJ  λhm=>by have:=zQ hA.bv _ hm;omega
   have hA3:AcC lo (n+2) n3 h3 w (A++[(.slice p9 D.length c9,D)]):=⟨by rw[ah,aC];exact ho3,λz hz=>by
    rcases aA.1 hz with hz|hz
    . exact(hA2.el z hz).tch t3 (own_ne (hA2.el z hz) hA2.bv (.inr qK))
    . rw[aq.1 hz];exact own_dn (hD.tch t3 (own_ne hD hA2.bv (.inr qK))) jO,λz hz i hi=>by
    rcases aA.1 hz with hz|hz
    . exact(hA2.ar z hz i hi).tch jG (ad _)
    . rw[aq.1 hz]at hi;exact(hDr i hi).tch jG (ad _)⟩
   clear ht3 t3;repeat' first|refine wk ?_|apply cX <;> intro
   exact rnd (k+1,w,A++[(.slice p9 D.length c9,D)]) ⟨fo,by omega,c4,d4,eD,hA3,λz hz=>by
    rcases aA.1 hz with hz|hz
    . exact hL z hz
    . rw[aq.1 hz];dsimp only;omega,by
    dsimp only;rw [aC,heq,mJ,aC];simp [hDe]⟩
end
end Go.Proofs.YtdiejolnllipnaaGreatDoor
namespace Go.Ex
section
theorem bs_add{P:Program}{ty:Nat}{ox oy:Operand}{a b:List UInt8}(h:a.length+b.length<1000000):Bn P .add ty ox oy (str a) (str b) (str (a++b)):=by
 show cond (Nat.blt (Nat.add a.length b.length) 1000000) (some (str (a++b))) none=_;rw [xV (show Nat.add a.length b.length<1000000 from h)];rfl
end
end Go.Ex
namespace Go.Proofs.YtdiejolnllipnaaGreatDoor
open Go Go.Ex Go.Ex.M
set_option maxRecDepth 100000
set_option maxHeartbeats 8000000
section
attribute [local simp] zY
variable {n b:Nat} {h:zB} {l s:Tx}
theorem apT:apTB P 67 9 5 1=true:=by kernel_rfl
theorem appT{lo n len:Nat}{h:zB}{v:Value}{vs:List Value}{cx:Cx}{d:List Deferred}{u:Option zK}{K:W->Value->Prop}(ho:Own lo n h v 5 1 len vs)(eE:lo<=n)(hlim:len+l.length<1000000)
(k:∀v' h' n',Own lo n' h' v' 5 1 (len+l.length) (vs++bytesV l)->Tch (zH v).toList h n h' n'->K ⟨d,u,h',n'⟩ v'):BuB P cx .append [67,9] [v,str l] d u h n K:=by
 have:=append_text (l:=l) (K:=λh' n' v'=>wE (K ⟨d,u,h',n'⟩ v')) apT ho eE hlim λv' h' n' o a b=>isSo_iff.2 (k v' h' n' o ⟨a,λb' hb hS=>b b' hb λe=>hS (by rw[e];simp)⟩);exact this
abbrev zBu:Nat:=69+1
def BldT(b n:Nat)(h:zB)(l:Tx):Prop:=b<n/\∃p sv,Cel h b zBu 0 [p,sv]/\(p = .pointer none\/p=ptr b 0)/\Own (b+1) n h sv 5 1 l.length (bytesV l)
def Und(b:Nat)(h:zB)(n:Nat)(h':zB)(n':Nat):Prop:=n<=n'/\∀x,x<b->zG h' x=zG h x
theorem BldT.tch{h':zB}{n':Nat}(w:BldT b n h l)(t:Tch [] h n h' n'):BldT b n' h' l:=by
 obtain⟨hb,p,sv,c,hp,o⟩:=w;exact⟨aG hb t.1,p,sv,c.tch t hb qL,hp,o.tch t qL⟩
theorem write_ret(w:BldT b n h l)(eN:l.length+s.length<1000000):Ret P 8 21 [ptr b 0,str s] h n λv h' n'=>Und b h n h' n'/\BldT b n' h' (l++s):=by
 obtain⟨hb,p,sv,c,hp,o⟩:=w;have eJ:zH sv≠some b:=λe=>by have:=(o.blk e).1;omega
 have hB:Bld 69 h b p sv:=⟨c.1,c.2 0,c.2 1⟩;have os:=o.one;have low:=zQ o;have eb:bytesV l++bytesV s=bytesV (l++s):=by simp[bytesV]
 refine ent λu=>?_;rcases hp with rfl|rfl
 . repeat' first|refine wk ?_|refine cX (λ_=>?_) λ_=>?_|refine yG (check_fresh hB).ret ?_|fail
   rintro _ h2 n2 ⟨rfl,e2,rfl⟩
   have c2:Cel h2 b zBu 0 [ptr b 0,sv]:=by rw[e2];exact(zC:Cel (hst h b 0 [ptr b 0]) b zBu 0 [ptr b 0,sv])
   have t2:Tch [b] h n2 h2 n2:=by rw[e2];exact⟨ad _,λx hx hS=>by rw[zN,if_neg λe=>hS (by simp[e])]⟩
   have o2:=o.tch t2 (own_off o qJ);clear e2;repeat' first|refine wk ?_|apply cX <;> intro
   refine appT o2 qJ qJ  ?_
   rintro v3 h3 n3 o3 t3
   have eS:=t3.le;have ov:=o3.one;have c3:Cel h3 b zBu 0 [ptr b 0,sv]:=c2.tch t3 qJ  (own_nin o2 qJ);have jf:∀x,x<b->zG h3 x=zG h x:=λx hx=>(t3.2 x qJ  λhm=>by have:=low x hm;omega).trans (t2.2 x qJ qM);rw [eb,<- ah]at o3;clear t3;repeat' first|refine wk ?_|apply cX <;> intro
   exact⟨_,rfl,⟨by omega,λx hx=>by rw[zX,if_neg qJ];exact jf x hx⟩,by omega,ptr b 0,v3,zC,.inr rfl,own_ta o3 (S0:=b) zA qJ⟩
 . repeat' first|refine wk ?_|refine cX (λ_=>?_) λ_=>?_|refine yG (check_used hB).ret ?_|fail
   rintro _ h2 n2 ⟨rfl,e3,e4⟩
   rw[e3,e4];clear e3 e4 h2 n2;repeat' first|refine wk ?_|apply cX <;> intro
   refine appT o qJ qJ  ?_
   rintro v3 h3 n3 o3 t3
   have eS:=t3.le;have ov:=o3.one;have c3:Cel h3 b zBu 0 [ptr b 0,sv]:=c.tch t3 qJ  (own_nin o qJ);have jf:∀x,x<b->zG h3 x=zG h x:=λx hx=>(t3.2 x qJ  λhm=>by have:=low x hm;omega).trans (rfl);rw [eb,<- ah]at o3;clear t3;repeat' first|refine wk ?_|apply cX <;> intro
   exact⟨_,rfl,⟨by omega,λx hx=>by rw[zX,if_neg qJ];exact jf x hx⟩,by omega,ptr b 0,v3,zC,.inr rfl,own_ta o3 (S0:=b) zA qJ⟩
theorem line_len{hd:Tx}{ss:List Tx}(hh:hd.length<=2)(hl:ss.length<=5)(h:∀x∈ss,x.length<=22):(lnT hd ss).length<=118:=by
 have:=join_len h;unfold lnT;simp only[ah,ay,aX];omega
theorem wline_ret{lo:Nat}{sv:Value}{ss:List Tx}{hd:Tx}(w:BldT b n h l)(r:Row lo h sv 9 1 ss.length (ss.map str))(eE:lo<=n)(hl9:(lnT hd ss).length<=118)(hl:l.length<=900000)(h5:ss.length<=5):Ret P 8 20 [str hd,sv,ptr b 0] h n λv h' n'=>v = .tuple #[]/\Und b h n h' n'/\BldT b n' h' (l++lnT hd ss):=by
 have os:=r.one;have ej:lnT hd ss=hd++Lib.join ss [32]++[10]:=rfl;have hj:hd.length+(Lib.join ss [32]).length+1<=118:=by rw[ej]at hl9;simp at hl9;omega
 have p:=(join_pure (n:=n) ss [32] (r.up eE) qJ qJ).pur;refine ent λu=>?_;repeat' first|refine wk ?_|refine cX (λ_=>?_) λ_=>?_|refine zS p ?_|fail
 refine ob (a:=str (hd++Lib.join ss [32])) ?_ (bs_add qJ);repeat' first|refine wk ?_|apply cX <;> intro
 refine ob (a:=str (hd++Lib.join ss [32]++[10])) ?_ (bs_add (a:=hd++Lib.join ss [32]) (b:=[10]) (by rw[ah,bT];omega));repeat' first|refine wk ?_|refine cX (λ_=>?_) λ_=>?_|refine yG (write_ret w (s:=lnT hd ss) qJ) ?_|fail
 rintro _ h2 n2 ⟨u2,w2⟩
 repeat' first|refine wk ?_|apply cX <;> intro
 exact⟨_,rfl,rfl,u2,w2⟩
end
section
variable {ns:List Tx} {res:Tx} {i:InsT}
def sumC(l:List (Value×List InsT)):Nat:=(l.map λx=>1+x.2.length).sum
theorem sumC_take{l:List (Value×List InsT)}{k:Nat}{x:Value×List InsT}(h:l[k]? = some x):sumC (l.take (k+1))=sumC (l.take k)+(1+x.2.length):=by
 unfold sumC;rw [bZ,h];simp
theorem sumC_le:∀(l:List (Value×List InsT)) (k:Nat),sumC (l.take k)<=sumC l:=by
 intro l
 induction l with
 | nil=>intro k;simp
 | cons a l ih=>
  intro k
  cases k with
  | zero=>simp [sumC]
  | succ k=>have:=ih k;simp only[sumC,cE,bJ,List.sum_cons]at this ⊢;omega
theorem ins_len(R:InsR ns.length i)(hg:uT i.n)(hn:∀x∈ns,xL x=true)(hr:xL res=true):(insTx ns res i).length<=118:=by
 obtain⟨a,_,c⟩:=ins_wd R hg hn hr;exact line_len qK  c λx hx=>(a x hx).2
theorem flat_len{α : Type}{f: α->Tx}:∀{l:List α},(∀x∈l,(f x).length<=118)->(l.flatMap f).length<=118*l.length:=by
 intro l
 induction l with
 | nil=>intro _;simp
 | cons a l ih=>
  intro h;have h1:=h a (aN ..);have h2:=ih λx hx=>h x (aL _ hx);rw [aV,ah,ay];omega
def preT(ns:List Tx)(res:Tx)(c:CodeT)(k:Nat):Tx:=headTx c++(c.blocks.take k).flatMap λb=>blkTx ns res b.2
def midT(ns:List Tx)(res:Tx)(c:CodeT)(k:Nat)(xl:List InsT)(p:Nat):Tx:=preT ns res c k++(lnT [] [[98,108,111,99,107]]++(xl.take p).flatMap (insTx ns res))
theorem pre_mid{c:CodeT}{k:Nat}{x:Value×List InsT}(h:c.blocks[k]? = some x):midT ns res c k x.2 x.2.length=preT ns res c (k+1):=by
 unfold midT preT;rw [aY,bZ,h,aT,ba];simp [blkTx]
theorem mid_s{c:CodeT}{k p:Nat}{xl:List InsT}(h:xl[p]? = some i):midT ns res c k xl (p+1)=midT ns res c k xl p++insTx ns res i:=by
 unfold midT;rw [bZ,h,aT];simp
theorem two_len{a b:Tx}(ha:a.length<=22)(hb:b.length<=22):(lnT [] [a,b]).length<=118:=line_len qK qL  λx hx=>by
 rcases au.1 hx with rfl|hx
 . exact ha
 . rw[aq.1 hx];exact hb
theorem head_len{c:CodeT}(h1:xL c.name=true)(h2:0<=c.slots/\c.slots<=99999):(headTx c).length<=236:=by
 unfold headTx;have a:=two_len (a:=[99,111,100,101]) qK  (wL h1).2;have b:=two_len (a:=[115,108,111,116,115]) qK  (wd_num h2).2;rw [ah];omega
variable {c:CodeT}
theorem pre_len(h1:xL c.name=true)(h2:0<=c.slots/\c.slots<=99999)(h4:∀b∈c.blocks,∀i∈b.2,(insTx ns res i).length<=118)(k:Nat):(preT ns res c k).length<=236+118*sumC (c.blocks.take k):=by
 have g:∀(l:List (Value×List InsT)),(∀b∈l,∀i∈b.2,(insTx ns res i).length<=118)->(l.flatMap λb=>blkTx ns res b.2).length<=118*sumC l:=by
  intro l
  induction l with
  | nil=>intro _;simp
  | cons b l ih=>
   intro h;have h3:=ih λx hx=>h x (aL _ hx);have h5:=flat_len (h b (aN ..));have e:sumC (b::l)=1+b.2.length+sumC l:=rfl;have e2:(blkTx ns res b.2).length=(lnT [] [[98,108,111,99,107]]).length+(b.2.flatMap (insTx ns res)).length:=ah;rw [e,aV,ah,e2];have:(lnT [] [[98,108,111,99,107]]).length<=118:=by decide
   omega
 have h3:=g (c.blocks.take k) λb hb=>h4 b (dt hb);have:=head_len h1 h2;unfold preT;rw [ah];omega
theorem mid_len(h1:xL c.name=true)(h2:0<=c.slots/\c.slots<=99999)(h4:∀b∈c.blocks,∀i∈b.2,(insTx ns res i).length<=118){k:Nat}{x:Value×List InsT}(hx:c.blocks[k]? = some x)(p:Nat):(midT ns res c k x.2 p).length<=354+118*(sumC (c.blocks.take k)+p):=by
 have a:=pre_len h1 h2 h4 k;have b:=flat_len (l:=x.2.take p) λi hi=>h4 x (ae hx) i (dt hi);have e:(x.2.take p).length<=p:=List.length_take_le ..;have:(lnT [] [[98,108,111,99,107]]).length<=118:=by decide
 unfold midT;rw [ah,ah];omega
theorem code_len(h1:xL c.name=true)(h2:0<=c.slots/\c.slots<=99999)(h4:∀b∈c.blocks,∀i∈b.2,(insTx ns res i).length<=118):(uA ns res c).length<=354+118*sumC c.blocks:=by
 have a:=pre_len h1 h2 h4 c.blocks.length;unfold preT at a;rw [aY]at a;have:(lnT [] [[101,110,100]]).length<=118:=by decide
 unfold uA;rw [ah];omega
end
section
variable {n lo:Nat} {h:zB} {m:MachT} {c:CodeT}
instance num12k_c (e:Int) (h:zB) (n:Nat):PurC P 8 11 [I64 e] h n (I64 e):=⟨by
 refine ent λu=>?_;repeat' first|refine wk ?_|apply cX <;> intro
 exact fin rfl⟩
theorem big12_com(cm:CodeM lo h c)(eE:lo<=n):Com P 8 6 [.agg ⟨yQ c⟩] h n λo h' n'=>∃b,o = .ret (.bool b)/\Tch [] h n h' n'/\(b=false->sumC c.blocks<=6000):=by
 have ht:wM=1125899906842624:=rfl;have o1:=(cm.bl 0).one;have g0:=cm.nl;have g1:=cm.bll;refine ent λu=>?_;repeat' first|refine wk ?_|apply cX <;> intro
 have t1:Tch [] h n (hal h n (mkC (yQ c) (30+1) 0)) (n+1):=zA;have c1:Cel (hal h n (mkC (yQ c) (30+1) 0)) n (30+1) 0 (yQ c):=cel_hal _ _ _ _ _;have cm1:=cm.tch t1 eE;have rb:=cm1.bl 0;generalize hal h n (mkC (yQ c) (30+1) 0)=h1 at *
 refine lpR (α :=Nat×Nat) (λa=>[(1,ptr n 0),(3,I64 a.2),(4,I64 a.1)]) (λa h' n'=>h'=h1/\n'=n+1/\a.1<=c.blocks.length/\a.2<3*1125899906842624/\sumC (c.blocks.take a.1)<=a.2) (λa=>c.blocks.length - a.1) (0,c.name.length / 8) ⟨rfl,rfl,an _,by dsimp only;omega,by simp[sumC]⟩ ?_
 rintro ⟨i,k⟩ t h' n' ⟨e1,e2,hi,hk,hs⟩
 dsimp only at hi hk hs ⊢;subst e1 e2;by_cases eD:i<c.blocks.length
 . by_cases hg:k<=6000
   . have d0:c.blocks[i]? = some c.blocks[i]:=aa eD;generalize c.blocks[i]=x at d0
     have hx:=ae d0;obtain⟨rxI,jc⟩:=cm1.el x hx;have iK:=cm1.ins x hx;have hst:=sumC_take d0;obtain⟨xv,xl⟩:=x;dsimp only at rxI jc iK hst;have rx:=rxI 0;have ox:=rx.one;have d1:zD h' (sbk c.bv) (sof c.bv+i*1)=some xv:=by rw[aQ];exact rb.at (by rw[ao,d0];rfl)
     repeat' first|refine wk ?_|apply cX <;> intro
     refine lpR (α :=Nat×Nat) (λa=>[(1,ptr n 0),(3,I64 a.2),(4,I64 i),(5,I64 a.1)]) (λa h2 n2=>h2=h'/\n2=n+1/\a.1<=xl.length/\a.2<3*1125899906842624/\sumC (c.blocks.take (i+1))<=a.2) (λa=>xl.length - a.1) (0,k+1+xl.length) ⟨rfl,rfl,an _,by dsimp only;omega,by dsimp only;omega⟩ ?_
     rintro ⟨q,k2⟩ t h2 n2 ⟨e1,e2,hq,hk2,jB⟩
     dsimp only at hq hk2 jB ⊢;subst e1 e2;by_cases eK:q<xl.length
     . by_cases hg2:k2<=6000
       . have f0:xl[q]? = some xl[q]:=aa eK;generalize xl[q]=y at f0
         have c3:=zM rx f0;have c35:=yT c3 (j:=5) rfl;have c36:=yT c3 (j:=6) rfl;have hy:=iK y (ae f0);have ry:=hy.ar vR;have oy:=ry.one;have y1:=hy.al;have y2:=hy.nl;repeat' first|refine wk ?_|apply cX <;> intro
         exact rnd (q+1,k2+y.args.length+y.name.length / 8) ⟨rfl,rfl,by dsimp only;omega,by dsimp only;omega,by dsimp only;omega⟩
       . repeat' first|refine wk ?_|apply cX <;> intro
         exact rnd (i+1,k2) ⟨rfl,rfl,by dsimp only;omega,by dsimp only;omega,by dsimp only;omega⟩
     . obtain rfl:q=xl.length:=by omega
       repeat' first|refine wk ?_|apply cX <;> intro
       exact rnd (i+1,k2) ⟨rfl,rfl,by dsimp only;omega,by dsimp only;omega,by dsimp only;omega⟩
   . repeat' first|refine wk ?_|apply cX <;> intro
     exact⟨_,rfl,t1,λe=>by simp at e;omega⟩
 . obtain rfl:i=c.blocks.length:=by omega
   rw[aY]at hs;repeat' first|refine wk ?_|apply cX <;> intro
   exact⟨_,rfl,t1,λe=>by simp at e;omega⟩
end
section
attribute [local simp] zY
variable {n bt lq:Nat} {h:zB} {m:MachT} {ns:List Tx} {ps:List Pl} {v:TabV} {mx:Int} {c:CodeT}
theorem mprint_nil{lo:Nat}(cm:CodeM lo h c)(eE:lo<=n):Ret P 8 8 [.pointer none,.agg ⟨yQ c⟩] h n λw h' n'=>w=str []/\Tch [] h n h' n':=by
 have o1:=(cm.bl 0).one;refine ent λu=>?_;repeat' first|refine wk ?_|refine cX (λ_=>?_) λ_=>?_|refine yG (mcheck_nil (cm.tch (n:=n) zA eE)) ?_|fail
 rintro _ h2 n2 ⟨rfl,t2⟩
 have hn2:=t2.le;repeat' first|refine wk ?_|refine cX (λ_=>?_) λf=>absurd qK  f|fail
 exact⟨_,rfl,rfl,zA⟩
theorem mprint_bad{lo:Nat}(E:EnvT mx lq n h bt m ns ps v)(ok:MOK m ns ps)(hon:(oNs m).Nodup){b k e:Int}(hc:CodeE m ns ps c b k e)(he:e≠0)(cm:CodeM lo h c)(eE:lo<=n):Ret P 8 8 [ptr bt 0,.agg ⟨yQ c⟩] h n λw h' n'=>w=str []/\Tch [] h n h' n':=by
 have o1:=(cm.bl 0).one;have t1:Tch [] h n (hal h n (mkC (yQ c) (30+1) 0)) (n+1):=zA;have q:=mcheck_ret (E.kt.tch t1) ok hon (cm.tch t1 eE) qJ;clear t1;refine ent λu=>?_;repeat' first|refine wk ?_|refine cX (λ_=>?_) λ_=>?_|refine yG q ?_|fail
 rintro _ h2 n2 ⟨b',k',e',rfl,hE,t2⟩
 obtain⟨rfl,rfl,rfl⟩:=codeE_fun hE hc;have hn2:=t2.le;repeat' first|refine wk ?_|refine cX (λ_=>?_) λf=>absurd he f|fail
 exact⟨_,rfl,rfl,zA⟩
theorem und_up{b n1 n':Nat}{h1 h':zB}(a:Und b h1 n1 h' n')(t:Tch [] h n h1 n1)(hb:n<=b):Tch [] h n h' n':=⟨aW t.1 a.1,λx hx _=>(a.2 x qJ).trans (t.2 x hx qL)⟩
theorem und_cel{b n1 n' c z:Nat}{h1 h':zB}{vs:List Value}(a:Und b h1 n1 h' n')(k:Cel h1 c z 0 vs)(hc:c<b):Cel h' c z 0 vs:=⟨by rw[a.2 c hc];exact k.1,λi=>by unfold zD;rw [a.2 c hc];exact k.2 i⟩
abbrev prV(b:Nat):Value:=.func (.func 20) ⟨[]⟩ ⟨[ptr b 0]⟩
abbrev zCo:Nat:=30+1
structure PrI (n b:Nat) (h:zB) (c:CodeT) (l:Tx) (h':zB) (n':Nat):Prop where
 t:Tch [] h n h' n'
 lt:n<b
 c:Cel h' n zCo 0 (yQ c)
 b:BldT b n' h' l
theorem PrI.line{b n1 n':Nat}{h1 h':zB}{l s:Tx}(I:PrI n b h c l h1 n1)(u:Und b h1 n1 h' n')(w:BldT b n' h' s):PrI n b h c s h' n':=⟨und_up u I.t (Nat.le_of_lt I.lt),I.lt,und_cel u I.c I.lt,w⟩
theorem PrI.tch{b n1 n':Nat}{h1 h':zB}{l:Tx}(I:PrI n b h c l h1 n1)(t:Tch [] h1 n1 h' n')(hn:n<n1):PrI n b h c l h' n':=⟨Tch.tch t I.t λx hx=>.inr hx,I.lt,I.c.tch t hn qL,I.b.tch t⟩
theorem mprint_ret{lo:Nat}(E:EnvT mx lq n h bt m ns ps v)(ok:MOK m ns ps)(hon:(oNs m).Nodup){j:Nat}(hj:ns[j]? = some m.result)(hc:CodeOK m ns ps c)(cm:CodeM lo h c)(eE:lo<=n)(gf:ns.length<=200)(jC:sumC c.blocks<=6000):Ret P 8 8 [ptr bt 0,.agg ⟨yQ c⟩] h n λw h' n'=>w=str (uA ns m.result c)/\Tch [] h n h' n':=by
 have eO:=E.nm;have kT:=E.nm _ (ae hj);have fB:0<=c.slots/\c.slots<=99999:=⟨hc.sl.1,by have:=hc.sl.2;have:=ok.conv.2.2.2.2.2.1;omega⟩
 have hR:∀b∈c.blocks,∀i∈b.2,InsR ns.length i:=λb hb i hi=>by
  obtain⟨j,hj⟩:=aj.1 hb;obtain⟨q,hq⟩:=aj.1 hi;exact insE_R ok (by have:=hc.sl.2;have:=ok.conv.2.2.2.2.2.1;omega) hc.l ((hc.bk j b hj).2 q i hq)
 have lu:∀b∈c.blocks,∀i∈b.2,(insTx ns m.result i).length<=118:=λb hb i hi=>ins_len (hR b hb i hi) (cm.ins b hb i hi).gn eO kT;have o1:=(cm.bl 0).one;have t1:Tch [] h n (hal h n (mkC (yQ c) zCo 0)) (n+1):=zA;have q:=mcheck_ret (E.kt.tch t1) ok hon (cm.tch t1 eE) qJ;clear t1;refine ent λu=>?_;repeat' first|refine wk ?_|refine cX (λ_=>?_) λ_=>?_|refine yG q ?_|fail
 rintro _ h2 n2 ⟨b,k,e,rfl,hE,t2⟩
 obtain⟨rfl,rfl,rfl⟩:=codeE_fun hE hc.e;have hn2:=t2.le;have c2:Cel h2 n zCo 0 (yQ c):=Cel.tch zE t2 qJ qL;have u2:Tch [] h n h2 n2:=zA;have e1:=Lib.itoa_length_le c.slots qJ qJ;clear t2;repeat' first|refine wk ?_|refine cX (λf=>absurd rfl f) λ_=>?_|fail
 have I2:PrI n n2 h c [] (hal h2 n2 (mkC [.pointer none,.slice none 0 0] zBu 0)) (n2+1):=⟨zA,by omega,zE,⟨by omega,_,_,zC,.inl rfl,Own.nil⟩⟩;refine yG (wline_ret (hd:=[]) (l:=[]) (ss:=[[99,111,100,101],c.name]) (I2.b.tch zA) (zF (e:=9) (sz:=1) (len:=2) rfl qK) (ad _) (two_len qK  (wL hc.nm).2) (show 0<=900000 by decide) (show 2<=5 by decide)) ?_
 rintro _ h3 n3 ⟨rfl,u3,w3⟩
 have I3:=(I2.tch zA qJ).line u3 w3;have eS:=u3.1;have c3:=I3.c;clear u3 w3 I2;repeat' first|refine wk ?_|refine cX (λ_=>?_) λ_=>?_|refine zS (itoa_pure _ (E.tch I3.t).tb c.slots qJ qJ).pur ?_|fail
 refine yG (wline_ret (hd:=[]) (ss:=[[115,108,111,116,115],Lib.itoa c.slots]) (I3.b.tch zA) (zF (e:=9) (sz:=1) (len:=2) rfl qK) (ad _) (two_len qK  (wd_num fB).2) ?_ (show 2<=5 by decide)) ?_
 . have:=two_len (a:=[99,111,100,101]) qK  (wL hc.nm).2;rw [bF];omega
 rintro _ h4 n4 ⟨rfl,u4,w4⟩
 have I4:=(I3.tch zA qJ).line u4 w4;have fi:=u4.1;have e4:[]++lnT [] [[99,111,100,101],c.name]++lnT [] [[115,108,111,116,115],Lib.itoa c.slots]=preT ns m.result c 0:=by simp[preT,headTx]
 rw[e4]at I4;have c4:=I4.c;have b4:=cm.bl.tch I4.t eE 0;clear u4 w4 I3 c3 u2 c2 e4;repeat' first|refine wk ?_|apply cX <;> intro
 refine lpR (λk:Nat=>[(0,ptr bt 0),(3,ptr n 0),(8,ptr n2 0),(9,prV n2),(36,c.bv),(37,I64 c.blocks.length),(38,I64 (k:Nat))]) (λk h' n'=>PrI n n2 h c (preT ns m.result c k) h' n'/\n2<n'/\k<=c.blocks.length) (λk=>c.blocks.length - k) 0 ⟨I4,by omega,an _⟩ ?_;clear I4 c4 b4
 rintro k t h' n' ⟨I,eP,hk⟩
 have c':=I.c;have gT:=hc.l;have pl:=pre_len (res:=m.result) hc.nm fB lu k;have psum:=sumC_le c.blocks k;by_cases eD:k<c.blocks.length
 rotate_left
 . obtain rfl:k=c.blocks.length:=by omega
   repeat' first|refine wk ?_|apply cX <;> intro
   refine yG (wline_ret (hd:=[]) (ss:=[[101,110,100]]) (I.b.tch zA) (zF (e:=9) (sz:=1) (len:=1) rfl qK) (ad _) qK qJ qK) ?_
   rintro _ h5 n5 ⟨rfl,u5,w5⟩
   have I5:=(I.tch zA qJ).line u5 w5;have fA:=u5.1;have cl:=code_len (res:=m.result) hc.nm fB lu;have e5:preT ns m.result c c.blocks.length++lnT [] [[101,110,100]]=uA ns m.result c:=by unfold preT uA;rw [aY]
   rw[e5]at I5;obtain⟨b2,pv,sv,cb,hpv,o⟩:=I5.b;have eJ:zH sv≠some n2:=λe=>by have:=(o.blk e).1;omega
   have t5:=I5.t;clear u5 w5 I I5 c' e5;repeat' first|refine wk ?_|refine cX (λ_=>?_) λ_=>?_|refine yG (string_rets ⟨cb.1,cb.2 0,cb.2 1⟩ o eJ qJ).ret ?_|fail
   rintro _ h6 n6 ⟨rfl,e6,hk6⟩
   have t6:Tch [] h n h6 n6:=⟨by have:=t5.le;omega,λx hx _=>(hk6 x λe=>by have:=(o.blk e).1;omega).trans (t5.2 x hx qL)⟩;repeat' first|refine wk ?_|apply cX <;> intro
   exact⟨_,rfl,rfl,t6⟩
 have c0:c.blocks[k]? = some c.blocks[k]:=aa eD;generalize c.blocks[k]=x at c0
 have mx:=ae c0;have rb1:=cm.bl.tch I.t eE 0;have hst:=sumC_take c0;have jB:=sumC_le c.blocks (k+1);have c2:=rb1.at (i:=k) (x:=x.1) (by rw[ao,c0];rfl);obtain⟨hxr,jc⟩:=cm.el x mx;have hB:=hc.bk k x c0;have ox:=(hxr 0).one;have rx1:=hxr.tch I.t eE 0;have pm:=pre_mid (ns:=ns) (res:=m.result) c0;have ml:=mid_len (res:=m.result) hc.nm fB lu c0;have lZ:=hR x mx;have jJ:=cm.ins x mx;obtain⟨xv,xl⟩:=x;dsimp only at c2 hB hst ox rx1 hxr jc pm ml lZ jJ;repeat' first|refine wk ?_|apply cX <;> intro
 refine yG (wline_ret (hd:=[]) (ss:=[[98,108,111,99,107]]) (I.b.tch zA) (zF (e:=9) (sz:=1) (len:=1) rfl qK) (ad _) qK qJ qK) ?_
 rintro _ h5 n5 ⟨rfl,u5,w5⟩
 have I5:=(I.tch zA qJ).line u5 w5;have fA:=u5.1;have e5:preT ns m.result c k++lnT [] [[98,108,111,99,107]]=midT ns m.result c k xl 0:=by simp[midT]
 rw[e5]at I5;have c5:=I5.c;have rx5:=hxr.tch I5.t eE 0;clear u5 w5 I e5 c' rx1 rb1 c2;repeat' first|refine wk ?_|apply cX <;> intro
 refine lpR (λp:Nat=>[(0,ptr bt 0),(3,ptr n 0),(8,ptr n2 0),(9,prV n2),(36,c.bv),(37,I64 c.blocks.length),(38,I64 (k:Nat)),(45,xv),(46,I64 xl.length),(47,I64 (p:Nat))]) (λp h' n'=>PrI n n2 h c (midT ns m.result c k xl p) h' n'/\n2<n'/\p<=xl.length) (λp=>xl.length - p) 0 ⟨I5,by omega,an _⟩ ?_;clear I5 c5 rx5
 rintro p t h6 n6 ⟨I,fV,hp⟩
 by_cases gJ:p<xl.length
 . have i0:xl[p]? = some xl[p]:=aa gJ;have mi:=aM gJ;generalize xl[p]=i at i0 mi
   have rx1:=hxr.tch I.t eE 0;have ri:Rd h6 (sbk xv) (sof xv+p*9) 9 (wZ i):=zM rx1 i0;have Im:=jJ i mi;have Ri:=lZ i mi;have oi:=Im.ar.r.one;have low:=rx1.low qJ;have ms:=mid_s (ns:=ns) (res:=m.result) (c:=c) (k:=k) i0;have il:=ins_len Ri Im.gn eO kT;have i5:=(ins_wd Ri Im.gn eO kT).2.2;have mlp:=ml p;have t6:=I.t;repeat' first|refine wk ?_|refine cX (λ_=>?_) λ_=>?_|refine yG (mshow_ret (E.tch zA).kt gf E.nd hj (E.tch zA).tb (by have:=E.ng;have:=t6.le;omega) (Im.tch (n:=n) zA eE) qJ  (λe=>by have:=(Ri.ag e).2.2;omega) Ri.k (λe=>(Ri.n6 e).2) (λe=>⟨by have:=Ri.t e;omega,by have:=Ri.t e;omega⟩) (λe=>⟨by have:=Ri.f e;omega,by have:=Ri.f e;omega⟩)) ?_|fail
   rintro w7 h7 n7 ⟨r7,t7⟩
   have ir:=t7.le;have o7:=r7.one;have I7:=I.tch (Tch.tch t7 zA λx hx=>.inr hx) qJ;have c7:=I7.c;clear t7 t6 ri;repeat' first|refine wk ?_|refine cX (λ_=>?_) λ_=>?_|refine yG (wline_ret (hd:=[32,32]) I7.b r7 (ad _) il qJ  i5) ?_|fail
   rintro _ h8 n8 ⟨rfl,u8,w8⟩
   have I8:=I7.line u8 w8;rw [show midT ns m.result c k xl p++lnT [32,32] (zU ns m.result i)=_ from ms.symm]at I8;have jj:=u8.1;clear u8 w8 I7 c7 r7;repeat' first|refine wk ?_|apply cX <;> intro
   exact rnd (p+1) ⟨I8,by omega,gJ⟩
 . obtain rfl:p=xl.length:=by omega
   rw[pm]at I;repeat' first|refine wk ?_|apply cX <;> intro
   exact rnd (k+1) ⟨I,fV,eD⟩
end
end Go.Proofs.YtdiejolnllipnaaGreatDoor
namespace Go.Ex.M
section
theorem makeE_mok{m:MachT}{ns:List Tx}{ps:List Pl}(k:MOK m ns ps):MakeE m 0:=.inr ⟨k.nm,.inr ⟨⟨ns,ps⟩,k.geo,.inr ⟨k.ne,.inr ⟨k.cls,.inr ⟨k.ops,.inr ⟨k.conv,.inr ⟨rfl,k.spill⟩⟩⟩⟩⟩⟩⟩
section
variable {n:Nat} {v:SmV}
theorem sm_ok0(h3:3<=n)(h40:n<=40):MOK (smM v n (-1) []) (smN n) (smP n):=by
 have hN:=smN_len (n:=n);have fG:=smN_mem (n:=n) (j:=0) qJ;obtain⟨hg,hr⟩:=sm_regs h40;have am:∀{p:Prop},(-1:Int)>=0->p:=λh=>absurd h qK;have no:∀{α : Type} {j:Nat} {x: α} {p:Prop},([]:List α)[j]? = some x->p:=λh=>by simp at h
 refine⟨sm_geo h40,λe=>?_,.inr ⟨(by decide:1<=64),.inl ⟨rfl,λi c hc=>?_⟩⟩,.inr ⟨(by decide:3<=64),.inl ⟨rfl,λi o ho=>?_⟩⟩,?_,⟨λi o ho=>?_,λa b ca cb _ e1 e2=>?_⟩,rfl⟩
 . rw[e]at hN;simp at hN;omega
 . match i,hc with
   | 0,hc=>
    injection hc with hc
    subst hc;refine .inl ⟨rfl,⟨rfl,rfl,hg⟩,⟨?_,?_,λj r hj=>?_⟩⟩
    . show 1<=(smN n).length;omega
    . show(smN n).length<=64;omega
    . have eD:=(ab.1 hj).1;have eD:j<(smN n).length:=eD;have hj:(smN n)[j]? = some r:=hj;rw [hN]at eD;rw [smN_at eD]at hj;injection hj with hj
      subst hj;exact⟨smN_mem eD,(hr j eD).1,by rw[(hr j eD).2,sm_wd h40 qJ]⟩
   | i+1,hc=>simp at hc
 . match i,ho with
   | 0,ho=>
    injection ho with ho
    subst ho;refine .inl ⟨rfl,⟨(by decide:0<arity addT),rfl⟩,⟨rfl,rfl,λj u hu=>?_,(by decide:(-1:Int)<=-1),(by decide:(-1:Int)<2),am,an _,λj r hj=>no hj⟩⟩
    match j,hu with
    | 0,hu=>injection hu with hu;subst hu;exact⟨rfl,rfl⟩
    | 1,hu=>injection hu with hu;subst hu;exact⟨rfl,rfl⟩
    | j+2,hu=>simp at hu
   | 1,ho=>
    injection ho with ho
    subst ho;refine .inl ⟨rfl,⟨(by decide:0<arity notT),rfl⟩,⟨rfl,rfl,λj u hu=>?_,(by decide:(-1:Int)<=-1),(by decide:(-1:Int)<1),am,an _,λj r hj=>no hj⟩⟩
    match j,hu with
    | 0,hu=>injection hu with hu;subst hu;exact⟨rfl,rfl⟩
    | j+1,hu=>simp at hu
   | 2,ho=>
    injection ho with ho
    subst ho;refine .inl ⟨rfl,⟨(by decide:0<arity divT),rfl⟩,⟨rfl,rfl,λj u hu=>?_,(by decide:(-1:Int)<=-1),(by decide:(-1:Int)<2),am,an _,λj r hj=>no hj⟩⟩
    match j,hu with
    | 0,hu=>injection hu with hu;subst hu;exact⟨rfl,rfl⟩
    | 1,hu=>injection hu with hu;subst hu;exact⟨rfl,rfl⟩
    | j+2,hu=>simp at hu
   | i+3,ho=>simp at ho
 . refine⟨⟨(by decide:((1:Nat):Int)<=16),λi x hi=>?_⟩,fG,⟨(by decide:((0:Nat):Int)<=64),λi x hi=>no hi⟩,λi x hi=>no hi,(by decide:(0:Int)<=100),(by decide:(100:Int)<=1000),λi x hi=>?_⟩
   . match i,hi with
     | 0,hi=>injection hi with hi;subst hi;exact⟨fG,λj _ hj=>absurd hj (aE _)⟩
     | i+1,hi=>simp at hi
   . have hx:x=nam 0:=by
      match i,hi with
      | 0,hi=>injection hi with hi;exact hi.symm
      | 1,hi=>injection hi with hi;exact hi.symm
      | i+2,hi=>simp at hi
     subst hx;show(decide (nam 0∈smN n) || false)=true;rw [decide_eq_true fG];rfl
 . match i,ho with
   | 0,ho=>
    injection ho with ho
    subst ho;exact sm_fit2 h40 rfl rfl rfl qJ  (i:=0) (j:=1) qJ qJ qK  rfl ⟨rfl,.inl rfl⟩
   | 1,ho=>
    injection ho with ho
    subst ho;unfold fitsB;refine ap.2 ⟨[⟨(0:Nat),0,8⟩],aB.2 ⟨_,sm_may h40 (j:=0) qJ  (.inl rfl),rfl⟩,?_⟩;exact ap.2 ⟨_,sm_may h40 (j:=0) qJ  (.inl rfl),rfl⟩
   | 2,ho=>
    injection ho with ho
    subst ho;exact sm_fit2 h40 rfl rfl rfl qJ  (i:=0) (j:=1) qJ qJ qK  rfl ⟨rfl,.inl rfl⟩
   | i+3,ho=>simp at ho
 . have hc:∀{i:Nat} {c:ClassT},(smM v n (-1) []).classes[i]? = some c->c.name=[103]:=fun {i c} hc=>by
    match i,hc with
    | 0,hc=>injection hc with hc;rw [<- hc]
    | i+1,hc=>simp at hc
   rw[hc e1,hc e2];exact ap.2 ⟨_,sm_may h40 (j:=0) qJ  (.inl rfl),ap.2 ⟨_,sm_may h40 (j:=1) qJ  (.inl rfl),by rw[lap_far qK];rfl⟩⟩
abbrev mtE:InsT:=⟨9,0,0,0,0,[],nilV,[],0,0⟩
abbrev alC(bv iv:Value):CodeT:=⟨[102],0,bv,[(iv,[mtE])]⟩
end
end
end Go.Ex.M
namespace Go.Proofs.YtdiejolnllipnaaGreatDoor
open Go Go.Ex Go.Ex.M
set_option maxRecDepth 100000
set_option maxHeartbeats 8000000
section
attribute [local simp] zY
variable {n:Nat} {h:zB} {m:MachT} {mx:Int}
theorem envT_of{lq bt:Nat}{ns:List Tx}{ps:List Pl}{v:TabV}(kt:TabM lq n h bt m ns ps v)(ok:MOK m ns ps)(ht:TabsH (tb mx) h)(hg:8<=n):EnvT mx lq n h bt m ns ps v/\ns.length<=200:=by
 have g:=geo_ok ok.geo;refine⟨⟨kt,g.nd,λx hx=>?_,ht,hg⟩,g.le⟩;have:=g.nm x hx;unfold named at this;rw [bu]at this;exact this.1
theorem al_code{x y:Nat}(hx:x<n)(hy:y<n)(cx:Cel h x 0 0 (wZ mtE))(cy:Cel h y 0 0 [sl0 x 1]):CodeM n h (alC (sl0 y 1) (sl0 x 1)):=by
 have g0:uT 0:=⟨by decide,by decide⟩;refine⟨by show 1<wM;decide,⟨by show 1<inf;decide,0,cel_row cy hy rfl qK⟩,by show 1<wM;decide,λq hq=>?_,λq hq i hi=>?_⟩
 . obtain rfl:=aq.1 hq;exact⟨⟨by show 1<inf;decide,0,cel_row cx hx rfl qK⟩,by show 1<wM;decide⟩
 . obtain rfl:=aq.1 hq;obtain rfl:=aq.1 hi;exact⟨⟨by show 0<inf;decide,.inl ⟨rfl,rfl,rfl⟩⟩,(by show 0<wM;decide),λq hq=>(by cases hq),⟨g0,g0,g0⟩,g0,(by show 0<wM;decide)⟩
theorem al_ok{v:SmV}{x y:Value}:CodeOK (smM v 3 (-1) []) (smN 3) (smP 3) (alC x y):=by
 refine⟨by show 1<=200;decide,by show xL [102]=true;decide,⟨by show(0:Int)<=0;decide,by show(0:Int)<=100;decide⟩,by show 0<1;decide,λj x hx=>?_⟩
 match j,hx with
 | 0,hx=>
  injection hx with hx
  subst hx;refine⟨by show 1<=1/\1<=25600;decide,λq i hi=>?_⟩
  match q,hi with
  | 0,hi=>injection hi with hi;subst hi;rfl
  | q+1,hi=>simp at hi
 | j+1,hx=>simp at hx
theorem al_tx{x y:Value}:uA (smN 3) (nam 0) (alC x y)=[99,111,100,101,32,102,10,115,108,111,116,115,32,48,10,98,108,111,99,107,10,32,32,114,101,116,10,101,110,100,10]:=by
 have e:Lib.itoa 0=[48]:=by kernel_rfl
 simp[uA,headTx,blkTx,insTx,zU,lnT,Lib.join,e]
theorem alive_ret(ht:TabsH (tb mx) h)(hg:8<=n):Ret P 8 4 [] h n λw h' n'=>w = .bool true/\Tch [] h n h' n':=by
 refine ent λu=>?_;repeat' first|refine wk ?_|apply cX <;> intro
 refine yG (small_ret (N:=3) qK) ?_
 rintro w h1 n1 ⟨rv,cv,b0,hw,sf,t1⟩
 subst hw;have jO:=t1.le;repeat' first|refine wk ?_|apply cX <;> intro
 refine cal (make_com (m:=smM (smV rv cv b0) 3 (-1) []) sf.mach (ad _)) ?_
 rintro _ h2 n2 ⟨e,he,t2,hr⟩
 have hok:=sm_ok0 (v:=smV rv cv b0) (n:=3) qK qK;obtain rfl:=makeE_fun he (makeE_mok hok);rcases hr with⟨h13,_⟩|⟨_,bt,ns,ps,v,rfl,ok,tm⟩
 . exact absurd rfl h13
 have hq:geoP (smR 3) = .ok ⟨ns,ps⟩:=ok.geo;rw [sm_geo qK]at hq
 obtain⟨rfl,rfl⟩:smN 3=ns/\smP 3=ps:=by
  injection hq with hq
  injection hq with e1 e2
  exact⟨e1,e2⟩
 have gu:Tch [] h n h2 n2:=Tch.tch t2 t1 qL;have hn2:=t2.le;obtain⟨E,-⟩:=envT_of (mx:=mx) tm hok (tb_tch ht gu hg qL) qJ;clear hq he ok sf t1 t2 tm;have hr:(smN 3)[0]? = some (smM (smV rv cv b0) 3 (-1) []).result:=smN_at qK;have hc:=al_ok (v:=smV rv cv b0) (x:=sl0 (n2+1) 1) (y:=sl0 n2 1);repeat' first|refine wk ?_|apply cX <;> intro
 have cm:=al_code (n:=n2+1+1+1) (h:=hst (hal (hal (hal h2 n2 (mkC (wZ mtE) 0 0)) (n2+1) (mkC [sl0 n2 1] 0 0)) (n2+1+1) (mkC [str [],I64 0,nilV] (30+1) 0)) (n2+1+1) 0 [str [102],I64 0,sl0 (n2+1) 1]) (x:=n2) (y:=n2+1) qJ qJ  zC zC;have EE:=E.tch (h':=hst (hal (hal (hal h2 n2 (mkC (wZ mtE) 0 0)) (n2+1) (mkC [sl0 n2 1] 0 0)) (n2+1+1) (mkC [str [],I64 0,nilV] (30+1) 0)) (n2+1+1) 0 [str [102],I64 0,sl0 (n2+1) 1]) (n':=n2+1+1+1) zA;have R:=mread_ret EE hok (MOK.ond hok) hr hc cm (by rw[al_tx];decide);have fo:Tch [] h n (hst (hal (hal (hal h2 n2 (mkC (wZ mtE) 0 0)) (n2+1) (mkC [sl0 n2 1] 0 0)) (n2+1+1) (mkC [str [],I64 0,nilV] (30+1) 0)) (n2+1+1) 0 [str [102],I64 0,sl0 (n2+1) 1]) (n2+1+1+1):=zA;have c3:Cel (hst (hal (hal (hal h2 n2 (mkC (wZ mtE) 0 0)) (n2+1) (mkC [sl0 n2 1] 0 0)) (n2+1+1) (mkC [str [],I64 0,nilV] (30+1) 0)) (n2+1+1) 0 [str [102],I64 0,sl0 (n2+1) 1]) (n2+1+1) (30+1) 0 [str [102],I64 0,sl0 (n2+1) 1]:=by clear fo;exact zC
 rw[show uA (smN 3) (smM (smV rv cv b0) 3 (-1) []).result (alC (sl0 (n2+1) 1) (sl0 n2 1))=_ from al_tx]at R;refine yG R ?_
 rintro _ h4 n4 ⟨d,rfl,dm,T,t4⟩
 have fi:=t4.le;have cm4:=cm.tch t4 (ad _);have c4:=c3.tch t4 qJ qL;have E4:=EE.tch t4;have fY:=Tch.tch t4 fo qL;clear t4 fo R cm c3 EE;have rb:=dm.bl 0;have od:=rb.one;have hb:d.blocks.length=1:=T.bl;repeat' first|refine wk ?_|apply cX <;> intro
 refine yG (mprint_ret (E4.tch zA) hok (MOK.ond hok) hr hc (cm4.tch (n:=n4) zA qJ) qJ  (by rw[smN_len];decide) (by show 2<=6000;decide)) ?_
 rintro _ h5 n5 ⟨rfl,t5⟩
 rw[show uA (smN 3) (smM (smV rv cv b0) 3 (-1) []).result (alC (sl0 (n2+1) 1) (sl0 n2 1))=_ from al_tx];have fA:=t5.le;have c6:Cel (hst (hal h4 n4 (mkC [str [],I64 0,nilV] (30+1) 0)) n4 0 [str d.name,I64 d.slots,d.bv]) n4 (30+1) 0 (yQ d):=by clear t5 fY;exact zC
 have c7:=c6.tch t5 qJ qL;have t05:Tch [] h n h5 n5:=Tch.tch t5 (show Tch [] h n (hst (hal h4 n4 (mkC [str [],I64 0,nilV] (30+1) 0)) n4 0 [str d.name,I64 d.slots,d.bv]) (n4+1) from by clear t5;exact zA) qL;clear t5 fY c6;have fk:((d.blocks.length:Nat):Int)=1:=by rw[hb];rfl
 repeat' first|refine wk ?_|refine cX (λ_=>?_) λf=>absurd rfl f|refine cX (λ_=>?_) λf=>absurd fk f|refine cX (λf=>absurd f qK) λ_=>?_|fail
 exact⟨_,rfl,by rw[decide_eq_true fk],t05⟩
end
end Go.Proofs.YtdiejolnllipnaaGreatDoor
namespace Go.Ex
section
section
variable {P:Program} {ty:Nat} [s:UnC P ty .string] {t:List UInt8} {h:zB}
end
def NgE(x y:Value):Prop:=aUn .neg x=some y
section
variable {P:Program} {ng:Nat} {cx:Cx} {l:List (Nat×Value)} {t:Fr} {K:W->Value->Prop} {Kp:zK->W->Prop}
instance {ty:Nat} {x:Operand} {w:W}:Stp (OpB P ng (.unOp .neg ty x) cx (FA l t) w K Kp) (Ob (Ev l t x) λa=>Ob (NgE a) λb=>K w b):=
 ⟨λ⟨a,h1,b,h2,h3⟩=>q_of (v:=b) (by show aUn .neg (ev (FA l t) x)=_;rw [xA,show evb l t x=_ from h1];exact h2) h3⟩
theorem neg_of{a b:Int}(h: -9223372036854775808<a/\a<9223372036854775808)(e: -a=b):NgE (I64 a) (I64 b):=by
 subst e;show some (Value.int .i64 (vS .i64 (isub 0 a)))=_;rw [isub_eq,show(0:Int) - a = -a by omega,wrap_in ⟨by omega,by omega⟩]
end
section
variable {P:Program} {ty:Nat} {ox oy:Operand}
end
end
end Go.Ex
namespace Go.Proofs.YtdiejolnllipnaaGreatDoor
open Go Go.Ex Go.Ex.M
set_option maxRecDepth 100000
set_option maxHeartbeats 8000000
section
variable {n:Nat} {h:zB}
theorem dig_len{u:Nat}(h:u<18446744073709551616):(Lib.decDigits u).length<=20:=by rw[Lib.decDigits_length];exact Lib.nDigits_le20 u h
theorem rnum_nat(w:Nat):w<9223372036854775808->Pur P 8 66 [I64 (w:Nat)] h n (str (Lib.decDigits w)):=by
 induction w using Nat.strongRecOn with
 | _ w ih=>
  intro hw;refine ent λu=>?_;have hq:w % 10<10:=by omega
  have hc:=dig_cut (h:=h) hq;by_cases h9:9<w
  . have hl:=dig_len (u:=w / 10) qJ;have e:Lib.decDigits w=Lib.decDigits (w / 10)++[UInt8.ofNat (48+w % 10)]:=by rw[Lib.decDigits,dif_neg qJ]
    repeat' first|refine wk ?_|refine cX (λ_=>?_) λ_=>?_|refine ob (a:=I64 ((w % 10:Nat):Int)) ?_ bn_rem10|refine ob (a:=str [UInt8.ofNat (48+w % 10)]) ?_ hc|refine ob (a:=I64 ((w / 10:Nat):Int)) ?_ (bn_quo10 qJ)|refine zS (ih (w / 10) qJ qJ) ?_|refine ob (a:=str (Lib.decDigits (w / 10)++[UInt8.ofNat (48+w % 10)])) ?_ (bs_add (by rw[bT];omega))|fail
    exact fin (by rw[e])
  . have e:Lib.decDigits w=[UInt8.ofNat (48+w % 10)]:=by rw[Lib.decDigits,dif_pos qJ,Nat.mod_eq_of_lt qJ]
    repeat' first|refine wk ?_|refine cX (λ_=>?_) λ_=>?_|refine ob (a:=I64 ((w % 10:Nat):Int)) ?_ bn_rem10|refine ob (a:=str [UInt8.ofNat (48+w % 10)]) ?_ hc|fail
    exact fin (by rw[e])
theorem tR{a:Int}(ha:uT a):Pur P 8 27 [I64 a] h n (str (Lib.itoa a)):=by
 have k:Pur P 8 66 [I64 a] h n (str (Lib.itoa a)):=by
  obtain⟨h1,h2⟩:=ha;by_cases h0:0<=a
  . obtain⟨w,rfl⟩:=bC h0;have e:Lib.itoa (w:Int)=Lib.decDigits w:=by unfold Lib.itoa;rw [if_neg qJ,bM]
    rw[e];exact rnum_nat w qJ 
  . refine ent λu=>?_;by_cases hm:a = -9223372036854775808
    . subst hm;have e:Lib.itoa (-9223372036854775808)=[45,57,50,50,51,51,55,50,48,51,54,56,53,52,55,55,53,56,48,56]:=by decide +kernel
      repeat' first|refine wk ?_|refine cX (λ_=>?_) λf=>absurd qK  f|fail
      exact fin (by rw[e])
    . have e:Lib.itoa a=[45]++Lib.decDigits a.natAbs:=by unfold Lib.itoa;rw [if_pos qJ];rfl
      have hl:=dig_len (u:=a.natAbs) qJ;repeat' first|refine wk ?_|refine cX (λ_=>?_) λ_=>?_|refine ob (a:=I64 ((a.natAbs:Nat):Int)) ?_ (neg_of ⟨by omega,by omega⟩ qJ)|refine zS (rnum_nat a.natAbs qJ) ?_|refine ob (a:=str ([45]++Lib.decDigits a.natAbs)) ?_ (bs_add (by rw[bT];omega))|fail
      exact fin (by rw[e])
 refine ent λu=>?_;repeat' first|refine wk ?_|refine cX (λ_=>?_) λ_=>?_|refine zS k ?_|fail
 exact fin rfl
end
section
attribute [local simp] zY
variable {lo lq bt z n:Nat} {h:zB} {m:MachT} {nsv psv kv:Value} {ns:List Tx} {ps:List Pl} {i:InsT}
theorem rg_at{r:Int}(h0:0<=r/\r<(ns.length:Int)):∃j:Nat,r=(j:Int)/\ns[j]? = some (rgN ns r):=by
 obtain⟨j,rfl⟩:=bC h0.1;have hj:ns[j]? = some ns[j]:=aa qJ;exact⟨j,rfl,by rw[rgN_nat hj];exact hj⟩
theorem join_snoc:∀{ws:List Tx} {x:Tx},ws≠[]->Lib.join (ws++[x]) [32]=Lib.join ws [32]++32::x
 | [],_,h=>absurd rfl h
 | [y],x,_=>by show Lib.join [y,x] [32]=_;rw [yY,Lib.join_one,Lib.join_one]
 | y::z::r,x,_=>by
  show Lib.join (y::z::(r++[x])) [32]=_;rw [yY,yY,show z::(r++[x])=(z::r)++[x] from rfl,join_snoc (ws:=z::r) qL];simp
theorem rline_ret(k:Tb lo h bt z m nsv psv kv ns ps)(eE:lo<=n)(R:InsR ns.length i)(I:InsM lq h i)(hlq:lq<=n)(hn:∀x∈ns,xL x=true)(hr:m.result∈ns):Ret P 8 28 [ptr bt 0,.agg ⟨wZ i⟩] h n λw h' n'=>w=str (Lib.join (zU ns m.result i) [32])/\Tch [] h n h' n':=by
 have hcel:=k.cel;have l7:=k.hb;have rn:=k.rn;have gf:=k.hn;obtain⟨kd,d,a,b,x,nm,av,ag,t,f⟩:=i;have g1:=I.gn;have rI:=I.ar.r;have oI:=rI.one;obtain⟨Rk,Rd,Ra,Rb,Rg,Rm,R6,Rn,Rt,Rf⟩:=R;dsimp only at Rk Rd Ra Rb Rg Rm R6 Rn Rt Rf g1 rI oI;have wl:∀{r:Int},0<=r/\r<(ns.length:Int)->(rgN ns r).length<=22:=λh=>(wd_rg hn h).2;have il:∀{r:Int},uT r->(Lib.itoa r).length<=22:=λh=>(wd_itoa h).2;show Ret P 8 _ [ptr bt 0,.agg ⟨[I64 kd,I64 d,I64 a,I64 b,I64 x,str nm,av,I64 t,I64 f]⟩] h n _;refine ent λu=>?_;rcases(by omega:kd=1\/kd=2\/kd=3\/kd=4\/kd=5\/kd=6\/kd=7\/kd=8\/kd=9\/kd=10\/kd=11) with rfl|rfl|rfl|rfl|rfl|rfl|rfl|rfl|rfl|rfl|rfl
 . have l1:=wl (Rd qJ);obtain⟨j1,rfl,gG⟩:=rg_at (Rd qJ);have c1:=yE rn gG;have l9:=il g1;have low:=rn.low qJ;repeat' first|refine wk ?_|refine cX (λ_=>?_) λf=>absurd rfl f|refine cX (λf=>absurd f qK) λ_=>?_|refine zS (tR g1) ?_|refine ob ?_ (bs_add (by simp only[ah,ay,aX];omega))|fail
   exact⟨_,rfl,congrArg str (by simp[zU,yY,Lib.join_one]),zA⟩
 . have l1:=wl (Rd qJ);obtain⟨j1,rfl,gG⟩:=rg_at (Rd qJ);have c1:=yE rn gG;have l2:=wl (Ra qJ);obtain⟨j2,rfl,gq⟩:=rg_at (Ra qJ);have c2:=yE rn gq;have low:=rn.low qJ;repeat' first|refine wk ?_|refine cX (λ_=>?_) λf=>absurd rfl f|refine cX (λf=>absurd f qK) λ_=>?_|refine ob ?_ (bs_add (by simp only[ah,ay,aX];omega))|fail
   exact⟨_,rfl,congrArg str (by simp[zU,yY,Lib.join_one]),zA⟩
 . have l1:=wl (Rd qJ);obtain⟨j1,rfl,gG⟩:=rg_at (Rd qJ);have c1:=yE rn gG;have low:=rn.low qJ;have l2:=(wL (Rm rfl).1).2;obtain⟨ga,gl1,gl2⟩:=Rg rfl;repeat' first|refine wk ?_|refine cX (λ_=>?_) λf=>absurd rfl f|refine cX (λf=>absurd f qK) λ_=>?_|refine ob ?_ (bs_add (by simp only[ah,ay,aX];omega))|fail
   refine lpR (α :=Nat×Tx) (λq=>[(0,ptr bt 0),(3,ptr n 0),(5,nsv),(6,str q.2),(7,I64 (q.1:Nat))]) (λq h' n'=>h'=_/\n'=n+1/\q.1<=ag.length/\q.2=Lib.join ([rgN ns (j1:Int),wEq,nm]++(ag.take q.1).map (rgN ns)) [32]) (λq=>ag.length - q.1) (0,rgN ns (j1:Int)++[32,61,32]++nm) ⟨rfl,rfl,an _,by simp[yY,Lib.join_one]⟩ ?_
   rintro ⟨q,s⟩ t h' n' ⟨rfl,rfl,hq,hs⟩
   dsimp only at hq hs ⊢
   have fB:s.length<=115:=by
    rw[hs];refine aW (join_len λx hx=>?_) (by simp;omega:23*_<=115);rcases aA.1 hx with hx|hx
    . simp only[au,bf,or_false]at hx;rcases hx with rfl|rfl|rfl
      . exact l1
      . decide
      . exact l2
    . obtain⟨r,hr,rfl⟩:=aB.1 hx;exact wl (ga r (dt hr))
   by_cases eD:q<ag.length
   . have c0:ag[q]? = some ag[q]:=aa eD;have mr:=ae c0;generalize ag[q]=r at c0 mr
     obtain⟨j2,rfl,gq⟩:=rg_at (ga r mr);have c2:=yE rn gq;have l4:=wl (ga _ mr);have kG:=(ab.1 gq).1;have low2:=rI.low qJ;have c3:zD h (sbk av) (sof av+q*1)=some (I64 (j2:Nat)):=by rw[aQ];exact rI.at (by rw[ao,c0];rfl)
     repeat' first|refine wk ?_|refine cX (λ_=>?_) λf=>absurd rfl f|refine cX (λf=>absurd f qK) λ_=>?_|refine ob ?_ (bs_add (by simp only[ah,ay,aX];omega))|fail
     exact rnd (q+1,s++[32]++rgN ns (j2:Int)) ⟨rfl,rfl,eD,by
      dsimp only;rw [hs,yV c0,aC,<- ba,List.map_singleton,join_snoc qL];simp⟩
   . obtain rfl:q=ag.length:=by omega
     repeat' first|refine wk ?_|refine cX (λ_=>?_) λf=>absurd rfl f|refine cX (λf=>absurd f qK) λ_=>?_|fail
     exact⟨_,rfl,by rw[hs,aY];simp [zU],zA⟩
 . have l1:=wl (Rd qJ);obtain⟨j1,rfl,gG⟩:=rg_at (Rd qJ);have c1:=yE rn gG;have l2:=wl (Ra qJ);obtain⟨j2,rfl,gq⟩:=rg_at (Ra qJ);have c2:=yE rn gq;have low:=rn.low qJ;repeat' first|refine wk ?_|refine cX (λ_=>?_) λf=>absurd rfl f|refine cX (λf=>absurd f qK) λ_=>?_|refine ob ?_ (bs_add (by simp only[ah,ay,aX];omega))|fail
   exact⟨_,rfl,congrArg str (by simp[zU,yY,Lib.join_one]),zA⟩
 . have l1:=wl (Ra qJ);obtain⟨j1,rfl,gG⟩:=rg_at (Ra qJ);have c1:=yE rn gG;have l2:=wl (Rb qJ);obtain⟨j2,rfl,gq⟩:=rg_at (Rb qJ);have c2:=yE rn gq;have low:=rn.low qJ;repeat' first|refine wk ?_|refine cX (λ_=>?_) λf=>absurd rfl f|refine cX (λf=>absurd f qK) λ_=>?_|refine ob ?_ (bs_add (by simp only[ah,ay,aX];omega))|fail
   exact⟨_,rfl,congrArg str (by simp[zU,yY,Lib.join_one]),zA⟩
 . have l9:=il g1;obtain⟨h6,ju⟩:=R6 rfl;have l2:=(wL h6).2;have l3:=(wL (hn _ hr)).2;have ep:pos ns m.result=((ns.idxOf m.result:Nat):Int):=if_pos hr;have hj:ns[ns.idxOf m.result]? = some m.result:=by rw[aa (bj.2 hr)];exact congrArg some (cU _)
   have pr:∀{h' n'},Tch [] h n h' n'->Pur P 8 47 [ptr bt 0] h' n' (I64 (ns.idxOf m.result:Nat)):=fun {h' n'} t=>by have:=rresult_pur (n:=n') (k.tch t eE);rwa [ep]at this
   generalize ns.idxOf m.result=j1 at hj pr
   have c1:=yE rn hj;have low:=rn.low (by have:=(ab.1 hj).1;omega);have gG:=(ab.1 hj).1;rcases ju with rfl|rfl
   . repeat' first|refine wk ?_|refine cX (λ_=>?_) λf=>absurd rfl f|refine cX (λf=>absurd f qK) λ_=>?_|refine zS (tR g1) ?_|refine ob ?_ (bs_add (by simp only[ah,ay,aX];omega))|fail
     exact⟨_,rfl,congrArg str (by simp[zU,yY,Lib.join_one]),zA⟩
   . repeat' first|refine wk ?_|refine cX (λ_=>?_) λf=>absurd rfl f|refine cX (λf=>absurd f qK) λ_=>?_|refine zS (tR g1) ?_|refine zS (pr zA) ?_|refine ob ?_ (bs_add (by simp only[ah,ay,aX];omega))|fail
     exact⟨_,rfl,congrArg str (by simp[zU,yY,Lib.join_one]),zA⟩
 . have l1:=wl (Ra qJ);obtain⟨j1,rfl,gG⟩:=rg_at (Ra qJ);have c1:=yE rn gG;have g2:uT t:=⟨by have:=Rt qJ;omega,by have:=Rt qJ;omega⟩;have l2:=il g2;have g3:uT f:=⟨by have:=Rf qJ;omega,by have:=Rf qJ;omega⟩;have l3:=il g3;have low:=rn.low qJ;repeat' first|refine wk ?_|refine cX (λ_=>?_) λf=>absurd rfl f|refine cX (λf=>absurd f qK) λ_=>?_|refine zS (tR g2) ?_|refine zS (tR g3) ?_|refine ob ?_ (bs_add (by simp only[ah,ay,aX];omega))|fail
   exact⟨_,rfl,congrArg str (by simp[zU,yY,Lib.join_one]),zA⟩
 . have g2:uT t:=⟨by have:=Rt qJ;omega,by have:=Rt qJ;omega⟩;have l2:=il g2;repeat' first|refine wk ?_|refine cX (λ_=>?_) λf=>absurd rfl f|refine cX (λf=>absurd f qK) λ_=>?_|refine zS (tR g2) ?_|refine ob ?_ (bs_add (by simp only[ah,ay,aX];omega))|fail
   exact⟨_,rfl,congrArg str (by simp[zU,yY,Lib.join_one]),zA⟩
 . repeat' first|refine wk ?_|refine cX (λ_=>?_) λf=>absurd rfl f|refine cX (λf=>absurd f qK) λ_=>?_|fail
   exact⟨_,rfl,congrArg str (by simp[zU,yY,Lib.join_one]),zA⟩
 . have l1:=wl (Ra qJ);obtain⟨j1,rfl,gG⟩:=rg_at (Ra qJ);have c1:=yE rn gG;have l9:=il g1;have low:=rn.low qJ;repeat' first|refine wk ?_|refine cX (λ_=>?_) λf=>absurd rfl f|refine cX (λf=>absurd f qK) λ_=>?_|refine zS (tR g1) ?_|refine ob ?_ (bs_add (by simp only[ah,ay,aX];omega))|fail
   exact⟨_,rfl,congrArg str (by simp[zU,yY,Lib.join_one]),zA⟩
 . have l1:=wl (Rd qJ);obtain⟨j1,rfl,gG⟩:=rg_at (Rd qJ);have c1:=yE rn gG;have l9:=il g1;have low:=rn.low qJ;repeat' first|refine wk ?_|refine cX (λ_=>?_) λf=>absurd rfl f|refine cX (λf=>absurd f qK) λ_=>?_|refine zS (tR g1) ?_|refine ob ?_ (bs_add (by simp only[ah,ay,aX];omega))|fail
   exact⟨_,rfl,congrArg str (by simp[zU,yY,Lib.join_one]),zA⟩
end
section
attribute [local simp] zY
variable {lo lc bt z n:Nat} {h:zB} {m:MachT} {nsv psv kv:Value} {ns:List Tx} {ps:List Pl} {kvs:List Value} {c:CodeT}
theorem rprint_bad{b k e:Int}(tc:Tc lo h bt z m nsv psv kv ns ps kvs)(ok:MOK m ns ps)(eE:lo<=n)(cm:CodeM lc h c)(hlc:lc<=n)(hc:CodeE m ns ps c b k e)(he:e≠0):Ret P 8 9 [ptr bt 0,.agg ⟨yQ c⟩] h n λw h' n'=>w=str []/\Tch [] h n h' n':=by
 have o1:=(cm.bl 0).one;have t1:Tch [] h n (hal h n (mkC (yQ c) (30+1) 0)) (n+1):=zA;have q:=rcheck_ret (n:=n+1) (tc.tch t1 eE) ok qJ  (cm.tch t1 hlc) qJ;clear t1;refine ent λu=>?_;repeat' first|refine wk ?_|refine cX (λ_=>?_) λ_=>?_|refine yG q ?_|fail
 rintro _ h2 n2 ⟨b',k',e',rfl,hE,t2⟩
 obtain⟨rfl,rfl,rfl⟩:=codeE_fun hE hc;have hn2:=t2.le;repeat' first|refine wk ?_|refine cX (λ_=>?_) λf=>absurd he f|fail
 exact⟨_,rfl,rfl,zA⟩
theorem rprint_ret(tc:Tc lo h bt z m nsv psv kv ns ps kvs)(ok:MOK m ns ps)(eE:lo<=n)(cm:CodeM lc h c)(hlc:lc<=n)(hc:CodeOK m ns ps c)(eO:∀x∈ns,xL x=true)(hr:m.result∈ns)(jC:sumC c.blocks<=6000):Ret P 8 9 [ptr bt 0,.agg ⟨yQ c⟩] h n λw h' n'=>w=str (uA ns m.result c)/\Tch [] h n h' n':=by
 have fB:0<=c.slots/\c.slots<=99999:=⟨hc.sl.1,by have:=hc.sl.2;have:=ok.conv.2.2.2.2.2.1;omega⟩
 have hR:∀b∈c.blocks,∀i∈b.2,InsR ns.length i:=λb hb i hi=>by
  obtain⟨j,hj⟩:=aj.1 hb;obtain⟨q,hq⟩:=aj.1 hi;exact insE_R ok (by have:=hc.sl.2;have:=ok.conv.2.2.2.2.2.1;omega) hc.l ((hc.bk j b hj).2 q i hq)
 have lu:∀b∈c.blocks,∀i∈b.2,(insTx ns m.result i).length<=118:=λb hb i hi=>ins_len (hR b hb i hi) (cm.ins b hb i hi).gn eO (eO _ hr);have o1:=(cm.bl 0).one;have t1:Tch [] h n (hal h n (mkC (yQ c) (30+1) 0)) (n+1):=zA;have q:=rcheck_ret (n:=n+1) (tc.tch t1 eE) ok qJ  (cm.tch t1 hlc) qJ;clear t1;refine ent λu=>?_;repeat' first|refine wk ?_|refine cX (λ_=>?_) λ_=>?_|refine yG q ?_|fail
 rintro _ h2 n2 ⟨b,k,e,rfl,hE,t2⟩
 obtain⟨rfl,rfl,rfl⟩:=codeE_fun hE hc.e;have hn2:=t2.le;have c2:Cel h2 n zCo 0 (yQ c):=Cel.tch zE t2 qJ qL;have u2:Tch [] h n h2 n2:=zA;have e1:=(wd_num fB).2;have e2:=(wL hc.nm).2;have gs:uT c.slots:=⟨by omega,by omega⟩;clear t2;repeat' first|refine wk ?_|refine cX (λf=>absurd rfl f) λ_=>?_|refine zS (tR gs) ?_|refine ob ?_ (bs_add (by simp only[ah,ay,aX];omega))|fail
 have I0:Tch [] h n h2 n2/\n<n2/\Cel h2 n zCo 0 (yQ c):=⟨u2,by omega,c2⟩;clear u2 c2;have e0:[99,111,100,101,32]++c.name++[10,115,108,111,116,115,32]++Lib.itoa c.slots++[10]=preT ns m.result c 0:=by simp[preT,headTx,lnT,yY,Lib.join_one]
 rw[e0];refine lpR (λk:Nat=>[(0,ptr bt 0),(3,ptr n 0),(8,str (preT ns m.result c k)),(9,I64 (k:Nat))]) (λk h' n'=>(Tch [] h n h' n'/\n<n'/\Cel h' n zCo 0 (yQ c))/\k<=c.blocks.length) (λk=>c.blocks.length - k) 0 ⟨I0,an _⟩ ?_;clear I0
 rintro k t h' n' ⟨⟨tk,eP,ck⟩,hk⟩
 have gT:=hc.l;have pl:=pre_len (res:=m.result) hc.nm fB lu k;have psum:=sumC_le c.blocks k;have rb1:=cm.bl.tch tk hlc 0;by_cases eD:k<c.blocks.length
 rotate_left
 . obtain rfl:k=c.blocks.length:=by omega
   repeat' first|refine wk ?_|refine cX (λ_=>?_) λ_=>?_|refine ob ?_ (bs_add (by simp only[ah,ay,aX];omega))|fail
   exact⟨_,rfl,by unfold uA preT;rw [aY];rfl,tk⟩
 have c0:c.blocks[k]? = some c.blocks[k]:=aa eD;generalize c.blocks[k]=x at c0
 have mx:=ae c0;have hst:=sumC_take c0;have jB:=sumC_le c.blocks (k+1);have c2:zD h' (sbk c.bv) (sof c.bv+k*1)=some x.1:=by rw[aQ];exact rb1.at (by rw[ao,c0];rfl)
 obtain⟨hxr,jc⟩:=cm.el x mx;have hB:=hc.bk k x c0;have ox:=(hxr 0).one;have pm:=pre_mid (ns:=ns) (res:=m.result) c0;have ml:=mid_len (res:=m.result) hc.nm fB lu c0;have lZ:=hR x mx;have jJ:=cm.ins x mx;obtain⟨xv,xl⟩:=x;dsimp only at c2 hB hst ox hxr jc pm ml lZ jJ;repeat' first|refine wk ?_|refine cX (λ_=>?_) λ_=>?_|refine ob ?_ (bs_add (by simp only[ah,ay,aX];omega))|fail
 have e5:preT ns m.result c k++[98,108,111,99,107,10]=midT ns m.result c k xl 0:=by simp[midT,lnT,Lib.join_one]
 rw[e5];refine lpR (λp:Nat=>[(0,ptr bt 0),(3,ptr n 0),(8,str (midT ns m.result c k xl p)),(9,I64 (k:Nat)),(10,I64 (p:Nat))]) (λp h' n'=>(Tch [] h n h' n'/\n<n'/\Cel h' n zCo 0 (yQ c))/\p<=xl.length) (λp=>xl.length - p) 0 ⟨⟨tk,eP,ck⟩,an _⟩ ?_;clear tk ck rb1 c2
 rintro p t h6 n6 ⟨⟨t6,fV,c6⟩,hp⟩
 have rb6:=cm.bl.tch t6 hlc 0;have c7:zD h6 (sbk c.bv) (sof c.bv+k*1)=some xv:=by rw[aQ];exact rb6.at (by rw[ao,c0];rfl)
 have rx6:=hxr.tch t6 hlc 0;have mlp:=ml p;by_cases gJ:p<xl.length
 . have i0:xl[p]? = some xl[p]:=aa gJ;have mi:=aM gJ;generalize xl[p]=i at i0 mi
   have ri:Rd h6 (sbk xv) (sof xv+p*9) 9 (wZ i):=zM rx6 i0;have Im:=jJ i mi;have Ri:=lZ i mi;have oi:=Im.ar.r.one;have low:=rx6.low qJ;have ms:=mid_s (ns:=ns) (res:=m.result) (c:=c) (k:=k) i0;have il:=ins_len Ri Im.gn eO (eO _ hr);have eI:insTx ns m.result i=[32,32]++Lib.join (zU ns m.result i) [32]++[10]:=rfl;have il2:(Lib.join (zU ns m.result i) [32]).length<=115:=by rw[eI]at il;simp at il;omega
   have rl:=rline_ret (n:=n6) ((tc.tch t6 eE).tb) qJ  Ri (Im.tch t6 hlc) qJ  eO hr;repeat' first|refine wk ?_|refine cX (λ_=>?_) λ_=>?_|refine yG rl ?_|refine ob ?_ (bs_add (by simp only[ah,ay,aX];omega))|fail
   rintro _ h7 n7 ⟨rfl,t7⟩
   have ir:=t7.le;have c8:=c6.tch t7 fV qL;have t8:Tch [] h n h7 n7:=Tch.tch t7 t6 qL;clear t7 ri c7;repeat' first|refine wk ?_|refine cX (λ_=>?_) λ_=>?_|refine ob ?_ (bs_add (by simp only[ah,ay,aX];omega))|fail
   have e8:midT ns m.result c k xl p++[32,32]++Lib.join (zU ns m.result i) [32]++[10]=midT ns m.result c k xl (p+1):=by rw[ms,eI];simp
   rw[e8];exact rnd (p+1) ⟨⟨t8,by omega,c8⟩,gJ⟩
 . obtain rfl:p=xl.length:=by omega
   rw[pm];repeat' first|refine wk ?_|apply cX <;> intro
   exact rnd (k+1) ⟨⟨t6,fV,c6⟩,eD⟩
end
section
variable {m:MachT} {ns:List Tx} {ps:List Pl} {c:CodeT}
theorem first_not{α : Type}{l:List α}{p: α->Nat->Prop}(h:¬∀(j:Nat) x,l[j]? = some x->p x j):∃(j:Nat) (x: α),l[j]? = some x/\(∀(j':Nat) x',j'<j->l[j']? = some x'->p x' j')/\¬p x j:=by
 have h2:∃j,∃x,l[j]? = some x/\¬p x j:=by
  refine Classical.byContradiction λh9=>h λj x hx=>Classical.byContradiction λh8=>h9 ⟨j,x,hx,h8⟩
 obtain⟨j,hj⟩:=h2
 induction j using Nat.strongRecOn with
 | _ j ih=>
  by_cases h3:∃i,i<j/\∃x,l[i]? = some x/\¬p x i
  . obtain⟨i,hi,hx⟩:=h3;exact ih i hi hx
  . obtain⟨x,hx,hp⟩:=hj;exact⟨j,x,hx,λj' x' hl eV=>Classical.byContradiction λh9=>h3 ⟨j',hl,x',eV,h9⟩,hp⟩
theorem codeE_tot:∃b k e,CodeE m ns ps c b k e:=by
 by_cases h1:c.blocks.length<=200
 rotate_left
 . exact⟨0,0,2,.inl ⟨by omega,rfl,rfl,rfl⟩⟩
 cases h2:xL c.name with
 | false=>exact⟨0,0,5,.inr ⟨h1,.inl ⟨h2,rfl,rfl,rfl⟩⟩⟩
 | true=>
 by_cases h3:0<=c.slots/\c.slots<=m.slots
 rotate_left
 . exact⟨0,0,24,.inr ⟨h1,.inr ⟨h2,.inl ⟨h3,rfl,rfl,rfl⟩⟩⟩⟩
 by_cases h4:0<c.blocks.length
 rotate_left
 . exact⟨0,0,20,.inr ⟨h1,.inr ⟨h2,.inr ⟨h3,.inl ⟨by omega,rfl,rfl,rfl⟩⟩⟩⟩⟩
 by_cases h5:∀(j:Nat) x,c.blocks[j]? = some x->BlkOK m ns ps c x.2
 . exact⟨0,0,0,.inr ⟨h1,.inr ⟨h2,.inr ⟨h3,.inr ⟨h4,.inl ⟨h5,rfl,rfl,rfl⟩⟩⟩⟩⟩⟩
 obtain⟨j,x,hx,hb,hn⟩:=first_not (l:=c.blocks) (p:=λx _=>BlkOK m ns ps c x.2) h5;by_cases h6:1<=x.2.length/\x.2.length<=25600
 rotate_left
 . exact⟨j,0,20,.inr ⟨h1,.inr ⟨h2,.inr ⟨h3,.inr ⟨h4,.inr ⟨j,x,hx,hb,rfl,.inl ⟨h6,rfl,rfl⟩⟩⟩⟩⟩⟩⟩
 obtain⟨q,i,hi,hq,he⟩:=first_not (l:=x.2) (p:=λi q=>uC m ns ps c.slots c.blocks.length i (decide (q=x.2.length - 1))=0) λh9=>hn ⟨h6,h9⟩;exact⟨j,q,_,.inr ⟨h1,.inr ⟨h2,.inr ⟨h3,.inr ⟨h4,.inr ⟨j,x,hx,hb,rfl,.inr ⟨h6,q,i,hi,hq,rfl,rfl,he⟩⟩⟩⟩⟩⟩⟩
end
section
attribute [local simp] zY
variable {n lo:Nat} {h:zB} {m:MachT} {c:CodeT} {mx:Int}
theorem codeTx_ne{ns:List Tx}{res:Tx}:uA ns res c≠[]:=by simp[uA,lnT]
theorem mprints_com(ht:TabsH (tb mx) h)(hg:8<=n)(mm:MachM lo h m)(eE:lo<=n)(tx:TxtM m)(cm:CodeM lo h c):Com P 8 3 [.agg ⟨yR m⟩,.agg ⟨yQ c⟩] h n λo _ _=>o = .ret (.bool true):=by
 obtain⟨o1,o2,o3,o4,o5⟩:=sS mm;have o6:=(cm.bl 0).one;refine ent λu=>?_;repeat' first|refine wk ?_|refine cX (λ_=>?_) λ_=>?_|refine yG (alive_ret (tb_tch (S:=[]) ht zA hg qL) qJ) ?_|fail
 rintro _ h1 n1 ⟨rfl,t1⟩
 have jO:=t1.le;have cM1:Cel h1 n zMc 0 (yR m):=Cel.tch zE t1 qJ qL;have cC1:Cel h1 (n+1) (30+1) 0 (yQ c):=Cel.tch zE t1 qJ qL;have t01:Tch [] h n h1 n1:=zA;clear t1;repeat' first|refine wk ?_|refine cX (λ_=>?_) λ_=>?_|refine cal (big_com (MachM.tch t01 eE mm) qJ  tx) ?_|fail
 rintro _ h2 n2 ⟨big,rfl,t2⟩
 have hn2:=t2.le;have cM:=cM1.tch t2 qJ qL;have cC:=cC1.tch t2 qJ qL;have gu:Tch [] h n h2 n2:=Tch.tch t2 t01 qL;clear t2 t01 cM1 cC1
 cases big with
 | true=>
  repeat' first|refine wk ?_|apply cX <;> intro
  rfl
 | false=>
 repeat' first|refine wk ?_|apply cX <;> intro
 refine cal (big12_com (cm.tch gu eE) qJ) ?_
 rintro _ h3 n3 ⟨big,rfl,t3,hbg⟩
 have eS:=t3.le;have cM3:=cM.tch t3 qJ qL;have cC3:=cC.tch t3 qJ qL;have fo:Tch [] h n h3 n3:=Tch.tch t3 gu qL;clear t3 gu cM cC
 cases big with
 | true=>
  repeat' first|refine wk ?_|apply cX <;> intro
  rfl
 | false=>
 have jC:=hbg rfl;repeat' first|refine wk ?_|apply cX <;> intro
 refine cal (lmake_com (MachM.tch fo eE mm) qJ) ?_
 rintro _ h4 n4 ⟨t4,rfl|⟨bt,bt2,v,nsv,psv,kv,kvs,ns,ps,rfl,ok,tm,tc⟩⟩
 . have fi:=t4.le;have cC4:=cC3.tch t4 qJ qL;have fY:Tch [] h n h4 n4:=Tch.tch t4 fo qL;clear t4 fo;repeat' first|refine wk ?_|refine cX (λ_=>?_) λ_=>?_|refine yG (mprint_nil (cm.tch fY eE) qJ) ?_|fail
   rintro _ h5 n5 ⟨rfl,t5⟩
   have fA:=t5.le;repeat' first|refine wk ?_|apply cX <;> intro
   all_goals first|rfl|(exfalso;simp_all;done)
 . have fi:=t4.le;have cC4:=cC3.tch t4 qJ qL;have fY:Tch [] h n h4 n4:=Tch.tch t4 fo qL;clear t4 fo;obtain⟨E,gf⟩:=envT_of (mx:=mx) tm ok (tb_tch ht fY hg qL) qJ;have hr:=ok.conv.2.1;obtain⟨j,hj⟩:=aj.1 hr;have cm4:=cm.tch fY eE;obtain⟨b,k,e,hE⟩:=codeE_tot (m:=m) (ns:=ns) (ps:=ps) (c:=c);by_cases he:e=0
   . subst he;have hc:=codeE_0 hE;repeat' first|refine wk ?_|refine cX (λ_=>?_) λ_=>?_|refine yG (mprint_ret E ok (MOK.ond ok) hj hc cm4 qJ  gf jC) ?_|fail
     rintro _ h5 n5 ⟨rfl,t5⟩
     have fA:=t5.le;have cC5:=cC4.tch t5 qJ qL;have t05:Tch [] h n h5 n5:=Tch.tch t5 fY qL;have E5:=E.tch t5;have tc5:=tc.tch t5 (ad _);clear t5;repeat' first|refine wk ?_|refine cX (λ_=>?_) λ_=>?_|refine yG (rprint_ret tc5 ok qJ  (cm.tch t05 eE) qJ  hc E.nm hr jC) ?_|fail
     rintro _ h6 n6 ⟨rfl,t6⟩
     have fV:=t6.le;have cC6:=cC5.tch t6 qJ qL;have jW:Tch [] h n h6 n6:=Tch.tch t6 t05 qL;have E6:=E5.tch t6;clear t6;have fB:0<=c.slots/\c.slots<=99999:=⟨hc.sl.1,by have:=hc.sl.2;have:=ok.conv.2.2.2.2.2.1;omega⟩
     have hK:∀b∈c.blocks,b.2.length<=25600/\∀i∈b.2,InsR ns.length i:=λb hb=>by
      obtain⟨j,hj⟩:=aj.1 hb;have hB:=hc.bk j b hj;refine⟨hB.1.2,λi hi=>?_⟩;obtain⟨q,hq⟩:=aj.1 hi;exact insE_R ok (by have:=hc.sl.2;have:=ok.conv.2.2.2.2.2.1;omega) hc.l (hB.2 q i hq)
     have hl:(uA ns m.result c).length<1000000:=by
      have:=code_len (res:=m.result) hc.nm fB λb hb i hi=>ins_len ((hK b hb).2 i hi) (cm.ins b hb i hi).gn E.nm (E.nm _ hr);omega
     have R:=mread_ret E6 ok (MOK.ond ok) hj hc (cm.tch jW eE) hl;have eJ:=codeTx_ne (c:=c) (ns:=ns) (res:=m.result);generalize uA ns m.result c=s at *
     repeat' first|refine wk ?_|refine cX (λf=>absurd rfl f) λ_=>?_|refine cX (λf=>absurd f eJ) λ_=>?_|refine yG R ?_|fail
     rintro _ h7 n7 ⟨d,rfl,dm,T,t7⟩
     have ir:=t7.le;have cC7:=cC6.tch t7 qJ qL;have jX:Tch [] h n h7 n7:=Tch.tch t7 jW qL;have od:=(dm.bl 0).one;clear t7;repeat' first|refine wk ?_|refine cX (λ_=>?_) λ_=>?_|refine yG (rsame_ret (cm.tch (n:=n) zA eE) (dm.tch (n:=n7) zA (ad _)) qJ qJ  T (λb hb=>⟨(hK b hb).1,λi hi=>((hK b hb).2 i hi).k⟩) hc.l) ?_|fail
     all_goals (try (rintro _ h8 n8 ⟨rfl,t8⟩;have jj:=t8.le))
     all_goals (repeat' first|refine wk ?_|apply cX <;> intro)
     all_goals first|rfl|(exfalso;simp_all;done)|exact(0:Nat)
   . repeat' first|refine wk ?_|refine cX (λ_=>?_) λ_=>?_|refine yG (mprint_bad E ok (MOK.ond ok) hE he cm4 qJ) ?_|fail
     rintro _ h5 n5 ⟨rfl,t5⟩
     have fA:=t5.le;have cC5:=cC4.tch t5 qJ qL;have t05:Tch [] h n h5 n5:=Tch.tch t5 fY qL;have tc5:=tc.tch t5 (ad _);clear t5;repeat' first|refine wk ?_|refine cX (λ_=>?_) λ_=>?_|refine yG (rprint_bad tc5 ok qJ  (cm.tch t05 eE) qJ  hE he) ?_|fail
     rintro _ h6 n6 ⟨rfl,t6⟩
     have fV:=t6.le;repeat' first|refine wk ?_|refine cX (λf=>absurd rfl f) λ_=>?_|refine cX (λ_=>?_) λf=>absurd rfl f|fail
     all_goals first|rfl|(exfalso;simp_all;done)
end
end Go.Proofs.YtdiejolnllipnaaGreatDoor
