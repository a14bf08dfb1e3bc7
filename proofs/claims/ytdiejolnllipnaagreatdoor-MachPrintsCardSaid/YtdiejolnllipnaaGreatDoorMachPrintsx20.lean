/- What the law leans on, part 20 of 24. Conditions: those that each theorem states. -/
import Derived.Test.YtdiejolnllipnaaGreatDoorMachPrintsx16
import Derived.Test.YtdiejolnllipnaaGreatDoorMachPrintsx18

set_option linter.unusedVariables false
set_option linter.unusedSimpArgs false
namespace Go.Proofs.YtdiejolnllipnaaGreatDoor
open Go Go.Ex Go.Ex.M
set_option maxRecDepth 100000
set_option maxHeartbeats 8000000
section
variable {n:Nat} {h:zB}
theorem vZ{lo:Nat}{i:InsT}(hi:InsM lo h i):Pur P 8 124 [.agg ⟨wZ i⟩] h n (.bool (endB i.kind)):=by
 have o1:=(hi.ar 0).one;refine Com.pure (ent λu=>?_) (.inl rfl);repeat' first|refine wk ?_|apply cX <;> intro
 all_goals refine finT ?_ zA
 all_goals unfold endB
 . rename_i g1;by_cases h7:i.kind=7
   . rw[h7];rfl
   . by_cases h8:i.kind=8
     . rw[h8];rfl
     . rw[decide_eq_false h7,decide_eq_false h8,Bool.false_or,Bool.false_or];exact congrArg Value.bool (decide_eq_decide.2 qJ)
 . rename_i g1;rw [decide_eq_false qJ,decide_eq_false qJ,decide_eq_false qJ];rfl
theorem one_ints:∀L:List Int,One (L.map I64)
 | []=>trivial
 | _::r=>⟨rfl,one_ints r⟩
def LsR(lo n:Nat)(h:zB)(v:Value)(L:List Int):Prop:=(v = .slice none 0 0/\L=[])\/WayR lo n h v vR 1 L.length (L.map I64)
theorem LsR.row{lo:Nat}{v:Value}{L:List Int}(l:LsR lo n h v L):Row n h v vR 1 L.length (L.map I64):=by
 rcases l with⟨rfl,rfl⟩|w
 . exact .inl ⟨rfl,rfl,rfl⟩
 . exact w.row qK 
theorem LsR.own{lo:Nat}{v:Value}{L:List Int}(o:Own lo n h v vR 1 L.length (L.map I64)):LsR lo n h v L:=by
 rcases o with⟨h1,h2,_⟩|⟨b,q1,q2,h1,q3,q4,q5,q6⟩
 . exact .inl ⟨h1,aP.1 h2⟩
 . exact .inr ⟨b,_,_,_,_,q1,q2,h1,q3,q4,ad _,λi _=>q6 i,.inr ⟨rfl,rfl,rfl⟩⟩
theorem LsR.tch{lo n':Nat}{h':zB}{v:Value}{L:List Int}(l:LsR lo n h v L)(t:Tch [] h n h' n'):LsR lo n' h' v L:=by
 rcases l with l|w
 . exact .inl l
 . exact .inr (w.tch t λ_ _=>by simp)
theorem ls_app{lo:Nat}{v x:Value}{L M:List Int}{cx:Cx}{d:List Deferred}{u:Option zK}{K:W->Value->Prop}(l:LsR lo n h v L)(eE:lo<=n)(hr:Row n h x vR 1 M.length (M.map I64))(hm:0<M.length)(hL:L.length+M.length<100000)
(q:∀v' h' n',Row n' h' v' vR 1 (L++M).length ((L++M).map I64)->(∀b,b<lo->zG h' b=zG h b)->n<=n'->K ⟨d,u,h',n'⟩ v'):BuB P cx .append [49,49] [v,x] d u h n K:=by
 have one:∀L:List Int,∀y∈L.map I64,y.oneCell'=true:=λL y hy=>by obtain⟨z,_,rfl⟩:=aB.1 hy;rfl
 rcases l with⟨rfl,rfl⟩|w
 . refine appN (ho:=(.inl ⟨rfl,rfl,rfl⟩:Own lo n h (.slice none 0 0) vR 1 0 [])) hr hm (one_ints M) (by show 0+M.length<1000000;simp only[aX]at hL;omega) ?_;intro v' h' n' o t;refine q _ _ _ ?_ (λb hb=>t.2 b qJ  (by simp[zH])) t.le;rw [aK]at o;exact o.row qK 
 . refine uX w (one L) eE hr hm (one M) qJ  ?_;intro v' h' n' w' _ t;refine q _ _ _ ?_ (λb hb=>?_) t.le
   . rw[ah,aC];exact w'.row qK 
   . refine t.2 b qJ  λfg=>?_;rw [dh]at fg;have:=(w.blk fg).1;omega
def dW(i:InsT):Int:=if i.kind=1\/i.kind=11\/i.kind=2\/i.kind=4\/i.kind=3 then i.d else -1
theorem rmregs_ret{lo:Nat}{i:InsT}(hi:InsM lo h i)(eE:lo<=n)(h3:i.kind=3->i.args.length<=2):Ret P 8 126 [.agg ⟨wZ i⟩] h n λv h' n'=>∃lv,v = .tuple ⟨[lv,I64 (dW i)]⟩/\LsR n n' h' lv (yO i)/\Tch [] h n h' n':=by
 have o1:=(hi.ar 0).one;have t1:Tch [] h n (hal h n (mkC (wZ i) (51+1) 0)) (n+1):=zA;have ra:Row (n+1) (hal h n (mkC (wZ i) (51+1) 0)) i.av vR 1 i.args.length (i.args.map I64):=((hi.tch t1 eE).ar vR).up qJ;refine ent λu=>?_;by_cases hk:i.kind=3
 . have hl:=h3 hk;repeat' first|refine wk ?_|apply cX <;> intro
   refine appO (ho:=(.inl ⟨rfl,rfl,rfl⟩:Own n (n+1) _ (.slice none 0 0) vR 1 0 [])) ra qJ  (one_ints _) qJ  ?_;intro v' h' n' o t;have eP:=t.le;have t2:Tch [] (hal h n (mkC (wZ i) (51+1) 0)) (n+1) h' n':=t;have o':Own n n' h' v' vR 1 i.args.length (i.args.map I64):=by rw[aK]at o;exact o
   have o2:=(o'.row qK).one;repeat' first|refine wk ?_|apply cX <;> intro
   exact⟨_,rfl,v',congrArg (λz=>Value.tuple ⟨[v',I64 z]⟩) (by unfold dW;simp [*]),by rw[show yO i=i.args by unfold yO;simp [*]];exact LsR.own o',Tch.tch t2 t1 qL⟩
 . repeat' first|refine wk ?_|apply cX <;> intro
   all_goals refine⟨_,rfl,_,congrArg (λz=>Value.tuple ⟨[_,I64 z]⟩) (by unfold dW;simp [*]),?_,zA⟩
   all_goals first
    | (refine .inl ⟨rfl,?_⟩;unfold yO;simp [*];done)
    | (refine .inr ?_;rw [show yO i=[i.a] by unfold yO;simp [*]];exact way_new (cH _) rfl qK)
    | (refine .inr ?_;rw [show yO i=[i.a,i.b] by unfold yO;simp [*]];exact way_new (cH _) rfl qK)
theorem rmayK_pur{lo bt z:Nat}{m:MachT}{nsv psv kv:Value}{ns:List Tx}{ps:List Pl}{kvs:List Value}(k:Tc lo h bt z m nsv psv kv ns ps kvs)(eE:lo<=n){op q:Nat}{o:OpT}(ho:m.ops[op]? = some o){x:OperT}(hx:o.uses[q]? = some x)(hu:o.uses.length<=2)(r:Int):Pur P 8 107 [ptr bt 0,I64 (op:Nat),I64 ((q:Nat)+1),I64 r] h n (.bool (decide (r∈sP m ns x))):=by
 have hcel:=k.tb.cel;have rr:=k.tb.mm.ops 0;have eD:=(ab.1 ho).1;have hl:=k.tb.mm.ops.lt;have eQ:=ae ho;have ru:=k.tb.mm.opsu o eQ 0;have c0:=zM rr ho;have c3:=yT c0 (j:=3) rfl;have hq:=(ab.1 hx).1;have u0:=zM ru hx;have u1:=yT u0 (j:=0) rfl;have u2:=yT u0 (j:=1) rfl;have eM:inf<4611686018427387904:=by decide
 have eq:((q:Nat):Int)+1 - 1=((q:Nat):Int):=by omega
 refine Com.pure (ent λu=>?_) (.inl rfl);repeat' first|refine wk ?_|apply cX <;> intro
 all_goals first|(exfalso;omega)|skip
 refine yG (vO k eE x) ?_
 rintro v h2 n2 ⟨rv,ht2⟩
 have hn2:=ht2.le;have gB:=mayI_len k x;repeat' first|refine wk ?_|refine cX (λ_=>?_) λ_=>?_|refine zS (rin_pur rv qJ) ?_|fail
 exact finT rfl ht2
end
section
variable {n lo lc bt z:Nat} {h:zB} {m:MachT} {nsv psv kv:Value} {ns:List Tx} {ps:List Pl} {kvs:List Value} {c:CodeT} {i:InsT}
theorem all_ff{L:List Int}{f:Int->Bool}{q:Nat}{r:Int}(d:L[q]? = some r)(hr:f r=false):L.all f=false:=by
 cases e:L.all f with
 | false=>rfl
 | true=>rw [aH.1 e r (ae d)]at hr;cases hr
theorem insE_23{slots:Int}{nb:Nat}{last:Bool}(hk:vH m i last=true)(hr:((yS i++yO i).all λr=>inR r ns.length)=false):I64 23=I64 (uC m ns ps slots nb i last):=by
 unfold uC;rw [if_neg (by rw[hk];exact Bool.noConfusion),if_pos hr]
theorem insE_ok{slots:Int}{nb:Nat}{last:Bool}(hk:vH m i last=true)(good:((yS i++yO i).all λr=>inR r ns.length)=true):uC m ns ps slots nb i last=if i.kind=2 then(if widthA ps i.d=widthA ps i.a then 0 else 23)
 else if i.kind=3 then(match opAt m i.name with|some o=>if opsB m ns ps i o then 0 else 23|none=>23)
 else if i.kind=10\/i.kind=11 then(if 0<=i.n/\i.n<slots then 0 else 24)
 else if i.kind=7 then(if (0<=i.t/\i.t<nb)/\0<=i.f/\i.f<nb then 0 else 20)
 else if i.kind=8 then(if 0<=i.t/\i.t<nb then 0 else 20) else 0:=by
 unfold uC;rw [if_neg (by rw[hk];exact Bool.noConfusion),if_neg (by rw[good];exact Bool.noConfusion)];have e:∀k:Int,(inR k nb=true)=(0<=k/\k<nb):=λk=>by unfold inR;simp
 refine ite_congr rfl (λ_=>rfl) λ_=>ite_congr rfl (λ_=>rfl) λ_=>ite_congr rfl (λ_=>rfl) λ_=>ite_congr rfl (λ_=>ite_congr ?_ (λ_=>rfl) λ_=>rfl) λ_=>ite_congr rfl (λ_=>ite_congr (e _) (λ_=>rfl) λ_=>rfl) λ_=>rfl;rw [bu,e,e]
theorem kindB_eq{last:Bool}(hk:1<=i.kind/\i.kind<=11)(he:(endB i.kind != last)=false):vH m i last=(if i.kind=3 then match opAt m i.name with|some o=>decide (i.args.length=o.uses.length)|none=>false
   else if i.kind=6 then xL i.name && decide (0<=i.n) && decide (i.n<=(m.args.length:Nat)) && (decide (i.d = -1) || decide (i.d=0)) else true):=by
  have ip:(endB i.kind == last)=true:=by revert he;cases endB i.kind <;> cases last <;> simp
  unfold vH;rw [ip,decide_eq_true hk.1,decide_eq_true hk.2];try rfl
theorem rminsE(tc:Tc lo h bt z m nsv psv kv ns ps kvs)(ok:MOK m ns ps)(eE:lo<=n)(cm:CodeM lc h c)(hi:InsM lc h i)(hlc:lc<=n)(last:Bool)(he:¬(1<=i.kind/\i.kind<=11)\/(endB i.kind != last)=true):Ret P 8 65 [ptr bt 0,.agg ⟨yQ c⟩,.agg ⟨wZ i⟩,.bool last] h n λw h' n'=>w=I64 (uC m ns ps c.slots c.blocks.length i last)/\Tch [] h n h' n':=by
 have o1:=(hi.ar 0).one;have rb:=cm.bl 0;have o2:=rb.one;have sm:=MOK.sml ok;have hcel:=tc.tb.cel;have ib:=tc.tb.hb;have eM:inf<4611686018427387904:=by decide
 have ra:=hi.ar vR;have rp:=tc.tb.rp;have fO:=tc.tb.hl;have jQ:=tc.tb.hn;have bad:∀{h2:zB} {n2:Nat},Tch [] h n h2 n2->vH m i last=false->(∃v,Out.ret (I64 22) = .ret v/\(v=I64 (uC m ns ps c.slots c.blocks.length i last)/\Tch [] h n h2 n2)):=λt e=>⟨_,rfl,by unfold uC;rw [if_pos e],t⟩;refine ent λu=>?_
 have hb:vH m i last=false:=by
  cases e:vH m i last with
  | false=>rfl
  | true=>
   rcases he with he|he
   . unfold vH at e;simp at e;omega
   . unfold vH at e;simp at he;simp [he]at e
 rcases he with he|he
 . repeat' first|refine wk ?_|refine cX (λ_=>?_) λ_=>?_|refine zS (vZ (hi.tch zA hlc)) ?_|fail
   all_goals exact bad zA hb
 . by_cases hk:1<=i.kind/\i.kind<=11
   . obtain⟨hk1,hk2⟩:=hk;repeat' first|refine wk ?_|refine cX (λ_=>?_) λ_=>?_|refine zS (vZ (hi.tch zA hlc)) ?_|fail
     exact bad zA hb
   . repeat' first|refine wk ?_|refine cX (λ_=>?_) λ_=>?_|refine zS (vZ (hi.tch zA hlc)) ?_|fail
     all_goals exact bad zA hb
theorem rminsO(tc:Tc lo h bt z m nsv psv kv ns ps kvs)(ok:MOK m ns ps)(eE:lo<=n)(cm:CodeM lc h c)(hi:InsM lc h i)(hlc:lc<=n)(last:Bool)(q3:¬i.kind=3)(q6:¬i.kind=6):Ret P 8 65 [ptr bt 0,.agg ⟨yQ c⟩,.agg ⟨wZ i⟩,.bool last] h n λw h' n'=>w=I64 (uC m ns ps c.slots c.blocks.length i last)/\Tch [] h n h' n':=by
 have o1:=(hi.ar 0).one;have rb:=cm.bl 0;have o2:=rb.one;have sm:=MOK.sml ok;have hcel:=tc.tb.cel;have ib:=tc.tb.hb;have eM:inf<4611686018427387904:=by decide
 have ra:=hi.ar vR;have rp:=tc.tb.rp;have fO:=tc.tb.hl;have jQ:=tc.tb.hn;have bad:∀{h2:zB} {n2:Nat},Tch [] h n h2 n2->vH m i last=false->(∃v,Out.ret (I64 22) = .ret v/\(v=I64 (uC m ns ps c.slots c.blocks.length i last)/\Tch [] h n h2 n2)):=λt e=>⟨_,rfl,by unfold uC;rw [if_pos e],t⟩;by_cases hk:1<=i.kind/\i.kind<=11
 rotate_left
 . exact rminsE tc ok eE cm hi hlc last (.inl hk)
 cases he:(endB i.kind != last) with
 | true=>exact rminsE tc ok eE cm hi hlc last (.inr he)
 | false=>
 refine ent λu=>?_;have gy:=kindB_eq (m:=m) hk he;rw [if_neg q3,if_neg q6]at gy;have gh:=regsR_len gy λo ho=>sm.opu o ho;obtain⟨hk1,hk2⟩:=hk;repeat' first|refine wk ?_|refine cX (λ_=>?_) λ_=>?_|refine zS (vZ (hi.tch zA hlc)) ?_|fail
 refine yG (rmregs_ret (hi.tch (show Tch [] h n (hal (hal h n (mkC (yQ c) (30+1) 0)) (n+1) (mkC (wZ i) (51+1) 0)) (n+1+1) from zA) hlc) qJ  (λe=>absurd e q3)) ?_
 rintro _ h3 n3 ⟨lv,rfl,hl,t3⟩
 have eS:=t3.le;have fo:Tch [] h n h3 n3:=zA;have cC3:Cel h3 n (30+1) 0 (yQ c):=by clear fo;exact zC
 have cI3:Cel h3 (n+1) (51+1) 0 (wZ i):=by clear fo;exact zC
 have ol:=hl.row.one;clear t3;by_cases hw:i.kind<=4\/i.kind=11
 . repeat' first|refine wk ?_|apply cX <;> intro
   all_goals
    have eW:yS i=[dW i]:=by unfold yS dW;rw [if_pos qJ,if_pos qJ]
    have t4:Tch [] h3 n3 (hal h3 n3 (mkC [I64 (dW i)] 0 0)) (n3+1):=zA;refine ls_app (M:=[dW i]) (hl.tch t4) qJ  (zF (e:=vR) rfl qK) (Nat.succ_pos _) (by simp only[bT];omega) ?_;intro v5 h5 n5 rs k5 fA;rw [<- eW]at rs;have t5:Tch [] h3 (n+1+1) h5 n5:=⟨by omega,λb hb _=>by rw[k5 b hb];exact t4.2 b qJ qL⟩;have t05:Tch [] h n h5 n5:=⟨by omega,λb hb hx=>by rw[t5.2 b qJ  hx,fo.2 b hb hx]⟩;have cC5:=cC3.tch t5 qJ qL;have cI5:=cI3.tch t5 qJ qL;have o5:=rs.one;clear t5 k5 t4 fo cC3 cI3 hl;generalize hL:yO i++yS i=L at rs
    have iy:L.length<=3:=by rw[<- hL,ah];have:=regsW_len i;omega
    have eA:∀f:Int->Bool,(yS i++yO i).all f=L.all f:=λf=>by rw[<- hL,cu,cu,eo]
    repeat' first|refine wk ?_|apply cX <;> intro
    refine lpR (λq:Nat=>[(0,ptr bt 0),(5,ptr n 0),(6,ptr (n+1) 0),(9,I64 (-1)),(11,v5),(14,I64 q)]) (λq h' n'=>h'=h5/\n'=n5/\q<=L.length/\∀(j:Nat) r,j<q->L[j]? = some r->inR r ns.length=true) (λq=>L.length - q) 0 ⟨rfl,rfl,an _,λ_ _ hj=>by omega⟩ ?_
    rintro q t h' n' ⟨e1,e2,hq,eH⟩
    subst e1 e2;by_cases eD:q<L.length
    . have d0:L[q]? = some L[q]:=aa eD;generalize L[q]=r at d0
      have c1:zD h' (sbk v5) (sof v5+q*1)=some (I64 r):=by rw[aQ];exact rs.at (by rw[ao,d0];rfl)
      have out:inR r ns.length=false->(∃v,Out.ret (I64 23) = .ret v/\(v=I64 (uC m ns ps c.slots c.blocks.length i last)/\Tch [] h n h' n')):=λhr=>⟨_,rfl,insE_23 gy ((eA _).trans (all_ff d0 hr)),t05⟩;repeat' first|refine wk ?_|apply cX <;> intro
      . exact out (by unfold inR;rw [decide_eq_false qJ];rfl)
      . exact out (by unfold inR;rw [decide_eq_false (by omega:¬r<ns.length),dk])
      . exact rnd (q+1) ⟨rfl,rfl,by omega,λj r' fy f1=>by
         rcases ai.1 fy with h9|rfl
         . exact eH j r' h9 f1
         . rw[d0]at f1;cases f1;unfold inR;rw [decide_eq_true qJ,decide_eq_true qJ];rfl⟩
    obtain rfl:q=L.length:=by omega
    have good:(L.all λr=>inR r ns.length)=true:=aH.2 λr hr=>by
     obtain⟨j,hj⟩:=aj.1 hr;exact eH j r (ab.1 hj).1 hj
    have E:=insE_ok (ps:=ps) (slots:=c.slots) (nb:=c.blocks.length) gy ((eA _).trans good);by_cases h2:i.kind=2
    . first
      | (exfalso;omega;done)
      | skip
      all_goals
       have w2:∀r,r∈L->0<=r/\r.toNat<ps.length/\∃p,ps[r.toNat]? = some p/\widthA ps r=p.width:=λr hr=>by
        have mD:=aH.1 good r hr;unfold inR at mD;obtain⟨g1,g2⟩:=ak.1 mD;have g1:=of_decide_eq_true g1;have g2:=of_decide_eq_true g2;have g3:ps[r.toNat]? = some (ps[r.toNat]' qJ):=aa _;exact⟨g1,by omega,_,g3,by unfold widthA;rw [g3]⟩
       obtain⟨a0,a9,p,a1,a2⟩:=w2 i.d (by rw[<- hL];exact aA.2 (.inr (by unfold yS;rw [if_pos qJ];exact aq.2 rfl)));obtain⟨b0,b9,p',b1,b2⟩:=w2 i.a (by rw[<- hL];exact aA.2 (.inl (by unfold yO;rw [if_pos qJ];exact aq.2 rfl)));have x1:=yT (zM rp a1) (j:=2) rfl;have x2:=yT (zM rp b1) (j:=2) rfl;have lowp:=rp.low qJ;repeat' first|refine wk ?_|apply cX <;> intro
       all_goals exact⟨_,rfl,(by rw[E,if_pos h2,a2,b2];first|rw [if_pos qJ]|rw [if_neg qJ]),zA⟩
    clear eH eA good;repeat' first|refine wk ?_|apply cX <;> intro
    all_goals first
     | exact⟨_,rfl,(by rw[E];(repeat first|rw [if_pos qJ]|rw [if_neg qJ]);done),zA⟩
 . have eW:yS i=[]:=by unfold yS;rw [if_neg qJ]
   have rs:Row n3 h3 lv vR 1 (yO i++yS i).length ((yO i++yS i).map I64):=by rw[eW,bS];exact hl.row
   have t05:=fo;generalize hL:yO i++yS i=L at rs
   have iy:L.length<=3:=by rw[<- hL,ah];have:=regsW_len i;omega
   have eA:∀f:Int->Bool,(yS i++yO i).all f=L.all f:=λf=>by rw[<- hL,cu,cu,eo]
   repeat' first|refine wk ?_|apply cX <;> intro
   refine lpR (λq:Nat=>[(0,ptr bt 0),(5,ptr n 0),(6,ptr (n+1) 0),(9,I64 (-1)),(11,lv),(14,I64 q)]) (λq h' n'=>h'=h3/\n'=n3/\q<=L.length/\∀(j:Nat) r,j<q->L[j]? = some r->inR r ns.length=true) (λq=>L.length - q) 0 ⟨rfl,rfl,an _,λ_ _ hj=>by omega⟩ ?_
   rintro q t h' n' ⟨e1,e2,hq,eH⟩
   subst e1 e2;by_cases eD:q<L.length
   . have d0:L[q]? = some L[q]:=aa eD;generalize L[q]=r at d0
     have c1:zD h' (sbk lv) (sof lv+q*1)=some (I64 r):=by rw[aQ];exact rs.at (by rw[ao,d0];rfl)
     have out:inR r ns.length=false->(∃v,Out.ret (I64 23) = .ret v/\(v=I64 (uC m ns ps c.slots c.blocks.length i last)/\Tch [] h n h' n')):=λhr=>⟨_,rfl,insE_23 gy ((eA _).trans (all_ff d0 hr)),t05⟩;repeat' first|refine wk ?_|apply cX <;> intro
     . exact out (by unfold inR;rw [decide_eq_false qJ];rfl)
     . exact out (by unfold inR;rw [decide_eq_false (by omega:¬r<ns.length),dk])
     . exact rnd (q+1) ⟨rfl,rfl,by omega,λj r' fy f1=>by
        rcases ai.1 fy with h9|rfl
        . exact eH j r' h9 f1
        . rw[d0]at f1;cases f1;unfold inR;rw [decide_eq_true qJ,decide_eq_true qJ];rfl⟩
   obtain rfl:q=L.length:=by omega
   have good:(L.all λr=>inR r ns.length)=true:=aH.2 λr hr=>by
    obtain⟨j,hj⟩:=aj.1 hr;exact eH j r (ab.1 hj).1 hj
   have E:=insE_ok (ps:=ps) (slots:=c.slots) (nb:=c.blocks.length) gy ((eA _).trans good);clear eH eA good;repeat' first|refine wk ?_|apply cX <;> intro
   all_goals first
    | exact⟨_,rfl,(by rw[E];(repeat first|rw [if_pos qJ]|rw [if_neg qJ]);done),zA⟩
end
section
variable {n lo lc bt z:Nat} {h:zB} {m:MachT} {nsv psv kv:Value} {ns:List Tx} {ps:List Pl} {kvs:List Value} {c:CodeT} {i:InsT}
theorem rmins3(tc:Tc lo h bt z m nsv psv kv ns ps kvs)(ok:MOK m ns ps)(eE:lo<=n)(cm:CodeM lc h c)(hi:InsM lc h i)(hlc:lc<=n)(last:Bool)(q3:i.kind=3)(hk:1<=i.kind/\i.kind<=11)(he:(endB i.kind != last)=false):Ret P 8 65 [ptr bt 0,.agg ⟨yQ c⟩,.agg ⟨wZ i⟩,.bool last] h n λw h' n'=>w=I64 (uC m ns ps c.slots c.blocks.length i last)/\Tch [] h n h' n':=by
 have o1:=(hi.ar 0).one;have rb:=cm.bl 0;have o2:=rb.one;have sm:=MOK.sml ok;have hcel:=tc.tb.cel;have ib:=tc.tb.hb;have eM:inf<4611686018427387904:=by decide
 have ra:=hi.ar vR;have rp:=tc.tb.rp;have fO:=tc.tb.hl;have jQ:=tc.tb.hn;have bad:∀{h2:zB} {n2:Nat},Tch [] h n h2 n2->vH m i last=false->(∃v,Out.ret (I64 22) = .ret v/\(v=I64 (uC m ns ps c.slots c.blocks.length i last)/\Tch [] h n h2 n2)):=λt e=>⟨_,rfl,by unfold uC;rw [if_pos e],t⟩;refine ent λu=>?_;have rr:=tc.tb.mm.ops 0;have gI:=tc.tb.mm.ops.lt;have hK:=kindB_eq (m:=m) hk he;rw [if_pos q3]at hK;have q6:¬i.kind=6:=by omega
 rcases posF_cases (λo:OpT=>decide (o.name=i.name)) m.ops with⟨f1,f2⟩|⟨j,op,f1,f2,f3,f4,f5⟩
 . have hK:=hK.trans (by rw[show opAt m i.name=none from f1]);repeat' first|refine wk ?_|refine cX (λ_=>?_) λ_=>?_|refine zS (vZ (hi.tch zA hlc)) ?_|(refine zS (ropof_pur (tc.tb.tch zA eE) _) ?_;rw [f2])|fail
   exact bad zA hK
 . have f1:opAt m i.name=some op:=f1;have hK:vH m i last=decide (i.args.length=op.uses.length):=hK.trans (by rw[f1]);have c0:=zM rr f2;have c3:=yT c0 (j:=3) rfl;have ft:=ae f2;have ru:=tc.tb.mm.opsu op ft 0;have qu:=ru.one;have low:=rr.low qJ;by_cases eN:i.args.length=op.uses.length
   rotate_left
   . repeat' first|refine wk ?_|refine cX (λ_=>?_) λ_=>?_|refine zS (vZ (hi.tch zA hlc)) ?_|(refine zS (ropof_pur (tc.tb.tch zA eE) _) ?_;rw [f3])|fail
     exact bad zA (hK.trans (decide_eq_false eN))
   have gy:=hK.trans (decide_eq_true eN);have gh:=regsR_len gy λo ho=>sm.opu o ho;have hu:=sm.opu op ft;obtain⟨hk1,hk2⟩:=hk;repeat' first|refine wk ?_|refine cX (λ_=>?_) λ_=>?_|refine zS (vZ (hi.tch zA hlc)) ?_|(refine zS (ropof_pur (tc.tb.tch zA eE) _) ?_;rw [f3])|fail
   refine yG (rmregs_ret (hi.tch (show Tch [] h n (hal (hal h n (mkC (yQ c) (30+1) 0)) (n+1) (mkC (wZ i) (51+1) 0)) (n+1+1) from zA) hlc) qJ  (λ_=>by omega)) ?_
   rintro _ h3 n3 ⟨lv,rfl,hl,t3⟩
   have eS:=t3.le;have fo:Tch [] h n h3 n3:=zA;have cC3:Cel h3 n (30+1) 0 (yQ c):=by clear fo;exact zC
   have cI3:Cel h3 (n+1) (51+1) 0 (wZ i):=by clear fo;exact zC
   have ol:=hl.row.one;clear t3;repeat' first|refine wk ?_|apply cX <;> intro
   have eW:yS i=[dW i]:=by unfold yS dW;rw [if_pos qJ,if_pos qJ]
   have t4:Tch [] h3 n3 (hal h3 n3 (mkC [I64 (dW i)] 0 0)) (n3+1):=zA;refine ls_app (M:=[dW i]) (hl.tch t4) qJ  (zF (e:=vR) rfl qK) (Nat.succ_pos _) (by simp only[bT];omega) ?_;intro v5 h5 n5 rs k5 fA;rw [<- eW]at rs;have t5:Tch [] h3 (n+1+1) h5 n5:=⟨by omega,λb hb _=>by rw[k5 b hb];exact t4.2 b qJ qL⟩;have t05:Tch [] h n h5 n5:=⟨by omega,λb hb hx=>by rw[t5.2 b qJ  hx,fo.2 b hb hx]⟩;have cC5:=cC3.tch t5 qJ qL;have cI5:=cI3.tch t5 qJ qL;have o5:=rs.one;clear t5 k5 t4 fo cC3 cI3 hl;generalize hL:yO i++yS i=L at rs
   have iy:L.length<=3:=by rw[<- hL,ah];have:=regsW_len i;omega
   have eA:∀f:Int->Bool,(yS i++yO i).all f=L.all f:=λf=>by rw[<- hL,cu,cu,eo]
   repeat' first|refine wk ?_|apply cX <;> intro
   refine lpR (λq:Nat=>[(0,ptr bt 0),(5,ptr n 0),(6,ptr (n+1) 0),(9,I64 ((j:Nat):Int)),(11,v5),(14,I64 q)]) (λq h' n'=>h'=h5/\n'=n5/\q<=L.length/\∀(j:Nat) r,j<q->L[j]? = some r->inR r ns.length=true) (λq=>L.length - q) 0 ⟨rfl,rfl,an _,λ_ _ hj=>by omega⟩ ?_
   rintro q t h' n' ⟨e1,e2,hq,eH⟩
   subst e1 e2;by_cases eD:q<L.length
   . have d0:L[q]? = some L[q]:=aa eD;generalize L[q]=r at d0
     have c1:zD h' (sbk v5) (sof v5+q*1)=some (I64 r):=by rw[aQ];exact rs.at (by rw[ao,d0];rfl)
     have out:inR r ns.length=false->(∃v,Out.ret (I64 23) = .ret v/\(v=I64 (uC m ns ps c.slots c.blocks.length i last)/\Tch [] h n h' n')):=λhr=>⟨_,rfl,insE_23 gy ((eA _).trans (all_ff d0 hr)),t05⟩;repeat' first|refine wk ?_|apply cX <;> intro
     . exact out (by unfold inR;rw [decide_eq_false qJ];rfl)
     . exact out (by unfold inR;rw [decide_eq_false (by omega:¬r<ns.length),dk])
     . exact rnd (q+1) ⟨rfl,rfl,by omega,λj r' fy f1=>by
        rcases ai.1 fy with h9|rfl
        . exact eH j r' h9 f1
        . rw[d0]at f1;cases f1;unfold inR;rw [decide_eq_true qJ,decide_eq_true qJ];rfl⟩
   obtain rfl:q=L.length:=by omega
   have good:(L.all λr=>inR r ns.length)=true:=aH.2 λr hr=>by
    obtain⟨j,hj⟩:=aj.1 hr;exact eH j r (ab.1 hj).1 hj
   have E:=insE_ok (ps:=ps) (slots:=c.slots) (nb:=c.blocks.length) gy ((eA _).trans good);have E3:uC m ns ps c.slots c.blocks.length i last=if opsB m ns ps i op then 0 else 23:=by rw[E,if_neg qJ,if_pos q3,f1]
   have y0:opsB m ns ps i op=true->(∃v,Out.ret (I64 0) = .ret v/\(v=I64 (uC m ns ps c.slots c.blocks.length i last)/\Tch [] h n h' n')):=λz=>⟨_,rfl,by rw[E3,if_pos z],t05⟩;have n0:opsB m ns ps i op=false->(∃v,Out.ret (I64 23) = .ret v/\(v=I64 (uC m ns ps c.slots c.blocks.length i last)/\Tch [] h n h' n')):=λz=>⟨_,rfl,by rw[E3,if_neg (by rw[z];exact aU)],t05⟩;clear E eA good eH bad hK;have hcb:ClobLe m:=λk o ho=>by have:=sm.opc o (ae ho);omega
   have tc5:=tc.tch t05 eE;have ra5:=ra.tch t05 hlc λ_ _ hx=>by cases hx
   have rr5:=tc5.tb.mm.ops 0;have c4:=yT (zM rr5 f2) (j:=4) rfl;have c35:=yT (zM rr5 f2) (j:=3) rfl;have hn05:=t05.le;have mB:=(MOK.oo ok op ft).1;have tl:=mB.2.2.2.1;have th:=mB.2.2.2.2.1;have em:(decide (i.d∈sP m ns op.d) && clrN ns ps op i.d)=mayB m ns ps op 0 op.d i.d:=by unfold mayB;simp
   repeat' first|refine wk ?_|apply cX <;> intro
   refine zS (rmay0_pur tc5 qJ  hcb f2 i.d) ?_;rw [em];generalize fG:mayB m ns ps op 0 op.d i.d=b0
   repeat' first|refine wk ?_|apply cX <;> intro
   have hN0:b0=false->opsB m ns ps i op=false:=λe=>by unfold opsB;rw [fG,e];rfl
   refine lpR (α :=Nat×Bool) (λp=>[(0,ptr bt 0),(6,ptr (n+1) 0),(9,I64 j),(15,.bool p.2),(16,I64 p.1)]) (λp h2 n2=>h2=h'/\n2=n'/\p.1<=i.args.length/\(p.2=true->b0=true/\∀(j':Nat) a x,j'<p.1->i.args[j']? = some a->op.uses[j']? = some x->mayB m ns ps op 1 x a=true)/\(p.2=false->opsB m ns ps i op=false)) (λp=>i.args.length - p.1) (0,b0) ⟨rfl,rfl,an _,λe=>⟨e,λ_ _ _ hj=>absurd hj (aE _)⟩,hN0⟩ ?_
   rintro ⟨q,bq⟩ t h2 n2 ⟨e1,e2,hq,hY,hN⟩
   dsimp only at hq hY hN ⊢;subst e1 e2
   cases bq with
   | false=>
    have z:=hN rfl;repeat' first|refine wk ?_|apply cX <;> intro
    all_goals exact n0 z
   | true=>
   obtain⟨ff,eH⟩:=hY rfl;subst ff;by_cases eD:q<i.args.length
   . have d0:i.args[q]? = some i.args[q]:=aa eD;have d1:op.uses[q]? = some op.uses[q]:=aa qJ;generalize i.args[q]=a at d0
     generalize op.uses[q]=x at d1
     have c1:zD h2 (sbk i.av) (sof i.av+q*1)=some (I64 a):=by rw[aQ];exact ra5.at (by rw[ao,d0];rfl)
     have ek:decide (a∈sP m ns x)=mayB m ns ps op 1 x a:=by unfold mayB;simp
     repeat' first|refine wk ?_|refine cX (λ_=>?_) λ_=>?_|refine zS (rmayK_pur tc5 qJ  f2 d1 hu a) ?_|fail
     exact rnd (q+1,decide (a∈sP m ns x)) ⟨rfl,rfl,by dsimp only;omega,λe=>⟨rfl,λj' a' x' fy f1 f2=>by
      rcases ai.1 fy with h9|rfl
      . exact eH j' a' x' h9 f1 f2
      . rw[d0]at f1;rw [d1]at f2;cases f1;cases f2;rw [<- ek];exact e⟩,λe=>by unfold opsB;rw [zip_no d0 d1 (by rw[<- ek];exact e)];simp⟩
   . obtain rfl:q=i.args.length:=by omega
     have zz:((i.args.zip op.uses).all λp=>mayB m ns ps op 1 p.2 p.1)=true:=zip_all eN λj' a x f1 f2=>eH j' a x (ab.1 f1).1 f1 f2;clear eH hN hY;by_cases h0:op.tie<0
     . repeat' first|refine wk ?_|apply cX <;> intro
       exact y0 (by unfold opsB;rw [fG,zz,decide_eq_true h0];rfl)
     . have kX:op.tie.toNat<i.args.length:=by omega
       have d0:i.args[op.tie.toNat]? = some i.args[op.tie.toNat]:=aa kX;generalize i.args[op.tie.toNat]=a at d0
       have c1:zD h2 (sbk i.av) (sof i.av+op.tie.toNat*1)=some (I64 a):=by rw[aQ];exact ra5.at (by rw[ao,d0];rfl)
       repeat' first|refine wk ?_|apply cX <;> intro
       . rename_i g1;exact n0 (by unfold opsB;rw [fG,zz,d0,decide_eq_false h0,decide_eq_false (λe=>g1 (Option.some.inj e))];rfl)
       . rename_i g1;exact y0 (by unfold opsB;rw [fG,zz,d0,decide_eq_true (congrArg some (cK.1 g1))];simp)
end
section
variable {n lo lc bt z:Nat} {h:zB} {m:MachT} {nsv psv kv:Value} {ns:List Tx} {ps:List Pl} {kvs:List Value} {c:CodeT} {i:InsT}
theorem rmins6(tc:Tc lo h bt z m nsv psv kv ns ps kvs)(ok:MOK m ns ps)(eE:lo<=n)(cm:CodeM lc h c)(hi:InsM lc h i)(hlc:lc<=n)(last:Bool)(q6:i.kind=6)(he:(endB i.kind != last)=false):Ret P 8 65 [ptr bt 0,.agg ⟨yQ c⟩,.agg ⟨wZ i⟩,.bool last] h n λw h' n'=>w=I64 (uC m ns ps c.slots c.blocks.length i last)/\Tch [] h n h' n':=by
 have o1:=(hi.ar 0).one;have rb:=cm.bl 0;have o2:=rb.one;have sm:=MOK.sml ok;have hcel:=tc.tb.cel;have ib:=tc.tb.hb;have eM:inf<4611686018427387904:=by decide
 have ra:=hi.ar vR;have rp:=tc.tb.rp;have fO:=tc.tb.hl;have jQ:=tc.tb.hn;have bad:∀{h2:zB} {n2:Nat},Tch [] h n h2 n2->vH m i last=false->(∃v,Out.ret (I64 22) = .ret v/\(v=I64 (uC m ns ps c.slots c.blocks.length i last)/\Tch [] h n h2 n2)):=λt e=>⟨_,rfl,by unfold uC;rw [if_pos e],t⟩;refine ent λu=>?_;have hma:m.args.length<=200:=sm.args
 have lN:(uN ns m.args).length=m.args.length:=by
  rw[sO λx hx=>by obtain⟨j,hj⟩:=aj.1 hx;exact(ok.conv.1.2 j x hj).1,aD]
 have q3:¬i.kind=3:=by omega
 have hK:=kindB_eq (m:=m) (i:=i) ⟨by omega,by omega⟩ he;rw [if_neg q3,if_pos q6]at hK
 cases gy:vH m i last with
 | false=>
  repeat' first|refine wk ?_|refine cX (λ_=>?_) λ_=>?_|refine zS (vZ (hi.tch zA hlc)) ?_|(refine yG (rargs_ret (tc.tb.tch zA eE) qJ qJ) ?_;rintro w2 h2 n2 ⟨rw2,ht2⟩;have hn2:=ht2.le;have ow2:=rw2.one)|fail
  all_goals first|exact bad zA gy|(exfalso;rw [gy]at hK;simp [*]at hK;omega)
 | true =>
  have gh:=regsR_len gy λo ho=>sm.opu o ho;have iw:=hK;rw [gy]at iw;have eO:xL i.name=true:=by revert iw;cases xL i.name <;> simp
  have gH:0<=i.n/\i.n<=(m.args.length:Nat)/\(i.d = -1\/i.d=0):=by rw[eO]at iw;simp at iw;exact⟨iw.1.1,iw.1.2,iw.2⟩
  obtain⟨g1,g2,g3⟩:=gH;clear hK iw;repeat' first|refine wk ?_|refine cX (λ_=>?_) λ_=>?_|refine zS (vZ (hi.tch zA hlc)) ?_|(refine yG (rargs_ret (tc.tb.tch zA eE) qJ qJ) ?_;rintro w2 h2 n2 ⟨rw2,ht2⟩;have hn2:=ht2.le;have ow2:=rw2.one)|fail
  all_goals
   refine yG (rmregs_ret (hi.tch (Tch.tch ht2 (show Tch [] h n _ _ from zA) qL) hlc) qJ  (λe=>absurd e q3)) ?_
   rintro _ h3 n3 ⟨lv,rfl,hl,t3⟩
   have eS:=t3.le;have fo:Tch [] h n h3 n3:=zA;have cC3:Cel h3 n (30+1) 0 (yQ c):=by clear fo;exact zC
   have cI3:Cel h3 (n+1) (51+1) 0 (wZ i):=by clear fo;exact zC
   have ol:=hl.row.one;clear t3;have eW:yS i=[]:=by unfold yS;rw [if_neg qJ]
   have rs:Row n3 h3 lv vR 1 (yO i++yS i).length ((yO i++yS i).map I64):=by rw[eW,bS];exact hl.row
   have t05:=fo;generalize hL:yO i++yS i=L at rs
   have iy:L.length<=3:=by rw[<- hL,ah];have:=regsW_len i;omega
   have eA:∀f:Int->Bool,(yS i++yO i).all f=L.all f:=λf=>by rw[<- hL,cu,cu,eo]
   repeat' first|refine wk ?_|apply cX <;> intro
   refine lpR (λq:Nat=>[(0,ptr bt 0),(5,ptr n 0),(6,ptr (n+1) 0),(9,I64 (-1)),(11,lv),(14,I64 q)]) (λq h' n'=>h'=h3/\n'=n3/\q<=L.length/\∀(j:Nat) r,j<q->L[j]? = some r->inR r ns.length=true) (λq=>L.length - q) 0 ⟨rfl,rfl,an _,λ_ _ hj=>by omega⟩ ?_
   rintro q t h' n' ⟨e1,e2,hq,eH⟩
   subst e1 e2;by_cases eD:q<L.length
   . have d0:L[q]? = some L[q]:=aa eD;generalize L[q]=r at d0
     have c1:zD h' (sbk lv) (sof lv+q*1)=some (I64 r):=by rw[aQ];exact rs.at (by rw[ao,d0];rfl)
     have out:inR r ns.length=false->(∃v,Out.ret (I64 23) = .ret v/\(v=I64 (uC m ns ps c.slots c.blocks.length i last)/\Tch [] h n h' n')):=λhr=>⟨_,rfl,insE_23 gy ((eA _).trans (all_ff d0 hr)),t05⟩;repeat' first|refine wk ?_|apply cX <;> intro
     . exact out (by unfold inR;rw [decide_eq_false qJ];rfl)
     . exact out (by unfold inR;rw [decide_eq_false (by omega:¬r<ns.length),dk])
     . exact rnd (q+1) ⟨rfl,rfl,by omega,λj r' fy f1=>by
        rcases ai.1 fy with h9|rfl
        . exact eH j r' h9 f1
        . rw[d0]at f1;cases f1;unfold inR;rw [decide_eq_true qJ,decide_eq_true qJ];rfl⟩
   obtain rfl:q=L.length:=by omega
   have good:(L.all λr=>inR r ns.length)=true:=aH.2 λr hr=>by
    obtain⟨j,hj⟩:=aj.1 hr;exact eH j r (ab.1 hj).1 hj
   have E:=insE_ok (ps:=ps) (slots:=c.slots) (nb:=c.blocks.length) gy ((eA _).trans good);clear eH eA good;repeat' first|refine wk ?_|apply cX <;> intro
   all_goals first
    | exact⟨_,rfl,(by rw[E];(repeat first|rw [if_pos qJ]|rw [if_neg qJ]);done),zA⟩
theorem rmins_ret(tc:Tc lo h bt z m nsv psv kv ns ps kvs)(ok:MOK m ns ps)(eE:lo<=n)(cm:CodeM lc h c)(hi:InsM lc h i)(hlc:lc<=n)(last:Bool):Ret P 8 65 [ptr bt 0,.agg ⟨yQ c⟩,.agg ⟨wZ i⟩,.bool last] h n λw h' n'=>w=I64 (uC m ns ps c.slots c.blocks.length i last)/\Tch [] h n h' n':=by
 by_cases q3:i.kind=3
 . cases he:(endB i.kind != last) with
   | false=>exact rmins3 tc ok eE cm hi hlc last q3 ⟨by omega,by omega⟩ he
   | true=>exact rminsE tc ok eE cm hi hlc last (.inr he)
 by_cases q6:i.kind=6
 . cases he:(endB i.kind != last) with
   | false=>exact rmins6 tc ok eE cm hi hlc last q6 he
   | true=>exact rminsE tc ok eE cm hi hlc last (.inr he)
 . exact rminsO tc ok eE cm hi hlc last q3 q6
end
section
variable {n lo lc bt z:Nat} {h:zB} {m:MachT} {nsv psv kv:Value} {ns:List Tx} {ps:List Pl} {kvs:List Value} {c:CodeT}
theorem rcheck_ret(tc:Tc lo h bt z m nsv psv kv ns ps kvs)(ok:MOK m ns ps)(eE:lo<=n)(cm:CodeM lc h c)(hlc:lc<=n) :
 Ret P 8 26 [ptr bt 0,.agg ⟨yQ c⟩] h n λw h' n'=>∃b k e,w = .tuple ⟨[I64 b,I64 k,I64 e]⟩/\CodeE m ns ps c b k e/\Tch [] h n h' n':=by
 have o1:=(cm.bl 0).one;have rb0:=cm.bl 0;have ib:=tc.tb.hb;have hcel:=tc.tb.cel;have out:∀{b k e:Int} {h':zB} {n':Nat},CodeE m ns ps c b k e->Tch [] h n h' n'->(∃v,Out.ret (.tuple ⟨[I64 b,I64 k,I64 e]⟩) = .ret v/\∃b k e,v = .tuple ⟨[I64 b,I64 k,I64 e]⟩/\CodeE m ns ps c b k e/\Tch [] h n h' n'):=λx t=>⟨_,rfl,_,_,_,rfl,x,t⟩;refine ent λu=>?_;by_cases h200:c.blocks.length<=200
 rotate_left
 . repeat' first|refine wk ?_|apply cX <;> intro
   exact out (.inl ⟨by omega,rfl,rfl,rfl⟩) zA
 cases eO:xL c.name with
 | false=>
  repeat' first|refine wk ?_|apply cX <;> intro
  exact out (.inr ⟨h200,.inl ⟨eO,rfl,rfl,rfl⟩⟩) zA
 | true=>
 by_cases fB:0<=c.slots/\c.slots<=m.slots
 rotate_left
 . repeat' first|refine wk ?_|apply cX <;> intro
   all_goals exact out (.inr ⟨h200,.inr ⟨eO,.inl ⟨fB,rfl,rfl,rfl⟩⟩⟩) zA
 obtain⟨hs0,jk⟩:=fB;by_cases ff:0<c.blocks.length
 rotate_left
 . repeat' first|refine wk ?_|apply cX <;> intro
   exact out (.inr ⟨h200,.inr ⟨eO,.inr ⟨⟨hs0,jk⟩,.inl ⟨by omega,rfl,rfl,rfl⟩⟩⟩⟩) zA
 repeat' first|refine wk ?_|apply cX <;> intro
 refine lpR (λi:Nat=>[(0,ptr bt 0),(3,ptr n 0),(8,I64 i)])
  (λi h' n'=>Tch [] h n h' n'/\n+1<=n'/\Cel h' n (30+1) 0 (yQ c)/\i<=c.blocks.length/\∀(j:Nat) x,j<i->c.blocks[j]? = some x->BlkOK m ns ps c x.2) (λi=>c.blocks.length - i) 0
  ⟨zA,by omega,zC,an _,λ_ _ hj=>by omega⟩ ?_
 rintro i t h2 n2 ⟨t2,hn2,cC,hi,eH⟩
 have cm2:=cm.tch t2 hlc;have rb2:=cm2.bl 0;by_cases eD:i<c.blocks.length
 . have d0:c.blocks[i]? = some c.blocks[i]:=aa eD;generalize c.blocks[i]=x at d0
   have hx:=ae d0;obtain⟨rxI,jc⟩:=cm2.el x hx;have iK:=cm.ins x hx;obtain⟨xv,xl⟩:=x;dsimp only at rxI jc iK;have rx:=rxI 0;have ox:=rx.one;have d1:zD h2 (sbk c.bv) (sof c.bv+i*1)=some xv:=by rw[aQ];exact rb2.at (by rw[ao,d0];rfl)
   have R:∀{b k e:Int},(b=(i:Nat)/\((¬(1<=xl.length/\xl.length<=25600)/\k=0/\e=20)\/((1<=xl.length/\xl.length<=25600)/\∃(q:Nat) (i:InsT),xl[q]? = some i/\
    (∀(q':Nat) i',q'<q->xl[q']? = some i'->uC m ns ps c.slots c.blocks.length i' (decide (q'=xl.length - 1))=0)/\k=(q:Nat)/\e=uC m ns ps c.slots c.blocks.length i (decide (q=xl.length - 1))/\e≠0)))->CodeE m ns ps c b k e:=λhz=>.inr ⟨h200,.inr ⟨eO,.inr ⟨⟨hs0,jk⟩,.inr ⟨ff,.inr ⟨i,(xv,xl),d0,eH,hz.1,hz.2⟩⟩⟩⟩⟩
   by_cases hln:1<=xl.length/\xl.length<=25600
   rotate_left
   . repeat' first|refine wk ?_|apply cX <;> intro
     all_goals exact out (R ⟨rfl,.inl ⟨hln,rfl,rfl⟩⟩) zA
   . obtain⟨gW,fF⟩:=hln;repeat' first|refine wk ?_|apply cX <;> intro
     refine lpR (λq:Nat=>[(0,ptr bt 0),(3,ptr n 0),(8,I64 i),(9,I64 xl.length),(10,I64 q)])
      (λq h' n'=>Tch [] h n h' n'/\n+1<=n'/\Cel h' n (30+1) 0 (yQ c)/\q<=xl.length/\∀(q':Nat) y,q'<q->xl[q']? = some y->uC m ns ps c.slots c.blocks.length y (decide (q'=xl.length - 1))=0) (λq=>xl.length - q) 0
      ⟨zA,by omega,zC,an _,λ_ _ hj=>by omega⟩ ?_
     clear cC rx rb2 cm2 d1
     rintro q t h3 n3 ⟨t3,eS,cC,hq,hall2⟩
     have cm3:=cm.tch t3 hlc;have mX:=(cm3.el (xv,xl) hx).1 0;dsimp only at mX;have rb3:=cm3.bl 0;have d1:zD h3 (sbk c.bv) (sof c.bv+i*1)=some xv:=by rw[aQ];exact rb3.at (by rw[ao,d0];rfl)
     by_cases eK:q<xl.length
     . have f0:xl[q]? = some xl[q]:=aa eK;generalize xl[q]=y at f0
       have c3:=zM mX f0;have hy:=iK y (ae f0);have oy:=(hy.ar 0).one;have el:decide ((q:Int)=(xl.length:Int) - 1)=decide (q=xl.length - 1):=decide_eq_decide.2 qJ;repeat' first|refine wk ?_|apply cX <;> intro
       refine yG (rmins_ret (tc.tch t3 eE) ok qJ  cm3 (hy.tch t3 hlc) qJ  _) ?_
       rintro _ h4 n4 ⟨rfl,t4⟩
       have fi:=t4.le;have cC4:Cel h4 n (30+1) 0 (yQ c):=zC;have fY:Tch [] h n h4 n4:=zA;rw [el];clear t4;repeat' first|refine wk ?_|apply cX <;> intro
       . rename_i e;exact out (R ⟨rfl,.inr ⟨⟨gW,fF⟩,q,y,f0,hall2,rfl,rfl,e⟩⟩) fY
       . rename_i e
         exact rnd (q+1) ⟨fY,by omega,cC4,by omega,λq' y' kP f1=>by
          rcases ai.1 kP with h9|rfl
          . exact hall2 q' y' h9 f1
          . rw[f0]at f1;cases f1;exact cK.1 e⟩
     . obtain rfl:q=xl.length:=by omega
       repeat' first|refine wk ?_|apply cX <;> intro
       exact rnd (i+1) ⟨t3,eS,cC,by omega,λj x' hj f1=>by
        rcases ai.1 hj with h9|rfl
        . exact eH j x' h9 f1
        . rw[d0]at f1;cases f1;exact⟨⟨gW,fF⟩,λq y f2=>hall2 q y (ab.1 f2).1 f2⟩⟩
 . obtain rfl:i=c.blocks.length:=by omega
   repeat' first|refine wk ?_|apply cX <;> intro
   exact out (.inr ⟨h200,.inr ⟨eO,.inr ⟨⟨hs0,jk⟩,.inr ⟨ff,.inl ⟨λj x f1=>eH j x (ab.1 f1).1 f1,rfl,rfl,rfl⟩⟩⟩⟩⟩) zA
end
end Go.Proofs.YtdiejolnllipnaaGreatDoor
