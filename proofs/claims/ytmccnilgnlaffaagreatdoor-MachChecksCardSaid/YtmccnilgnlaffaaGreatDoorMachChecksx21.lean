/- What the law leans on, part 21 of 22. Conditions: those that each theorem states. -/
import Derived.Test.YtmccnilgnlaffaaGreatDoorMachChecksx17
import Derived.Test.YtmccnilgnlaffaaGreatDoorMachChecksx19

set_option linter.unusedVariables false
set_option linter.unusedSimpArgs false
namespace Go.Proofs.YtmccnilgnlaffaaGreatDoor
open Go Go.Ex Go.Ex.M
set_option maxRecDepth 100000
set_option maxHeartbeats 8000000
section
variable {n:Nat} {h:zB}
theorem uC{lo:Nat}{i:InsT}(hi:InsM lo h i):Pur P 8 67 [.agg ⟨insC i⟩] h n (.bool (endB i.kind)):=by
 have o1:=(hi.ar 0).one;refine Com.pure (ent λu=>?_) (.inl rfl);repeat' first|refine wk ?_|refine cX (λ_=>?_) λ_=>?_|fail
 all_goals refine finT ?_ zA
 all_goals unfold endB
 · rename_i g1;by_cases h7:i.kind=7
   · rw[h7];rfl
   · by_cases h8:i.kind=8
     · rw[h8];rfl
     · rw[decide_eq_false h7,decide_eq_false h8,Bool.false_or,Bool.false_or];exact congrArg Value.bool (decide_eq_decide.2 (by omega))
 · rename_i g1;rw [decide_eq_false (by omega),decide_eq_false (by omega),decide_eq_false (by omega)];rfl
theorem one_ints:∀L:List Int,One (L.map I64)
 | []=>trivial
 | _::r=>⟨rfl,one_ints r⟩
def LsR(lo n:Nat)(h:zB)(v:Value)(L:List Int):Prop:=(v = .slice none 0 0∧L=[])∨WayR lo n h v vU 1 L.length (L.map I64)
theorem LsR.row{lo:Nat}{v:Value}{L:List Int}(l:LsR lo n h v L):Row n h v vU 1 L.length (L.map I64):=by
 rcases l with⟨rfl,rfl⟩|w
 · exact .inl ⟨rfl,rfl,rfl⟩
 · exact w.row (by decide)
theorem LsR.own{lo:Nat}{v:Value}{L:List Int}(o:Own lo n h v vU 1 L.length (L.map I64)):LsR lo n h v L:=by
 rcases o with⟨h1,h2,_⟩|⟨b,q1,q2,h1,q3,q4,q5,q6⟩
 · exact .inl ⟨h1,aH.1 h2⟩
 · exact .inr ⟨b,_,_,_,_,q1,q2,h1,q3,q4,ae _,λi _=>q6 i,.inr ⟨rfl,rfl,rfl⟩⟩
theorem LsR.tch{lo n':Nat}{h':zB}{v:Value}{L:List Int}(l:LsR lo n h v L)(t:Tch [] h n h' n'):LsR lo n' h' v L:=by
 rcases l with l|w
 · exact .inl l
 · exact .inr (w.tch t λ_ _=>by simp)
theorem ls_app{lo:Nat}{v x:Value}{L M:List Int}{cx:Cx}{d:List Deferred}{u:Option zI}{K:W→Value→Prop}(l:LsR lo n h v L)(dX:lo≤n)(hr:Row n h x vU 1 M.length (M.map I64))(hm:0<M.length)(hL:L.length+M.length<100000)
(q:∀v' h' n',Row n' h' v' vU 1 (L++M).length ((L++M).map I64)→(∀b,b<lo→zF h' b=zF h b)→n≤n'→K ⟨d,u,h',n'⟩ v'):BuB P cx .append [55,55] [v,x] d u h n K:=by
 have one:∀L:List Int,∀y∈L.map I64,y.oneCell'=true:=λL y hy=>by obtain⟨z,_,rfl⟩:=ao.1 hy;rfl
 rcases l with⟨rfl,rfl⟩|w
 · refine appN (ho:=(.inl ⟨rfl,rfl,rfl⟩:Own lo n h (.slice none 0 0) vU 1 0 [])) hr hm (one_ints M) (by show 0+M.length<1000000;simp only[dt]at hL;omega) ?_;intro v' h' n' o t;refine q _ _ _ ?_ (λb hb=>t.2 b (by omega) (by simp[zP])) t.le;rw [aG]at o;exact o.row (by decide)
 · refine way_app w (one L) dX hr hm (one M) (by omega) ?_;intro v' h' n' w' _ t;refine q _ _ _ ?_ (λb hb=>?_) t.le
   · rw[ak,aK];exact w'.row (by decide)
   · refine t.2 b (by omega) λeO=>?_;rw [Option.mem_toList]at eO;have:=(w.blk eO).1;omega
def dW(i:InsT):Int:=if i.kind=1∨i.kind=11∨i.kind=2∨i.kind=4∨i.kind=3 then i.d else -1
theorem rmregs_ret{lo:Nat}{i:InsT}(hi:InsM lo h i)(dX:lo≤n)(h3:i.kind=3→i.args.length≤2):Ret P 8 69 [.agg ⟨insC i⟩] h n λv h' n'=>∃lv,v = .tuple ⟨[lv,I64 (dW i)]⟩∧LsR n n' h' lv (yQ i)∧Tch [] h n h' n':=by
 have o1:=(hi.ar 0).one;have t1:Tch [] h n (hal h n (mkC (insC i) (57+1) 0)) (n+1):=zA;have ra:Row (n+1) (hal h n (mkC (insC i) (57+1) 0)) i.av vU 1 i.args.length (i.args.map I64):=((hi.tch t1 dX).ar vU).up (by omega);refine ent λu=>?_;by_cases hk:i.kind=3
 · have hl:=h3 hk;repeat' first|refine wk ?_|refine cX (λ_=>?_) λ_=>?_|fail
   refine appO (ho:=(.inl ⟨rfl,rfl,rfl⟩:Own n (n+1) _ (.slice none 0 0) vU 1 0 [])) ra (by omega) (one_ints _) (by omega) ?_;intro v' h' n' o t;have eu:=t.le;have t2:Tch [] (hal h n (mkC (insC i) (57+1) 0)) (n+1) h' n':=t;have o':Own n n' h' v' vU 1 i.args.length (i.args.map I64):=by rw[aG]at o;exact o
   have o2:=(o'.row (by decide)).one;repeat' first|refine wk ?_|refine cX (λ_=>?_) λ_=>?_|fail
   exact⟨_,rfl,v',congrArg (λz=>Value.tuple ⟨[v',I64 z]⟩) (by unfold dW;simp [*]),by rw[show yQ i=i.args by unfold yQ;simp [*]];exact LsR.own o',Tch.tch t2 t1 (by simp)⟩
 · repeat' first|refine wk ?_|refine cX (λ_=>?_) λ_=>?_|fail
   all_goals refine⟨_,rfl,_,congrArg (λz=>Value.tuple ⟨[_,I64 z]⟩) (by unfold dW;simp [*]),?_,zA⟩
   all_goals first
    | (refine .inl ⟨rfl,?_⟩;unfold yQ;simp [*];done)
    | (refine .inr ?_;rw [show yQ i=[i.a] by unfold yQ;simp [*]];exact way_new (cy _) rfl (by decide))
    | (refine .inr ?_;rw [show yQ i=[i.a,i.b] by unfold yQ;simp [*]];exact way_new (cy _) rfl (by decide))
theorem rmayK_pur{lo bt z:Nat}{m:MachT}{nsv psv kv:Value}{ns:List Tx}{ps:List Pl}{kvs:List Value}(k:Tc lo h bt z m nsv psv kv ns ps kvs)(dX:lo≤n){op q:Nat}{o:OpT}(ho:m.ops[op]? = some o){x:OperT}(hx:o.uses[q]? = some x)(hu:o.uses.length≤2)(r:Int):Pur P 8 70 [ptr bt 0,I64 (op:Nat),I64 ((q:Nat)+1),I64 r] h n (.bool (decide (r∈sL m ns x))):=by
 have hcel:=k.tb.cel;have rr:=k.tb.mm.ops 0;have dV:=(ab.1 ho).1;have hl:=k.tb.mm.ops.lt;have d8:=ah ho;have ru:=k.tb.mm.opsu o d8 0;have c0:=zK rr ho;have c3:=yN c0 (j:=3) rfl;have hq:=(ab.1 hx).1;have u0:=zK ru hx;have u1:=yN u0 (j:=0) rfl;have u2:=yN u0 (j:=1) rfl;have d9:inf<4611686018427387904:=by decide
 have eq:((q:Nat):Int)+1 - 1=((q:Nat):Int):=by omega
 refine Com.pure (ent λu=>?_) (.inl rfl);repeat' first|refine wk ?_|refine cX (λ_=>?_) λ_=>?_|fail
 all_goals first|(exfalso;omega)|skip
 refine wY (vR k dX x) ?_
 rintro v h2 n2 ⟨rv,ht2⟩
 have hn2:=ht2.le;have fY:=mayI_len k x;repeat' first|refine wk ?_|refine cX (λ_=>?_) λ_=>?_|refine zX (rin_pur rv (by omega)) ?_|fail
 exact finT rfl ht2
end
section
variable {n lo lc bt z:Nat} {h:zB} {m:MachT} {nsv psv kv:Value} {ns:List Tx} {ps:List Pl} {kvs:List Value} {c:CodeT} {i:InsT}
theorem all_ff{L:List Int}{f:Int→Bool}{q:Nat}{r:Int}(d:L[q]? = some r)(hr:f r=false):L.all f=false:=by
 cases e:L.all f with
 | false=>rfl
 | true=>rw [ay.1 e r (ah d)]at hr;cases hr
theorem insE_23{slots:Int}{nb:Nat}{last:Bool}(hk:uA m i last=true)(hr:((yP i++yQ i).all λr=>inR r ns.length)=false):I64 23=I64 (sA m ns ps slots nb i last):=by
 unfold sA;rw [if_neg (by rw[hk];exact Bool.noConfusion),if_pos hr]
theorem insE_ok{slots:Int}{nb:Nat}{last:Bool}(hk:uA m i last=true)(good:((yP i++yQ i).all λr=>inR r ns.length)=true):sA m ns ps slots nb i last=if i.kind=2 then(if widthA ps i.d=widthA ps i.a then 0 else 23)
 else if i.kind=3 then(match opAt m i.name with|some o=>if opsB m ns ps i o then 0 else 23|none=>23)
 else if i.kind=10∨i.kind=11 then(if 0≤i.n∧i.n<slots then 0 else 24)
 else if i.kind=7 then(if (0≤i.t∧i.t<nb)∧0≤i.f∧i.f<nb then 0 else 20)
 else if i.kind=8 then(if 0≤i.t∧i.t<nb then 0 else 20) else 0:=by
 unfold sA;rw [if_neg (by rw[hk];exact Bool.noConfusion),if_neg (by rw[good];exact Bool.noConfusion)];have e:∀k:Int,(inR k nb=true)=(0≤k∧k<nb):=λk=>by unfold inR;simp
 refine ite_congr rfl (λ_=>rfl) λ_=>ite_congr rfl (λ_=>rfl) λ_=>ite_congr rfl (λ_=>rfl) λ_=>ite_congr rfl (λ_=>ite_congr ?_ (λ_=>rfl) λ_=>rfl) λ_=>ite_congr rfl (λ_=>ite_congr (e _) (λ_=>rfl) λ_=>rfl) λ_=>rfl;rw [bO,e,e]
theorem kindB_eq{last:Bool}(hk:1≤i.kind∧i.kind≤11)(he:(endB i.kind != last)=false):uA m i last=(if i.kind=3 then match opAt m i.name with|some o=>decide (i.args.length=o.uses.length)|none=>false
   else if i.kind=6 then nameB i.name && decide (0≤i.n) && decide (i.n≤(m.args.length:Nat)) && (decide (i.d = -1) || decide (i.d=0)) else true):=by
  have fK:(endB i.kind == last)=true:=by revert he;cases endB i.kind <;> cases last <;> simp
  unfold uA;rw [fK,decide_eq_true hk.1,decide_eq_true hk.2];try rfl
theorem rminsE(tc:Tc lo h bt z m nsv psv kv ns ps kvs)(ok:MOK m ns ps)(dX:lo≤n)(cm:CodeM lc h c)(hi:InsM lc h i)(hlc:lc≤n)(last:Bool)(he:¬(1≤i.kind∧i.kind≤11)∨(endB i.kind != last)=true):Ret P 8 26 [ptr bt 0,.agg ⟨vT c⟩,.agg ⟨insC i⟩,.bool last] h n λw h' n'=>w=I64 (sA m ns ps c.slots c.blocks.length i last)∧Tch [] h n h' n':=by
 have o1:=(hi.ar 0).one;have rb:=cm.bl 0;have o2:=rb.one;have sm:=MOK.sml ok;have hcel:=tc.tb.cel;have gz:=tc.tb.hb;have d9:inf<4611686018427387904:=by decide
 have ra:=hi.ar vU;have rp:=tc.tb.rp;have eR:=tc.tb.hl;have jy:=tc.tb.hn;have bad:∀{h2:zB} {n2:Nat},Tch [] h n h2 n2→uA m i last=false→(∃v,Out.ret (I64 22) = .ret v∧(v=I64 (sA m ns ps c.slots c.blocks.length i last)∧Tch [] h n h2 n2)):=λt e=>⟨_,rfl,by unfold sA;rw [if_pos e],t⟩;refine ent λu=>?_
 have hb:uA m i last=false:=by
  cases e:uA m i last with
  | false=>rfl
  | true=>
   rcases he with he|he
   · unfold uA at e;simp at e;omega
   · unfold uA at e;simp at he;simp [he]at e
 rcases he with he|he
 · repeat' first|refine wk ?_|refine cX (λ_=>?_) λ_=>?_|refine zX (uC (hi.tch zA hlc)) ?_|fail
   all_goals exact bad zA hb
 · by_cases hk:1≤i.kind∧i.kind≤11
   · obtain⟨hk1,hk2⟩:=hk;repeat' first|refine wk ?_|refine cX (λ_=>?_) λ_=>?_|refine zX (uC (hi.tch zA hlc)) ?_|fail
     exact bad zA hb
   · repeat' first|refine wk ?_|refine cX (λ_=>?_) λ_=>?_|refine zX (uC (hi.tch zA hlc)) ?_|fail
     all_goals exact bad zA hb
theorem rminsO(tc:Tc lo h bt z m nsv psv kv ns ps kvs)(ok:MOK m ns ps)(dX:lo≤n)(cm:CodeM lc h c)(hi:InsM lc h i)(hlc:lc≤n)(last:Bool)(q3:¬i.kind=3)(q6:¬i.kind=6):Ret P 8 26 [ptr bt 0,.agg ⟨vT c⟩,.agg ⟨insC i⟩,.bool last] h n λw h' n'=>w=I64 (sA m ns ps c.slots c.blocks.length i last)∧Tch [] h n h' n':=by
 have o1:=(hi.ar 0).one;have rb:=cm.bl 0;have o2:=rb.one;have sm:=MOK.sml ok;have hcel:=tc.tb.cel;have gz:=tc.tb.hb;have d9:inf<4611686018427387904:=by decide
 have ra:=hi.ar vU;have rp:=tc.tb.rp;have eR:=tc.tb.hl;have jy:=tc.tb.hn;have bad:∀{h2:zB} {n2:Nat},Tch [] h n h2 n2→uA m i last=false→(∃v,Out.ret (I64 22) = .ret v∧(v=I64 (sA m ns ps c.slots c.blocks.length i last)∧Tch [] h n h2 n2)):=λt e=>⟨_,rfl,by unfold sA;rw [if_pos e],t⟩;by_cases hk:1≤i.kind∧i.kind≤11
 rotate_left
 · exact rminsE tc ok dX cm hi hlc last (.inl hk)
 cases he:(endB i.kind != last) with
 | true=>exact rminsE tc ok dX cm hi hlc last (.inr he)
 | false=>
 refine ent λu=>?_;have fX:=kindB_eq (m:=m) hk he;rw [if_neg q3,if_neg q6]at fX;have fN:=regsR_len fX λo ho=>sm.opu o ho;obtain⟨hk1,hk2⟩:=hk;repeat' first|refine wk ?_|refine cX (λ_=>?_) λ_=>?_|refine zX (uC (hi.tch zA hlc)) ?_|fail
 refine wY (rmregs_ret (hi.tch (show Tch [] h n (hal (hal h n (mkC (vT c) (30+1) 0)) (n+1) (mkC (insC i) (57+1) 0)) (n+1+1) from zA) hlc) (by omega) (λe=>absurd e q3)) ?_
 rintro _ h3 n3 ⟨lv,rfl,hl,t3⟩
 have eH:=t3.le;have fz:Tch [] h n h3 n3:=zA;have cC3:Cel h3 n (30+1) 0 (vT c):=by clear fz;exact zD
 have cI3:Cel h3 (n+1) (57+1) 0 (insC i):=by clear fz;exact zD
 have ol:=hl.row.one;clear t3;by_cases hw:i.kind≤4∨i.kind=11
 · repeat' first|refine wk ?_|refine cX (λ_=>?_) λ_=>?_|fail
   all_goals
    have eW:yP i=[dW i]:=by unfold yP dW;rw [if_pos (by omega),if_pos (by omega)]
    have t4:Tch [] h3 n3 (hal h3 n3 (mkC [I64 (dW i)] 0 0)) (n3+1):=zA;refine ls_app (M:=[dW i]) (hl.tch t4) (by omega) (zL (e:=vU) rfl (by decide)) (Nat.succ_pos _) (by simp only[cQ];omega) ?_;intro v5 h5 n5 rs k5 fm;rw [← eW]at rs;have t5:Tch [] h3 (n+1+1) h5 n5:=⟨by omega,λb hb _=>by rw[k5 b hb];exact t4.2 b (by omega) (by simp)⟩;have t05:Tch [] h n h5 n5:=⟨by omega,λb hb hx=>by rw[t5.2 b (by omega) hx,fz.2 b hb hx]⟩;have cC5:=cC3.tch t5 (by omega) (by simp);have cI5:=cI3.tch t5 (by omega) (by simp);have o5:=rs.one;clear t5 k5 t4 fz cC3 cI3 hl;generalize hL:yQ i++yP i=L at rs
    have ip:L.length≤3:=by rw[← hL,ak];have:=regsW_len i;omega
    have eA:∀f:Int→Bool,(yP i++yQ i).all f=L.all f:=λf=>by rw[← hL,bW,bW,dN]
    repeat' first|refine wk ?_|refine cX (λ_=>?_) λ_=>?_|fail
    refine lpR (λq:Nat=>[(0,ptr bt 0),(5,ptr n 0),(6,ptr (n+1) 0),(9,I64 (-1)),(11,v5),(14,I64 q)]) (λq h' n'=>h'=h5∧n'=n5∧q≤L.length∧∀(j:Nat) r,j<q→L[j]? = some r→inR r ns.length=true) (λq=>L.length - q) 0 ⟨rfl,rfl,am _,λ_ _ hj=>by omega⟩ ?_
    rintro q t h' n' ⟨e1,e2,hq,dZ⟩
    subst e1 e2;by_cases dV:q<L.length
    · have d0:L[q]? = some L[q]:=aa dV;generalize L[q]=r at d0
      have c1:zC h' (sbk v5) (sof v5+q*1)=some (I64 r):=by rw[aP];exact rs.at (by rw[ap,d0];rfl)
      have out:inR r ns.length=false→(∃v,Out.ret (I64 23) = .ret v∧(v=I64 (sA m ns ps c.slots c.blocks.length i last)∧Tch [] h n h' n')):=λhr=>⟨_,rfl,insE_23 fX ((eA _).trans (all_ff d0 hr)),t05⟩;repeat' first|refine wk ?_|refine cX (λ_=>?_) λ_=>?_|fail
      · exact out (by unfold inR;rw [decide_eq_false (by omega)];rfl)
      · exact out (by unfold inR;rw [decide_eq_false (by omega:¬r<ns.length),cn])
      · exact rnd (q+1) ⟨rfl,rfl,by omega,λj r' eV f1=>by
         rcases ai.1 eV with h9|rfl
         · exact dZ j r' h9 f1
         · rw[d0]at f1;cases f1;unfold inR;rw [decide_eq_true (by omega),decide_eq_true (by omega)];rfl⟩
    obtain rfl:q=L.length:=by omega
    have good:(L.all λr=>inR r ns.length)=true:=ay.2 λr hr=>by
     obtain⟨j,hj⟩:=aj.1 hr;exact dZ j r (ab.1 hj).1 hj
    have E:=insE_ok (ps:=ps) (slots:=c.slots) (nb:=c.blocks.length) fX ((eA _).trans good);by_cases h2:i.kind=2
    · first
      | (exfalso;omega;done)
      | skip
      all_goals
       have w2:∀r,r∈L→0≤r∧r.toNat<ps.length∧∃p,ps[r.toNat]? = some p∧widthA ps r=p.width:=λr hr=>by
        have lG:=ay.1 good r hr;unfold inR at lG;obtain⟨g1,g2⟩:=ad.1 lG;have g1:=of_decide_eq_true g1;have g2:=of_decide_eq_true g2;have g3:ps[r.toNat]? = some (ps[r.toNat]'(by omega)):=aa _;exact⟨g1,by omega,_,g3,by unfold widthA;rw [g3]⟩
       obtain⟨a0,a9,p,a1,a2⟩:=w2 i.d (by rw[← hL];exact az.2 (.inr (by unfold yP;rw [if_pos (by omega)];exact bD.2 rfl)));obtain⟨b0,b9,p',b1,b2⟩:=w2 i.a (by rw[← hL];exact az.2 (.inl (by unfold yQ;rw [if_pos (by omega)];exact bD.2 rfl)));have x1:=yN (zK rp a1) (j:=2) rfl;have x2:=yN (zK rp b1) (j:=2) rfl;have lowp:=rp.low (by omega);repeat' first|refine wk ?_|refine cX (λ_=>?_) λ_=>?_|fail
       all_goals exact⟨_,rfl,(by rw[E,if_pos h2,a2,b2];first|rw [if_pos (by omega)]|rw [if_neg (by omega)]),zA⟩
    clear dZ eA good;repeat' first|refine wk ?_|refine cX (λ_=>?_) λ_=>?_|fail
    all_goals first
     | exact⟨_,rfl,(by rw[E];(repeat first|rw [if_pos (by omega)]|rw [if_neg (by omega)]);done),zA⟩
 · have eW:yP i=[]:=by unfold yP;rw [if_neg (by omega)]
   have rs:Row n3 h3 lv vU 1 (yQ i++yP i).length ((yQ i++yP i).map I64):=by rw[eW,bK];exact hl.row
   have t05:=fz;generalize hL:yQ i++yP i=L at rs
   have ip:L.length≤3:=by rw[← hL,ak];have:=regsW_len i;omega
   have eA:∀f:Int→Bool,(yP i++yQ i).all f=L.all f:=λf=>by rw[← hL,bW,bW,dN]
   repeat' first|refine wk ?_|refine cX (λ_=>?_) λ_=>?_|fail
   refine lpR (λq:Nat=>[(0,ptr bt 0),(5,ptr n 0),(6,ptr (n+1) 0),(9,I64 (-1)),(11,lv),(14,I64 q)]) (λq h' n'=>h'=h3∧n'=n3∧q≤L.length∧∀(j:Nat) r,j<q→L[j]? = some r→inR r ns.length=true) (λq=>L.length - q) 0 ⟨rfl,rfl,am _,λ_ _ hj=>by omega⟩ ?_
   rintro q t h' n' ⟨e1,e2,hq,dZ⟩
   subst e1 e2;by_cases dV:q<L.length
   · have d0:L[q]? = some L[q]:=aa dV;generalize L[q]=r at d0
     have c1:zC h' (sbk lv) (sof lv+q*1)=some (I64 r):=by rw[aP];exact rs.at (by rw[ap,d0];rfl)
     have out:inR r ns.length=false→(∃v,Out.ret (I64 23) = .ret v∧(v=I64 (sA m ns ps c.slots c.blocks.length i last)∧Tch [] h n h' n')):=λhr=>⟨_,rfl,insE_23 fX ((eA _).trans (all_ff d0 hr)),t05⟩;repeat' first|refine wk ?_|refine cX (λ_=>?_) λ_=>?_|fail
     · exact out (by unfold inR;rw [decide_eq_false (by omega)];rfl)
     · exact out (by unfold inR;rw [decide_eq_false (by omega:¬r<ns.length),cn])
     · exact rnd (q+1) ⟨rfl,rfl,by omega,λj r' eV f1=>by
        rcases ai.1 eV with h9|rfl
        · exact dZ j r' h9 f1
        · rw[d0]at f1;cases f1;unfold inR;rw [decide_eq_true (by omega),decide_eq_true (by omega)];rfl⟩
   obtain rfl:q=L.length:=by omega
   have good:(L.all λr=>inR r ns.length)=true:=ay.2 λr hr=>by
    obtain⟨j,hj⟩:=aj.1 hr;exact dZ j r (ab.1 hj).1 hj
   have E:=insE_ok (ps:=ps) (slots:=c.slots) (nb:=c.blocks.length) fX ((eA _).trans good);clear dZ eA good;repeat' first|refine wk ?_|refine cX (λ_=>?_) λ_=>?_|fail
   all_goals first
    | exact⟨_,rfl,(by rw[E];(repeat first|rw [if_pos (by omega)]|rw [if_neg (by omega)]);done),zA⟩
end
section
variable {n lo lc bt z:Nat} {h:zB} {m:MachT} {nsv psv kv:Value} {ns:List Tx} {ps:List Pl} {kvs:List Value} {c:CodeT} {i:InsT}
theorem rmins3(tc:Tc lo h bt z m nsv psv kv ns ps kvs)(ok:MOK m ns ps)(dX:lo≤n)(cm:CodeM lc h c)(hi:InsM lc h i)(hlc:lc≤n)(last:Bool)(q3:i.kind=3)(hk:1≤i.kind∧i.kind≤11)(he:(endB i.kind != last)=false):Ret P 8 26 [ptr bt 0,.agg ⟨vT c⟩,.agg ⟨insC i⟩,.bool last] h n λw h' n'=>w=I64 (sA m ns ps c.slots c.blocks.length i last)∧Tch [] h n h' n':=by
 have o1:=(hi.ar 0).one;have rb:=cm.bl 0;have o2:=rb.one;have sm:=MOK.sml ok;have hcel:=tc.tb.cel;have gz:=tc.tb.hb;have d9:inf<4611686018427387904:=by decide
 have ra:=hi.ar vU;have rp:=tc.tb.rp;have eR:=tc.tb.hl;have jy:=tc.tb.hn;have bad:∀{h2:zB} {n2:Nat},Tch [] h n h2 n2→uA m i last=false→(∃v,Out.ret (I64 22) = .ret v∧(v=I64 (sA m ns ps c.slots c.blocks.length i last)∧Tch [] h n h2 n2)):=λt e=>⟨_,rfl,by unfold sA;rw [if_pos e],t⟩;refine ent λu=>?_;have rr:=tc.tb.mm.ops 0;have gu:=tc.tb.mm.ops.lt;have hK:=kindB_eq (m:=m) hk he;rw [if_pos q3]at hK;have q6:¬i.kind=6:=by omega
 rcases posF_cases (λo:OpT=>decide (o.name=i.name)) m.ops with⟨f1,f2⟩|⟨j,op,f1,f2,f3,f4,f5⟩
 · have hK:=hK.trans (by rw[show opAt m i.name=none from f1]);repeat' first|refine wk ?_|refine cX (λ_=>?_) λ_=>?_|refine zX (uC (hi.tch zA hlc)) ?_|(refine zX (ropof_pur (tc.tb.tch zA dX) _) ?_;rw [f2])|fail
   exact bad zA hK
 · have f1:opAt m i.name=some op:=f1;have hK:uA m i last=decide (i.args.length=op.uses.length):=hK.trans (by rw[f1]);have c0:=zK rr f2;have c3:=yN c0 (j:=3) rfl;have eU:=ah f2;have ru:=tc.tb.mm.opsu op eU 0;have qu:=ru.one;have low:=rr.low (by omega);by_cases ej:i.args.length=op.uses.length
   rotate_left
   · repeat' first|refine wk ?_|refine cX (λ_=>?_) λ_=>?_|refine zX (uC (hi.tch zA hlc)) ?_|(refine zX (ropof_pur (tc.tb.tch zA dX) _) ?_;rw [f3])|fail
     exact bad zA (hK.trans (decide_eq_false ej))
   have fX:=hK.trans (decide_eq_true ej);have fN:=regsR_len fX λo ho=>sm.opu o ho;have hu:=sm.opu op eU;obtain⟨hk1,hk2⟩:=hk;repeat' first|refine wk ?_|refine cX (λ_=>?_) λ_=>?_|refine zX (uC (hi.tch zA hlc)) ?_|(refine zX (ropof_pur (tc.tb.tch zA dX) _) ?_;rw [f3])|fail
   refine wY (rmregs_ret (hi.tch (show Tch [] h n (hal (hal h n (mkC (vT c) (30+1) 0)) (n+1) (mkC (insC i) (57+1) 0)) (n+1+1) from zA) hlc) (by omega) (λ_=>by omega)) ?_
   rintro _ h3 n3 ⟨lv,rfl,hl,t3⟩
   have eH:=t3.le;have fz:Tch [] h n h3 n3:=zA;have cC3:Cel h3 n (30+1) 0 (vT c):=by clear fz;exact zD
   have cI3:Cel h3 (n+1) (57+1) 0 (insC i):=by clear fz;exact zD
   have ol:=hl.row.one;clear t3;repeat' first|refine wk ?_|refine cX (λ_=>?_) λ_=>?_|fail
   have eW:yP i=[dW i]:=by unfold yP dW;rw [if_pos (by omega),if_pos (by omega)]
   have t4:Tch [] h3 n3 (hal h3 n3 (mkC [I64 (dW i)] 0 0)) (n3+1):=zA;refine ls_app (M:=[dW i]) (hl.tch t4) (by omega) (zL (e:=vU) rfl (by decide)) (Nat.succ_pos _) (by simp only[cQ];omega) ?_;intro v5 h5 n5 rs k5 fm;rw [← eW]at rs;have t5:Tch [] h3 (n+1+1) h5 n5:=⟨by omega,λb hb _=>by rw[k5 b hb];exact t4.2 b (by omega) (by simp)⟩;have t05:Tch [] h n h5 n5:=⟨by omega,λb hb hx=>by rw[t5.2 b (by omega) hx,fz.2 b hb hx]⟩;have cC5:=cC3.tch t5 (by omega) (by simp);have cI5:=cI3.tch t5 (by omega) (by simp);have o5:=rs.one;clear t5 k5 t4 fz cC3 cI3 hl;generalize hL:yQ i++yP i=L at rs
   have ip:L.length≤3:=by rw[← hL,ak];have:=regsW_len i;omega
   have eA:∀f:Int→Bool,(yP i++yQ i).all f=L.all f:=λf=>by rw[← hL,bW,bW,dN]
   repeat' first|refine wk ?_|refine cX (λ_=>?_) λ_=>?_|fail
   refine lpR (λq:Nat=>[(0,ptr bt 0),(5,ptr n 0),(6,ptr (n+1) 0),(9,I64 ((j:Nat):Int)),(11,v5),(14,I64 q)]) (λq h' n'=>h'=h5∧n'=n5∧q≤L.length∧∀(j:Nat) r,j<q→L[j]? = some r→inR r ns.length=true) (λq=>L.length - q) 0 ⟨rfl,rfl,am _,λ_ _ hj=>by omega⟩ ?_
   rintro q t h' n' ⟨e1,e2,hq,dZ⟩
   subst e1 e2;by_cases dV:q<L.length
   · have d0:L[q]? = some L[q]:=aa dV;generalize L[q]=r at d0
     have c1:zC h' (sbk v5) (sof v5+q*1)=some (I64 r):=by rw[aP];exact rs.at (by rw[ap,d0];rfl)
     have out:inR r ns.length=false→(∃v,Out.ret (I64 23) = .ret v∧(v=I64 (sA m ns ps c.slots c.blocks.length i last)∧Tch [] h n h' n')):=λhr=>⟨_,rfl,insE_23 fX ((eA _).trans (all_ff d0 hr)),t05⟩;repeat' first|refine wk ?_|refine cX (λ_=>?_) λ_=>?_|fail
     · exact out (by unfold inR;rw [decide_eq_false (by omega)];rfl)
     · exact out (by unfold inR;rw [decide_eq_false (by omega:¬r<ns.length),cn])
     · exact rnd (q+1) ⟨rfl,rfl,by omega,λj r' eV f1=>by
        rcases ai.1 eV with h9|rfl
        · exact dZ j r' h9 f1
        · rw[d0]at f1;cases f1;unfold inR;rw [decide_eq_true (by omega),decide_eq_true (by omega)];rfl⟩
   obtain rfl:q=L.length:=by omega
   have good:(L.all λr=>inR r ns.length)=true:=ay.2 λr hr=>by
    obtain⟨j,hj⟩:=aj.1 hr;exact dZ j r (ab.1 hj).1 hj
   have E:=insE_ok (ps:=ps) (slots:=c.slots) (nb:=c.blocks.length) fX ((eA _).trans good);have E3:sA m ns ps c.slots c.blocks.length i last=if opsB m ns ps i op then 0 else 23:=by rw[E,if_neg (by omega),if_pos q3,f1]
   have y0:opsB m ns ps i op=true→(∃v,Out.ret (I64 0) = .ret v∧(v=I64 (sA m ns ps c.slots c.blocks.length i last)∧Tch [] h n h' n')):=λz=>⟨_,rfl,by rw[E3,if_pos z],t05⟩;have n0:opsB m ns ps i op=false→(∃v,Out.ret (I64 23) = .ret v∧(v=I64 (sA m ns ps c.slots c.blocks.length i last)∧Tch [] h n h' n')):=λz=>⟨_,rfl,by rw[E3,if_neg (by rw[z];exact aM)],t05⟩;clear E eA good dZ bad hK;have hcb:ClobLe m:=λk o ho=>by have:=sm.opc o (ah ho);omega
   have tc5:=tc.tch t05 dX;have ra5:=ra.tch t05 hlc λ_ _ hx=>by cases hx
   have rr5:=tc5.tb.mm.ops 0;have c4:=yN (zK rr5 f2) (j:=4) rfl;have c35:=yN (zK rr5 f2) (j:=3) rfl;have hn05:=t05.le;have mi:=(MOK.oo ok op eU).1;have tl:=mi.2.2.2.1;have th:=mi.2.2.2.2.1;have em:(decide (i.d∈sL m ns op.d) && clrN ns ps op i.d)=mayB m ns ps op 0 op.d i.d:=by unfold mayB;simp
   repeat' first|refine wk ?_|refine cX (λ_=>?_) λ_=>?_|fail
   refine zX (rmay0_pur tc5 (by omega) hcb f2 i.d) ?_;rw [em];generalize fx:mayB m ns ps op 0 op.d i.d=b0
   repeat' first|refine wk ?_|refine cX (λ_=>?_) λ_=>?_|fail
   have hN0:b0=false→opsB m ns ps i op=false:=λe=>by unfold opsB;rw [fx,e];rfl
   refine lpR (α :=Nat×Bool) (λp=>[(0,ptr bt 0),(6,ptr (n+1) 0),(9,I64 j),(15,.bool p.2),(16,I64 p.1)]) (λp h2 n2=>h2=h'∧n2=n'∧p.1≤i.args.length∧(p.2=true→b0=true∧∀(j':Nat) a x,j'<p.1→i.args[j']? = some a→op.uses[j']? = some x→mayB m ns ps op 1 x a=true)∧(p.2=false→opsB m ns ps i op=false)) (λp=>i.args.length - p.1) (0,b0) ⟨rfl,rfl,am _,λe=>⟨e,λ_ _ _ hj=>absurd hj (aD _)⟩,hN0⟩ ?_
   rintro ⟨q,bq⟩ t h2 n2 ⟨e1,e2,hq,hY,hN⟩
   dsimp only at hq hY hN ⊢;subst e1 e2
   cases bq with
   | false=>
    have z:=hN rfl;repeat' first|refine wk ?_|refine cX (λ_=>?_) λ_=>?_|fail
    all_goals exact n0 z
   | true=>
   obtain⟨fF,dZ⟩:=hY rfl;subst fF;by_cases dV:q<i.args.length
   · have d0:i.args[q]? = some i.args[q]:=aa dV;have d1:op.uses[q]? = some op.uses[q]:=aa (by omega);generalize i.args[q]=a at d0
     generalize op.uses[q]=x at d1
     have c1:zC h2 (sbk i.av) (sof i.av+q*1)=some (I64 a):=by rw[aP];exact ra5.at (by rw[ap,d0];rfl)
     have ek:decide (a∈sL m ns x)=mayB m ns ps op 1 x a:=by unfold mayB;simp
     repeat' first|refine wk ?_|refine cX (λ_=>?_) λ_=>?_|refine zX (rmayK_pur tc5 (by omega) f2 d1 hu a) ?_|fail
     exact rnd (q+1,decide (a∈sL m ns x)) ⟨rfl,rfl,by dsimp only;omega,λe=>⟨rfl,λj' a' x' eV f1 f2=>by
      rcases ai.1 eV with h9|rfl
      · exact dZ j' a' x' h9 f1 f2
      · rw[d0]at f1;rw [d1]at f2;cases f1;cases f2;rw [← ek];exact e⟩,λe=>by unfold opsB;rw [zip_no d0 d1 (by rw[← ek];exact e)];simp⟩
   · obtain rfl:q=i.args.length:=by omega
     have zz:((i.args.zip op.uses).all λp=>mayB m ns ps op 1 p.2 p.1)=true:=zip_all ej λj' a x f1 f2=>dZ j' a x (ab.1 f1).1 f1 f2;clear dZ hN hY;by_cases h0:op.tie<0
     · repeat' first|refine wk ?_|refine cX (λ_=>?_) λ_=>?_|fail
       exact y0 (by unfold opsB;rw [fx,zz,decide_eq_true h0];rfl)
     · have jZ:op.tie.toNat<i.args.length:=by omega
       have d0:i.args[op.tie.toNat]? = some i.args[op.tie.toNat]:=aa jZ;generalize i.args[op.tie.toNat]=a at d0
       have c1:zC h2 (sbk i.av) (sof i.av+op.tie.toNat*1)=some (I64 a):=by rw[aP];exact ra5.at (by rw[ap,d0];rfl)
       repeat' first|refine wk ?_|refine cX (λ_=>?_) λ_=>?_|fail
       · rename_i g1;exact n0 (by unfold opsB;rw [fx,zz,d0,decide_eq_false h0,decide_eq_false (λe=>g1 (Option.some.inj e))];rfl)
       · rename_i g1;exact y0 (by unfold opsB;rw [fx,zz,d0,decide_eq_true (congrArg some (ci.1 g1))];simp)
end
section
variable {n lo lc bt z:Nat} {h:zB} {m:MachT} {nsv psv kv:Value} {ns:List Tx} {ps:List Pl} {kvs:List Value} {c:CodeT} {i:InsT}
theorem rmins6(tc:Tc lo h bt z m nsv psv kv ns ps kvs)(ok:MOK m ns ps)(dX:lo≤n)(cm:CodeM lc h c)(hi:InsM lc h i)(hlc:lc≤n)(last:Bool)(q6:i.kind=6)(he:(endB i.kind != last)=false):Ret P 8 26 [ptr bt 0,.agg ⟨vT c⟩,.agg ⟨insC i⟩,.bool last] h n λw h' n'=>w=I64 (sA m ns ps c.slots c.blocks.length i last)∧Tch [] h n h' n':=by
 have o1:=(hi.ar 0).one;have rb:=cm.bl 0;have o2:=rb.one;have sm:=MOK.sml ok;have hcel:=tc.tb.cel;have gz:=tc.tb.hb;have d9:inf<4611686018427387904:=by decide
 have ra:=hi.ar vU;have rp:=tc.tb.rp;have eR:=tc.tb.hl;have jy:=tc.tb.hn;have bad:∀{h2:zB} {n2:Nat},Tch [] h n h2 n2→uA m i last=false→(∃v,Out.ret (I64 22) = .ret v∧(v=I64 (sA m ns ps c.slots c.blocks.length i last)∧Tch [] h n h2 n2)):=λt e=>⟨_,rfl,by unfold sA;rw [if_pos e],t⟩;refine ent λu=>?_;have hma:m.args.length≤200:=sm.args
 have kN:(uQ ns m.args).length=m.args.length:=by
  rw[sK λx hx=>by obtain⟨j,hj⟩:=aj.1 hx;exact(ok.conv.1.2 j x hj).1,aE]
 have q3:¬i.kind=3:=by omega
 have hK:=kindB_eq (m:=m) (i:=i) ⟨by omega,by omega⟩ he;rw [if_neg q3,if_pos q6]at hK
 cases fX:uA m i last with
 | false=>
  repeat' first|refine wk ?_|refine cX (λ_=>?_) λ_=>?_|refine zX (uC (hi.tch zA hlc)) ?_|(refine wY (rargs_ret (tc.tb.tch zA dX) (by omega) (by omega)) ?_;rintro w2 h2 n2 ⟨rw2,ht2⟩;have hn2:=ht2.le;have ow2:=rw2.one)|fail
  all_goals first|exact bad zA fX|(exfalso;rw [fX]at hK;simp [*]at hK;omega)
 | true =>
  have fN:=regsR_len fX λo ho=>sm.opu o ho;have iv:=hK;rw [fX]at iv;have ep:nameB i.name=true:=by revert iv;cases nameB i.name <;> simp
  have lr:0≤i.n∧i.n≤(m.args.length:Nat)∧(i.d = -1∨i.d=0):=by rw[ep]at iv;simp at iv;exact⟨iv.1.1,iv.1.2,iv.2⟩
  obtain⟨g1,g2,g3⟩:=lr;clear hK iv;repeat' first|refine wk ?_|refine cX (λ_=>?_) λ_=>?_|refine zX (uC (hi.tch zA hlc)) ?_|(refine wY (rargs_ret (tc.tb.tch zA dX) (by omega) (by omega)) ?_;rintro w2 h2 n2 ⟨rw2,ht2⟩;have hn2:=ht2.le;have ow2:=rw2.one)|fail
  all_goals
   refine wY (rmregs_ret (hi.tch (Tch.tch ht2 (show Tch [] h n _ _ from zA) (by simp)) hlc) (by omega) (λe=>absurd e q3)) ?_
   rintro _ h3 n3 ⟨lv,rfl,hl,t3⟩
   have eH:=t3.le;have fz:Tch [] h n h3 n3:=zA;have cC3:Cel h3 n (30+1) 0 (vT c):=by clear fz;exact zD
   have cI3:Cel h3 (n+1) (57+1) 0 (insC i):=by clear fz;exact zD
   have ol:=hl.row.one;clear t3;have eW:yP i=[]:=by unfold yP;rw [if_neg (by omega)]
   have rs:Row n3 h3 lv vU 1 (yQ i++yP i).length ((yQ i++yP i).map I64):=by rw[eW,bK];exact hl.row
   have t05:=fz;generalize hL:yQ i++yP i=L at rs
   have ip:L.length≤3:=by rw[← hL,ak];have:=regsW_len i;omega
   have eA:∀f:Int→Bool,(yP i++yQ i).all f=L.all f:=λf=>by rw[← hL,bW,bW,dN]
   repeat' first|refine wk ?_|refine cX (λ_=>?_) λ_=>?_|fail
   refine lpR (λq:Nat=>[(0,ptr bt 0),(5,ptr n 0),(6,ptr (n+1) 0),(9,I64 (-1)),(11,lv),(14,I64 q)]) (λq h' n'=>h'=h3∧n'=n3∧q≤L.length∧∀(j:Nat) r,j<q→L[j]? = some r→inR r ns.length=true) (λq=>L.length - q) 0 ⟨rfl,rfl,am _,λ_ _ hj=>by omega⟩ ?_
   rintro q t h' n' ⟨e1,e2,hq,dZ⟩
   subst e1 e2;by_cases dV:q<L.length
   · have d0:L[q]? = some L[q]:=aa dV;generalize L[q]=r at d0
     have c1:zC h' (sbk lv) (sof lv+q*1)=some (I64 r):=by rw[aP];exact rs.at (by rw[ap,d0];rfl)
     have out:inR r ns.length=false→(∃v,Out.ret (I64 23) = .ret v∧(v=I64 (sA m ns ps c.slots c.blocks.length i last)∧Tch [] h n h' n')):=λhr=>⟨_,rfl,insE_23 fX ((eA _).trans (all_ff d0 hr)),t05⟩;repeat' first|refine wk ?_|refine cX (λ_=>?_) λ_=>?_|fail
     · exact out (by unfold inR;rw [decide_eq_false (by omega)];rfl)
     · exact out (by unfold inR;rw [decide_eq_false (by omega:¬r<ns.length),cn])
     · exact rnd (q+1) ⟨rfl,rfl,by omega,λj r' eV f1=>by
        rcases ai.1 eV with h9|rfl
        · exact dZ j r' h9 f1
        · rw[d0]at f1;cases f1;unfold inR;rw [decide_eq_true (by omega),decide_eq_true (by omega)];rfl⟩
   obtain rfl:q=L.length:=by omega
   have good:(L.all λr=>inR r ns.length)=true:=ay.2 λr hr=>by
    obtain⟨j,hj⟩:=aj.1 hr;exact dZ j r (ab.1 hj).1 hj
   have E:=insE_ok (ps:=ps) (slots:=c.slots) (nb:=c.blocks.length) fX ((eA _).trans good);clear dZ eA good;repeat' first|refine wk ?_|refine cX (λ_=>?_) λ_=>?_|fail
   all_goals first
    | exact⟨_,rfl,(by rw[E];(repeat first|rw [if_pos (by omega)]|rw [if_neg (by omega)]);done),zA⟩
theorem rmins_ret(tc:Tc lo h bt z m nsv psv kv ns ps kvs)(ok:MOK m ns ps)(dX:lo≤n)(cm:CodeM lc h c)(hi:InsM lc h i)(hlc:lc≤n)(last:Bool):Ret P 8 26 [ptr bt 0,.agg ⟨vT c⟩,.agg ⟨insC i⟩,.bool last] h n λw h' n'=>w=I64 (sA m ns ps c.slots c.blocks.length i last)∧Tch [] h n h' n':=by
 by_cases q3:i.kind=3
 · cases he:(endB i.kind != last) with
   | false=>exact rmins3 tc ok dX cm hi hlc last q3 ⟨by omega,by omega⟩ he
   | true=>exact rminsE tc ok dX cm hi hlc last (.inr he)
 by_cases q6:i.kind=6
 · cases he:(endB i.kind != last) with
   | false=>exact rmins6 tc ok dX cm hi hlc last q6 he
   | true=>exact rminsE tc ok dX cm hi hlc last (.inr he)
 · exact rminsO tc ok dX cm hi hlc last q3 q6
end
section
variable {n lo lc bt z:Nat} {h:zB} {m:MachT} {nsv psv kv:Value} {ns:List Tx} {ps:List Pl} {kvs:List Value} {c:CodeT}
theorem rcheck_nil(cm:CodeM lc h c):Ret P 8 10 [.pointer none,.agg ⟨vT c⟩] h n λw h' n'=>w = .tuple ⟨[I64 0,I64 0,I64 1]⟩∧Tch [] h n h' n':=by
 have o1:=(cm.bl 0).one;refine ent λu=>?_;repeat' first|refine wk ?_|refine cX (λ_=>?_) λ_=>?_|fail
 exact⟨_,rfl,rfl,zA⟩
theorem rcheck_ret(tc:Tc lo h bt z m nsv psv kv ns ps kvs)(ok:MOK m ns ps)(dX:lo≤n)(cm:CodeM lc h c)(hlc:lc≤n) :
 Ret P 8 10 [ptr bt 0,.agg ⟨vT c⟩] h n λw h' n'=>∃b k e,w = .tuple ⟨[I64 b,I64 k,I64 e]⟩∧CodeE m ns ps c b k e∧Tch [] h n h' n':=by
 have o1:=(cm.bl 0).one;have rb0:=cm.bl 0;have gz:=tc.tb.hb;have hcel:=tc.tb.cel;have out:∀{b k e:Int} {h':zB} {n':Nat},CodeE m ns ps c b k e→Tch [] h n h' n'→(∃v,Out.ret (.tuple ⟨[I64 b,I64 k,I64 e]⟩) = .ret v∧∃b k e,v = .tuple ⟨[I64 b,I64 k,I64 e]⟩∧CodeE m ns ps c b k e∧Tch [] h n h' n'):=λx t=>⟨_,rfl,_,_,_,rfl,x,t⟩;refine ent λu=>?_;by_cases h200:c.blocks.length≤200
 rotate_left
 · repeat' first|refine wk ?_|refine cX (λ_=>?_) λ_=>?_|fail
   exact out (.inl ⟨by omega,rfl,rfl,rfl⟩) zA
 cases ep:nameB c.name with
 | false=>
  repeat' first|refine wk ?_|refine cX (λ_=>?_) λ_=>?_|fail
  exact out (.inr ⟨h200,.inl ⟨ep,rfl,rfl,rfl⟩⟩) zA
 | true=>
 by_cases hsl:0≤c.slots∧c.slots≤m.slots
 rotate_left
 · repeat' first|refine wk ?_|refine cX (λ_=>?_) λ_=>?_|fail
   all_goals exact out (.inr ⟨h200,.inr ⟨ep,.inl ⟨hsl,rfl,rfl,rfl⟩⟩⟩) zA
 obtain⟨hs0,fJ⟩:=hsl;by_cases fF:0<c.blocks.length
 rotate_left
 · repeat' first|refine wk ?_|refine cX (λ_=>?_) λ_=>?_|fail
   exact out (.inr ⟨h200,.inr ⟨ep,.inr ⟨⟨hs0,fJ⟩,.inl ⟨by omega,rfl,rfl,rfl⟩⟩⟩⟩) zA
 repeat' first|refine wk ?_|refine cX (λ_=>?_) λ_=>?_|fail
 refine lpR (λi:Nat=>[(0,ptr bt 0),(3,ptr n 0),(8,I64 i)])
  (λi h' n'=>Tch [] h n h' n'∧n+1≤n'∧Cel h' n (30+1) 0 (vT c)∧i≤c.blocks.length∧∀(j:Nat) x,j<i→c.blocks[j]? = some x→BlkOK m ns ps c x.2) (λi=>c.blocks.length - i) 0
  ⟨zA,by omega,zD,am _,λ_ _ hj=>by omega⟩ ?_
 rintro i t h2 n2 ⟨t2,hn2,cC,hi,dZ⟩
 have cm2:=cm.tch t2 hlc;have rb2:=cm2.bl 0;by_cases dV:i<c.blocks.length
 · have d0:c.blocks[i]? = some c.blocks[i]:=aa dV;generalize c.blocks[i]=x at d0
   have hx:=ah d0;obtain⟨rxI,gA⟩:=cm2.el x hx;have ie:=cm.ins x hx;obtain⟨xv,xl⟩:=x;dsimp only at rxI gA ie;have rx:=rxI 0;have ox:=rx.one;have d1:zC h2 (sbk c.bv) (sof c.bv+i*1)=some xv:=by rw[aP];exact rb2.at (by rw[ap,d0];rfl)
   have R:∀{b k e:Int},(b=(i:Nat)∧((¬(1≤xl.length∧xl.length≤25600)∧k=0∧e=20)∨((1≤xl.length∧xl.length≤25600)∧∃(q:Nat) (i:InsT),xl[q]? = some i∧
    (∀(q':Nat) i',q'<q→xl[q']? = some i'→sA m ns ps c.slots c.blocks.length i' (decide (q'=xl.length - 1))=0)∧k=(q:Nat)∧e=sA m ns ps c.slots c.blocks.length i (decide (q=xl.length - 1))∧e≠0)))→CodeE m ns ps c b k e:=λhz=>.inr ⟨h200,.inr ⟨ep,.inr ⟨⟨hs0,fJ⟩,.inr ⟨fF,.inr ⟨i,(xv,xl),d0,dZ,hz.1,hz.2⟩⟩⟩⟩⟩
   by_cases jm:1≤xl.length∧xl.length≤25600
   rotate_left
   · repeat' first|refine wk ?_|refine cX (λ_=>?_) λ_=>?_|fail
     all_goals exact out (R ⟨rfl,.inl ⟨jm,rfl,rfl⟩⟩) zA
   · obtain⟨gG,fi⟩:=jm;repeat' first|refine wk ?_|refine cX (λ_=>?_) λ_=>?_|fail
     refine lpR (λq:Nat=>[(0,ptr bt 0),(3,ptr n 0),(8,I64 i),(9,I64 xl.length),(10,I64 q)])
      (λq h' n'=>Tch [] h n h' n'∧n+1≤n'∧Cel h' n (30+1) 0 (vT c)∧q≤xl.length∧∀(q':Nat) y,q'<q→xl[q']? = some y→sA m ns ps c.slots c.blocks.length y (decide (q'=xl.length - 1))=0) (λq=>xl.length - q) 0
      ⟨zA,by omega,zD,am _,λ_ _ hj=>by omega⟩ ?_
     clear cC rx rb2 cm2 d1
     rintro q t h3 n3 ⟨t3,eH,cC,hq,hall2⟩
     have cm3:=cm.tch t3 hlc;have lC:=(cm3.el (xv,xl) hx).1 0;dsimp only at lC;have rb3:=cm3.bl 0;have d1:zC h3 (sbk c.bv) (sof c.bv+i*1)=some xv:=by rw[aP];exact rb3.at (by rw[ap,d0];rfl)
     by_cases d5:q<xl.length
     · have f0:xl[q]? = some xl[q]:=aa d5;generalize xl[q]=y at f0
       have c3:=zK lC f0;have hy:=ie y (ah f0);have oy:=(hy.ar 0).one;have el:decide ((q:Int)=(xl.length:Int) - 1)=decide (q=xl.length - 1):=decide_eq_decide.2 (by omega);repeat' first|refine wk ?_|refine cX (λ_=>?_) λ_=>?_|fail
       refine wY (rmins_ret (tc.tch t3 dX) ok (by omega) cm3 (hy.tch t3 hlc) (by omega) _) ?_
       rintro _ h4 n4 ⟨rfl,t4⟩
       have fL:=t4.le;have cC4:Cel h4 n (30+1) 0 (vT c):=zD;have gN:Tch [] h n h4 n4:=zA;rw [el];clear t4;repeat' first|refine wk ?_|refine cX (λ_=>?_) λ_=>?_|fail
       · rename_i e;exact out (R ⟨rfl,.inr ⟨⟨gG,fi⟩,q,y,f0,hall2,rfl,rfl,e⟩⟩) gN
       · rename_i e
         exact rnd (q+1) ⟨gN,by omega,cC4,by omega,λq' y' hq' f1=>by
          rcases ai.1 hq' with h9|rfl
          · exact hall2 q' y' h9 f1
          · rw[f0]at f1;cases f1;exact ci.1 e⟩
     · obtain rfl:q=xl.length:=by omega
       repeat' first|refine wk ?_|refine cX (λ_=>?_) λ_=>?_|fail
       exact rnd (i+1) ⟨t3,eH,cC,by omega,λj x' hj f1=>by
        rcases ai.1 hj with h9|rfl
        · exact dZ j x' h9 f1
        · rw[d0]at f1;cases f1;exact⟨⟨gG,fi⟩,λq y f2=>hall2 q y (ab.1 f2).1 f2⟩⟩
 · obtain rfl:i=c.blocks.length:=by omega
   repeat' first|refine wk ?_|refine cX (λ_=>?_) λ_=>?_|fail
   exact out (.inr ⟨h200,.inr ⟨ep,.inr ⟨⟨hs0,fJ⟩,.inr ⟨fF,.inl ⟨λj x f1=>dZ j x (ab.1 f1).1 f1,rfl,rfl,rfl⟩⟩⟩⟩⟩) zA
end
end Go.Proofs.YtmccnilgnlaffaaGreatDoor
