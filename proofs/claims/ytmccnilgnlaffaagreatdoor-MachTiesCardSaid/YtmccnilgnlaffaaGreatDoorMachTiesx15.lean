/- What the law leans on: an executor of the model that is sound, deduction over it, and the walks through the code (part 15 of 18). Conditions: those that each theorem states. -/
import Derived.Test.YtmccnilgnlaffaaGreatDoorMachTiesx14

set_option linter.unusedVariables false
set_option linter.unusedSimpArgs false
namespace Go.Proofs.YtmccnilgnlaffaaGreatDoor
open Go Go.Ex Go.Ex.M
set_option maxRecDepth 100000
set_option maxHeartbeats 8000000
theorem zat_pur{lo e n:Nat}{h:zB}{sv:Value}{ws:List Nat}(r:Row lo h sv e 1 ws.length (ws.map U64))(i:Nat):Pur P 8 183 [sv,I64 (i:Nat)] h n (U64 ((ws[i]?).getD 0)):=by
 refine ent fun u=>?_;by_cases hlt:i<ws.length
 · have c0:ws[i]? = some ws[i]:=List.getElem?_eq_getElem hlt;generalize ws[i]=w at c0
   have c1:zC h (sbk sv) (sof sv+i*1)=some (U64 w):=by rw[Nat.mul_one];exact r.at (u_at c0)
   repeat' first|refine wk ?_|refine cX (fun _=>?_) fun _=>?_|fail
   exact fin (by rw[c0];rfl)
 · repeat' first|refine wk ?_|refine cX (fun _=>?_) fun _=>?_|fail
   exact fin (by rw[List.getElem?_eq_none (by omega)];rfl)
theorem sub1_pur{x y n:Nat}{h:zB}(hx:x<18446744073709551616)(hy:y<18446744073709551616):Pur P 8 143 [U64 x,U64 y] h n (U64 (x ^^^ (x &&& y))):=by
 refine ent fun u=>?_;repeat' first|refine wk ?_|refine cX (fun _=>?_) fun _=>?_|fail
 exact fin rfl
theorem zsub_ret{lo e n:Nat}{h:zB}{av bv:Value}{a b:List Nat}(ra:Row lo h av e 1 a.length (a.map U64))(rb:Row lo h bv e 1 b.length (b.map U64))(hlo:lo≤n)(ha:∀w∈a,w<18446744073709551616)(hb:∀w∈b,w<18446744073709551616)(hal:a.length≤1024)(hbl:b.length≤1024):Ret P 8 142 [av,bv,.func (.func 143) ⟨[]⟩ ⟨[]⟩] h n fun v h' n'=>Own n n' h' v tU 1 (subW a b).length ((subW a b).map U64)∧Tch [] h n h' n':=by
 have hm:max a.length b.length≤1024:=by omega
 have el:(subW a b).length=max a.length b.length:=by unfold subW;simp
 have eat:∀i,i<max a.length b.length→(subW a b)[i]? = some ((a[i]?).getD 0 ^^^ ((a[i]?).getD 0 &&& (b[i]?).getD 0)):=fun i hi=>by unfold subW;rw [List.getElem?_map,List.getElem?_range hi];rfl
 refine ent fun u=>?_;repeat' first|refine wk ?_|refine cX (fun _=>?_) fun _=>?_|refine ob (a:=some (I64 ((max a.length b.length:Nat):Int))) ?_ max_q|fail
 generalize max a.length b.length=M at *
 refine lpR (α :=Nat×Value) (fun q=>[(0,av),(1,bv),(2,.func (.func 143) ⟨[]⟩ ⟨[]⟩),(7,.func (.func 183) ⟨[]⟩ ⟨[]⟩),(8,q.2),(14,I64 M),(15,I64 q.1)]) (fun q h' n'=>Tch [] h n h' n'∧q.1≤M∧Own n n' h' q.2 tU 1 q.1 (((subW a b).take q.1).map U64)) (fun q=>M - q.1) (0,.slice none 0 0) ⟨zA,Nat.zero_le _,Own.nil⟩ ?_
 rintro ⟨i,ov⟩ t h' n' ⟨ht,hi,ho⟩
 dsimp only at hi ho ⊢;have hn':=ht.le;have ra':=ra.tch ht hlo fun _ _ hx=>(by cases hx);have rb':=rb.tch ht hlo fun _ _ hx=>(by cases hx);by_cases hlt:i<M
 · have c0:=eat i hlt;have hxa:=getD_lt ha i;have hxb:=getD_lt hb i;repeat' first|refine wk ?_|refine cX (fun _=>?_) fun _=>?_|refine wM (zat_pur ra' i) ?_|refine wM (zat_pur rb' i) ?_|refine wM (sub1_pur hxa hxb) ?_|fail
   refine appO (ho.tch (S:=[]) zA (by simp)) (zR (e:=tU) (sz:=1) (len:=1) rfl (by decide)) (by omega) ⟨rfl,trivial⟩ (by omega) ?_
   rintro v' h3 n3 ho3 ht3
   have hn3:=ht3.le;have ht4:Tch [] h n h3 n3:=Tch.tch ht3 zA fun x hx=>.inl (yN ho x hx);repeat' first|refine wk ?_|refine cX (fun _=>?_) fun _=>?_|fail
   exact rnd (i+1,v') ⟨ht4,by omega,by rw[wQ c0,List.map_append];exact ho3⟩
 · obtain rfl:i=M:=by omega
   repeat' first|refine wk ?_|refine cX (fun _=>?_) fun _=>?_|fail
   exact⟨_,rfl,by rw[el];rwa [List.take_of_length_le (by omega)]at ho,ht⟩
theorem sub_ret{lo e n:Nat}{h:zB}{av bv:Value}{a b:List Nat}(ra:Row lo h av e 1 a.length (a.map U64))(rb:Row lo h bv e 1 b.length (b.map U64))(hlo:lo≤n)(ha:SetW a)(hb:SetW b):Ret P 8 88 [.agg ⟨[av]⟩,.agg ⟨[bv]⟩] h n fun v h' n'=>∃wv ws,v = .agg ⟨[wv]⟩∧SetW ws∧(∀k:Nat,vE ws k=(vE a k && !vE b k))∧Kep n n' h' wv tU 1 ws.length (ws.map U64)∧Tch [] h n h' n':=by
 have o1:=ra.one;have o2:=rb.one;have hal:=ha.le;have hbl:=hb.le;refine ent fun u=>?_;repeat' first|refine wk ?_|refine cX (fun _=>?_) fun _=>?_|fail
 refine uB (zsub_ret (Row.tch (S:=[]) ra zA hlo (by simp)) (Row.tch (S:=[]) rb zA hlo (by simp)) (by omega) ha.lt hb.lt hal hbl) ?_
 rintro z h2 n2 ⟨ho,ht2⟩
 have hn2:=ht2.le;have el:(subW a b).length=max a.length b.length:=by unfold subW;simp
 have hlt:∀w∈subW a b,w<18446744073709551616:=fun w hw=>by
  unfold subW at hw;obtain⟨i,_,rfl⟩:=List.mem_map.1 hw;exact andn_lt (getD_lt ha.lt i)
 have hc2:Cel h2 (n+2) (tSet+1) 0 [.slice none 0 0]:=zD;have htn:Tch [] h n h2 n2:=zA;clear ht2;repeat' first|refine wk ?_|refine cX (fun _=>?_) fun _=>?_|fail
 refine uB (trimmed_ret ho hlt (by omega)) ?_
 rintro _ h3 n3 ⟨wv2,xs,rfl,s1,s2,s3,s4,ht3⟩
 have hw1:=s3.one;have hn3:=ht3.le;repeat' first|refine wk ?_|refine cX (fun _=>?_) fun _=>?_|refine ob (a:=[.agg ⟨[_]⟩]) ?_ (rs1A (by(apply lk_box;((conv=>lhs;whnf) <;> exact rfl))) zJ)|fail
 exact⟨_,rfl,_,xs,rfl,s1,fun k=>by rw[s2 k,sub_has],(s3.tch (S:=[n+2]) zA (fun b hb2 hx=>by simp at hx;have:=(s3.blk hb2).1;omega)).dnl (by omega),zA⟩
theorem has_pur{lo e n:Nat}{h:zB}{wv:Value}{ws:List Nat}(r:Row lo h wv e 1 ws.length (ws.map U64))(hlo:lo≤n)(hs:SetW ws)(k:Int)(hk:k<9223372036854775808):Pur P 8 171 [.agg ⟨[wv]⟩,I64 k] h n (.bool (decide (0≤k) && vE ws k.toNat)):=by
 have o1:=r.one;have rl:=r.low;have hle:=hs.le;refine Com.pure (ent fun u=>?_) (.inl rfl);by_cases h0:0≤k
 · obtain⟨a,rfl⟩:=Int.eq_ofNat_of_zero_le h0;have e0:(decide (0≤((a:Nat):Int)) && vE ws ((a:Nat):Int).toNat)=vE ws a:=by rw[decide_eq_true h0];rfl
   by_cases hlt:a / 64<ws.length
   · have c0:ws[a / 64]? = some ws[a / 64]:=List.getElem?_eq_getElem hlt;have hw:=hs.lt _ (List.getElem_mem hlt);generalize ws[a / 64]=w at c0 hw
     have c1:zC h (sbk wv) (sof wv+a / 64*1)=some (U64 w):=by rw[Nat.mul_one];exact r.at (u_at c0)
     have e1:vE ws a=w.testBit (a % 64):=by unfold vE;rw [c0];rfl
     have hsh:w >>> (a % 64)<18446744073709551616:=Nat.lt_of_le_of_lt (Nat.shiftRight_le w (a % 64)) hw;have hl:=rl (by omega);repeat' first|refine wk ?_|refine cX (fun _=>?_) fun _=>?_|fail
     exact finT (by
      rw[e0,e1];congr 1
      exact Bool.eq_iff_iff.2 (by rw[decide_eq_true_iff];exact bit_has)) zA
   · have e1:vE ws a=false:=by unfold vE;rw [List.getElem?_eq_none (by omega)];simp
     repeat' first|refine wk ?_|refine cX (fun _=>?_) fun _=>?_|fail
     all_goals first|exact finT (by rw[e0,e1]) zA|(exfalso;omega)
 · have e0:(decide (0≤k) && vE ws k.toNat)=false:=by rw[decide_eq_false h0];rfl
   repeat' first|refine wk ?_|refine cX (fun _=>?_) fun _=>?_|fail
   all_goals first|exact finT (by rw[e0]) zA|(exfalso;omega)
end Go.Proofs.YtmccnilgnlaffaaGreatDoor
namespace Go.Ex
def Kx(e:Nat)(h:zB)(n:Nat)(h':zB)(n':Nat):Prop:=n≤n'∧∀b m z,b<n→z≠zc e 1→xI (zF h b)=some (m,z,1)→zF h' b=zF h b
section
variable {e e' sz lo lo' n n' n2 len:Nat} {h h' h2:zB} {v v':Value} {vs cs:List Value}
theorem Tch.kx(t:Tch [] h n h' n'):Kx e h n h' n':=⟨t.1,fun b _ _ hb _ _=>t.2 b hb (by simp)⟩
theorem kx_own(o:Own lo n h v e 1 len vs)(t:Tch (zO v).toList h n h' n'):Kx e h n h' n':=⟨t.1,fun b m z hb hz hi=>t.2 b hb fun hx=>by
 rcases o with⟨rfl,_⟩|⟨b2,q1,q2,rfl,p3,_⟩
 · cases hx
 · have hx:b∈(some b2).toList:=hx;simp at hx;subst hx;rw [p3]at hi;injection hi with hi
   injection hi with _ hi
   injection hi with hi _
   exact hz hi.symm⟩
theorem kx_cel{bt z:Nat}(c:Cel h bt z 0 cs)(t:Tch [bt] h n h' n'):Kx e h n h' n':=⟨t.1,fun b m z' hb hz hi=>t.2 b hb fun hx=>by
 simp at hx;subst hx;rw [c.1]at hi;exact absurd (kd_of hi) (by decide)⟩
theorem Kx.trans(k:Kx e h n h' n')(k2:Kx e h' n' h2 n2):Kx e h n h2 n2:=⟨Nat.le_trans k.1 k2.1,fun b m z hb hz hi=>by
 have e1:=k.2 b m z hb hz hi;rw [k2.2 b m z (Nat.lt_of_lt_of_le hb k.1) hz (by rw[e1];exact hi),e1]⟩
theorem Own.kx(o:Own lo n h v e' sz len vs)(k:Kx e h n h' n')(hne:e'≠e∨sz≠1):Own lo n' h' v e' sz len vs:=by
 rcases o with o|⟨b2,q1,q2,rfl,p3,p4,p5,p6⟩
 · exact .inl o
 · have ek:=k.2 b2 _ _ q2 (fun hz=>by have:=zc_inj hz;omega) p3;exact .inr ⟨b2,q1,Nat.lt_of_lt_of_le q2 k.1,rfl,by rw[ek];exact p3,p4,p5,fun i=>by unfold zC;rw [ek];exact p6 i⟩
theorem Kep.kx(o:Kep lo n h v e' sz len vs)(k:Kx e h n h' n')(hne:e'≠e∨sz≠1):Kep lo n' h' v e' sz len vs:=by
 rcases o with o|⟨b2,cap,m,q1,q2,rfl,p3,p4,p5,p6,p7⟩
 · exact .inl o
 · have ek:=k.2 b2 _ _ q2 (fun hz=>by have:=zc_inj hz;omega) p3;exact .inr ⟨b2,cap,m,q1,Nat.lt_of_lt_of_le q2 k.1,rfl,by rw[ek];exact p3,p4,p5,fun i hi=>by unfold zC;rw [ek];exact p6 i hi,p7⟩
end
def Lst{α : Type}(e:Nat)(val: α→Value)(El:Nat→Nat→zB→α→Prop)(lo n:Nat)(h:zB)(v:Value)(L:List α):Prop:=Own lo n h v e 1 L.length (L.map val)∧∀x∈L,El lo n h x
section
variable {α : Type} {e e2 lo lo' n n':Nat} {val: α→Value} {El:Nat→Nat→zB→α→Prop} {h h':zB} {v v':Value} {L:List α} {x: α}
theorem Lst.nil:Lst e val El lo n h (.slice none 0 0) []:=⟨Own.nil,fun x hx=>by cases hx⟩
theorem Lst.kx(o:Lst e val El lo n h v L)(k:Kx e2 h n h' n')(hne:e≠e2)(hEl:∀x,El lo n h x→El lo n' h' x):Lst e val El lo n' h' v L:=⟨o.1.kx k (.inl hne),fun x hx=>hEl x (o.2 x hx)⟩
theorem Lst.cel{bt z:Nat}{cs:List Value}(o:Lst e val El lo n h v L)(c:Cel h bt z 0 cs)(t:Tch [bt] h n h' n')(hEl:∀x,El lo n h x→El lo n' h' x):Lst e val El lo n' h' v L:=⟨o.1.tch t (fun b hb hx=>by simp at hx;subst hx;exact zZ c o.1 (by rw[hb];simp)),fun x hx=>hEl x (o.2 x hx)⟩
theorem Lst.app(o:Lst e val El lo n h v L)(o':Own n n' h' v' e 1 (L.length+1) (L.map val++[val x]))(hn:lo≤n)(hEl:∀y,El lo n h y→El lo n' h' y)(hx:El lo n' h' x):Lst e val El lo n' h' v' (L++[x]):=⟨by rw[List.length_append,List.map_append];exact o'.dnl hn,fun y hy=>by
 rcases List.mem_append.1 hy with h9|h9
 · exact hEl y (o.2 y h9)
 · simp at h9;subst h9;exact hx⟩
end
end Go.Ex
namespace Go.Proofs.YtmccnilgnlaffaaGreatDoor
open Go Go.Ex Go.Ex.M
set_option maxRecDepth 100000
set_option maxHeartbeats 8000000
attribute [local simp] xV
abbrev tN:Nat:=3
abbrev eSet:Nat:=92
abbrev yK:Nat:=55
abbrev eSets:Nat:=88
abbrev zTb:Nat:=94+1
def SetEl(lo n:Nat)(h:zB)(p:Value×List Nat):Prop:=SetW p.2∧Kep lo n h p.1 tU 1 p.2.length (p.2.map U64)
def IntEl(lo n:Nat)(h:zB)(p:Value×List Int):Prop:=Own lo n h p.1 tN 1 p.2.length (p.2.map I64)
abbrev Sets(lo n:Nat)(h:zB)(v:Value)(L:List (Value×List Nat)):Prop:=Lst eSet (fun p:Value×List Nat=>p.1) SetEl lo n h v L
abbrev Ints(lo n:Nat)(h:zB)(v:Value)(L:List (Value×List Int)):Prop:=Lst yK (fun p:Value×List Int=>p.1) IntEl lo n h v L
theorem SetEl.kx{e lo n n':Nat}{h h':zB}{p:Value×List Nat}(s:SetEl lo n h p)(k:Kx e h n h' n')(hne:tU≠e):SetEl lo n' h' p:=⟨s.1,s.2.kx k (.inl hne)⟩
theorem IntEl.kx{e lo n n':Nat}{h h':zB}{p:Value×List Int}(s:IntEl lo n h p)(k:Kx e h n h' n')(hne:tN≠e):IntEl lo n' h' p:=Own.kx s k (.inl hne)
theorem zY{e lo n n':Nat}{h h':zB}{v:Value}{L:List (Value×List Nat)}(o:Sets lo n h v L)(k:Kx e h n h' n')(h1:eSet≠e)(h2:tU≠e):Sets lo n' h' v L:=o.kx k h1 fun _ s=>SetEl.kx s k h2
theorem wP{e lo n n':Nat}{h h':zB}{v:Value}{L:List (Value×List Int)}(o:Ints lo n h v L)(k:Kx e h n h' n')(h1:yK≠e)(h2:tN≠e):Ints lo n' h' v L:=o.kx k h1 fun _ s=>IntEl.kx s k h2
def LapW(ps:List Pl)(j:Nat)(ws:List Nat):Prop:=∀k,vE ws k=match ps[j]?,ps[k]? with|some a,some b=>lapB a b|_,_=>false
variable {lo bt n:Nat} {h:zB} {psv:Value} {ps:List Pl} {x0 x1 x2 x3 x4 x5 x6 x7 x8 x10 x11 x12 x14 x15 x16 x17 x18 x19 x20:Value}
theorem lapping_com(hc:Cel h bt zTb 0 [x0,x1,x2,x3,x4,x5,x6,x7,x8,psv,x10,x11,x12,.slice none 0 0,x14,x15,x16,x17,x18,x19,x20])(hb:bt<n)(op:Own lo n h psv ePl 3 ps.length (ps.flatMap plC))(hlo:lo≤n)(hl:ps.length≤200)(hpl:∀p∈ps,PlG p):Com P 8 33 [ptr bt 0] h n fun o h' n'=>o = .ret (.tuple #[])∧Tch [bt] h n h' n'∧∃lv L,Cel h' bt zTb 0 [x0,x1,x2,x3,x4,x5,x6,x7,x8,psv,x10,x11,x12,lv,x14,x15,x16,x17,x18,x19,x20]∧Sets n n' h' lv L∧L.length=ps.length∧∀(j:Nat) p,L[j]? = some p→LapW ps j p.2:=by
 have hinf:inf<4611686018427387904:=by decide
 have hinf2:1000000≤inf:=by decide
 have hpb:=zZ hc op;have rp:=op.row (by decide);refine ent fun u=>?_;repeat' first|refine wk ?_|refine cX (fun _=>?_) fun _=>?_|fail
 refine lpR (fun i:Nat=>[(0,ptr bt 0),(10,psv),(11,I64 ps.length),(12,I64 i)]) (fun i h' n'=>Tch [bt] h n h' n'∧i≤ps.length∧∃lv L,Cel h' bt zTb 0 [x0,x1,x2,x3,x4,x5,x6,x7,x8,psv,x10,x11,x12,lv,x14,x15,x16,x17,x18,x19,x20]∧Sets n n' h' lv L∧L.length=i∧∀(j:Nat) p,L[j]? = some p→LapW ps j p.2) (fun i=>ps.length - i) 0 ⟨zA,Nat.zero_le _,_,[],hc,Lst.nil,rfl,fun j p e=>by cases e⟩ ?_;clear rp
 rintro i t h' n' ⟨ht,hi,lv,L,hc',hS,hLl,hL⟩
 have hn':=ht.le;have op':=op.tch ht (yJ hpb);have rp':=op'.row (by decide);by_cases hlt:i<ps.length
 · have c0:ps[i]? = some ps[i]:=List.getElem?_eq_getElem hlt;generalize ps[i]=p at c0
   have c1:=yE rp' c0;have hpm:=List.mem_of_getElem? c0;have hlow:=rp'.low (by omega);repeat' first|refine wk ?_|refine cX (fun _=>?_) fun _=>?_|fail
   refine lpR (α :=Nat×Value×List Int) (fun a=>[(0,ptr bt 0),(3,ptr n' 0),(4,a.2.1),(10,psv),(11,I64 ps.length),(12,I64 i),(19,psv),(20,I64 ps.length),(21,I64 a.1)]) (fun a h2 n2=>Tch [] h' n' h2 n2∧n'<n2∧Cel h2 n' (ePl+1) 0 (plC p)∧a.1≤ps.length∧Own n' n2 h2 a.2.1 tN 1 a.2.2.length (a.2.2.map I64)∧a.2.2.length≤a.1∧∀k:Nat,((k:Nat):Int)∈a.2.2↔k<a.1∧∃q,ps[k]? = some q∧lapB p q=true) (fun a=>ps.length - a.1) (0,.slice none 0 0,[]) ⟨zA,by omega,zD,Nat.zero_le _,Own.nil,Nat.le_refl _,fun k=>⟨fun h=>(by cases h),fun h=>by omega⟩⟩ ?_
   rintro ⟨q,v4,l4⟩ t h2 n2 ⟨ht2,hn2,hcp,hq,ho,hll,hin⟩
   dsimp only at hq ho hll hin ⊢;have op2:=op'.tch ht2 (by simp);have rp2:=op2.row (by decide);by_cases hlt2:q<ps.length
   · have d0:ps[q]? = some ps[q]:=List.getElem?_eq_getElem hlt2;generalize ps[q]=y at d0
     have d1:=yE rp2 d0;have hym:=List.mem_of_getElem? d0;have hlow2:=rp2.low (by omega);repeat' first|refine wk ?_|refine cX (fun _=>?_) fun _=>?_|refine wM (lap_pur _ _ (hpl p hpm).ok (hpl y hym).ok _ _) ?_|fail
     · rename_i f1;refine appO (ho.tch (S:=[]) zA (by simp)) (zR (e:=tN) (sz:=1) (len:=1) rfl (by decide)) (by omega) ⟨rfl,trivial⟩ (by omega) ?_
       rintro v5 h5 n5 ho5 ht5
       have hn5:=ht5.le;have ht6:Tch [] h' n' h5 n5:=Tch.tch ht5 zA fun x hx=>.inl (yN ho x hx);have hcp5:Cel h5 n' (ePl+1) 0 (plC p):=Cel.app (hcp.tch (S:=[]) zA (by omega) (by simp)) (ho.tch (S:=[]) zA (by simp)) ht5 (by omega);repeat' first|refine wk ?_|refine cX (fun _=>?_) fun _=>?_|fail
       exact rnd ((q+1,v5,l4++[((q:Nat):Int)])) ⟨ht6,by omega,hcp5,by dsimp only;omega,by dsimp only;rw [List.length_append,List.map_append];exact ho5,by dsimp only;rw [List.length_append];simp;omega,fun k=>by
        dsimp only;rw [List.mem_append,hin k];refine⟨fun h9=>?_,fun⟨h9,z,e,e2⟩=>?_⟩
        · rcases h9 with⟨h9,h8⟩|h9
          · exact⟨by omega,h8⟩
          · simp at h9;have h9:k=q:=by omega
            subst h9;exact⟨Nat.lt_succ_self _,y,d0,f1⟩
        · rcases Nat.lt_succ_iff_lt_or_eq.1 h9 with h9|rfl
          · exact .inl ⟨h9,z,e,e2⟩
          · exact .inr (by simp)⟩
     · rename_i f1
       exact rnd (q+1,v4,l4) ⟨zA,by omega,zD,by dsimp only;omega,ho.tch (S:=[]) zA (by simp),by dsimp only;omega,fun k=>by
        dsimp only;rw [hin k];refine⟨fun⟨h9,h8⟩=>⟨by omega,h8⟩,fun⟨h9,z,e,e2⟩=>?_⟩;rcases Nat.lt_succ_iff_lt_or_eq.1 h9 with h9|rfl
        · exact⟨h9,z,e,e2⟩
        · rw[d0]at e;cases e;rw [f1]at e2;cases e2⟩
   · obtain rfl:q=ps.length:=by omega
     have hcb:Cel h2 bt zTb 0 [x0,x1,x2,x3,x4,x5,x6,x7,x8,psv,x10,x11,x12,lv,x14,x15,x16,x17,x18,x19,x20]:=zD;have lrow:=hS.1.row (by decide);have lone:=hS.1.one;have o4:=ho.one;have tq:Tch [] h' n' h2 n2:=ht2;repeat' first|refine wk ?_|refine cX (fun _=>?_) fun _=>?_|fail
     refine uB (of_ret (ho.row (by decide)) (by omega) (by omega)) ?_
     rintro _ h5 n5 ⟨wv,ws,rfl,hsw,hws,kw,t5⟩
     have hn5:=t5.le;have wone:=kw.one;have tq5:Tch [] h' n' h5 n5:=Tch.tch t5 tq (by simp);have hS5:=zY (e:=yK) hS tq5.kx (by decide) (by decide);have hcb5:=hcb.tch t5 (by omega) (by simp);clear hcp ht2 op2 rp2 t5 tq;have hSX:∀x,Sets n (n5+1) (hal h5 n5 x) lv L:=fun x=>zY (e:=yK) hS5 (Tch.kx (zA:Tch [] h5 n5 (hal h5 n5 x) (n5+1))) (by decide) (by decide);repeat' first|refine wk ?_|refine cX (fun _=>?_) fun _=>?_|fail
     refine appN (hSX _).1 (zR (e:=eSet) (sz:=1) (len:=1) rfl (by decide)) (by decide) ⟨wone,trivial⟩ (by omega) ?_
     rintro v6 h6 n6 o6 t6
     have hn6:=t6.le;have o6o:=o6.one;have hcb6:=Cel.app (Cel.tch (S:=[]) hcb5 zA (by omega) (by simp)) (hSX _).1 t6 (by omega);have kx6:Kx eSet _ _ h6 n6:=kx_own (hSX _).1 t6;have hS6:Sets n n6 h6 v6 (L++[(wv,ws)]):=Lst.app (hSX _) o6 (by omega) (fun y s=>SetEl.kx s kx6 (by decide)) (SetEl.kx (n:=n5+1) (h:=hal h5 n5 _) ⟨hsw,Kep.kx (Kep.dnl kw (by omega)) (Tch.kx (e:=yK) (zA:Tch [] h5 n5 _ _)) (.inl (by decide))⟩ kx6 (by decide));have tb5:Tch [bt] h n h5 n5:=Tch.tch tq5 ht (by simp);have tz6:Tch [bt] h n h6 n6:=Tch.tch t6 (zA:Tch [bt] h n (hal h5 n5 _) (n5+1)) fun x hx=>.inl (yN (hSX (mkC [wv] 0 0)).1 x hx);clear hSX hS5 tq5 tb5 t6;repeat' first|refine wk ?_|refine cX (fun _=>?_) fun _=>?_|fail
     have tS:Tch [bt] h6 n6 (hst h6 bt (0+13) [v6]) n6:=zA;have kS:Kx yK h6 n6 (hst h6 bt (0+13) [v6]) n6:=kx_cel hcb6 tS
     exact rnd (i+1) ⟨zA,by omega,v6,L++[(wv,ws)],zD,zY hS6 kS (by decide) (by decide),by rw[List.length_append,hLl];rfl,fun j r e=>by
      rcases Nat.lt_or_ge j L.length with h9|h9
      · rw[List.getElem?_append_left h9]at e;exact hL j r e
      · rw[List.getElem?_append_right h9]at e
        have h8:j - L.length=0:=by
         rcases Nat.eq_zero_or_pos (j - L.length) with h8|h8
         · exact h8
         · rw[List.getElem?_eq_none (by simp;omega)]at e;cases e
        rw[h8]at e;cases e
        obtain rfl:j=i:=by omega
        intro k;rw [c0];have h7:=hws k;rw [hin k]at h7
        cases e9:ps[k]? with
        | none =>
         show vE ws k=false
         cases e8:vE ws k with
         | false=>rfl
         | true=>
          obtain⟨⟨_,z,e7,_⟩,_⟩:=h7.1 e8;rw [e9]at e7;cases e7
        | some z=>
         show vE ws k=lapB p z;have hk:=(List.getElem?_eq_some_iff.1 e9).1;refine Bool.eq_iff_iff.2 (h7.trans ⟨fun⟨⟨_,z',e7,e6⟩,_⟩=>?_,fun e7=>⟨⟨hk,z,e9,e7⟩,by omega⟩⟩);rw [e9]at e7;cases e7;exact e6⟩
 · obtain rfl:i=ps.length:=by omega
   repeat' first|refine wk ?_|refine cX (fun _=>?_) fun _=>?_|fail
   exact⟨rfl,ht,lv,L,hc',hS,hLl,hL⟩
end Go.Proofs.YtmccnilgnlaffaaGreatDoor
namespace Go.Proofs.YtmccnilgnlaffaaGreatDoor
open Go Go.Ex Go.Ex.M
set_option maxRecDepth 100000
set_option maxHeartbeats 8000000
attribute [local simp] xV
theorem idxf_int{lo e n:Nat}{h:zB}{sv:Value}{l:List Int}{g:FuncId}{fs cs:List Value}{p:Int→Bool}(r:Row lo h sv e 1 l.length (l.map I64))(hl:l.length<inf)(hp:∀x∈l,Pur P 8 g (fs++([I64 x]++cs)) h n (.bool (p x))):Pur P 8 144 [sv,.func (.func g) ⟨fs⟩ ⟨cs⟩] h n (I64 (posF p l)):=by
 have hinf:inf<4611686018427387904:=by decide
 refine ent fun u=>?_;repeat' first|refine wk ?_|refine cX (fun _=>?_) fun _=>?_|fail
 refine lpR (fun k:Nat=>[(0,sv),(1,.func (.func g) ⟨fs⟩ ⟨cs⟩),(7,I64 l.length),(8,I64 k)]) (fun k h' n'=>h'=h∧n'=n∧k≤l.length∧∀(j:Nat) y,j<k→l[j]? = some y→p y=false) (fun k=>l.length - k) 0 ⟨rfl,rfl,Nat.zero_le _,fun j y hj=>by omega⟩ ?_
 rintro k t h' n' ⟨rfl,rfl,hk,hno⟩
 by_cases hlt:k<l.length
 · have c0:l[k]? = some l[k]:=List.getElem?_eq_getElem hlt;have c1:=row_e1 r c0;have c2:=hp l[k] (List.getElem_mem hlt);repeat' first|refine wk ?_|refine cX (fun _=>?_) fun _=>?_|refine wM c2 ?_|fail
   · rename_i e1;exact fin (by rw[posF_hit c0 e1 hno])
   · rename_i e1
     exact rnd (k+1) ⟨rfl,rfl,by omega,fun j y hj e2=>by
      rcases Nat.lt_succ_iff_lt_or_eq.1 hj with h9|rfl
      · exact hno j y h9 e2
      · rw[c0]at e2;cases e2;exact e1⟩
 · obtain rfl:k=l.length:=by omega
   repeat' first|refine wk ?_|refine cX (fun _=>?_) fun _=>?_|fail
   exact fin (by rw[posF_no fun j y hj=>hno j y (List.getElem?_eq_some_iff.1 hj).1 hj])
theorem contf_int{lo e n:Nat}{h:zB}{sv:Value}{l:List Int}{g:FuncId}{fs cs:List Value}{p:Int→Bool}(r:Row lo h sv e 1 l.length (l.map I64))(hl:l.length<inf)(hp:∀x∈l,Pur P 8 g (fs++([I64 x]++cs)) h n (.bool (p x))):Pur P 8 91 [sv,.func (.func g) ⟨fs⟩ ⟨cs⟩] h n (.bool (l.any p)):=by
 refine ent fun u=>?_;repeat' first|refine wk ?_|refine cX (fun _=>?_) fun _=>?_|refine wM (idxf_int r hl hp) ?_|fail
 exact fin (by rw[show decide (0≤posF p l)=l.any p from by cases h9:l.any p with
  | true=>exact decide_eq_true (posF_ge.2 h9)
  | false=>exact decide_eq_false fun h=>by rw[posF_ge.1 h]at h9;cases h9])
variable {lo bt n:Nat} {h:zB} {psv sav:Value} {ps:List Pl} {sl:List Int} {x0 x1 x2 x3 x4 x5 x6 x7 x8 x10 x11 x12 x13 x14 x15 x16 x17 x18 x19 x20:Value}
def wAt(ps:List Pl)(p:Pl)(s:Int):Bool:=match ps[s.toNat]? with|some q=>withinB p q|none=>false
def surB(ps:List Pl)(sl:List Int)(p:Pl):Bool:=sl.any (wAt ps p)
theorem surv1_pur{pc tc:Nat}{a b:Pl}{s:Nat}(hc:Cel h bt zTb 0 [x0,x1,x2,x3,x4,x5,x6,x7,x8,psv,x10,x11,x12,x13,x14,x15,x16,sav,x18,x19,x20])(rp:Row n h psv ePl 3 ps.length (ps.flatMap plC))(ha:PlOK a)(hb:PlOK b)(hs:ps[s]? = some b)(hl:ps.length≤200)(c1:Cel h pc (ePl+1) 0 (plC a))(c2:zC h tc 0=some (ptr bt 0))(h1:bt<n)(h2:pc<n)(h3:tc<n):Pur P 8 89 [I64 (s:Nat),ptr pc 0,ptr tc 0] h n (.bool (withinB a b)):=by
 have r1:=yE rp hs;have hsl:=(List.getElem?_eq_some_iff.1 hs).1;have hlow:=rp.low (by omega);refine Com.pure (ent fun u=>?_) (.inl rfl);repeat' first|refine wk ?_|refine cX (fun _=>?_) fun _=>?_|refine wM (within_pur _ _ ha hb _ _) ?_|fail
 exact finT rfl zA
abbrev zPt:Nat:=34+1
theorem surviving_com(hc:Cel h bt zTb 0 [x0,x1,x2,x3,x4,x5,x6,x7,x8,psv,x10,x11,x12,x13,x14,x15,x16,x17,sav,x19,x20])(hb:bt<n)(op:Own lo n h psv ePl 3 ps.length (ps.flatMap plC))(os:Own lo n h sav tN 1 sl.length (sl.map I64))(hlo:lo≤n)(hl:ps.length≤200)(hsl:sl.length≤200)(hpl:∀p∈ps,PlG p)(hs:∀s∈sl,∃k:Nat,s=(k:Nat)∧k<ps.length):Com P 8 35 [ptr bt 0] h n fun o h' n'=>o = .ret (.tuple #[])∧Tch [bt] h n h' n'∧∃kv ws,Cel h' bt zTb 0 [x0,x1,x2,x3,x4,x5,x6,x7,x8,psv,x10,x11,x12,x13,x14,x15,x16,x17,sav,x19,kv]∧SetEl n n' h' (kv,ws)∧∀k:Nat,vE ws k=match ps[k]? with|some p=>surB ps sl p|none=>false:=by
 have hinf:inf<4611686018427387904:=by decide
 have hinf2:1000000≤inf:=by decide
 have rp:=op.row (by decide);have rs:=os.row (by decide);refine ent fun u=>?_;repeat' first|refine wk ?_|refine cX (fun _=>?_) fun _=>?_|fail
 refine lpR (α :=Nat×Value×List Int) (fun a=>[(1,ptr n 0),(2,a.2.1),(9,psv),(10,I64 ps.length),(11,I64 a.1)]) (fun a h2 n2=>Tch [] h n h2 n2∧n<n2∧Cel h2 n zPt 0 [ptr bt 0]∧a.1≤ps.length∧Own n n2 h2 a.2.1 tN 1 a.2.2.length (a.2.2.map I64)∧a.2.2.length≤a.1∧∀k:Nat,((k:Nat):Int)∈a.2.2↔k<a.1∧∃p,ps[k]? = some p∧surB ps sl p=true) (fun a=>ps.length - a.1) (0,.slice none 0 0,[]) ⟨zA,by omega,zD,Nat.zero_le _,Own.nil,Nat.le_refl _,fun k=>⟨fun h=>(by cases h),fun h=>by omega⟩⟩ ?_
 rintro ⟨q,v4,l4⟩ t h2 n2 ⟨ht2,hn2,hcp,hq,ho,hll,hin⟩
 dsimp only at hq ho hll hin ⊢;have op2:=op.tch ht2 (by simp);have os2:=os.tch ht2 (by simp);have rp2:=op2.row (by decide);have rs2:=os2.row (by decide);have hc2:=hc.tch ht2 hb (by simp);by_cases hlt2:q<ps.length
 · have d0:ps[q]? = some ps[q]:=List.getElem?_eq_getElem hlt2;generalize ps[q]=y at d0
   have d1:=yE rp2 d0;have hym:=List.mem_of_getElem? d0;have hlow2:=rp2.low (by omega);have kA:Cel (hst (hal h2 n2 (mkC [I64 0,I64 0,I64 0] (ePl+1) 0)) n2 0 (plC y)) bt zTb 0 [x0,x1,x2,x3,x4,x5,x6,x7,x8,psv,x10,x11,x12,x13,x14,x15,x16,x17,sav,x19,x20]:=zD;have kB:Cel (hst (hal h2 n2 (mkC [I64 0,I64 0,I64 0] (ePl+1) 0)) n2 0 (plC y)) n2 (ePl+1) 0 (plC y):=zD;have kC:zC (hst (hal h2 n2 (mkC [I64 0,I64 0,I64 0] (ePl+1) 0)) n2 0 (plC y)) n 0=some (ptr bt 0):=zJ
   have hp9:∀x∈sl,Pur P 8 89 ([]++([I64 x]++[ptr n2 0,ptr n 0])) (hst (hal h2 n2 (mkC [I64 0,I64 0,I64 0] (ePl+1) 0)) n2 0 (plC y)) (n2+1) (.bool (wAt ps y x)):=fun x hx=>by
    obtain⟨k,rfl,hk⟩:=hs x hx;have e0:ps[k]? = some ps[k]:=List.getElem?_eq_getElem hk;have e1:ps[((k:Nat):Int).toNat]? = some ps[k]:=e0;unfold wAt;rw [e1];exact surv1_pur kA ((op2.tch (S:=[]) zA (by simp)).row (by decide)) (hpl y hym).ok (hpl _ (List.getElem_mem hk)).ok e0 hl kB kC (by omega) (by omega) (by omega)
   repeat' first|refine wk ?_|refine cX (fun _=>?_) fun _=>?_|refine wM (show Pur P 8 _ _ _ _ (.bool (surB ps sl y)) from contf_int (p:=wAt ps y) ((os2.tch (S:=[]) zA (by simp)).row (by decide)) (by omega) hp9) ?_|fail
   · rename_i f1;refine appO (ho.tch (S:=[]) zA (by simp)) (zR (e:=tN) (sz:=1) (len:=1) rfl (by decide)) (by omega) ⟨rfl,trivial⟩ (by omega) ?_
     rintro v5 h5 n5 ho5 ht5
     have hn5:=ht5.le;have ht6:Tch [] h n h5 n5:=Tch.tch ht5 zA fun x hx=>.inl (yN ho x hx);have hcp5:Cel h5 n zPt 0 [ptr bt 0]:=Cel.app (hcp.tch (S:=[]) zA (by omega) (by simp)) (ho.tch (S:=[]) zA (by simp)) ht5 (by omega);repeat' first|refine wk ?_|refine cX (fun _=>?_) fun _=>?_|fail
     exact rnd ((q+1,v5,l4++[((q:Nat):Int)])) ⟨ht6,by omega,hcp5,by dsimp only;omega,by dsimp only;rw [List.length_append,List.map_append];exact ho5,by dsimp only;rw [List.length_append];simp;omega,fun k=>by
      dsimp only;rw [List.mem_append,hin k];refine⟨fun h9=>?_,fun⟨h9,z,e,e2⟩=>?_⟩
      · rcases h9 with⟨h9,h8⟩|h9
        · exact⟨by omega,h8⟩
        · simp at h9;have h9:k=q:=by omega
          subst h9;exact⟨Nat.lt_succ_self _,y,d0,f1⟩
      · rcases Nat.lt_succ_iff_lt_or_eq.1 h9 with h9|rfl
        · exact .inl ⟨h9,z,e,e2⟩
        · exact .inr (by simp)⟩
   · rename_i f1
     exact rnd (q+1,v4,l4) ⟨zA,by omega,zD,by dsimp only;omega,ho.tch (S:=[]) zA (by simp),by dsimp only;omega,fun k=>by
      dsimp only;rw [hin k];refine⟨fun⟨h9,h8⟩=>⟨by omega,h8⟩,fun⟨h9,z,e,e2⟩=>?_⟩;rcases Nat.lt_succ_iff_lt_or_eq.1 h9 with h9|rfl
      · exact⟨h9,z,e,e2⟩
      · rw[d0]at e;cases e;rw [f1]at e2;cases e2⟩
 · obtain rfl:q=ps.length:=by omega
   have o4:=ho.one;repeat' first|refine wk ?_|refine cX (fun _=>?_) fun _=>?_|fail
   refine uB (of_ret (ho.row (by decide)) (by omega) (by omega)) ?_
   rintro _ h5 n5 ⟨wv,ws,rfl,hsw,hws,kw,t5⟩
   have hn5:=t5.le;have wone:=kw.one;have hc5:=hc2.tch t5 (by omega) (by simp);have hcp5:=hcp.tch t5 (by omega) (by simp);repeat' first|refine wk ?_|refine cX (fun _=>?_) fun _=>?_|fail
   have tb5:Tch [] h n h5 n5:=Tch.tch t5 ht2 (by simp);have tS:Tch [bt] h5 n5 (hst h5 bt (0+20) [wv]) n5:=zA;have kS:Kx yK h5 n5 (hst h5 bt (0+20) [wv]) n5:=kx_cel hc5 tS;have tbb:Tch [bt] h n (hst h5 bt (0+20) [wv]) n5:=zA
   exact⟨rfl,tbb,wv,ws,zD,SetEl.kx ⟨hsw,kw.dnl (by omega)⟩ kS (by decide),fun k=>by
    have h7:=hws k;rw [hin k]at h7
    cases e9:ps[k]? with
    | none =>
     show vE ws k=false
     cases e8:vE ws k with
     | false=>rfl
     | true=>
      obtain⟨⟨_,z,e7,_⟩,_⟩:=h7.1 e8;rw [e9]at e7;cases e7
    | some z=>
     show vE ws k=surB ps sl z;have hk:=(List.getElem?_eq_some_iff.1 e9).1;refine Bool.eq_iff_iff.2 (h7.trans ⟨fun⟨⟨_,z',e7,e6⟩,_⟩=>?_,fun e7=>⟨⟨hk,z,e9,e7⟩,by omega⟩⟩);rw [e9]at e7;cases e7;exact e6⟩
end Go.Proofs.YtmccnilgnlaffaaGreatDoor
namespace Go.Proofs.YtmccnilgnlaffaaGreatDoor
open Go Go.Ex Go.Ex.M
set_option maxRecDepth 100000
set_option maxHeartbeats 8000000
attribute [local simp] xV
theorem celE{lo n b z:Nat}{h:zB}{v:Value}{e sz len:Nat}{vs ws:List Value}(c:Cel h b z 0 ws)(h0:0<ws.length)(o:OwnE lo n h v e sz len vs):∀b',zO v=some b'→b'∉[b]:=fun b' hb hx=>by
 simp at hx;subst hx;rcases o with o|⟨⟨b1,z',kd,_,_,rfl,q3,_⟩,_,_⟩
 · exact zZ c o (by rw[hb];simp)
 · injection hb with hb
   have hb:b1=b':=hb;subst hb;rw [c.1]at q3;injection q3 with q3
   injection q3 with q3 _
   omega
theorem wA{lo n n' bt z:Nat}{h h':zB}{cs:List Value}{v:Value}{L:List (Value×List Nat)}(o:Sets lo n h v L)(c:Cel h bt z 0 cs)(t:Tch [bt] h n h' n'):Sets lo n' h' v L:=zY (e:=yK) o (kx_cel c t) (by decide) (by decide)
theorem vV{lo n n' bt z:Nat}{h h':zB}{cs:List Value}{v:Value}{L:List (Value×List Int)}(o:Ints lo n h v L)(c:Cel h bt z 0 cs)(t:Tch [bt] h n h' n'):Ints lo n' h' v L:=wP (e:=eSets) o (kx_cel c t) (by decide) (by decide)
theorem own_slv{lo n:Nat}{h:zB}{v:Value}{e sz len:Nat}{vs:List Value}(o:Own lo n h v e sz len vs):∃a b c,v = .slice a b c:=by
 rcases o with⟨rfl,_⟩|⟨b,_,_,rfl,_⟩ <;> exact⟨_,_,_,rfl⟩
structure Opd (lo n:Nat) (h:zB) (rb cb:Nat) (osv lapv inv:Value) (os:List OpT) (ns cns:List Tx) (L I:List (Value×List Nat)):Prop where
 ops:OwnE lo n h osv eOp 6 os.length (os.flatMap opC)
 ru:∀o∈os,OwnE lo n h o.usv eOpr 2 o.uses.length (o.uses.flatMap oprC)
 rc:∀o∈os,OwnE lo n h o.csv sK 1 o.clob.length (o.clob.map str)
 mr:MpS h rb (numL ns)
 mc:MpS h cb (numL cns)
 hb:rb<n∧cb<n
 lap:Sets lo n h lapv L
 ins:Sets lo n h inv I
section
variable {lo n n' rb cb:Nat} {h h':zB} {osv lapv inv:Value} {os:List OpT} {ns cns:List Tx} {L I:List (Value×List Nat)}
theorem Opd.tchB{bt z:Nat}{cs:List Value}(k:Opd lo n h rb cb osv lapv inv os ns cns L I)(c:Cel h bt z 0 cs)(h0:0<cs.length)(t:Tch [bt] h n h' n'):Opd lo n' h' rb cb osv lapv inv os ns cns L I:=by
 obtain⟨b1,b2⟩:=k.hb;have:=t.le;exact⟨k.ops.tch t (celE c h0 k.ops),fun o ho=>(k.ru o ho).tch t (celE c h0 (k.ru o ho)),fun o ho=>(k.rc o ho).tch t (celE c h0 (k.rc o ho)),k.mr.tch t b1 (by simpa using yV k.mr c),k.mc.tch t b2 (by simpa using yV k.mc c),⟨by omega,by omega⟩,wA k.lap c t,wA k.ins c t⟩
theorem Opd.tchN(k:Opd lo n h rb cb osv lapv inv os ns cns L I)(t:Tch [] h n h' n'):Opd lo n' h' rb cb osv lapv inv os ns cns L I:=by
 obtain⟨b1,b2⟩:=k.hb;have:=t.le;exact⟨k.ops.tch t (by simp),fun o ho=>(k.ru o ho).tch t (by simp),fun o ho=>(k.rc o ho).tch t (by simp),k.mr.tch t b1 (by simp),k.mc.tch t b2 (by simp),⟨by omega,by omega⟩,zY (e:=yK) k.lap t.kx (by decide) (by decide),zY (e:=yK) k.ins t.kx (by decide) (by decide)⟩
theorem Opd.own{e lo' len:Nat}{v':Value}{vs:List Value}(k:Opd lo n h rb cb osv lapv inv os ns cns L I)(o:Own lo' n h v' e 1 len vs)(t:Tch (zO v').toList h n h' n')(h1:eOp≠e)(h2:eOpr≠e)(h3:sK≠e)(h4:eSet≠e)(h5:tU≠e):Opd lo n' h' rb cb osv lapv inv os ns cns L I:=by
 obtain⟨b1,b2⟩:=k.hb;have:=t.le;exact⟨k.ops.tch t (uG k.ops o (.inl h1) (by decide)).no,fun x hx=>(k.ru x hx).tch t (uG (k.ru x hx) o (.inl h2) (by decide)).no,fun x hx=>(k.rc x hx).tch t (uG (k.rc x hx) o (.inl h3) (by decide)).no,k.mr.tch t b1 (tJ k.mr o),k.mc.tch t b2 (tJ k.mc o),⟨by omega,by omega⟩,zY k.lap (kx_own o t) h4 h5,zY k.ins (kx_own o t) h4 h5⟩
end
structure OpdOK (ns cns:List Tx) (o:OpT):Prop where
 len:o.uses.length=1∨o.uses.length=2
 cl:∀x∈o.d::o.uses,x.cls∈cns∧(x.fix=[]∨x.fix∈ns)
 cb:∀r∈o.clob,r∈ns
 cbl:o.clob.length≤200
def memI(L:List (Value×List Nat))(i r:Nat):Bool:=match L[i]? with|some p=>vE p.2 r|none=>false
def mayF(L I:List (Value×List Nat))(ns cns:List Tx)(o:OpT)(k:Nat)(x:OperT)(r:Nat):Bool:=(if x.fix=[] then memI I (cns.idxOf x.cls) r else decide (r=ns.idxOf x.fix)) && !(decide (k=0) && o.clob.any fun c=>memI L (ns.idxOf c) r)
def basF(I:List (Value×List Nat))(ns cns:List Tx)(x:OperT)(r:Nat):Bool:=if x.fix=[] then memI I (cns.idxOf x.cls) r else decide (r=ns.idxOf x.fix)
theorem lkN{h:zB}{b:Nat}{ns:List Tx}{x:Tx}(m:MpS h b (numL ns))(hn:ns.Nodup)(hx:x∈ns):yQ P h 87 (.map (some b)) (str x) false=some (I64 (ns.idxOf x:Nat)):=by
 obtain⟨A,B,e1,e2⟩:=sJ (idx_at hx) hn;rw [e1]at m;exact lku_at (P:=P) (ty:=87) (ok:=false) m e2
abbrev MayEl(lo n:Nat)(h:zB)(p:Value×List (Value×List Nat)):Prop:=Sets lo n h p.1 p.2
abbrev Mays(lo n:Nat)(h:zB)(v:Value)(M:List (Value×List (Value×List Nat))):Prop:=Lst eSets (fun p:Value×List (Value×List Nat)=>p.1) MayEl lo n h v M
variable {lo n bt rb cb:Nat} {h:zB} {osv lapv inv:Value} {os:List OpT} {ns cns:List Tx} {L I:List (Value×List Nat)} {x0 x1 x2 x4 x5 x6 x7 x8 x9 x12 x14 x18 x19 x20:Value}
theorem operands_com(k:Opd lo n h rb cb osv lapv inv os ns cns L I)(hc:Cel h bt zTb 0 [x0,x1,x2,osv,x4,x5,x6,x7,x8,x9,.map (some rb),.map (some cb),x12,lapv,x14,inv,.slice none 0 0,.slice none 0 0,x18,x19,x20])(hbt:bt<n)(hlo:lo≤n)(hns:ns.Nodup)(hcn:cns.Nodup)(hLl:L.length=ns.length)(hIl:I.length=cns.length)(hn2:ns.length≤200)(hol:os.length≤64)(ho:∀o∈os,OpdOK ns cns o):Com P 8 34 [ptr bt 0] h n fun o h' n'=>o = .ret (.tuple #[])∧Tch [bt] h n h' n'∧∃mv M cv C,Cel h' bt zTb 0 [x0,x1,x2,osv,x4,x5,x6,x7,x8,x9,.map (some rb),.map (some cb),x12,lapv,x14,inv,mv,cv,x18,x19,x20]∧Mays lo n' h' mv M∧Ints n n' h' cv C∧M.length=os.length∧C.length=os.length∧∀(j:Nat) o,os[j]? = some o→(∃cv',C[j]? = some (cv',o.clob.map fun r=>((ns.idxOf r:Nat):Int)))∧∃sv S,M[j]? = some (sv,S)∧S.length=(o.d::o.uses).length∧∀(k:Nat) x p,(o.d::o.uses)[k]? = some x→S[k]? = some p→∀r,vE p.2 r=mayF L I ns cns o k x r:=by
 have hinf:inf<4611686018427387904:=by decide
 have hinf2:1000000≤inf:=by decide
 have orow:=k.ops.row (by decide);refine ent fun u=>?_;repeat' first|refine wk ?_|refine cX (fun _=>?_) fun _=>?_|fail
 refine lpR (fun i:Nat=>[(0,ptr bt 0),(14,osv),(15,I64 os.length),(16,I64 i)]) (fun i h' n'=>Tch [bt] h n h' n'∧i≤os.length∧∃mv M cv C,Cel h' bt zTb 0 [x0,x1,x2,osv,x4,x5,x6,x7,x8,x9,.map (some rb),.map (some cb),x12,lapv,x14,inv,mv,cv,x18,x19,x20]∧Mays lo n' h' mv M∧(∀b∈(zO mv).toList,n≤b)∧Ints n n' h' cv C∧M.length=i∧C.length=i∧∀(j:Nat) o,j<i→os[j]? = some o→(∃cv',C[j]? = some (cv',o.clob.map fun r=>((ns.idxOf r:Nat):Int)))∧∃sv S,M[j]? = some (sv,S)∧S.length=(o.d::o.uses).length∧∀(k:Nat) x p,(o.d::o.uses)[k]? = some x→S[k]? = some p→∀r,vE p.2 r=mayF L I ns cns o k x r) (fun i=>os.length - i) 0 ⟨zA,Nat.zero_le _,_,[],_,[],hc,Lst.nil,fun b hb=>(by cases hb),Lst.nil,rfl,rfl,fun j o hj=>by omega⟩ ?_;clear orow
 rintro i t h' n' ⟨ht,hi,mv,M,cv,C,hc',hM,hMb,hC,hMl,hCl,hall⟩
 have hn':=ht.le;have k':=Opd.tchB k hc (by simp) ht;obtain⟨hrb,hcb⟩:=k'.hb;have orow:=k'.ops.row (by decide);by_cases hlt:i<os.length
 · have c0:os[i]? = some os[i]:=List.getElem?_eq_getElem hlt;generalize os[i]=o at c0
   have c1:=yE orow c0;have hom:=List.mem_of_getElem? c0;have hok:=ho o hom;have hlow:=orow.low (by omega);have ou1:=yT (k'.ru o hom);have oc1:=yT (k'.rc o hom);have urow:=(k'.ru o hom).row (by decide);have crow:=(k'.rc o hom).row (by decide);have mrow:=hM.1.row (by decide);have vrow:=hC.1.row (by decide);have kA:Cel (hst (hal h' n' (mkC [str [],str [],str [],.slice none 0 0,I64 0,.slice none 0 0] (eOp+1) 0)) n' 0 (opC o)) bt zTb 0 [x0,x1,x2,osv,x4,x5,x6,x7,x8,x9,.map (some rb),.map (some cb),x12,lapv,x14,inv,mv,cv,x18,x19,x20]:=zD;repeat' first|refine wk ?_|refine cX (fun _=>?_) fun _=>?_|fail
   refine uB (wU (e:=sK) (br:=rb) (ns:=ns) (crow.tch (S:=[]) zA (Nat.le_refl _) (by simp)) (by omega) (by have:=hok.cbl;omega) (by omega) (by omega) (kA.cell rfl) ((k'.mr).tch (S:=[]) zA hrb (by simp)) hns hok.cb) ?_
   rintro v2 h2 n2 ⟨w2,t2⟩
   have hn2':=t2.le;obtain⟨s1,s2,s3,rfl⟩:=own_slv w2;have kB:=kA.tch t2 (by omega) (by simp);have cO:Cel h2 n' (eOp+1) 0 (opC o):=zD;have tA:Tch [] h' n' h2 n2:=zA;clear t2 kA;have hCX:∀x,Ints n (n2+1) (hal h2 n2 x) cv C:=fun x=>wP (e:=eSets) hC (Tch.kx (zA:Tch [] h' n' (hal h2 n2 x) (n2+1))) (by decide) (by decide);repeat' first|refine wk ?_|refine cX (fun _=>?_) fun _=>?_|fail
   refine appN (hCX _).1 (zR (e:=yK) (sz:=1) (len:=1) rfl (by decide)) (by decide) ⟨rfl,trivial⟩ (by omega) ?_
   rintro v3 h3 n3 w3 t3
   have hn3:=t3.le;have o3:=w3.one;have kx3:Kx yK _ _ h3 n3:=kx_own (hCX _).1 t3;have kC:=Cel.app (Cel.tch (S:=[]) kB zA (by omega) (by simp)) (hCX _).1 t3 (by omega);have cP:=Cel.app (Cel.tch (S:=[]) cO zA (by omega) (by simp)) (hCX _).1 t3 (by omega)
   have hC3:Ints n n3 h3 v3 (C++[(.slice s1 s2 s3,o.clob.map fun r=>((ns.idxOf r:Nat):Int))]):=Lst.app (hCX _) w3 (by omega) (fun y s=>IntEl.kx s kx3 (by decide)) (IntEl.kx (n:=n2+1) (h:=hal h2 n2 _) (show Own n (n2+1) (hal h2 n2 _) (.slice s1 s2 s3) tN 1 (o.clob.map fun r=>((ns.idxOf r:Nat):Int)).length ((o.clob.map fun r=>((ns.idxOf r:Nat):Int)).map I64) from by
    rw[List.map_map,List.length_map];exact Own.dnl (w2.tch (S:=[]) zA (by simp)) (by omega)) kx3 (by decide))
   have tX3:Tch [] h' n' (hal h2 n2 (mkC [.slice s1 s2 s3] 0 0)) (n2+1):=zA;have kxM:Kx yK h' n' h3 n3:=Kx.trans (Tch.kx tX3) kx3;have hM3:Mays lo n3 h3 mv M:=Lst.kx hM kxM (by decide) fun _ s=>zY s kxM (by decide) (by decide);have k3:Opd lo n3 h3 rb cb osv lapv inv os ns cns L I:=Opd.own (Opd.tchN k' tX3) (hCX _).1 t3 (by decide) (by decide) (by decide) (by decide) (by decide);have t03:Tch [bt] h n h3 n3:=Tch.tch t3 (zA:Tch [bt] h n (hal h2 n2 (mkC [.slice s1 s2 s3] 0 0)) (n2+1)) fun x hx=>.inl (yN (hCX (mkC [.slice s1 s2 s3] 0 0)).1 x hx);clear t3 cO tA hCX tX3 kx3 kxM;have urow3:=(k3.ru o hom).row (by decide);have crow3:=(k3.rc o hom).row (by decide);repeat' first|refine wk ?_|refine cX (fun _=>?_) fun _=>?_|fail
   have hul:0<o.uses.length:=by have:=hok.len;omega
   refine way_app (lo:=n3) (way_new (e:=eOpr) (sz:=2) (len:=1) (Nat.le_refl _) rfl (by decide)) (fun y hy=>by simp at hy;rcases hy with rfl|rfl <;> rfl) (by omega) ((Row.tch urow3 (S:=[bt]) (by exact zA) (by omega) (celE kC (by simp) (k3.ru o hom))).up (by omega)) hul (oprC_one _) (by have:=hok.len;omega) ?_
   rintro v4 h4 n4 w4 _ t4
   have hn4:=t4.le;have tS:Tch [bt] h3 n3 (hst h3 bt (0+17) [v3]) n3:=zA
   have tY:Tch [] (hst h3 bt (0+17) [v3]) n3 h4 n4:=Tch.tch t4 (zA:Tch [] (hst h3 bt (0+17) [v3]) n3 (hal (hst h3 bt (0+17) [v3]) n3 (mkC [str o.d.cls,str o.d.fix] 0 0)) (n3+1)) fun x hx=>.inl (by
    have hx:x∈(some n3).toList:=hx;simp at hx;omega)
   have k4:=Opd.tchN (Opd.tchB k3 kC (by simp) tS) tY;have kS:Kx eSet h3 n3 (hst h3 bt (0+17) [v3]) n3:=kx_cel kC tS;have hM4:Mays lo n4 h4 mv M:=Lst.kx (Lst.cel hM3 kC tS fun _ s=>wA s kC tS) (Tch.kx (e:=yK) tY) (by decide) fun _ s=>zY (e:=yK) s tY.kx (by decide) (by decide);have hC4:=wP (e:=eSets) (vV hC3 kC tS) tY.kx (by decide) (by decide);have cT:Cel (hst h3 bt (0+17) [v3]) bt zTb 0 [x0,x1,x2,osv,x4,x5,x6,x7,x8,x9,.map (some rb),.map (some cb),x12,lapv,x14,inv,mv,v3,x18,x19,x20]:=zD;have c4:=cT.tch tY (by omega) (by simp);have cP4:Cel h4 n' (eOp+1) 0 (opC o):=(show Cel (hst h3 bt (0+17) [v3]) n' (eOp+1) 0 (opC o) from zD).tch tY (by omega) (by simp);have t04':Tch [bt] h n h4 n4:=Tch.tch tY (zA:Tch [bt] h n (hst h3 bt (0+17) [v3]) n3) (by simp)
   have xrow:Row n4 h4 v4 eOpr 2 (o.d::o.uses).length ((o.d::o.uses).flatMap oprC):=by
    have:=w4.row (by decide);rw [Nat.add_comm 1 o.uses.length]at this;exact this
   have hxl:(o.d::o.uses).length≤3:=by have:=hok.len;simp;omega
   have hxs:=hok.cl;clear t4 tY tS kS cT w4 k3 hM3 hC3 urow3 crow3 kC kB cP t03 hC hM k' orow urow crow mrow vrow hc';generalize hxe:o.d::o.uses=xs at xrow hxl hxs
   repeat' first|refine wk ?_|refine cX (fun _=>?_) fun _=>?_|fail
   refine lpR (α :=Nat×Value×List (Value×List Nat)) (fun a=>[(0,ptr bt 0),(3,ptr n' 0),(14,osv),(15,I64 os.length),(16,I64 i),(38,v4),(39,I64 xs.length),(40,I64 a.1),(4,a.2.1)]) (fun a h5 n5=>Tch [] h4 n4 h5 n5∧a.1≤xs.length∧Sets lo n5 h5 a.2.1 a.2.2∧(∀b∈(zO a.2.1).toList,n4≤b)∧a.2.2.length=a.1∧∀(k:Nat) x p,k<a.1→xs[k]? = some x→a.2.2[k]? = some p→∀r,vE p.2 r=mayF L I ns cns o k x r) (fun a=>xs.length - a.1) (0,.slice none 0 0,[]) ⟨zA,Nat.zero_le _,Lst.nil,fun b hb=>(by cases hb),rfl,fun k x p hk=>by dsimp only at hk;omega⟩ ?_
   rintro ⟨q,v7,S⟩ t h5 n5 ⟨t5,hq,hS,hSb,hSl,hSe⟩
   dsimp only at hq hS hSb hSl hSe ⊢;have hn5:=t5.le;have k5:=Opd.tchN k4 t5;obtain⟨hrb5,hcb5⟩:=k5.hb;have c5:=c4.tch t5 (by omega) (by simp);have cP5:=cP4.tch t5 (by omega) (by simp);have xrow5:=xrow.tch t5 (Nat.le_refl _) (by simp);by_cases hltq:q<xs.length
   · have d0:xs[q]? = some xs[q]:=List.getElem?_eq_getElem hltq;generalize xs[q]=x at d0
     have d1:=yE xrow5 d0;have hxm:=List.mem_of_getElem? d0;obtain⟨hxc,hxf⟩:=hxs x hxm;have hlow5:=xrow5.low (by omega);have ilt:=List.idxOf_lt_length_iff.2 hxc;have irow:=k5.ins.1.row (by decide);have hI:I[cns.idxOf x.cls]? = some I[cns.idxOf x.cls]:=List.getElem?_eq_getElem (by omega);have hIe:=k5.ins.2 _ (List.getElem_mem (by omega:cns.idxOf x.cls<I.length));generalize I[cns.idxOf x.cls]=pI at hI hIe
     have yI:zC h5 (sbk inv) (sof inv+cns.idxOf x.cls*1)=some pI.1:=by rw[Nat.mul_one];exact irow.at (by rw[List.getElem?_map,hI];rfl)
     have ilow:=irow.low (by omega);have oI:=hIe.2.one;have lk1:yQ P (hst (hal h5 n5 (mkC [str [],str []] (eOpr+1) 0)) n5 0 [str x.cls,str x.fix]) 87 (.map (some cb)) (str x.cls) false=some (I64 (cns.idxOf x.cls:Nat)):=lkN (k5.mc.tch (zA:Tch [] h5 n5 (hst (hal h5 n5 (mkC [str [],str []] (eOpr+1) 0)) n5 0 [str x.cls,str x.fix]) (n5+1)) hcb5 (by simp)) hcn hxc;repeat' first|refine wk ?_|refine cX (fun _=>?_) fun _=>?_|fail
     · rename_i f1;have hxf:=hxf.resolve_left f1;have lk2:yQ P (hst (hal (hst (hal h5 n5 (mkC [str [],str []] (eOpr+1) 0)) n5 0 [str x.cls,str x.fix]) (n5+1) (mkC [.slice none 0 0] (eSet+1) 0)) (n5+1) 0 [pI.1]) 87 (.map (some rb)) (str x.fix) false=some (I64 (ns.idxOf x.fix:Nat)):=lkN (k5.mr.tch (zA:Tch [] h5 n5 (hst (hal (hst (hal h5 n5 (mkC [str [],str []] (eOpr+1) 0)) n5 0 [str x.cls,str x.fix]) (n5+1) (mkC [.slice none 0 0] (eSet+1) 0)) (n5+1) 0 [pI.1]) (n5+1+1)) hrb5 (by simp)) hns hxf;repeat' first|refine wk ?_|refine cX (fun _=>?_) fun _=>?_|fail
       refine uB (of_ret (l:=[((ns.idxOf x.fix:Nat):Int)]) (zR (e:=tN) (sz:=1) (len:=1) rfl (by decide)) (Nat.le_refl _) (by show 1<inf;decide)) ?_
       rintro _ h7 n7 ⟨wv,ws,rfl,hsw,hw0,kw,t7⟩
       have hn7:=t7.le;have oW:=kw.one;repeat' first|refine wk ?_|refine cX (fun _=>?_) fun _=>?_|fail
       have t6:Tch [] h5 n5 (hst h7 (n5+1) 0 [wv]) n7:=zA;have tS:Tch [n5+1] h7 n7 (hst h7 (n5+1) 0 [wv]) n7:=zA;have c7':Cel h7 (n5+1) (eSet+1) 0 [pI.1]:=zD;have c7:Cel (hst h7 (n5+1) 0 [wv]) (n5+1) (eSet+1) 0 [wv]:=zD;have sW:SetEl lo n7 (hst h7 (n5+1) 0 [wv]) (wv,ws):=SetEl.kx (e:=yK) ⟨hsw,kw.dnl (by omega)⟩ (kx_cel c7' tS) (by decide)
       have hws:∀r,vE ws r=basF I ns cns x r:=fun r=>by
        have hlt9:=List.idxOf_lt_length_iff.2 hxf;unfold basF;rw [if_neg f1];refine Bool.eq_iff_iff.2 ((hw0 r).trans ?_);rw [decide_eq_true_iff];refine⟨fun⟨h9,_⟩=>by simp at h9;omega,fun h9=>⟨by simp;omega,by omega⟩⟩
       have hn65:n5+1<n7:=by omega
       generalize hst h7 (n5+1) 0 [wv]=h6 at *
       clear lk1 lk2 t7 kw c7' tS;generalize n7=n6 at *
       have hn6:=t6.le;have hcbl:=hok.cbl;have k6:=Opd.tchN k5 t6;have c46:=c5.tch t6 (by omega) (by simp);have cP6:=cP5.tch t6 (by omega) (by simp);have crow6:=(k6.rc o hom).row (by decide);obtain⟨hrb6,_⟩:=k6.hb;repeat' first|refine wk ?_|refine cX (fun _=>?_) fun _=>?_|fail
       refine uB (wU (e:=sK) (br:=rb) (ns:=ns) crow6 (Nat.le_refl _) (by have:=hok.cbl;omega) (by omega) (by omega) (c46.cell rfl) k6.mr hns hok.cb) ?_
       rintro v8 h8 n8 ⟨w8,t8⟩
       have hn8:=t8.le;have t68:Tch [] h5 n5 h8 n8:=Tch.tch t8 t6 (by simp);have c78:=c7.tch t8 (by omega) (by simp);have s78:SetEl lo n8 h8 (wv,ws):=SetEl.kx (e:=yK) sW t8.kx (by decide);have row8:=w8.row (by decide);clear t6 t8 c7 sW k6 c46 cP6 crow6;repeat' first|refine wk ?_|refine cX (fun _=>?_) fun _=>?_|fail
       refine lpR (fun e:Nat=>[(0,ptr bt 0),(3,ptr n' 0),(14,osv),(15,I64 os.length),(16,I64 i),(38,v4),(39,I64 xs.length),(40,I64 q),(4,v7),(5,I64 q),(7,ptr (n5+1) 0),(73,v8),(74,I64 o.clob.length),(75,I64 e)]) (fun e h9 n9=>Tch [n5+1] h8 n8 h9 n9∧e≤o.clob.length∧∃wv ws,Cel h9 (n5+1) (eSet+1) 0 [wv]∧SetEl lo n9 h9 (wv,ws)∧∀r,vE ws r=(basF I ns cns x r && !(decide (q=0) && (o.clob.take e).any fun c=>memI L (ns.idxOf c) r))) (fun e=>o.clob.length - e) 0 ⟨Tch.refl _ _ _,Nat.zero_le _,wv,ws,c78,s78,fun r=>by rw[hws r];simp⟩ ?_;clear c78 s78 row8
       rintro e t h9 n9 ⟨t9,he,wv',ws',c9,s9,hw9⟩
       have hn9:=t9.le;have w9:=w8.tch t9 (own_lt w8 (by omega));have row9:=w9.row (by decide);have t59:Tch [] h5 n5 h9 n9:=Tch.tch t9 t68 fun x hx=>.inl (by simp at hx;omega);have k9:=Opd.tchN k5 t59;have c59:=c5.tch t59 (by omega) (by simp);have o9:=s9.2.one;by_cases hlte:e<o.clob.length
       · have e0:o.clob[e]? = some o.clob[e]:=List.getElem?_eq_getElem hlte;generalize o.clob[e]=cR at e0
         have e1:zC h9 (sbk v8) (sof v8+e*1)=some (I64 (ns.idxOf cR:Nat)):=by rw[Nat.mul_one];exact row9.at (by rw[List.getElem?_map,e0];rfl)
         have low8:=row9.low (by omega);have hcm:=hok.cb cR (List.mem_of_getElem? e0);have llt:=List.idxOf_lt_length_iff.2 hcm;have lrow:=k9.lap.1.row (by decide);have hLg:L[ns.idxOf cR]? = some L[ns.idxOf cR]:=List.getElem?_eq_getElem (by omega);have hLe:=k9.lap.2 _ (List.getElem_mem (by omega:ns.idxOf cR<L.length));generalize L[ns.idxOf cR]=pL at hLg hLe
         have yL:zC h9 (sbk lapv) (sof lapv+ns.idxOf cR*1)=some pL.1:=by rw[Nat.mul_one];exact lrow.at (by rw[List.getElem?_map,hLg];rfl)
         have llow:=lrow.low (by omega);have oL:=hLe.2.one;repeat' first|refine wk ?_|refine cX (fun _=>?_) fun _=>?_|fail
         · rename_i g1;refine uB (sub_ret (s9.2.row (by decide)) (hLe.2.row (by decide)) (Nat.le_refl _) s9.1 hLe.1) ?_
           rintro _ hA nA ⟨wv2,ws2,rfl,hs2,hw2,kw2,tA⟩
           have hnA:=tA.le;have ow2:=kw2.one;have cA':=c9.tch tA (by omega) (by simp);repeat' first|refine wk ?_|refine cX (fun _=>?_) fun _=>?_|fail
           have tS9:Tch [n5+1] hA nA (hst hA (n5+1) 0 [wv2]) nA:=zA
           exact rnd (e+1) ⟨Tch.tch tS9 (Tch.tch tA t9 (by simp)) (fun x hx=>.inr hx),by omega,wv2,ws2,zD,SetEl.kx (e:=yK) ⟨hs2,kw2.dnl (by omega)⟩ (kx_cel cA' tS9) (by decide),fun r=>by
            rw[hw2 r,hw9 r,wQ e0,List.any_append];have hq0:q=0:=by omega
            have hm:memI L (ns.idxOf cR) r=vE pL.2 r:=by unfold memI;rw [hLg]
            simp only[List.any_cons,List.any_nil,Bool.or_false,hm,hq0,decide_true,Bool.true_and];cases basF I ns cns x r <;> cases (o.clob.take e).any (fun c=>memI L (ns.idxOf c) r) <;> cases vE pL.2 r <;> rfl⟩
         · rename_i g1
           exact rnd (e+1) ⟨t9,by omega,wv',ws',c9,s9,fun r=>by
            rw[hw9 r];have hq0:¬q=0:=by omega
            rw[decide_eq_false hq0];rfl⟩
       · obtain rfl:e=o.clob.length:=by omega
         have hS9:=zY (e:=yK) hS t59.kx (by decide) (by decide);have hSX:∀x,Sets lo (n9+1) (hal h9 n9 x) v7 S:=fun x=>zY (e:=yK) hS9 (Tch.kx (zA:Tch [] h9 n9 (hal h9 n9 x) (n9+1))) (by decide) (by decide);repeat' first|refine wk ?_|refine cX (fun _=>?_) fun _=>?_|fail
         refine appN (hSX _).1 (zR (e:=eSet) (sz:=1) (len:=1) rfl (by decide)) (by decide) ⟨o9,trivial⟩ (by omega) ?_
         rintro v10 h10 n10 w10 t10
         have hn10:=t10.le;have kx10:Kx eSet _ _ h10 n10:=kx_own (hSX _).1 t10;have hS10:Sets lo n10 h10 v10 (S++[(wv',ws')]):=Lst.app (hSX _) w10 (by omega) (fun y s=>SetEl.kx s kx10 (by decide)) (SetEl.kx (n:=n9+1) (h:=hal h9 n9 _) (SetEl.kx (e:=yK) s9 (Tch.kx (zA:Tch [] h9 n9 (hal h9 n9 _) (n9+1))) (by decide)) kx10 (by decide));have t410:Tch [] h4 n4 h10 n10:=Tch.tch t10 (zA:Tch [] h4 n4 (hal h9 n9 (mkC [wv'] 0 0)) (n9+1)) fun x hx=>.inl (hSb x hx);repeat' first|refine wk ?_|refine cX (fun _=>?_) fun _=>?_|fail
         exact rnd (q+1,v10,S++[(wv',ws')]) ⟨t410,by dsimp only;omega,hS10,fun b hb=>by have:=yN w10 b hb;omega,by dsimp only;rw [List.length_append,hSl];rfl,fun k y p hk e1 e2 r=>by
          dsimp only at hk e2;rcases Nat.lt_succ_iff_lt_or_eq.1 hk with h9|rfl
          · rw[List.getElem?_append_left (by omega)]at e2;exact hSe k y p h9 e1 e2 r
          · rw[d0]at e1;cases e1;rw [List.getElem?_append_right (by omega),hSl,Nat.sub_self]at e2;cases e2;rw [hw9 r,List.take_length];rfl⟩
     · rename_i f1;have hf:x.fix=[]:=Decidable.not_not.1 f1;have t6:Tch [] h5 n5 (hst (hal (hst (hal h5 n5 (mkC [str [],str []] (eOpr+1) 0)) n5 0 [str x.cls,str x.fix]) (n5+1) (mkC [.slice none 0 0] (eSet+1) 0)) (n5+1) 0 [pI.1]) (n5+1+1):=zA;have c7:Cel (hst (hal (hst (hal h5 n5 (mkC [str [],str []] (eOpr+1) 0)) n5 0 [str x.cls,str x.fix]) (n5+1) (mkC [.slice none 0 0] (eSet+1) 0)) (n5+1) 0 [pI.1]) (n5+1) (eSet+1) 0 [pI.1]:=zD;have sW:SetEl lo (n5+1+1) (hst (hal (hst (hal h5 n5 (mkC [str [],str []] (eOpr+1) 0)) n5 0 [str x.cls,str x.fix]) (n5+1) (mkC [.slice none 0 0] (eSet+1) 0)) (n5+1) 0 [pI.1]) (pI.1,pI.2):=SetEl.kx (e:=yK) hIe t6.kx (by decide);have hws:∀r,vE pI.2 r=basF I ns cns x r:=fun r=>by unfold basF memI;rw [if_pos hf,hI]
       have hn65:n5+1<n5+1+1:=Nat.lt_succ_self _;generalize (hst (hal (hst (hal h5 n5 (mkC [str [],str []] (eOpr+1) 0)) n5 0 [str x.cls,str x.fix]) (n5+1) (mkC [.slice none 0 0] (eSet+1) 0)) (n5+1) 0 [pI.1])=h6 at *
       generalize n5+1+1=n6 at *
       clear lk1;have hn6:=t6.le;have hcbl:=hok.cbl;have k6:=Opd.tchN k5 t6;have c46:=c5.tch t6 (by omega) (by simp);have cP6:=cP5.tch t6 (by omega) (by simp);have crow6:=(k6.rc o hom).row (by decide);obtain⟨hrb6,_⟩:=k6.hb;repeat' first|refine wk ?_|refine cX (fun _=>?_) fun _=>?_|fail
       refine uB (wU (e:=sK) (br:=rb) (ns:=ns) crow6 (Nat.le_refl _) (by have:=hok.cbl;omega) (by omega) (by omega) (c46.cell rfl) k6.mr hns hok.cb) ?_
       rintro v8 h8 n8 ⟨w8,t8⟩
       have hn8:=t8.le;have t68:Tch [] h5 n5 h8 n8:=Tch.tch t8 t6 (by simp);have c78:=c7.tch t8 (by omega) (by simp);have s78:SetEl lo n8 h8 (pI.1,pI.2):=SetEl.kx (e:=yK) sW t8.kx (by decide);have row8:=w8.row (by decide);clear t6 t8 c7 sW k6 c46 cP6 crow6;repeat' first|refine wk ?_|refine cX (fun _=>?_) fun _=>?_|fail
       refine lpR (fun e:Nat=>[(0,ptr bt 0),(3,ptr n' 0),(14,osv),(15,I64 os.length),(16,I64 i),(38,v4),(39,I64 xs.length),(40,I64 q),(4,v7),(5,I64 q),(7,ptr (n5+1) 0),(73,v8),(74,I64 o.clob.length),(75,I64 e)]) (fun e h9 n9=>Tch [n5+1] h8 n8 h9 n9∧e≤o.clob.length∧∃wv ws,Cel h9 (n5+1) (eSet+1) 0 [wv]∧SetEl lo n9 h9 (wv,ws)∧∀r,vE ws r=(basF I ns cns x r && !(decide (q=0) && (o.clob.take e).any fun c=>memI L (ns.idxOf c) r))) (fun e=>o.clob.length - e) 0 ⟨Tch.refl _ _ _,Nat.zero_le _,pI.1,pI.2,c78,s78,fun r=>by rw[hws r];simp⟩ ?_;clear c78 s78 row8
       rintro e t h9 n9 ⟨t9,he,wv',ws',c9,s9,hw9⟩
       have hn9:=t9.le;have w9:=w8.tch t9 (own_lt w8 (by omega));have row9:=w9.row (by decide);have t59:Tch [] h5 n5 h9 n9:=Tch.tch t9 t68 fun x hx=>.inl (by simp at hx;omega);have k9:=Opd.tchN k5 t59;have c59:=c5.tch t59 (by omega) (by simp);have o9:=s9.2.one;by_cases hlte:e<o.clob.length
       · have e0:o.clob[e]? = some o.clob[e]:=List.getElem?_eq_getElem hlte;generalize o.clob[e]=cR at e0
         have e1:zC h9 (sbk v8) (sof v8+e*1)=some (I64 (ns.idxOf cR:Nat)):=by rw[Nat.mul_one];exact row9.at (by rw[List.getElem?_map,e0];rfl)
         have low8:=row9.low (by omega);have hcm:=hok.cb cR (List.mem_of_getElem? e0);have llt:=List.idxOf_lt_length_iff.2 hcm;have lrow:=k9.lap.1.row (by decide);have hLg:L[ns.idxOf cR]? = some L[ns.idxOf cR]:=List.getElem?_eq_getElem (by omega);have hLe:=k9.lap.2 _ (List.getElem_mem (by omega:ns.idxOf cR<L.length));generalize L[ns.idxOf cR]=pL at hLg hLe
         have yL:zC h9 (sbk lapv) (sof lapv+ns.idxOf cR*1)=some pL.1:=by rw[Nat.mul_one];exact lrow.at (by rw[List.getElem?_map,hLg];rfl)
         have llow:=lrow.low (by omega);have oL:=hLe.2.one;repeat' first|refine wk ?_|refine cX (fun _=>?_) fun _=>?_|fail
         · rename_i g1;refine uB (sub_ret (s9.2.row (by decide)) (hLe.2.row (by decide)) (Nat.le_refl _) s9.1 hLe.1) ?_
           rintro _ hA nA ⟨wv2,ws2,rfl,hs2,hw2,kw2,tA⟩
           have hnA:=tA.le;have ow2:=kw2.one;have cA':=c9.tch tA (by omega) (by simp);repeat' first|refine wk ?_|refine cX (fun _=>?_) fun _=>?_|fail
           have tS9:Tch [n5+1] hA nA (hst hA (n5+1) 0 [wv2]) nA:=zA
           exact rnd (e+1) ⟨Tch.tch tS9 (Tch.tch tA t9 (by simp)) (fun x hx=>.inr hx),by omega,wv2,ws2,zD,SetEl.kx (e:=yK) ⟨hs2,kw2.dnl (by omega)⟩ (kx_cel cA' tS9) (by decide),fun r=>by
            rw[hw2 r,hw9 r,wQ e0,List.any_append];have hq0:q=0:=by omega
            have hm:memI L (ns.idxOf cR) r=vE pL.2 r:=by unfold memI;rw [hLg]
            simp only[List.any_cons,List.any_nil,Bool.or_false,hm,hq0,decide_true,Bool.true_and];cases basF I ns cns x r <;> cases (o.clob.take e).any (fun c=>memI L (ns.idxOf c) r) <;> cases vE pL.2 r <;> rfl⟩
         · rename_i g1
           exact rnd (e+1) ⟨t9,by omega,wv',ws',c9,s9,fun r=>by
            rw[hw9 r];have hq0:¬q=0:=by omega
            rw[decide_eq_false hq0];rfl⟩
       · obtain rfl:e=o.clob.length:=by omega
         have hS9:=zY (e:=yK) hS t59.kx (by decide) (by decide);have hSX:∀x,Sets lo (n9+1) (hal h9 n9 x) v7 S:=fun x=>zY (e:=yK) hS9 (Tch.kx (zA:Tch [] h9 n9 (hal h9 n9 x) (n9+1))) (by decide) (by decide);repeat' first|refine wk ?_|refine cX (fun _=>?_) fun _=>?_|fail
         refine appN (hSX _).1 (zR (e:=eSet) (sz:=1) (len:=1) rfl (by decide)) (by decide) ⟨o9,trivial⟩ (by omega) ?_
         rintro v10 h10 n10 w10 t10
         have hn10:=t10.le;have kx10:Kx eSet _ _ h10 n10:=kx_own (hSX _).1 t10;have hS10:Sets lo n10 h10 v10 (S++[(wv',ws')]):=Lst.app (hSX _) w10 (by omega) (fun y s=>SetEl.kx s kx10 (by decide)) (SetEl.kx (n:=n9+1) (h:=hal h9 n9 _) (SetEl.kx (e:=yK) s9 (Tch.kx (zA:Tch [] h9 n9 (hal h9 n9 _) (n9+1))) (by decide)) kx10 (by decide));have t410:Tch [] h4 n4 h10 n10:=Tch.tch t10 (zA:Tch [] h4 n4 (hal h9 n9 (mkC [wv'] 0 0)) (n9+1)) fun x hx=>.inl (hSb x hx);repeat' first|refine wk ?_|refine cX (fun _=>?_) fun _=>?_|fail
         exact rnd (q+1,v10,S++[(wv',ws')]) ⟨t410,by dsimp only;omega,hS10,fun b hb=>by have:=yN w10 b hb;omega,by dsimp only;rw [List.length_append,hSl];rfl,fun k y p hk e1 e2 r=>by
          dsimp only at hk e2;rcases Nat.lt_succ_iff_lt_or_eq.1 hk with h9|rfl
          · rw[List.getElem?_append_left (by omega)]at e2;exact hSe k y p h9 e1 e2 r
          · rw[d0]at e1;cases e1;rw [List.getElem?_append_right (by omega),hSl,Nat.sub_self]at e2;cases e2;rw [hw9 r,List.take_length];rfl⟩
   · obtain rfl:q=xs.length:=by omega
     obtain⟨s4,s5,s6,rfl⟩:=own_slv hS.1;have hM5:Mays lo n5 h5 mv M:=Lst.kx hM4 (Tch.kx (e:=yK) t5) (by decide) fun _ s=>zY (e:=yK) s t5.kx (by decide) (by decide);have hC5:=wP (e:=eSets) hC4 t5.kx (by decide) (by decide)
     have hMX:∀x,Mays lo (n5+1) (hal h5 n5 x) mv M:=fun x=>by
      have tx:Tch [] h5 n5 (hal h5 n5 x) (n5+1):=zA;exact Lst.kx hM5 (Tch.kx (e:=yK) tx) (by decide) fun _ s=>zY (e:=yK) s tx.kx (by decide) (by decide)
     repeat' first|refine wk ?_|refine cX (fun _=>?_) fun _=>?_|fail
     refine appN (hMX _).1 (zR (e:=eSets) (sz:=1) (len:=1) rfl (by decide)) (by decide) ⟨rfl,trivial⟩ (by omega) ?_
     rintro v11 h11 n11 w11 t11
     have hn11:=t11.le;have o11:=w11.one;have tX5:Tch [] h5 n5 (hal h5 n5 (mkC [.slice s4 s5 s6] 0 0)) (n5+1):=zA;have kx11:Kx eSets _ _ h11 n11:=kx_own (hMX _).1 t11;have c11:=Cel.app (Cel.tch (S:=[]) c5 tX5 (by omega) (by simp)) (hMX _).1 t11 (by omega);have hM11:Mays lo n11 h11 v11 (M++[(.slice s4 s5 s6,S)]):=Lst.app (hMX _) w11 (by omega) (fun y s=>zY s kx11 (by decide) (by decide)) (zY (zY (e:=yK) hS tX5.kx (by decide) (by decide)) kx11 (by decide) (by decide));have hC11:=wP (wP (e:=eSets) hC5 tX5.kx (by decide) (by decide)) kx11 (by decide) (by decide);have t0X:Tch [bt] h n (hal h5 n5 (mkC [.slice s4 s5 s6] 0 0)) (n5+1):=Tch.tch tX5 (Tch.tch t5 t04' (by simp)) (by simp);have t011:Tch [bt] h n h11 n11:=Tch.tch t11 t0X fun x hx=>.inl (hMb x hx);clear t11 t0X;repeat' first|refine wk ?_|refine cX (fun _=>?_) fun _=>?_|fail
     have tS:Tch [bt] h11 n11 (hst h11 bt (0+16) [v11]) n11:=zA
     have hCl':∀(j:Nat) o',j<i+1→os[j]? = some o'→(∃cv',(C++[(.slice s1 s2 s3,o.clob.map fun r=>((ns.idxOf r:Nat):Int))])[j]? = some (cv',o'.clob.map fun r=>((ns.idxOf r:Nat):Int)))∧∃sv S',(M++[(.slice s4 s5 s6,S)])[j]? = some (sv,S')∧S'.length=(o'.d::o'.uses).length∧∀(k:Nat) x p,(o'.d::o'.uses)[k]? = some x→S'[k]? = some p→∀r,vE p.2 r=mayF L I ns cns o' k x r:=fun j o' hj e=>by
      rcases Nat.lt_succ_iff_lt_or_eq.1 hj with h9|rfl
      · obtain⟨⟨cv',a1⟩,sv,S',a2,a3,a4⟩:=hall j o' h9 e;exact⟨⟨cv',by rw[List.getElem?_append_left (by omega)];exact a1⟩,sv,S',by rw[List.getElem?_append_left (by omega)];exact a2,a3,a4⟩
      · rw[c0]at e;cases e;refine⟨⟨_,by rw[List.getElem?_append_right (by omega),hCl,Nat.sub_self];rfl⟩,_,S,by rw[List.getElem?_append_right (by omega),hMl,Nat.sub_self];rfl,by rw[hxe];exact hSl,fun k x p e1 e2 r=>?_⟩;rw [hxe]at e1;exact hSe k x p (List.getElem?_eq_some_iff.1 e1).1 e1 e2 r
     exact rnd (i+1) ⟨Tch.tch tS t011 (fun x hx=>.inr hx),by omega,v11,_,v3,_,zD,Lst.cel hM11 c11 tS fun _ s=>wA s c11 tS,fun b hb=>by have:=yN w11 b hb;omega,vV hC11 c11 tS,by rw[List.length_append,hMl];rfl,by rw[List.length_append,hCl];rfl,hCl'⟩
 · obtain rfl:i=os.length:=by omega
   repeat' first|refine wk ?_|refine cX (fun _=>?_) fun _=>?_|fail
   exact⟨rfl,ht,mv,M,cv,C,hc',hM,hC,hMl,hCl,fun j o e=>hall j o (List.getElem?_eq_some_iff.1 e).1 e⟩
end Go.Proofs.YtmccnilgnlaffaaGreatDoor
namespace Go.Proofs.YtmccnilgnlaffaaGreatDoor
open Go Go.Ex Go.Ex.M
set_option maxRecDepth 100000
set_option maxHeartbeats 8000000
theorem row_cut{ty e sz lo len k:Nat}{h:zB}{v:Value}{vs:List Value}[s:SlC P ty e sz](r:Row lo h v e sz len vs)(hk:k≤len):∃a c,wB P h ty v none (some (I64 (k:Nat))) none=some (.slice a k c):=by
 obtain⟨hu,ei,hi,hsz⟩:=s.get;rcases r with⟨rfl,rfl,rfl⟩|⟨b,off,cap,m,z,kd,hb,rfl,hl,h3,hm,hr,h7⟩
 · obtain rfl:k=0:=by omega
   refine⟨none,0,?_⟩;unfold wB;rw [hu];dsimp only;rw [hi];rfl
 rcases h7 with⟨g1,g2⟩|⟨rfl,rfl,rfl,g4⟩
 · refine⟨some ⟨b,off,none⟩,cap,?_⟩;unfold wB;rw [hu];dsimp only;rw [hi];dsimp only
   have hci:Nat.beq cap inf=false:=by
    cases e9:Nat.beq cap inf with
    | false=>rfl
    | true=>have:=zE e9;omega
   rw[hci];show vA ⟨b,off,none⟩ len cap ei.size none (some (I64 (k:Nat))) none=_;unfold vA
   show(match zX len cap (some (I64 (k:Nat))) with
    | none=>none
    | some h=>match zX 0 h none with
     | none=>none
     | some l=>cond (Nat.blt cap inf && Nat.ble h cap) (some (Value.slice (some (cond (Nat.beq cap l) ⟨b,off,none⟩ (far ⟨b,off,none⟩ (Nat.mul l ei.size)))) (Nat.sub h l) (Nat.sub cap l))) none:Option Value)=_
   rw[bound_at (by omega)];show cond (Nat.blt cap inf && Nat.ble k cap) (some (Value.slice (some (cond (Nat.beq cap 0) ⟨b,off,none⟩ (far ⟨b,off,none⟩ (Nat.mul 0 ei.size)))) (Nat.sub k 0) (Nat.sub cap 0))) none=_;rw [yU g1,vJ (by omega)];have e0:Nat.mul 0 ei.size=0:=Nat.zero_mul _;rw [e0];have e1:far ⟨b,off,none⟩ 0=⟨b,off,none⟩:=rfl;rw [e1];cases Nat.beq cap 0 <;> rfl
 · refine⟨some ⟨b,off,none⟩,inf,?_⟩;unfold wB;rw [hu];dsimp only;rw [hi];dsimp only;have hci:Nat.beq inf inf=true:=Nat.beq_refl _;rw [hci];cases hg:zF h b <;> rw[hg]at h3 <;> first|(cases h3;done)|(exact absurd (kd_of h3) (by decide))|skip
   rename_i c kn z' kd';have q3':some (kn,z',kd')=some (m,zc e sz,1):=h3;simp only[Option.some.injEq,Prod.mk.injEq]at q3';obtain⟨rfl,rfl,rfl⟩:=q3';show cond (Nat.beq (zc e sz) (zc e ei.size) && Nat.ble 1 ei.size) (uC ⟨b,off,none⟩ len ei.size none (some (I64 (k:Nat))) none) none=_;rw [hsz,Nat.beq_refl,vJ g4];unfold uC;dsimp only[Bool.and_self,cond_true];rw [bound_at hk];show some (Value.slice (some (far ⟨b,off,none⟩ (Nat.mul 0 sz))) (Nat.sub k 0) inf)=_;have e0:Nat.mul 0 sz=0:=Nat.zero_mul _;rw [e0];rfl
variable {lo bc z n:Nat} {h:zB} {m:MachT} {nsv psv:Value} {ns:List Tx} {ps:List Pl}
theorem spills_com(k:Ck lo h bc z m nsv psv ns ps)(hlo:lo≤n)(hok:∀(i:Nat) c,m.classes[i]? = some c→wO m c.name=(i:Nat)∧∀r∈c.regs,r∈ns)(ho:∀o∈m.ops,OpOK m ns o):Com P 8 77 [ptr bc 0] h n fun o h' n'=>∃e,o=outE e∧((e=11∧¬spillOK m ns ps)∨(e=0∧spillOK m ns ps))∧Tch [] h n h' n':=by
 have hbc:=k.hb;have hcel:=k.cel;have ro:=k.mm.ops 0;have hol:=k.mm.ops.lt;have hcl:=k.mm.cls.lt;have hinf:inf<4611686018427387904:=by decide
 have bad:¬spillOK m ns ps→∀h2 n2,Tch [] h n h2 n2→∃e,Out.panic (uQ 11)=outE e∧((e=11∧¬spillOK m ns ps)∨(e=0∧spillOK m ns ps))∧Tch [] h n h2 n2:=fun hb h2 n2 t2=>⟨11,rfl,.inl ⟨rfl,hb⟩,t2⟩;refine ent fun u=>?_;repeat' first|refine wk ?_|refine cX (fun _=>?_) fun _=>?_|fail
 refine lpR (fun i:Nat=>[(0,ptr bc 0),(10,m.osv),(11,I64 m.ops.length),(12,I64 i)]) (fun i h' n'=>Tch [] h n h' n'∧i≤m.ops.length∧∀(j:Nat) o,j<i→m.ops[j]? = some o→fitsB m ns ps o=true) (fun i=>m.ops.length - i) 0 ⟨zA,Nat.zero_le _,fun j _ hj=>absurd hj (Nat.not_lt_zero _)⟩ ?_
 rintro i t h' n' ⟨ht,hi,hno⟩
 have hn':=ht.le;have k':=k.tch ht hlo;have r':=k'.mm.ops 0;have hcel':=k'.cel;by_cases hlt:i<m.ops.length
 · have c0:m.ops[i]? = some m.ops[i]:=List.getElem?_eq_getElem hlt;generalize m.ops[i]=o at c0
   have c1:=yE r' c0;have hom:=List.mem_of_getElem? c0;have hl1:=r'.low (by omega);have hu1:=(k'.mm.opsu o hom 0).one;have hu2:=(k'.mm.opsc o hom 0).one;repeat' first|refine wk ?_|refine cX (fun _=>?_) fun _=>?_|refine wM (fits_pur (Ck.tch k' zA (by omega)) (by omega) hok (ho o hom)) ?_|fail
   · rename_i f1
     exact rnd (i+1) ⟨zA,by omega,fun j y hj e=>by
      rcases Nat.lt_succ_iff_lt_or_eq.1 hj with h9|rfl
      · exact hno j y h9 e
      · rw[c0]at e;cases e;exact f1⟩
   · rename_i f1;exact bad (fun hb=>by have:=hb.1 i o c0;rw [f1]at this;cases this) _ _ zA
 obtain rfl:i=m.ops.length:=by omega
 have hfits:∀(j:Nat) o,m.ops[j]? = some o→fitsB m ns ps o=true:=fun j o e=>hno j o (List.getElem?_eq_some_iff.1 e).1 e;clear hno hi hlt r' hcel ro;have rc':=k'.mm.cls 0;repeat' first|refine wk ?_|refine cX (fun _=>?_) fun _=>?_|fail
 refine lpR (fun i:Nat=>[(0,ptr bc 0),(26,I64 m.classes.length),(27,I64 i)]) (fun i h2 n2=>h2=h'∧n2=n'∧i≤m.classes.length∧∀(a b:Nat) ca cb,a<i→b≤a→m.classes[a]? = some ca→m.classes[b]? = some cb→pairBB m ns ps ⟨ca.name,[]⟩ ⟨cb.name,[]⟩=true) (fun i=>m.classes.length - i) 0 ⟨rfl,rfl,Nat.zero_le _,fun j _ _ _ hj=>absurd hj (Nat.not_lt_zero _)⟩ ?_
 rintro i t h2 n2 ⟨rfl,rfl,hi,hno⟩
 by_cases hlt:i<m.classes.length
 · have c0:m.classes[i]? = some m.classes[i]:=List.getElem?_eq_getElem hlt;generalize m.classes[i]=ca at c0
   obtain⟨sa,sc,hsl⟩:=row_cut (ty:=23) (k:=i+1) (k'.mm.cls _) (by omega);rw [show((i+1:Nat):Int)=(i:Int)+1 from rfl]at hsl;repeat' first|refine wk ?_|refine cX (fun _=>?_) fun _=>?_|fail
   refine lpR (fun q:Nat=>[(0,ptr bc 0),(26,I64 m.classes.length),(27,I64 i),(4,I64 i),(38,I64 ((i+1:Nat):Int)),(39,I64 q)]) (fun q h3 n3=>h3=h2∧n3=n2∧q≤i+1∧∀(b:Nat) cb,b<q→m.classes[b]? = some cb→pairBB m ns ps ⟨ca.name,[]⟩ ⟨cb.name,[]⟩=true) (fun q=>i+1 - q) 0 ⟨rfl,rfl,Nat.zero_le _,fun j _ hj=>absurd hj (Nat.not_lt_zero _)⟩ ?_
   rintro q t h3 n3 ⟨rfl,rfl,hq,hno2⟩
   by_cases hlt2:q<i+1
   · have d0:m.classes[q]? = some m.classes[q]:=List.getElem?_eq_getElem (by omega);generalize m.classes[q]=cb at d0
     repeat' first|refine wk ?_|refine cX (fun _=>?_) fun _=>?_|refine wM (pair_pur k' (by omega) hok c0 d0) ?_|fail
     · rename_i q1
       exact rnd (q+1) ⟨rfl,rfl,by omega,fun b cb' h9 e=>by
        rcases Nat.lt_succ_iff_lt_or_eq.1 h9 with h9|rfl
        · exact hno2 b cb' h9 e
        · rw[d0]at e;cases e;exact q1⟩
     · rename_i q1;refine bad (fun hb=>?_) _ _ ht;have:=hb.2 i q ca cb (by omega) c0 d0;rw [show pairBB m ns ps ⟨ca.name,[]⟩ ⟨cb.name,[]⟩=pairBB m ns ps (opA ca) (opA cb) from rfl,q1]at this;cases this
   · obtain rfl:q=i+1:=by omega
     repeat' first|refine wk ?_|refine cX (fun _=>?_) fun _=>?_|fail
     exact rnd (i+1) ⟨rfl,rfl,by omega,fun a b ca' cb h7 h8 e1 e2=>by
      rcases Nat.lt_succ_iff_lt_or_eq.1 h7 with h7|rfl
      · exact hno a b ca' cb h7 h8 e1 e2
      · rw[c0]at e1;cases e1;exact hno2 b cb (by omega) e2⟩
 · obtain rfl:i=m.classes.length:=by omega
   repeat' first|refine wk ?_|refine cX (fun _=>?_) fun _=>?_|fail
   exact⟨0,rfl,.inr ⟨rfl,hfits,fun a b ca cb hba e1 e2=>hno a b ca cb (List.getElem?_eq_some_iff.1 e1).1 hba e1 e2⟩,ht⟩
end Go.Proofs.YtmccnilgnlaffaaGreatDoor
namespace Go.Proofs.YtmccnilgnlaffaaGreatDoor
open Go Go.Ex Go.Ex.M
set_option maxRecDepth 100000
set_option maxHeartbeats 8000000
variable {n:Nat} {h:zB}
theorem asked1_none{b z:Nat}{e0:Int}(hb:b<n)(hc:Cel h b z 0 [I64 e0]):Def P 8 124 [ptr b 0] none h n fun u' h' n'=>u'=none∧Tch [] h n h' n':=by
 refine entD ?_;repeat' first|refine wk ?_|refine cX (fun _=>?_) fun _=>?_|fail
 exact⟨_,rfl,rfl,zA⟩
theorem asked1_some{b z:Nat}{e0 e:Int}(hb:b<n)(hc:Cel h b z 0 [I64 e0]):Def P 8 124 [ptr b 0] (some (uQ e)) h n fun u' h' n'=>u'=some [⟨.iface 191 (.agg ⟨[I64 e]⟩),true,false⟩]∧Tch [b] h n h' n'∧Cel h' b z 0 [I64 e]:=by
 refine entD ?_;repeat' first|refine wk ?_|refine cX (fun _=>?_) fun _=>?_|fail
 exact⟨_,rfl,rfl,zA,zD⟩
theorem asked_com{bc:Nat}{g:FuncId}{fs cs:List Value}{R:Int→zB→Nat→Prop}(hb:bc<n)(hd:∀h' n',Tch [] h n h' n'→n<n'→Com P 8 g (fs++([]++cs)) h' n' fun o h2 n2=>∃e,o=outE e∧Tch [bc] h' n' h2 n2∧R e h2 n2)
(hR:∀e h2 n2 h3 n3,R e h2 n2→n2≤n3→(∀b,b<n2→b≠n→zF h3 b=zF h2 b)→R e h3 n3):Com P 8 71 [.func (.func g) ⟨fs⟩ ⟨cs⟩] h n fun o h' n'=>∃e,o = .ret (I64 e)∧R e h' n'∧Tch [bc] h n h' n':=by
 refine ent fun u=>?_;repeat' first|refine wk ?_|refine cX (fun _=>?_) fun _=>?_|fail
 refine cal (hd _ _ zA (by omega)) ?_
 rintro _ h2 n2 ⟨e,rfl,ht,hr⟩
 have hn2:=ht.le;have hc:Cel h2 n (38+1) 0 [I64 0]:=zD;have htn:Tch [bc] h n h2 n2:=zA;by_cases e0:e=0
 · subst e0;rw [show outE 0 = .ret (.tuple #[]) from rfl];repeat' first|refine wk ?_|refine cX (fun _=>?_) fun _=>?_|fail
   have hc2:Cel (hst h2 n 0 [I64 0]) n (38+1) 0 [I64 0]:=zD;refine lv_none (g:=124) (args:=[]) (cap:=[ptr n 0]) (asked1_none (by omega) hc2) ?_
   rintro h3 n3 ht3
   have hc3:Cel h3 n (38+1) 0 [I64 0]:=hc2.tch ht3 (by omega) (by simp);have htn3:Tch [bc] h n h3 n3:=zA;have hr3:R 0 h3 n3:=hR 0 _ _ _ _ hr ht3.le fun b hb hne=>by rw[ht3.2 b hb (by simp),xB,if_neg fun e=>hne e.symm]
   clear ht3;repeat' first|refine wk ?_|refine cX (fun _=>?_) fun _=>?_|fail
   exact⟨0,rfl,hr3,htn3⟩
 · rw[show outE e = .panic (uQ e) from if_neg e0];repeat' first|refine wk ?_|refine cX (fun _=>?_) fun _=>?_|fail
   refine uZ (g:=124) (args:=[]) (cap:=[ptr n 0]) (asked1_some (by omega) hc) ?_
   rintro h3 n3 ⟨ht3,hc3⟩
   have htn3:Tch [bc] h n h3 n3:=Tch.tch ht3 htn fun x hx=>.inl (by simp at hx;omega);have hr3:R e h3 n3:=hR e _ _ _ _ hr ht3.le fun b hb hne=>ht3.2 b hb (by simpa using hne);repeat' first|refine wk ?_|refine cX (fun _=>?_) fun _=>?_|fail
   exact⟨e,rfl,hr3,htn3⟩
end Go.Proofs.YtmccnilgnlaffaaGreatDoor
namespace Go.Proofs.YtmccnilgnlaffaaGreatDoor
open Go Go.Ex Go.Ex.M
set_option maxRecDepth 100000
set_option maxHeartbeats 8000000
attribute [local simp] xV
variable {lo bc n:Nat} {h:zB} {m:MachT}
theorem ar_geG(s:Tx):0≤arity s∧arity s≤2:=by unfold arity;split <;> (first|omega|(split <;> omega))
theorem opr_cls{ns:List Tx}{x:OperT}(cs:CsOK m ns)(h:oprOK m x=true):ClsOK m ns x.cls:=by
 unfold oprOK at h;rcases cls_find (m:=m) (x:=x.cls) with⟨h1,h2⟩|⟨i,c,h1,h2,h3,h4,h5⟩
 · rw[h1]at h;cases h
 · exact⟨c,i,h1,h2,h3,cs.mem i c h2⟩
theorem op_ok{ns:List Tx}{ps:List Pl}(hc:ClsErr m ns ps 0)(hoe:OpsErr m ns ps 0):∀o∈m.ops,OpOK m ns o:=fun o ho=>by
 obtain⟨i,hi⟩:=List.mem_iff_getElem?.1 ho;have cs:=CsOK.of hc
 have oo:restOKo m ns ps o∧(o.uses.length=1∨o.uses.length=2):=by
  rcases hoe with⟨h9,_⟩|⟨_,⟨_,h9⟩|⟨_,_,_,_,h9,_⟩⟩
  · omega
  · rcases h9 i o hi with⟨_,h8,h7⟩|⟨h8,_⟩|⟨h8,_⟩
    · have:=h7.1;have h6:=h8.1;have:=ar_geG o.name;exact⟨h7,by omega⟩
    · omega
    · omega
  · omega
 obtain⟨⟨g1,g2,g3,g4,g5,g6,g7,g8⟩,glen⟩:=oo
 exact⟨ho,fun u hu=>by
  obtain⟨j,hj⟩:=List.mem_iff_getElem?.1 hu;exact opr_cls cs (g3 j u hj).1,opr_cls cs g2,fun r hr=>by
  obtain⟨j,hj⟩:=List.mem_iff_getElem?.1 hr;exact(g8 j r hj).1,g5,glen⟩
theorem Ck.upL{lo' z:Nat}{nsv psv:Value}{ns:List Tx}{ps:List Pl}(k:Ck lo h bc z m nsv psv ns ps)(hl:lo≤lo'):Ck lo' h bc z m nsv psv ns ps:=⟨k.mm.up hl,k.cel,k.rn.up hl,k.rp.up hl,Nat.lt_of_lt_of_le k.hb hl,k.hl,k.hn,k.ok⟩
abbrev mFn(g bc:Nat):Value:=.func (.func g) ⟨[ptr bc 0]⟩ ⟨[]⟩
abbrev mFs(bc:Nat):List Value:=[mFn 73 bc,mFn 74 bc,mFn 75 bc,mFn 76 bc,mFn 77 bc]
def Part(m:MachT)(bc:Nat)(i:Nat)(h:zB)(n:Nat):Prop:=∃s nsv psv,named m.name=true∧geoP m.regs = .ok s∧s.ns≠[]∧Ck n h bc zCk m nsv psv s.ns s.ps∧(2≤i→ClsErr m s.ns s.ps 0)∧(3≤i→OpsErr m s.ns s.ps 0)∧(4≤i→convOK m s.ns s.ps (vU s.ns s.ps))∧(5≤i→spillOK m s.ns s.ps)
theorem check1_com{pc:Nat}(mm:MachM lo h m)(hlo:lo≤bc)(hbc:bc<n)(hc:Cel h bc zCk 0 (vT m++[.slice none 0 0,.slice none 0 0]))(hp:zC h pc 0=some (ptr bc 0))(hpc:pc<n)(hne:pc≠bc):Com P 8 72 [ptr pc 0] h n fun o h' n'=>∃e,o=outE e∧Tch [bc] h n h' n'∧MakeE m e:=by
 refine ent fun u=>?_;repeat' first|refine wk ?_|refine cX (fun _=>?_) fun _=>?_|fail
 have t0:Tch [] h n (hal h n (mkC (mFs bc) 0 0)) (n+1):=zA;refine lpR (fun i:Nat=>[(13,.slice (some ⟨n,0,none⟩) 5 5),(14,I64 (5:Nat)),(15,I64 i)]) (fun i h' n'=>Tch [bc] h n h' n'∧n<n'∧Cel h' n 0 0 (mFs bc)∧i≤5∧(i=0→MachM lo h' m∧Cel h' bc zCk 0 (vT m++[.slice none 0 0,.slice none 0 0]))∧(1≤i→Part m bc i h' n')) (fun i=>5 - i) 0 ⟨zA,by omega,zD,Nat.zero_le _,fun _=>⟨mm.tch t0 (by omega),zD⟩,fun h=>by omega⟩ ?_;clear t0
 rintro i t h' n' ⟨ht,hn',hF,hi,hz,hs⟩
 have tn:Tch [] h' n' h' n':=Tch.refl _ _ _;rcases(show i=0∨i=1∨i=2∨i=3∨i=4∨i=5 by omega) with rfl|rfl|rfl|rfl|rfl|rfl
 · obtain⟨mm',hc'⟩:=hz rfl;repeat' first|refine wk ?_|refine cX (fun _=>?_) fun _=>?_|fail
   refine cal (head_com mm' hlo (by omega) hc') ?_
   rintro _ h2 n2 ⟨ht2,⟨hnm,rfl⟩|⟨hnm,⟨e,he,rfl⟩|⟨s,hgs,⟨hne,rfl⟩|⟨hne,rfl,nsv,psv,k⟩⟩⟩⟩
   · repeat' first|refine wk ?_|refine cX (fun _=>?_) fun _=>?_|fail
     exact⟨5,rfl,zA,.inl ⟨hnm,rfl⟩⟩
   · have he0:=geo_err he;repeat' first|refine wk ?_|refine cX (fun _=>?_) fun _=>?_|fail
     exact⟨e,(if_neg he0).symm,zA,.inr ⟨hnm,.inl ⟨he,he0⟩⟩⟩
   · repeat' first|refine wk ?_|refine cX (fun _=>?_) fun _=>?_|fail
     exact⟨1,rfl,zA,.inr ⟨hnm,.inr ⟨s,hgs,.inl ⟨hne,rfl⟩⟩⟩⟩
   · have hn2:=ht2.le;repeat' first|refine wk ?_|refine cX (fun _=>?_) fun _=>?_|fail
     exact rnd 1 ⟨zA,by omega,zG,by omega,fun h=>by omega,fun _=>⟨s,nsv,psv,hnm,hgs,hne,k,fun h=>by omega,fun h=>by omega,fun h=>by omega,fun h=>by omega⟩⟩
 · obtain⟨s,nsv,psv,hnm,hgs,hne,k,q2,q3,q4,q5⟩:=hs (by omega);repeat' first|refine wk ?_|refine cX (fun _=>?_) fun _=>?_|fail
   refine cal (classes_com k (Nat.le_refl _)) ?_
   rintro _ h2 n2 ⟨e,rfl,he,ht2⟩
   have hn2:=ht2.le;by_cases e0:e=0
   · subst e0;rw [show outE 0 = .ret (.tuple #[]) from rfl];repeat' first|refine wk ?_|refine cX (fun _=>?_) fun _=>?_|fail
     exact rnd 2 ⟨zA,by omega,zG,by omega,fun h=>by omega,fun _=>⟨s,nsv,psv,hnm,hgs,hne,Ck.upL (k.tch ht2 (Nat.le_refl _)) (by omega),fun _=>he,fun h=>by omega,fun h=>by omega,fun h=>by omega⟩⟩
   · rw[show outE e = .panic (uQ e) from if_neg e0];repeat' first|refine wk ?_|refine cX (fun _=>?_) fun _=>?_|fail
     exact⟨e,(if_neg e0).symm,zA,.inr ⟨hnm,.inr ⟨s,hgs,.inr ⟨hne,.inl ⟨e0,he⟩⟩⟩⟩⟩
 · obtain⟨s,nsv,psv,hnm,hgs,hne,k,q2,q3,q4,q5⟩:=hs (by omega);have q2:=q2 (by omega);have cs:=CsOK.of q2;repeat' first|refine wk ?_|refine cX (fun _=>?_) fun _=>?_|fail
   refine cal (ops_com k (Nat.le_refl _) fun c hc=>?_) ?_
   · obtain⟨i,hi⟩:=List.mem_iff_getElem?.1 hc;have h1:=cs.ne i c hi;have h2:=cs.mem i c hi
     cases hr:c.regs with
     | nil=>rw [hr]at h1;simp at h1
     | cons r0 rr=>exact⟨r0,rr,rfl,h2 r0 (by rw[hr];simp)⟩
   rintro _ h2 n2 ⟨e,rfl,he,ht2⟩
   have hn2:=ht2.le;by_cases e0:e=0
   · subst e0;rw [show outE 0 = .ret (.tuple #[]) from rfl];repeat' first|refine wk ?_|refine cX (fun _=>?_) fun _=>?_|fail
     exact rnd 3 ⟨zA,by omega,zG,by omega,fun h=>by omega,fun _=>⟨s,nsv,psv,hnm,hgs,hne,Ck.upL (k.tch ht2 (Nat.le_refl _)) (by omega),fun _=>q2,fun _=>he,fun h=>by omega,fun h=>by omega⟩⟩
   · rw[show outE e = .panic (uQ e) from if_neg e0];repeat' first|refine wk ?_|refine cX (fun _=>?_) fun _=>?_|fail
     exact⟨e,(if_neg e0).symm,zA,.inr ⟨hnm,.inr ⟨s,hgs,.inr ⟨hne,.inr ⟨q2,.inl ⟨e0,he⟩⟩⟩⟩⟩⟩
 · obtain⟨s,nsv,psv,hnm,hgs,hne,k,q2,q3,q4,q5⟩:=hs (by omega);have q2:=q2 (by omega);have q3:=q3 (by omega);repeat' first|refine wk ?_|refine cX (fun _=>?_) fun _=>?_|fail
   refine cal (conv_com k (Nat.le_refl _)) ?_
   rintro _ h2 n2 ⟨e,rfl,⟨rfl,he⟩|⟨rfl,he⟩,ht2⟩
   · have hn2:=ht2.le;rw [show outE 0 = .ret (.tuple #[]) from rfl];repeat' first|refine wk ?_|refine cX (fun _=>?_) fun _=>?_|fail
     exact rnd 4 ⟨zA,by omega,zG,by omega,fun h=>by omega,fun _=>⟨s,nsv,psv,hnm,hgs,hne,Ck.upL (k.tch ht2 (Nat.le_refl _)) (by omega),fun _=>q2,fun _=>q3,fun _=>he,fun h=>by omega⟩⟩
   · rw[show outE 10 = .panic (uQ 10) from rfl];repeat' first|refine wk ?_|refine cX (fun _=>?_) fun _=>?_|fail
     exact⟨10,rfl,zA,.inr ⟨hnm,.inr ⟨s,hgs,.inr ⟨hne,.inr ⟨q2,.inr ⟨q3,.inl ⟨rfl,he⟩⟩⟩⟩⟩⟩⟩
 · obtain⟨s,nsv,psv,hnm,hgs,hne,k,q2,q3,q4,q5⟩:=hs (by omega);have q2:=q2 (by omega);have q3:=q3 (by omega);have q4:=q4 (by omega);have cs:=CsOK.of q2;repeat' first|refine wk ?_|refine cX (fun _=>?_) fun _=>?_|fail
   refine cal (spills_com k (Nat.le_refl _) (fun i c hi=>⟨cs.ix i c hi,cs.mem i c hi⟩) (op_ok q2 q3)) ?_
   rintro _ h2 n2 ⟨e,rfl,⟨rfl,he⟩|⟨rfl,he⟩,ht2⟩
   · rw[show outE 11 = .panic (uQ 11) from rfl];repeat' first|refine wk ?_|refine cX (fun _=>?_) fun _=>?_|fail
     exact⟨11,rfl,zA,.inr ⟨hnm,.inr ⟨s,hgs,.inr ⟨hne,.inr ⟨q2,.inr ⟨q3,.inr ⟨q4,.inl ⟨rfl,he⟩⟩⟩⟩⟩⟩⟩⟩
   · have hn2:=ht2.le;rw [show outE 0 = .ret (.tuple #[]) from rfl];repeat' first|refine wk ?_|refine cX (fun _=>?_) fun _=>?_|fail
     exact rnd 5 ⟨zA,by omega,zG,by omega,fun h=>by omega,fun _=>⟨s,nsv,psv,hnm,hgs,hne,Ck.upL (k.tch ht2 (Nat.le_refl _)) (by omega),fun _=>q2,fun _=>q3,fun _=>q4,fun _=>he⟩⟩
 · obtain⟨s,nsv,psv,hnm,hgs,hne,k,q2,q3,q4,q5⟩:=hs (by omega);repeat' first|refine wk ?_|refine cX (fun _=>?_) fun _=>?_|fail
   exact⟨0,rfl,zA,.inr ⟨hnm,.inr ⟨s,hgs,.inr ⟨hne,.inr ⟨q2 (by omega),.inr ⟨q3 (by omega),.inr ⟨q4 (by omega),.inr ⟨rfl,q5 (by omega)⟩⟩⟩⟩⟩⟩⟩⟩
theorem check_com(mm:MachM lo h m)(hlo:lo≤n):Com P 8 27 [.agg ⟨vT m⟩] h n fun o h' n'=>∃e,o = .ret (I64 e)∧MakeE m e∧Tch [] h n h' n':=by
 obtain⟨o1,o2,o3,o4,o5⟩:=mach_oneG mm;refine ent fun u=>?_;repeat' first|refine wk ?_|refine cX (fun _=>?_) fun _=>?_|fail
 refine cal (asked_com (bc:=n+1) (g:=72) (fs:=[]) (cs:=[ptr (n+2) 0]) (R:=fun e _ _=>MakeE m e) (by omega) (fun h' n' ht hn'=>?_) (fun e h2 n2 h3 n3 hr _ _=>hr)) ?_
 · exact(check1_com (lo:=lo) (bc:=n+1) (MachM.tch zA hlo mm) (by omega) (by omega) zD zJ (by omega) (by omega))
 · rintro _ h2 n2 ⟨e,rfl,he,ht⟩
   repeat' first|refine wk ?_|refine cX (fun _=>?_) fun _=>?_|fail
   exact⟨e,rfl,he,zA⟩
end Go.Proofs.YtmccnilgnlaffaaGreatDoor
namespace Go.Proofs.YtmccnilgnlaffaaGreatDoor
open Go Go.Ex Go.Ex.M
set_option maxRecDepth 100000
set_option maxHeartbeats 8000000
attribute [local simp] xV
theorem MOK.oo{m:MachT}{ns:List Tx}{ps:List Pl}(k:MOK m ns ps):∀o∈m.ops,restOKo m ns ps o∧(o.uses.length=1∨o.uses.length=2):=fun o ho=>by
 obtain⟨i,hi⟩:=List.mem_iff_getElem?.1 ho;have hoe:=k.ops;rcases hoe with⟨h9,_⟩|⟨_,⟨_,h9⟩|⟨_,_,_,_,h9,_⟩⟩
 · omega
 · rcases h9 i o hi with⟨_,h8,h7⟩|⟨h8,_⟩|⟨h8,_⟩
   · have:=h7.1;have h6:=h8.1;have:=ar_geG o.name;exact⟨h7,by omega⟩
   · omega
   · omega
 · omega
theorem MOK.sml{m:MachT}{ns:List Tx}{ps:List Pl}(k:MOK m ns ps):SmlM m:=by
 obtain⟨c1,c2⟩:=ClsErr.ok k.cls
 have hol:m.ops.length≤64:=by
  rcases k.ops with⟨h9,_⟩|⟨h9,_⟩
  · omega
  · exact h9
 refine⟨geo_sml k.geo,c1,fun c hc=>?_,hol,fun o ho=>by have:=(MOK.oo k o ho).2;omega,fun o ho=>?_,by have:=k.conv.1.1;omega,by have:=k.conv.2.2.1.1;omega⟩
 · obtain⟨i,hi⟩:=List.mem_iff_getElem?.1 hc;exact(c2 i c hi).2.2.1
 · have:=(MOK.oo k o ho).1.2.2.2.2.2.2.1;omega
def cNs(m:MachT):List Tx:=m.classes.map (·.name)
def oNs(m:MachT):List Tx:=m.ops.map (·.name)
theorem nodup_ix{α : Type}{l:List α}{f: α→Tx}{p:Tx→Int}(h:∀(i:Nat) x,l[i]? = some x→p (f x)=(i:Nat)):(l.map f).Nodup:=by
 refine List.pairwise_iff_getElem.2 fun i j hi hj hij e=>?_;rw [List.length_map]at hi hj;have a:=h i _ (List.getElem?_eq_getElem hi);have b:=h j _ (List.getElem?_eq_getElem hj);rw [List.getElem_map,List.getElem_map]at e;rw [e]at a;omega
theorem MOK.cnd{m:MachT}{ns:List Tx}{ps:List Pl}(k:MOK m ns ps):(cNs m).Nodup:=nodup_ix (p:=wO m) (CsOK.of k.cls).ix
theorem MOK.ond{m:MachT}{ns:List Tx}{ps:List Pl}(k:MOK m ns ps):(oNs m).Nodup:=nodup_ix (p:=fun s=>posF (fun x:OpT=>decide (x.name=s)) m.ops) fun i o hi=>by
 rcases k.ops with⟨h9,_⟩|⟨_,⟨_,h9⟩|⟨_,_,_,_,h9,_⟩⟩
 · omega
 · rcases h9 i o hi with⟨_,h8,h7⟩|⟨h8,_⟩|⟨h8,_⟩
   · exact h8.2
   · omega
   · omega
 · omega
theorem opr_in{m:MachT}{ns:List Tx}{x:OperT}(cs:CsOK m ns)(h:oprOK m x=true):x.cls∈cNs m∧(x.fix=[]∨x.fix∈ns):=by
 unfold oprOK at h;rcases cls_find (m:=m) (x:=x.cls) with⟨h1,h2⟩|⟨i,c,h1,h2,h3,h4,h5⟩
 · rw[h1]at h;cases h
 · rw[h1]at h;refine⟨List.mem_map.2 ⟨c,List.mem_of_getElem? h2,h5⟩,?_⟩;simp at h;rcases h with h|h
   · exact .inl h
   · exact .inr (cs.mem i c h2 _ h)
theorem MOK.opd{m:MachT}{ns:List Tx}{ps:List Pl}(k:MOK m ns ps){o o':OpT}(ho:o∈m.ops)(h1:o'.d=o.d)(h2:o'.uses=o.uses)(h3:o'.clob=o.clob):OpdOK ns (cNs m) o':=by
 have cs:=CsOK.of k.cls;obtain⟨⟨g1,g2,g3,g4,g5,g6,g7,g8⟩,glen⟩:=MOK.oo k o ho;refine⟨by rw[h2];exact glen,fun x hx=>?_,fun r hr=>?_,by rw[h3];omega⟩
 · rw[h1,h2]at hx;rcases List.mem_cons.1 hx with rfl|hx
   · exact opr_in cs g2
   · obtain⟨j,hj⟩:=List.mem_iff_getElem?.1 hx;exact opr_in cs (g3 j x hj).1
 · rw[h3]at hr;obtain⟨j,hj⟩:=List.mem_iff_getElem?.1 hr;exact(g8 j r hj).1
end Go.Proofs.YtmccnilgnlaffaaGreatDoor
