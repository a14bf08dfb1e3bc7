/- What the law leans on, part 13 of 24. Conditions: those that each theorem states. -/
import Derived.Test.YtdiejolnllipnaaGreatDoorMachPrintsx12
import Derived.Test.YtdiejolnllipnaaGreatDoorMachPrintsx11

set_option linter.unusedVariables false
set_option linter.unusedSimpArgs false
namespace Go.Proofs.YtdiejolnllipnaaGreatDoor
open Go Go.Ex Go.Ex.M
set_option maxRecDepth 100000
set_option maxHeartbeats 8000000
section
instance (c:Nat) (h:zB) (n:Nat):PurC P 8 122 [.int .u8 c] h n (.bool (letB c)):=⟨by
 refine ent λu=>?_;repeat' first|refine wk ?_|apply cX <;> intro
 all_goals (first|unfold letB|unfold digB|skip);all_goals (refine finB ?_;first|exact⟨λ_=>by omega,λ_=>rfl⟩|exact⟨λh=>Bool.noConfusion h,λh=>by omega⟩|(rw [decide_eq_true_iff];omega))⟩
instance (c:Nat) (h:zB) (n:Nat):PurC P 8 123 [.int .u8 c] h n (.bool (digB c)):=⟨by
 refine ent λu=>?_;repeat' first|refine wk ?_|apply cX <;> intro
 all_goals (first|unfold letB|unfold digB|skip);all_goals (refine finB ?_;first|exact⟨λ_=>by omega,λ_=>rfl⟩|exact⟨λh=>Bool.noConfusion h,λh=>by omega⟩|(rw [decide_eq_true_iff];omega))⟩
instance rname_c (s:Tx) (h:zB) (n:Nat):PurC P 8 64 [str s] h n (.bool (xL s)):=⟨by
 refine ent λu=>?_
 cases s with
 | nil=>
  repeat' first|refine wk ?_|apply cX <;> intro
  exact fin rfl
 | cons c r=>
  have c0:(c::r)[0]? = some c:=rfl;have hn:xL (c::r)=(decide ((c::r).length<=20) && letB c.toNat && tailB (c::r)):=rfl;repeat' first|refine wk ?_|apply cX <;> intro
  . rename_i h2;exact fin (by rw[hn,decide_eq_false qJ];rfl)
  . rename_i h2;replace hn:xL (c::r)=(letB c.toNat && tailB (c::r)):=by rw[hn,decide_eq_true qJ];rfl
    generalize c::r=s at *
    refine lpR (λk:Nat=>[(0,str s),(3,.bool (letB c.toNat)),(4,I64 k)]) (λk h' n'=>h'=h/\n'=n/\k<=s.length/\∀j (hj:j<s.length),j<k->letB s[j].toNat=true\/digB s[j].toNat=true) (λk=>s.length - k) 0 ⟨rfl,rfl,an _,λj _ hj=>by omega⟩ ?_
    rintro k t h' n' ⟨rfl,rfl,hk,eG⟩
    by_cases eD:k<s.length
    . have c1:s[k]? = some s[k]:=aa eD
      have go:letB s[k].toNat=true\/digB s[k].toNat=true->∀j (hj:j<s.length),j<k+1->letB s[j].toNat=true\/digB s[j].toNat=true:=λhx j hj eD=>by
       rcases ai.1 eD with h9|rfl
       . exact eG j hj h9
       . exact hx
      repeat' first|refine wk ?_|apply cX <;> intro
      . rename_i h7 h8;refine fin ?_;rw [hn]
        cases h9:tailB s with
        | false=>simp
        | true=>rcases tail_step eD h9 with e|e <;> simp_all
      . rename_i h7 h8;exact rnd (k+1) ⟨rfl,rfl,by omega,go (.inr h8)⟩
      . rename_i h7;exact rnd (k+1) ⟨rfl,rfl,by omega,go (.inl h7)⟩
    . obtain rfl:k=s.length:=by omega
      repeat' first|refine wk ?_|apply cX <;> intro
      exact fin (by rw[hn,tail_all λj hj=>eG j hj hj];simp)⟩
instance rword_c (s:Tx) (h:zB) (n:Nat):PurC P 8 159 [str s] h n (.bool (wordB s)):=⟨by
 refine ent λu=>?_;repeat' first|refine wk ?_|apply cX <;> intro
 all_goals (refine fin ?_;unfold wordB wordsL;simp_all)⟩
instance rnamed_c (s:Tx) (h:zB) (n:Nat):PurC P 8 98 [str s] h n (.bool (named s)):=⟨by
 refine ent λu=>?_;repeat' first|refine wk ?_|apply cX <;> intro
 all_goals (refine fin ?_;unfold named;simp [*])⟩
theorem find_pur{lo e n:Nat}{h:zB}{sv:Value}{ss:List Tx}{x:Tx}(r:Row lo h sv e 1 ss.length (ss.map str))(hl:ss.length<4611686018427387904):Pur P 8 103 [sv,str x] h n (I64 (pos ss x)):=by
 refine ent λu=>?_;repeat' first|refine wk ?_|apply cX <;> intro
 refine lpR (λk:Nat=>[(0,sv),(1,str x),(5,I64 k)]) (λk h' n'=>h'=h/\n'=n/\k<=ss.length/\∀j,j<k->ss[j]?≠some x) (λk=>ss.length - k) 0 ⟨rfl,rfl,an _,λj hj=>by omega⟩ ?_
 rintro k t h' n' ⟨rfl,rfl,hk,eG⟩
 by_cases eD:k<ss.length
 . have c1:zD h' (sbk sv) (sof sv+k*1)=some (str ss[k]):=by rw[aQ];exact r.at (str_at eD)
   repeat' first|refine wk ?_|apply cX <;> intro
   . rename_i e1;exact⟨by rw[pos_hit (by rw[aa eD,e1]) eG],rfl,rfl⟩
   . rename_i e1
     exact rnd (k+1) ⟨rfl,rfl,by omega,λj hj e2=>by
      rcases ai.1 hj with h9|rfl
      . exact eG j h9 e2
      . rw[aa eD]at e2;exact e1 (Option.some.inj e2)⟩
 . obtain rfl:k=ss.length:=by omega
   repeat' first|refine wk ?_|apply cX <;> intro
   exact⟨by rw[pos_no eG],rfl,rfl⟩
def PlB(p:Pl):Prop:=0<=p.at_/\p.at_<1000000/\0<=p.width/\p.width<1000000
theorem rlap_pur(a b:Pl)(ha:PlB a)(hb:PlB b)(h:zB)(n:Nat):Pur P 8 102 [plV a,plV b] h n (.bool (sU a b)):=by
 obtain⟨ha1,ha2,ha3,ha4⟩:=ha;obtain⟨fP,fk,hb3,hb4⟩:=hb;refine Com.pure (ent λu=>?_) (.inl rfl);repeat' first|refine wk ?_|apply cX <;> intro
 all_goals refine lap_fin ?_ zA
 all_goals unfold lapP
 all_goals first|exact⟨λh=>Bool.noConfusion h,λh=>by omega⟩|(rw [decide_eq_true_iff];split <;> omega)|(constructor <;> intro hh <;> (first|omega|(simp at hh)|(split at hh <;> omega)))
end
section
abbrev tStr:Nat:=9
abbrev tPl:Nat:=158
structure Tb (lo:Nat) (h:zB) (bt z:Nat) (m:MachT) (nsv psv kv:Value) (ns:List Tx) (ps:List Pl):Prop where
 mm:MachM lo h m
 cel:Cel h bt z 0 (yR m++[nsv,psv,kv])
 rn:Row lo h nsv tStr 1 ns.length (ns.map str)
 rp:Row lo h psv tPl 3 ps.length (ps.flatMap plC)
 hb:bt<lo
 hl:ps.length=ns.length
 hn:ns.length<=200
 ok:∀p∈ps,PlB p
variable {lo bt z n:Nat} {h:zB} {m:MachT} {nsv psv kv:Value} {ns:List Tx} {ps:List Pl}
theorem Tb.tch{n':Nat}{h':zB}(k:Tb lo h bt z m nsv psv kv ns ps)(t:Tch [] h n h' n')(eE:lo<=n):Tb lo h' bt z m nsv psv kv ns ps:=by
 have:=k.hb;exact⟨k.mm.tch t eE,k.cel.tch t qJ qL,k.rn.tch t eE λ_ _ hx=>(by cases hx),k.rp.tch t eE λ_ _ hx=>(by cases hx),k.hb,k.hl,k.hn,k.ok⟩
theorem wX(k:Tb lo h bt z m nsv psv kv ns ps)(x:Tx):Pur P 8 49 [ptr bt 0,str x] h n (I64 (pos ns x)):=by
 have hc:=k.cel;have r:=k.rn;have hn:=k.hn;refine ent λu=>?_;repeat' first|refine wk ?_|refine cX (λ_=>?_) λ_=>?_|refine zS (find_pur r qJ) ?_|fail
 exact fin rfl
theorem vN(k:Tb lo h bt z m nsv psv kv ns ps)(x:Tx):Pur P 8 161 [ptr bt 0,str x] h n (I64 (xM m x)):=by
 have hcel:=k.cel;have r:=k.mm.cls 0;have hl:=k.mm.cls.lt;have eM:inf<4611686018427387904:=by decide
 refine ent λu=>?_;repeat' first|refine wk ?_|apply cX <;> intro
 refine lpR (λq:Nat=>[(0,ptr bt 0),(1,str x),(5,I64 q)]) (λq h' n'=>h'=h/\n'=n/\q<=m.classes.length/\∀(j:Nat) y,j<q->m.classes[j]? = some y->decide (y.name=x)=false) (λq=>m.classes.length - q) 0 ⟨rfl,rfl,an _,λj _ hj=>absurd hj (aE _)⟩ ?_
 rintro q t h' n' ⟨rfl,rfl,hq,eG⟩
 by_cases eD:q<m.classes.length
 . have c0:m.classes[q]? = some m.classes[q]:=aa eD;generalize m.classes[q]=c at c0
   have c1:=yT (zM r c0) (j:=0) rfl;repeat' first|refine wk ?_|apply cX <;> intro
   . rename_i e1;exact fin (by unfold xM;rw [posF_hit c0 (decide_eq_true e1) eG])
   . rename_i e1
     exact rnd (q+1) ⟨rfl,rfl,by omega,λj y hj e=>by
      rcases ai.1 hj with h9|rfl
      . exact eG j y h9 e
      . rw[c0]at e;cases e;exact decide_eq_false e1⟩
 . obtain rfl:q=m.classes.length:=by omega
   repeat' first|refine wk ?_|apply cX <;> intro
   exact fin (by unfold xM;rw [posF_no λj y e=>eG j y (ab.1 e).1 e])
theorem rin_pur{lo2 e:Nat}{sv:Value}{l:List Int}{x:Int}(r:Row lo2 h sv e 1 l.length (l.map I64))(hl:l.length<4611686018427387904):Pur P 8 105 [sv,I64 x] h n (.bool (decide (x∈l))):=by
 refine ent λu=>?_;repeat' first|refine wk ?_|apply cX <;> intro
 refine lpR (λq:Nat=>[(0,sv),(1,I64 x),(5,I64 q)]) (λq h' n'=>h'=h/\n'=n/\q<=l.length/\∀(j:Nat) y,j<q->l[j]? = some y->y≠x) (λq=>l.length - q) 0 ⟨rfl,rfl,an _,λj _ hj=>absurd hj (aE _)⟩ ?_
 rintro q t h' n' ⟨rfl,rfl,hq,eG⟩
 by_cases eD:q<l.length
 . have c0:l[q]? = some l[q]:=aa eD;generalize l[q]=y at c0
   have c1:=yE r c0;repeat' first|refine wk ?_|apply cX <;> intro
   . rename_i e1;exact fin (by rw[decide_eq_true (e1 ▸ ae c0)])
   . rename_i e1
     exact rnd (q+1) ⟨rfl,rfl,by omega,λj w hj e=>by
      rcases ai.1 hj with h9|rfl
      . exact eG j w h9 e
      . rw[c0]at e;cases e;exact e1⟩
 . obtain rfl:q=l.length:=by omega
   repeat' first|refine wk ?_|apply cX <;> intro
   exact fin (by rw[decide_eq_false λhm=>by
    obtain⟨j,hj⟩:=aj.1 hm;exact eG j x (ab.1 hj).1 hj rfl])
theorem uQ(k:Tb lo h bt z m nsv psv kv ns ps)(eE:lo<=n)(a b:Int):Pur P 8 48 [ptr bt 0,I64 a,I64 b] h n (.bool (rR ps a b)):=by
 have hcel:=k.cel;have rp:=k.rp;have l7:=k.hb;refine ent λu=>?_;by_cases gk:0<=a/\0<=b/\a<ps.length/\b<ps.length
 . obtain⟨h1,h2,h3,h4⟩:=gk;have a0:ps[a.toNat]? = some ps[a.toNat]:=aa qJ;have b0:ps[b.toNat]? = some ps[b.toNat]:=aa qJ;generalize ps[a.toNat]=p at a0
   generalize ps[b.toNat]=q at b0
   have e0:rR ps a b=sU p q:=by unfold rR;rw [a0,b0,decide_eq_true h1,decide_eq_true h2];rfl
   have a1:=zM rp a0;have b1:=zM rp b0;have fF:=rp.low qJ;repeat' first|refine wk ?_|refine cX (λ_=>?_) λ_=>?_|refine zS (rlap_pur _ _ (k.ok _ (ae a0)) (k.ok _ (ae b0)) _ _) ?_|fail
   exact fin (by rw[e0])
 . have e0:rR ps a b=false:=by
    unfold rR;by_cases h1:0<=a
    . by_cases h2:0<=b
      . by_cases h3:a<ps.length
        . rw[aw (l:=ps) (i:=b.toNat) qJ];cases ps[a.toNat]? <;> simp
        . rw[aw (l:=ps) (i:=a.toNat) qJ];simp
      . rw[decide_eq_false h2];simp
    . rw[decide_eq_false h1];simp
   repeat' first|refine wk ?_|apply cX <;> intro
   all_goals first|exact fin (by rw[e0])|(exfalso;omega)
end
section
variable {lo bt z n:Nat} {h:zB} {m:MachT} {nsv psv kv:Value} {ns:List Tx} {ps:List Pl}
theorem lapN_in{x y:Tx}(hl:ps.length=ns.length)(hx:x∈ns)(hy:y∈ns):rR ps (pos ns x) (pos ns y)=sU (yJ ns ps x) (yJ ns ps y):=by
 rw[wY hx,wY hy];unfold rR;rw [decide_eq_true qJ,decide_eq_true qJ]
 show(true && true && match ps[ns.idxOf x]?,ps[ns.idxOf y]? with
 | some p,some q=>sU p q
 | _,_=>false)=_
 rw[plc_at hx hl,plc_at hy hl];rfl
theorem rapart_pur(k:Tb lo h bt z m nsv psv kv ns ps)(eE:lo<=n){sv:Value}{l:List Tx}(rI:RowI lo h sv 1 l.length (l.map str)):Com P 8 46 [ptr bt 0,sv] h n λo h' n'=>∃r,o = .ret (.bool r)/\(r=true↔∀(i:Nat) x,l[i]? = some x->apOK ns ps l i x)/\h'=h/\n'=n:=by
 have r:=rI 0;have hl:=rI.lt;have eM:inf<4611686018427387904:=by decide
 refine ent λu=>?_;repeat' first|refine wk ?_|apply cX <;> intro
 refine lpR (λi:Nat=>[(0,ptr bt 0),(1,sv),(5,I64 i)]) (λi h' n'=>h'=h/\n'=n/\i<=l.length/\∀(j:Nat) c,j<i->l[j]? = some c->apOK ns ps l j c) (λi=>l.length - i) 0 ⟨rfl,rfl,an _,λj _ hj=>absurd hj (aE _)⟩ ?_
 rintro i t h' n' ⟨rfl,rfl,hi,eG⟩
 by_cases eD:i<l.length
 . have c0:l[i]? = some l[i]:=aa eD;generalize l[i]=x at c0
   have c1:=yE r c0;by_cases hx:x∈ns
   . have e1:=wY hx;repeat' first|refine wk ?_|refine cX (λ_=>?_) λ_=>?_|refine zS (wX k x) ?_|fail
     refine lpR (λq:Nat=>[(0,ptr bt 0),(1,sv),(5,I64 i),(6,I64 (pos ns x)),(7,I64 q)]) (λq h2 n2=>h2=h'/\n2=n'/\q<=i/\∀(j:Nat) y,j<q->l[j]? = some y->sU (yJ ns ps x) (yJ ns ps y)=false) (λq=>i - q) 0 ⟨rfl,rfl,an _,λj _ hj=>absurd hj (aE _)⟩ ?_
     rintro q t h2 n2 ⟨rfl,rfl,hq,hno2⟩
     by_cases eK:q<i
     . have d0:l[q]? = some l[q]:=aa qJ;generalize l[q]=y at d0
       have hy:y∈ns:=(eG q y eK d0).1;have d1:=yE r d0;have e2:=lapN_in (ps:=ps) k.hl hx hy;repeat' first|refine wk ?_|refine cX (λ_=>?_) λ_=>?_|refine zS (wX k y) ?_|refine zS (uQ k eE _ _) ?_|fail
       . rename_i g1;rw [e2]at g1;exact⟨false,rfl,⟨λe=>(by cases e),λeH=>by rw[(eH i x c0).2 q y eK d0]at g1;cases g1⟩,rfl,rfl⟩
       . rename_i g1;rw [e2]at g1
         exact rnd (q+1) ⟨rfl,rfl,by omega,λj w hj e=>by
          rcases ai.1 hj with h9|rfl
          . exact hno2 j w h9 e
          . rw[d0]at e;cases e;exact g1⟩
     . obtain rfl:q=i:=by omega
       repeat' first|refine wk ?_|apply cX <;> intro
       exact rnd (q+1) ⟨rfl,rfl,by omega,λj w hj e=>by
        rcases ai.1 hj with h9|rfl
        . exact eG j w h9 e
        . rw[c0]at e;cases e;exact⟨hx,hno2⟩⟩
   . have e1:=pos_out hx;repeat' first|refine wk ?_|refine cX (λ_=>?_) λ_=>?_|refine zS (wX k x) ?_|fail
     exact⟨false,rfl,⟨λe=>(by cases e),λeH=>absurd (eH i x c0).1 hx⟩,rfl,rfl⟩
 . obtain rfl:i=l.length:=by omega
   repeat' first|refine wk ?_|apply cX <;> intro
   exact⟨true,rfl,⟨λ_ j y e=>eG j y (ab.1 e).1 e,λ_=>rfl⟩,rfl,rfl⟩
theorem rdist_pur(k:Tb lo h bt z m nsv psv kv ns ps){sv:Value}{l:List Tx}(rI:RowI lo h sv 1 l.length (l.map str)):Com P 8 165 [ptr bt 0,sv] h n λo h' n'=>∃r,o = .ret (.bool r)/\(r=true↔l.length<=64/\∀(i:Nat) x,l[i]? = some x->x∈ns/\pos l x=(i:Nat))/\h'=h/\n'=n:=by
 have r:=rI 0;have hl:=rI.lt;have eM:inf<4611686018427387904:=by decide
 refine ent λu=>?_;by_cases h64:l.length<=64
 . repeat' first|refine wk ?_|apply cX <;> intro
   refine lpR (λi:Nat=>[(0,ptr bt 0),(1,sv),(5,I64 i)]) (λi h' n'=>h'=h/\n'=n/\i<=l.length/\∀(j:Nat) c,j<i->l[j]? = some c->c∈ns/\pos l c=(j:Nat)) (λi=>l.length - i) 0 ⟨rfl,rfl,an _,λj _ hj=>absurd hj (aE _)⟩ ?_
   rintro i t h' n' ⟨rfl,rfl,hi,eG⟩
   by_cases eD:i<l.length
   . have c0:l[i]? = some l[i]:=aa eD;generalize l[i]=x at c0
     have c1:=yE r c0;have hm:=ae c0;have e2:=wY hm
     have e3:(l.idxOf x:Nat)<=i:=by
      rcases aS i (l.idxOf x) with h9|h9
      . exfalso
        have:=cG (p:=(· == x)) h9;obtain⟨q1,q2⟩:=ab.1 c0;simp [q2]at this
      . exact h9
     by_cases hx:x∈ns
     . have e1:=wY hx;repeat' first|refine wk ?_|refine cX (λ_=>?_) λ_=>?_|refine zS (wX k x) ?_|refine zS (find_pur r qJ) ?_|fail
       . rename_i g1;exact⟨false,rfl,⟨λe=>(by cases e),λeH=>by have:=(eH.2 i x c0).2;omega⟩,rfl,rfl⟩
       . rename_i g1
         exact rnd (i+1) ⟨rfl,rfl,by omega,λj w hj e=>by
          rcases ai.1 hj with h9|rfl
          . exact eG j w h9 e
          . rw[c0]at e;cases e;exact⟨hx,by omega⟩⟩
     . have e1:=pos_out hx;repeat' first|refine wk ?_|refine cX (λ_=>?_) λ_=>?_|refine zS (wX k x) ?_|refine zS (find_pur r qJ) ?_|fail
       exact⟨false,rfl,⟨λe=>(by cases e),λeH=>absurd (eH.2 i x c0).1 hx⟩,rfl,rfl⟩
   . obtain rfl:i=l.length:=by omega
     repeat' first|refine wk ?_|apply cX <;> intro
     exact⟨true,rfl,⟨λ_=>⟨h64,λj y e=>eG j y (ab.1 e).1 e⟩,λ_=>rfl⟩,rfl,rfl⟩
 . repeat' first|refine wk ?_|apply cX <;> intro
   exact⟨false,rfl,⟨λe=>(by cases e),λeH=>absurd eH.1 h64⟩,rfl,rfl⟩
end
section
instance rarity_c (s:Tx) (h:zB) (n:Nat):PurC P 8 162 [str s] h n (I64 (arity s)):=⟨by
 refine ent λu=>?_;repeat' first|refine wk ?_|apply cX <;> intro
 all_goals (refine fin ?_;try subst_vars)
 all_goals first|rfl|skip
 . rename_i h1;unfold arity ar2;simp_all⟩
instance num_c (e:Int) (h:zB) (n:Nat):PurC P 8 18 [I64 e] h n (I64 e):=⟨by
 refine ent λu=>?_;repeat' first|refine wk ?_|apply cX <;> intro
 exact fin rfl⟩
end
section
abbrev tInt:Nat:=3
abbrev tInts:Nat:=49
structure Tc (lo:Nat) (h:zB) (bt z:Nat) (m:MachT) (nsv psv kv:Value) (ns:List Tx) (ps:List Pl) (kvs:List Value):Prop where
 tb:Tb lo h bt z m nsv psv kv ns ps
 kr:Row lo h kv tInts 1 kvs.length kvs
 kl:kvs.length=m.classes.length
 ke:∀(i:Nat) c,m.classes[i]? = some c->∃v,kvs[i]? = some v/\Row lo h v tInt 1 c.regs.length ((c.regs.map (pos ns)).map I64)
variable {lo bt z n:Nat} {h:zB} {m:MachT} {nsv psv kv:Value} {ns:List Tx} {ps:List Pl} {kvs:List Value}
theorem Tc.tch{n':Nat}{h':zB}(k:Tc lo h bt z m nsv psv kv ns ps kvs)(t:Tch [] h n h' n')(eE:lo<=n):Tc lo h' bt z m nsv psv kv ns ps kvs:=
 ⟨k.tb.tch t eE,k.kr.tch t eE λ_ _ hx=>(by cases hx),k.kl,λi c hc=>by
  obtain⟨v,h1,h2⟩:=k.ke i c hc;exact⟨v,h1,h2.tch t eE λ_ _ hx=>(by cases hx)⟩⟩
def RegsIn(m:MachT)(ns:List Tx):Prop:=∀(i:Nat) c,m.classes[i]? = some c->1<=c.regs.length/\∀r∈c.regs,r∈ns
theorem row_ee{v:Value}{e:Nat}{l:List Value}{i:Nat}{x:Value}{h:zB}(r:Row lo h v e 1 l.length l)(hx:l[i]? = some x):zD h (sbk v) (sof v+i*1)=some x:=by
 rw[aQ];exact r.at hx
theorem cls_len(k:Tc lo h bt z m nsv psv kv ns ps kvs){c:ClassT}(hc:c∈m.classes):c.regs.length<inf:=(k.tb.mm.clsr c hc).lt
theorem tin_pur(k:Tc lo h bt z m nsv psv kv ns ps kvs)(c r:Int):Pur P 8 51 [ptr bt 0,I64 c,I64 r] h n (.bool (inN m ns c r)):=by
 have hcel:=k.tb.cel;have kr:=k.kr;have kl:=k.kl;have eM:inf<4611686018427387904:=by decide
 refine ent λu=>?_;by_cases hc:0<=c/\c<kvs.length
 . obtain⟨h1,h2⟩:=hc;have c0:m.classes[c.toNat]? = some m.classes[c.toNat]:=aa qJ;generalize m.classes[c.toNat]=x at c0
   obtain⟨v,v1,v2⟩:=k.ke _ _ c0;have hl:=cls_len k (ae c0);have y0:=row_ee kr v1;have e0:inN m ns c r=decide (r∈x.regs.map (pos ns)):=by unfold inN;rw [decide_eq_true h1,c0];rfl
   have v3:Row lo h v tInt 1 (x.regs.map (pos ns)).length ((x.regs.map (pos ns)).map I64):=by rw[aD];exact v2
   repeat' first|refine wk ?_|refine cX (λ_=>?_) λ_=>?_|refine zS (rin_pur v3 (by rw[aD];omega)) ?_|fail
   exact fin (by rw[e0])
 . have e0:inN m ns c r=false:=by
    unfold inN;by_cases h1:0<=c
    . rw[aw (l:=m.classes) (i:=c.toNat) qJ];simp
    . rw[decide_eq_false h1];rfl
   repeat' first|refine wk ?_|apply cX <;> intro
   all_goals first|exact fin (by rw[e0])|(exfalso;omega)
theorem twidth_pur(k:Tc lo h bt z m nsv psv kv ns ps kvs)(hr:RegsIn m ns)(c:Int):Pur P 8 164 [ptr bt 0,I64 c] h n (I64 (wN m ns ps c)):=by
 have hcel:=k.tb.cel;have kr:=k.kr;have kl:=k.kl;have rp:=k.tb.rp;have fO:=k.tb.hl;refine ent λu=>?_;by_cases hc:0<=c/\c<kvs.length
 . obtain⟨h1,h2⟩:=hc;have c0:m.classes[c.toNat]? = some m.classes[c.toNat]:=aa qJ;generalize m.classes[c.toNat]=x at c0
   obtain⟨v,v1,v2⟩:=k.ke _ _ c0;obtain⟨g1,g2⟩:=hr _ _ c0;have y0:=row_ee kr v1
   cases hx:x.regs with
   | nil=>rw [hx]at g1;exact absurd g1 qK 
   | cons r0 rr =>
    have kQ:r0∈ns:=g2 r0 (by rw[hx];exact aN ..);have e0:wN m ns ps c=(yJ ns ps r0).width:=by unfold wN;rw [if_pos h1,c0];show wdOf ns ps x=_;unfold wdOf;rw [hx]
    have y1:zD h (sbk v) (sof v+0*1)=some (I64 (ns.idxOf r0:Nat)):=by
     rw[bI];exact v2.at (by rw[hx,bJ,bJ,wY kQ];rfl)
    have eD:=idx_lt kQ;have y2:=yT (zM rp (plc_at kQ fO)) (j:=2) rfl;have v3:0<x.regs.length:=g1;repeat' first|refine wk ?_|apply cX <;> intro
    all_goals first|exact fin (by rw[e0])|(exfalso;omega)
 . have e0:wN m ns ps c=0:=by
    unfold wN;by_cases h1:0<=c
    . rw[if_pos h1,aw qJ]
    . rw[if_neg h1]
   repeat' first|refine wk ?_|apply cX <;> intro
   all_goals first|exact fin (by rw[e0])|(exfalso;omega)
theorem roperand_pur(k:Tc lo h bt z m nsv psv kv ns ps kvs)(eE:lo<=n)(hr:RegsIn m ns)(o:OperT):Pur P 8 163 [ptr bt 0,.agg ⟨oprC o⟩] h n (.bool (uB m o)):=by
 refine Com.pure (ent λu=>?_) (.inl rfl);rcases vD (m:=m) (x:=o.cls) with⟨h1,h2⟩|⟨i,c,h1,h2,h3,h4,h5⟩
 . have e0:uB m o=false:=by unfold uB;rw [h1]
   have e1:=vN (n:=n+1) (h:=hal h n (mkC (oprC o) (58+1) 0)) (Tc.tch k zA eE).tb o.cls;rw [h2]at e1;repeat' first|refine wk ?_|refine cX (λ_=>?_) λ_=>?_|refine zS e1 ?_|fail
   exact finT (by rw[e0]) zA
 . have e0:uB m o=(decide (o.fix=[]) || decide (o.fix∈c.regs)):=by unfold uB;rw [h1]
   have e1:=vN (n:=n+1) (h:=hal h n (mkC (oprC o) (58+1) 0)) (Tc.tch k zA eE).tb o.cls;rw [h3]at e1
   have e2:inN m ns (i:Nat) (pos ns o.fix)=decide (o.fix∈c.regs):=by
    unfold inN;rw [decide_eq_true qJ];show(true && match m.classes[i]? with|some k=>decide (pos ns o.fix∈k.regs.map (pos ns))|none=>false)=_;rw [h2];exact decide_eq_decide.2 (pos_mem (hr i c h2).2)
   repeat' first|refine wk ?_|refine cX (λ_=>?_) λ_=>?_|refine zS e1 ?_|refine zS (wX (Tc.tch k zA eE).tb _) ?_|refine zS (tin_pur (Tc.tch k zA eE) _ _) ?_|fail
   all_goals rw[e0]
   . rename_i f1;exact finT (by rw[f1];rfl) zA
   . rename_i f1;exact finT (by rw[e2];simp [f1]) zA
theorem rlist_ret(k:Tb lo h bt z m nsv psv kv ns ps)(eE:lo<=n){lo2 e:Nat}{sv:Value}{l:List Tx}(r:Row lo2 h sv e 1 l.length (l.map str))(hlo2:lo2<=n)(hl:l.length<100000):Ret P 8 104 [ptr bt 0,sv] h n λv h' n'=>Own n n' h' v tInt 1 (uN ns l).length ((uN ns l).map I64)/\Tch [] h n h' n':=by
 refine ent λu=>?_;repeat' first|refine wk ?_|apply cX <;> intro
 refine lpR (α :=Nat×Value) (λa=>[(0,ptr bt 0),(1,sv),(5,a.2),(6,I64 a.1)]) (λa h' n'=>Tch [] h n h' n'/\a.1<=l.length/\(uN ns (l.take a.1)).length<=a.1/\Own n n' h' a.2 tInt 1 (uN ns (l.take a.1)).length ((uN ns (l.take a.1)).map I64)) (λa=>l.length - a.1) (0,.slice none 0 0) ⟨zA,an _,ad _,Own.nil⟩ ?_
 rintro ⟨i,ov⟩ t h' n' ⟨ht,hi,gY,ho⟩
 dsimp only at hi gY ho ⊢;have eP:=ht.le;have k':=k.tch ht eE;have r':=r.tch ht hlo2 λ_ _ hx=>(by cases hx);by_cases eD:i<l.length
 . have c0:l[i]? = some l[i]:=aa eD;generalize l[i]=x at c0
   have c1:=yE r' c0;have sn:=listN_snoc (ns:=ns) c0;by_cases hx:x∈ns
   . have e1:=wY hx;rw [if_pos hx]at sn;have kF:0<=pos ns x:=pos_ge.2 hx;repeat' first|refine wk ?_|refine cX (λ_=>?_) λ_=>?_|refine zS (wX k' x) ?_|fail
     refine appO (ho.tch (S:=[]) zA qL) (zF (e:=tInt) (sz:=1) (len:=1) rfl qK) qJ  ⟨rfl,trivial⟩ qJ  ?_
     rintro v' h3 n3 ho3 ht3
     have ht4:Tch [] h n h3 n3:=Tch.tch ht3 zA λx hx=>.inl (zQ ho x hx);repeat' first|refine wk ?_|apply cX <;> intro
     exact rnd (i+1,v') ⟨ht4,by omega,by rw[sn,ah];simp;omega,by rw[sn,ah,aC];exact ho3⟩
   . rw[if_neg hx]at sn;have e1:=pos_out hx;repeat' first|refine wk ?_|refine cX (λ_=>?_) λ_=>?_|refine zS (wX k' x) ?_|fail
     exact rnd (i+1,ov) ⟨ht,by omega,by rw[sn];omega,by rw[sn];exact ho⟩
 . obtain rfl:i=l.length:=by omega
   repeat' first|refine wk ?_|apply cX <;> intro
   rw[aY]at ho;exact⟨_,rfl,ho,ht⟩
theorem vO(k:Tc lo h bt z m nsv psv kv ns ps kvs)(eE:lo<=n)(o:OperT):Ret P 8 106 [ptr bt 0,.agg ⟨oprC o⟩] h n λv h' n'=>Row n' h' v tInt 1 (sP m ns o).length ((sP m ns o).map I64)/\Tch [] h n h' n':=by
 refine ent λu=>?_;rcases vD (m:=m) (x:=o.cls) with⟨h1,h2⟩|⟨i,c,h1,h2,h3,h4,h5⟩
 . have e0:sP m ns o=[]:=by unfold sP;rw [h1]
   have e1:=vN (n:=n+1) (h:=hal h n (mkC (oprC o) (58+1) 0)) (Tc.tch k zA eE).tb o.cls;rw [h2]at e1;repeat' first|refine wk ?_|refine cX (λ_=>?_) λ_=>?_|refine zS e1 ?_|fail
   exact⟨_,rfl,by rw[e0];exact .inl ⟨rfl,rfl,rfl⟩,zA⟩
 . have e1:=vN (n:=n+1) (h:=hal h n (mkC (oprC o) (58+1) 0)) (Tc.tch k zA eE).tb o.cls;rw [h3]at e1;obtain⟨v,v1,v2⟩:=k.ke _ _ h2;have k1:Tc lo (hal h n (mkC (oprC o) (58+1) 0)) bt z m nsv psv kv ns ps kvs:=Tc.tch k zA eE;have hcel:=k1.tb.cel;have kr:=k1.kr;have kl:=k.kl;have y0:=row_ee kr v1;by_cases hf:o.fix=[]
   . have e0:sP m ns o=c.regs.map (pos ns):=by unfold sP;rw [h1];show(if o.fix=[] then _ else _)=_;rw [if_pos hf]
     repeat' first|refine wk ?_|refine cX (λ_=>?_) λ_=>?_|refine zS e1 ?_|fail
     exact⟨_,rfl,by rw[e0,aD];exact(v2.tch (S:=[]) (n:=n) zA eE λ_ _ hx=>(by cases hx)).up qJ,zA⟩
   . have e0:sP m ns o=uN ns [o.fix]:=by unfold sP;rw [h1];show(if o.fix=[] then _ else _)=_;rw [if_neg hf]
     repeat' first|refine wk ?_|refine cX (λ_=>?_) λ_=>?_|refine zS e1 ?_|fail
     refine yG (rlist_ret (Tc.tch k zA eE).tb qJ  (l:=[o.fix]) (zF (e:=0) (sz:=1) (len:=1) rfl qK) (ad _) qL) ?_
     rintro v' h3 n3 ⟨ho,ht⟩
     repeat' first|refine wk ?_|apply cX <;> intro
     exact⟨_,rfl,by rw[e0];exact ho.row qK,zA⟩
end
section
variable {lo bt z n:Nat} {h:zB} {m:MachT} {nsv psv kv:Value} {ns:List Tx} {ps:List Pl} {kvs:List Value}
structure Tl (lo:Nat) (h:zB) (bt:Nat) (m:MachT) (nsv psv:Value) (ns:List Tx) (ps:List Pl):Prop where
 mm:MachM lo h m
 rn:Row lo h nsv tStr 1 ns.length (ns.map str)
 rp:Row lo h psv tPl 3 ps.length (ps.flatMap plC)
 hb:lo<=bt
 hl:ps.length=ns.length
 hn:ns.length<=200
 ok:∀p∈ps,PlB p
theorem Tl.tb{n':Nat}{h':zB}(k:Tl lo h bt m nsv psv ns ps)(t:Tch [] h lo h' n')(hc:Cel h' bt z 0 (yR m++[nsv,psv,kv]))(hb:bt<n'):Tb n' h' bt z m nsv psv kv ns ps:=
 ⟨(k.mm.tch t (ad _)).up t.le,hc,(k.rn.tch t (ad _) λ_ _ hx=>(by cases hx)).up t.le,(k.rp.tch t (ad _) λ_ _ hx=>(by cases hx)).up t.le,hb,k.hl,k.hn,k.ok⟩
theorem rclasses_com(k:Tl lo h bt m nsv psv ns ps)(eE:lo<=n)(ib:bt<n)(hc:Cel h bt z 0 (yR m++[nsv,psv,.slice none 0 0])):Com P 8 100 [ptr bt 0] h n λr h' n'=>∃e,r = .ret (I64 e)/\ClsErr m ns ps e/\Tch [bt] h n h' n'/\(e=0->∃kv kvs,Tc n' h' bt z m nsv psv kv ns ps kvs):=by
 have eM:inf<4611686018427387904:=by decide
 have hcll:=k.mm.cls.lt;have kI:=k.hb;refine ent λu=>?_;by_cases h64:m.classes.length<=64
 . have r0:=k.mm.cls 0;repeat' first|refine wk ?_|apply cX <;> intro
   refine lpR (α :=Nat×Value×List Value) (λa=>[(0,ptr bt 0),(3,I64 a.1)]) (λa h' n'=>Tch [bt] h n h' n'/\a.1<=m.classes.length/\(∀(j:Nat) c,j<a.1->m.classes[j]? = some c->clsE m ns ps j c 0)/\Cel h' bt z 0 (yR m++[nsv,psv,a.2.1])/\a.2.2.length=a.1/\Own n n' h' a.2.1 tInts 1 a.1 a.2.2/\(∀(i:Nat) c,i<a.1->m.classes[i]? = some c->∃v,a.2.2[i]? = some v/\Own n n' h' v tInt 1 c.regs.length ((c.regs.map (pos ns)).map I64))) (λa=>m.classes.length - a.1) (0,.slice none 0 0,[]) ⟨zA,an _,λj _ hj=>absurd hj (aE _),hc,rfl,Own.nil,λj _ hj=>absurd hj (aE _)⟩ ?_
   rintro ⟨i,kv,kvs⟩ t h' n' ⟨ht,hi,eG,hcel,jN,hko,hke⟩
   dsimp only at hi eG hcel jN hko hke ⊢;have eP:=ht.le;have mH:=ht.dn (lo:=lo) eE qM;have k':=k.tb mH hcel qJ;have r':=k'.mm.cls 0;have rp':=k'.rp;by_cases eD:i<m.classes.length
   . have c0:m.classes[i]? = some m.classes[i]:=aa eD;generalize m.classes[i]=c at c0
     have c1:=zM r' c0;have rcI:=k'.mm.clsr c (ae c0);have rc:=rcI 0;have ro:=rc.one;have gW:=r'.low qJ;have lB:=rcI.lt;have hcp:=cls_le c0;have fK:¬nameOKc m ns i c->∀h2 n2,Tch [bt] h n h2 n2->∃e,Out.ret (I64 5) = .ret (I64 e)/\ClsErr m ns ps e/\Tch [bt] h n h2 n2/\(e=0->∃kv kvs,Tc n2 h2 bt z m nsv psv kv ns ps kvs):=λhb h2 n2 t2=>⟨5,rfl,.inr ⟨h64,sN c0 (.inr (.inl ⟨rfl,hb⟩)) qK  eG⟩,t2,λh9=>absurd h9 qK⟩;repeat' first|refine wk ?_|refine cX (λ_=>?_) λ_=>?_|refine zS (vN (Tb.tch k' zA qJ) _) ?_|refine zS (wX (Tb.tch k' zA qJ) _) ?_|fail
     . exact fK (λhb=>by have:=hb.1;simp_all) _ _ zA
     . exact fK (λhb=>by have:=hb.2.1;omega) _ _ zA
     . rename_i e1 e2 e3;exact fK (λhb=>hb.2.2 (pos_ge.1 e3)) _ _ zA
     all_goals (
      have fj:nameOKc m ns i c:=⟨by assumption,by omega,λhx=>by have:=pos_ge.2 hx;omega⟩;have fL:¬restOKc ns ps c->∀h2 n2,Tch [bt] h n h2 n2->∃e,Out.ret (I64 8) = .ret (I64 e)/\ClsErr m ns ps e/\Tch [bt] h n h2 n2/\(e=0->∃kv kvs,Tc n2 h2 bt z m nsv psv kv ns ps kvs):=λhb h2 n2 t2=>⟨8,rfl,.inr ⟨h64,sN c0 (.inr (.inr ⟨rfl,fj,hb⟩)) qK  eG⟩,t2,λh9=>absurd h9 qK⟩)
     . exact fL (λhb=>by have:=hb.1;omega) _ _ zA
     . exact fL (λhb=>by have:=hb.2.1;omega) _ _ zA
     . refine lpR (α :=Nat×Value) (λa=>[(0,ptr bt 0),(3,I64 i),(4,ptr n' 0),(6,a.2),(7,I64 a.1)]) (λa h2 n2=>Tch [] h' n' h2 n2/\n'<n2/\Cel h2 n' (56+1) 0 (clsC c)/\a.1<=c.regs.length/\Own (n'+1) n2 h2 a.2 tInt 1 a.1 (((c.regs.take a.1).map (pos ns)).map I64)/\∀(j:Nat) x,j<a.1->c.regs[j]? = some x->regOKc ns ps c j x) (λa=>c.regs.length - a.1) (0,.slice none 0 0) ⟨zA,by omega,zC,an _,Own.nil,λj _ hj=>absurd hj (aE _)⟩ ?_;clear c1 rc r' rp'
       rintro ⟨j,lv⟩ t h2 n2 ⟨ht2,hn2,hc2,hj,hlo2,hno2⟩
       dsimp only at hj hlo2 hno2 ⊢;have k2:=Tb.tch k' ht2 (ad _);have eS:=ht2.le;have rp2:=k2.rp;have hcel2:=k2.cel;have jn:=k2.mm.clsr c (ae c0) 0;have htb:Tch [bt] h n h2 n2:=Tch.tch ht2 ht qL;by_cases eK:j<c.regs.length
       . have d0:c.regs[j]? = some c.regs[j]:=aa eK;generalize c.regs[j]=x at d0
         have d1:=yE jn d0;have bx:¬regOKc ns ps c j x->¬restOKc ns ps c:=λhb hr=>hb (hr.2.2 j x d0);have hL:((c.regs.take j).map (pos ns)).length=j:=by rw[aD,aI];omega
         have rl:Row n2 h2 lv tInt 1 ((c.regs.take j).map (pos ns)).length (((c.regs.take j).map (pos ns)).map I64):=by rw[hL];exact hlo2.row qK 
         have hpf:=pos_first d0;by_cases hx:x∈ns
         . have e1:Pur P 8 49 [ptr bt 0,str x] h2 n2 (I64 (ns.idxOf x:Nat)):=by have:=wX (n:=n2) k2 x;rw [wY hx]at this;exact this
           have e2:((ns.idxOf x:Nat):Int)∈(c.regs.take j).map (pos ns)↔x∈c.regs.take j:=by
            rw[<- wY hx];refine pos_mem λr hr=>?_;obtain⟨q,hq⟩:=aj.1 hr;have iQ:q<j:=by have:=(ab.1 hq).1;rw [aI]at this;omega
            rw[aJ iQ]at hq;exact(hno2 q r iQ hq).1
           have hix:=idx_lt hx;have fO:=k2.hl;have y2:=yT (zM rp2 (plc_at hx fO)) (j:=2) rfl
           obtain⟨r0,rr,hcr⟩:∃r0 rr,c.regs=r0::rr:=by
            cases hq:c.regs with
            | nil=>rw [hq]at eK;exact absurd eK (aE _)
            | cons a b=>exact⟨a,b,rfl⟩
           have ew:wdOf ns ps c=(yJ ns ps r0).width:=by unfold wdOf;rw [hcr]
           have nxt:regOKc ns ps c j x->∀(q:Nat) y,q<j+1->c.regs[q]? = some y->regOKc ns ps c q y:=λhb q y hq e=>by
            rcases ai.1 hq with h9|rfl
            . exact hno2 q y h9 e
            . rw[d0]at e;cases e;exact hb
           have app:∀h3 n3 v3,Own (n'+1) n3 h3 v3 tInt 1 (j+1) (((c.regs.take j).map (pos ns)).map I64++[I64 (ns.idxOf x:Nat)])->Own (n'+1) n3 h3 v3 tInt 1 (j+1) (((c.regs.take (j+1)).map (pos ns)).map I64):=λh3 n3 v3 o=>by
            rw[yV d0,aC,aC,bJ,wY hx];exact o
           rcases bK j with hj0|hj0
           . repeat' first|refine wk ?_|refine cX (λ_=>?_) λ_=>?_|refine zS e1 ?_|refine zS (rin_pur rl qJ) ?_|fail
             . rename_i f1;exact fL (bx λhb=>hpf.1 hb.2.1 (e2.1 f1)) _ _ htb
             . rename_i f1;refine appO (hlo2.tch (S:=[]) zA qL) (zF (e:=tInt) (sz:=1) (len:=1) rfl qK) qJ  ⟨rfl,trivial⟩ qJ  ?_
               rintro v' h3 n3 ho3 ht3
               have fi:=ht3.le;have ht4:Tch [] h' n' h3 n3:=Tch.tch ht3 zA λx hx=>.inl (by have:=zQ hlo2 x hx;omega);repeat' first|refine wk ?_|apply cX <;> intro
               have hx0:x=r0:=by subst hj0;rw [hcr]at d0;cases d0;rfl
               exact rnd (j+1,v') ⟨ht4,by omega,(hc2.hal qJ).tch ht3 qJ  (λhx=>by have:=zQ hlo2 _ hx;omega),by omega,app _ _ _ ho3,nxt ⟨hx,hpf.2 λh9=>f1 (e2.2 h9),by rw[ew,hx0]⟩⟩
           . have kQ:r0∈ns:=(hno2 0 r0 hj0 (by rw[hcr];rfl)).1;have hix0:=idx_lt kQ;have y0:=yT (zM rp2 (plc_at kQ fO)) (j:=2) rfl
             have y1:zD h2 (sbk lv) (sof lv+0*1)=some (I64 (ns.idxOf r0:Nat)):=by
              rw[bI];refine rl.at ?_;rw [hcr,show j=(j - 1)+1 by omega,cE,bJ,bJ,wY kQ];rfl
             have gY:0<((c.regs.take j).map (pos ns)).length:=by omega
             repeat' first|refine wk ?_|refine cX (λ_=>?_) λ_=>?_|refine zS e1 ?_|refine zS (rin_pur rl qJ) ?_|fail
             . rename_i f1;exact fL (bx λhb=>hpf.1 hb.2.1 (e2.1 f1)) _ _ htb
             . rename_i f1 f2;exact fL (bx λhb=>f2 (hb.2.2.trans ew)) _ _ htb
             . rename_i f1 f2;refine appO (hlo2.tch (S:=[]) zA qL) (zF (e:=tInt) (sz:=1) (len:=1) rfl qK) qJ  ⟨rfl,trivial⟩ qJ  ?_
               rintro v' h3 n3 ho3 ht3
               have fi:=ht3.le;have ht4:Tch [] h' n' h3 n3:=Tch.tch ht3 zA λx hx=>.inl (by have:=zQ hlo2 x hx;omega);repeat' first|refine wk ?_|apply cX <;> intro
               exact rnd (j+1,v') ⟨ht4,by omega,(hc2.hal qJ).tch ht3 qJ  (λhx=>by have:=zQ hlo2 _ hx;omega),by omega,app _ _ _ ho3,nxt ⟨hx,hpf.2 λh9=>f1 (e2.2 h9),(cK.1 f2).trans ew.symm⟩⟩
         . have e1:Pur P 8 49 [ptr bt 0,str x] h2 n2 (I64 (-1)):=by have:=wX (n:=n2) k2 x;rw [pos_out hx]at this;exact this
           repeat' first|refine wk ?_|refine cX (λ_=>?_) λ_=>?_|refine zS e1 ?_|fail
           exact fL (bx λhb=>hx hb.1) _ _ htb
       . obtain rfl:j=c.regs.length:=by omega
         rw[aY]at hlo2;have hko2:=hko.tch ht2 qL;obtain⟨lp,lc,rfl⟩:=hlo2.sl;repeat' first|refine wk ?_|apply cX <;> intro
         refine appO (hko2.tch (S:=[]) zA qL) (zF (e:=tInts) (sz:=1) (len:=1) rfl qK) qJ  ⟨hlo2.one,trivial⟩ qJ  ?_
         rintro v' h3 n3 ho3 ht3
         have fi:=ht3.le;have ro3:=ho3.one;have hcel3:Cel h3 bt z 0 (yR m++[nsv,psv,kv]):=Cel.tch (S:=(zH kv).toList) (n:=n2+1) (zE (c:=by first|exact hcel2.hal qJ)) ht3 qJ  (λhx=>by have:=zQ hko _ hx;omega);have ht4:Tch [bt] h n h3 n3:=Tch.tch ht3 zA λx hx=>.inl (zQ hko x hx);repeat' first|refine wk ?_|apply cX <;> intro
         refine rnd (i+1,v',kvs++[.slice lp c.regs.length lc]) ⟨zA,by omega,qD c0 (.inl ⟨rfl,fj,by omega,by omega,λj' y e=>hno2 j' y (ab.1 e).1 e⟩) eG,zC,by rw[ah,jN];rfl,?_,λq y hq e=>?_⟩
         . exact ho3.tch (S:=[bt]) (zA (S:=[bt])) (λb hb=>by have:=(ho3.blk hb).1;simp;omega)
         . have up:∀(v:Value) (len:Nat) (vs:List Value),Own n n2 h2 v tInt 1 len vs->Own n n3 (hst h3 bt 10 [v']) v tInt 1 len vs:=λv len vs o=>
            ((o.tch (S:=[]) (zA:Tch [] h2 n2 (hal h2 n2 (mkC [.slice lp c.regs.length lc] 0 0)) (n2+1)) qL).tch ht3 λb hb=>own_ne o hko2 (.inl qK) b hb).tch (S:=[bt]) (zA (S:=[bt])) (λb hb=>by have:=(o.blk hb).1;simp;omega)
           rcases ai.1 hq with h9|rfl
           . obtain⟨v,g1,g2⟩:=hke q y h9 e;exact⟨v,by rw[az qJ];exact g1,up _ _ _ (g2.tch ht2 qL)⟩
           . rw[c0]at e;cases e;exact⟨_,by rw[ax qJ,jN,bB];rfl,up _ _ _ (hlo2.dnl qJ)⟩
   . obtain rfl:i=m.classes.length:=by omega
     repeat' first|refine wk ?_|apply cX <;> intro
     refine⟨0,rfl,.inr ⟨h64,first_all eG⟩,ht,λ_=>⟨kv,kvs,k',?_,jN,λi c hc=>?_⟩⟩
     . have:=hko.row qK;rw [jN];exact this
     . obtain⟨v,h1,h2⟩:=hke i c (ab.1 hc).1 hc;exact⟨v,h1,h2.row qK⟩
 . have r0:=k.mm.cls 0;repeat' first|refine wk ?_|apply cX <;> intro
   exact⟨2,rfl,.inl ⟨rfl,by omega⟩,zA,λh9=>absurd h9 qK⟩
end
section
variable {lo bt z n:Nat} {h:zB} {m:MachT} {nsv psv kv:Value} {ns:List Tx} {ps:List Pl} {kvs:List Value}
def ClobLe(m:MachT):Prop:=∀(i:Nat) o,m.ops[i]? = some o->o.clob.length<100000
theorem rclob_ret(k:Tb lo h bt z m nsv psv kv ns ps)(eE:lo<=n)(hcb:ClobLe m){op:Nat}{o:OpT}(ho:m.ops[op]? = some o):Ret P 8 166 [ptr bt 0,I64 (op:Nat)] h n λv h' n'=>Row n' h' v tInt 1 (uN ns o.clob).length ((uN ns o.clob).map I64)/\Tch [] h n h' n':=by
 have hcel:=k.cel;have r:=k.mm.ops 0;have eD:=(ab.1 ho).1;have hl:=k.mm.ops.lt;have c1:=yT (zM r ho) (j:=5) rfl;refine ent λu=>?_;repeat' first|refine wk ?_|apply cX <;> intro
 refine yG (rlist_ret k eE (k.mm.opsc o (ae ho) 0) eE (hcb _ _ ho)) ?_
 rintro v' h3 n3 ⟨hw,ht⟩
 repeat' first|refine wk ?_|apply cX <;> intro
 exact⟨_,rfl,hw.row qK,ht⟩
theorem rclear_pur(k:Tb lo h bt z m nsv psv kv ns ps)(eE:lo<=n)(hcb:ClobLe m){op:Nat}{o:OpT}(ho:m.ops[op]? = some o)(r:Int):Pur P 8 108 [ptr bt 0,I64 (op:Nat),I64 r] h n (.bool (clrN ns ps o r)):=by
 refine Com.pure (ent λu=>?_) (.inl rfl);repeat' first|refine wk ?_|apply cX <;> intro
 refine yG (rclob_ret k eE hcb ho) ?_
 rintro v h2 n2 ⟨rv,ht2⟩
 have hn2:=ht2.le;have e0:clrN ns ps o r=(uN ns o.clob).all λc=> !rR ps c r:=rfl
 have gY:(uN ns o.clob).length<100000:=by
  have:=hcb _ _ ho;unfold uN;rw [aD];exact bV (List.length_filter_le _ _) this
 generalize uN ns o.clob=l at rv e0 gY
 repeat' first|refine wk ?_|apply cX <;> intro
 refine lpR (λq:Nat=>[(0,ptr bt 0),(2,I64 r),(7,v),(8,I64 q)]) (λq h' n'=>h'=h2/\n'=n2/\q<=l.length/\∀(j:Nat) y,j<q->l[j]? = some y->rR ps y r=false) (λq=>l.length - q) 0 ⟨rfl,rfl,an _,λj _ hj=>absurd hj (aE _)⟩ ?_
 rintro q t h' n' ⟨rfl,rfl,hq,eG⟩
 have k2:=k.tch ht2 eE;by_cases eD:q<l.length
 . have c0:l[q]? = some l[q]:=aa eD;generalize l[q]=y at c0
   have c1:=yE rv c0;repeat' first|refine wk ?_|refine cX (λ_=>?_) λ_=>?_|refine zS (uQ k2 qJ  _ _) ?_|fail
   . rename_i f1;exact finT (by rw[e0,all_false c0 (by rw[f1];rfl)]) ht2
   . rename_i f1
     exact rnd (q+1) ⟨rfl,rfl,by omega,λj w hj e=>by
      rcases ai.1 hj with h9|rfl
      . exact eG j w h9 e
      . rw[c0]at e;cases e;exact f1⟩
 . obtain rfl:q=l.length:=by omega
   repeat' first|refine wk ?_|apply cX <;> intro
   exact finT (by rw[e0,all_true λi x hi e=>by rw[eG i x hi e];rfl]) ht2
theorem mayI_len(k:Tc lo h bt z m nsv psv kv ns ps kvs)(o:OperT):(sP m ns o).length<inf:=by
 have eM:10<inf:=by decide
 unfold sP;rcases vD (m:=m) (x:=o.cls) with⟨h1,h2⟩|⟨i,c,h1,h2,h3,h4,h5⟩
 . rw[h1];show 0<inf;omega
 . rw[h1];show(if o.fix=[] then c.regs.map (pos ns) else uN ns [o.fix]).length<inf;split
   . rw[aD];exact cls_len k (ae h2)
   . unfold uN;rw [aD];have:=List.length_filter_le (λx=>decide (x∈ns)) [o.fix];simp only[ay,aX]at this;omega
theorem rmay0_pur(k:Tc lo h bt z m nsv psv kv ns ps kvs)(eE:lo<=n)(hcb:ClobLe m){op:Nat}{o:OpT}(ho:m.ops[op]? = some o)(r:Int):Pur P 8 107 [ptr bt 0,I64 (op:Nat),I64 0,I64 r] h n (.bool (decide (r∈sP m ns o.d) && clrN ns ps o r)):=by
 have hcel:=k.tb.cel;have rr:=k.tb.mm.ops 0;have eD:=(ab.1 ho).1;have hl:=k.tb.mm.ops.lt;have eQ:=ae ho;have ru:=k.tb.mm.opsu o eQ 0;have c0:=zM rr ho;have c1:=yT c0 (j:=1) rfl;have c2:=yT c0 (j:=2) rfl;have c3:=yT c0 (j:=3) rfl;have eM:inf<4611686018427387904:=by decide
 refine Com.pure (ent λu=>?_) (.inl rfl);repeat' first|refine wk ?_|apply cX <;> intro
 all_goals first|(exfalso;omega)|skip
 refine yG (vO k eE o.d) ?_
 rintro v h2 n2 ⟨rv,ht2⟩
 have hn2:=ht2.le;have gB:=mayI_len k o.d;repeat' first|refine wk ?_|refine cX (λ_=>?_) λ_=>?_|refine zS (rin_pur rv qJ) ?_|refine zS (rclear_pur (k.tb.tch ht2 eE) qJ  hcb ho r) ?_|fail
 all_goals (refine finT ?_ ht2;simp [*])
theorem any_ft{α : Type}{l:List α}{f: α->Bool}(h:∀(i:Nat) x,l[i]? = some x->f x=false):l.any f=false:=by
 cases e:l.any f with
 | false=>rfl
 | true=>
  obtain⟨x,hx,e2⟩:=ap.1 e;obtain⟨i,hi⟩:=aj.1 hx;rw [h i x hi]at e2;cases e2
theorem any_hit{α : Type}{l:List α}{f: α->Bool}{i:Nat}{x: α}(hx:l[i]? = some x)(h:f x=true):l.any f=true:=ap.2 ⟨x,ae hx,h⟩
def Bad(m:MachT)(ns:List Tx)(ps:List Pl)(o:OpT)(a b:Int):Prop:=(0<=o.tie->(!rR ps a b && (decide ((if o.tie=0 then a else b)∈sP m ns o.d) && clrN ns ps o (if o.tie=0 then a else b)))=false)/\(o.tie<0->rR ps a b=true)
theorem iad_s0{sz b off len cap:Nat}{k:IntKind}(h:0<len):Iad sz (.slice (some ⟨b,off,none⟩) len cap) (.int k 0) (.pointer (some ⟨b,off+0*sz,none⟩)):=⟨b,off,len,cap,k,0,rfl,rfl,h,rfl⟩
theorem iad_s1{sz b off len cap:Nat}{k:IntKind}(h:1<len):Iad sz (.slice (some ⟨b,off,none⟩) len cap) (.int k 1) (.pointer (some ⟨b,off+1*sz,none⟩)):=⟨b,off,len,cap,k,1,rfl,rfl,h,rfl⟩
theorem fits_t{o:OpT}{A B:List Int}{i q:Nat}{a b:Int}(ha:A[i]? = some a)(hb:B[q]? = some b)(ht:0<=o.tie)(hl:rR ps a b=false)(hx:(decide ((if o.tie=0 then a else b)∈sP m ns o.d) && clrN ns ps o (if o.tie=0 then a else b))=true):rFits m ns ps o A B=true:=by
 unfold rFits;rw [if_pos ht];exact any_hit ha (any_hit hb (by rw[hl,hx];rfl))
theorem fits_n{o:OpT}{A B:List Int}{i q:Nat}{a b:Int}(ha:A[i]? = some a)(hb:B[q]? = some b)(ht:o.tie<0)(hl:rR ps a b=false):rFits m ns ps o A B=(sP m ns o.d).any (clrN ns ps o):=by
 unfold rFits;rw [if_neg qJ];rw [any_hit ha (any_hit hb (by rw[hl];rfl))];rfl
theorem fits_f{o:OpT}{A B:List Int}(h:∀(j:Nat) a,A[j]? = some a->∀(q:Nat) b,B[q]? = some b->Bad m ns ps o a b):rFits m ns ps o A B=false:=by
 unfold rFits;split
 . rename_i ht;exact any_ft λi a ha=>any_ft λq b hb=>(h i a ha q b hb).1 ht
 . rename_i ht;rw [any_ft λi a ha=>any_ft λq b hb=>by rw[(h i a ha q b hb).2 qJ];rfl];rfl
theorem rfits_pur(k:Tc lo h bt z m nsv psv kv ns ps kvs)(eE:lo<=n)(hcb:ClobLe m){op:Nat}{o:OpT}(ho:m.ops[op]? = some o)(htie:o.tie<o.uses.length)(hu:o.uses.length=1\/o.uses.length=2):Pur P 8 52 [ptr bt 0,I64 (op:Nat)] h n (.bool (rFits m ns ps o (firI m ns o) (secI m ns o))):=by
 have hcel:=k.tb.cel;have l7:=k.tb.hb;have rr:=k.tb.mm.ops 0;have eD:=(ab.1 ho).1;have hl:=k.tb.mm.ops.lt;have lB:=rr.low qJ;have eQ:=ae ho;have ru:=k.tb.mm.opsu o eQ 0;have rul:=ru.low qJ;have lG:=ru.one;have lE:=(k.tb.mm.opsc o eQ 0).one;have c0:=zM rr ho;have eM:inf<4611686018427387904:=by decide
 obtain⟨us,ur,hus⟩:∃us ur,o.uses=us::ur:=by
  cases hq:o.uses with
  | nil=>rw [hq]at hu;simp at hu
  | cons a b=>exact⟨a,b,rfl⟩
 have d0:=zM ru (k:=0) (x:=us) (by rw[hus];rfl);have y0:zD h (sbk o.usv) (sof o.usv+0*2)=some (str us.cls):=yT d0 (j:=0) rfl;have y1:zD h (sbk o.usv) (sof o.usv+0*2+1)=some (str us.fix):=yT d0 (j:=1) rfl;have eA:firI m ns o=sP m ns us:=by unfold firI;rw [hus]
 have lN:(firI m ns o).length<inf:=by rw[eA];exact mayI_len k us
 refine Com.pure (ent λu=>?_) (.inl rfl);repeat' first|refine wk ?_|apply cX <;> intro
 refine yG (vO (Tc.tch k zA eE) qJ  us) ?_
 rintro va h2 n2 ⟨rv,ht2⟩
 have hn2:=ht2.le;rw [<- eA]at rv;have hc2:Cel h2 n (61+1) 0 (opC o):=zC;have fl:Tch [] h n h2 n2:=zA
 have z0:1<o.uses.length->∃us2,secI m ns o=sP m ns us2/\o.uses[1]? = some us2:=λhgt=>by
  cases ur with
  | nil=>rw [hus]at hgt;exact absurd hgt qL 
  | cons u2 r=>exact⟨u2,by unfold secI;rw [hus],by rw[hus];rfl⟩
 have z1:¬1<o.uses.length->secI m ns o=[-1]:=λhgt=>by
  cases ur with
  | nil=>unfold secI;rw [hus]
  | cons u2 r=>rw [hus]at hgt;exact absurd qL  hgt
 generalize firI m ns o=A at *
 generalize secI m ns o=B at *
 have cA:∀{h3:zB} {n3:Nat},Tch [] h2 n2 h3 n3->Row n2 h3 va tInt 1 A.length (A.map I64):=λt3=>rv.tch t3 (ad _) λ_ _ hx=>(by cases hx);rcases aS 1 o.uses.length with hgt|hle
 . obtain⟨us2,eB,kZ⟩:=z0 hgt;have d1:=zM ru kZ;have y2:zD h (sbk o.usv) (sof o.usv+1*2)=some (str us2.cls):=yT d1 (j:=0) rfl;have y3:zD h (sbk o.usv) (sof o.usv+1*2+1)=some (str us2.fix):=yT d1 (j:=1) rfl;have hB:B.length<inf:=by rw[eB];exact mayI_len k us2
   clear fl;repeat' first|refine wk ?_|apply cX <;> intro
   refine yG (vO (Tc.tch k zA eE) qJ  us2) ?_
   rintro vb h3 n3 ⟨rvb,ht3⟩
   have eS:=ht3.le;rw [<- eB]at rvb;have rva:=cA (h3:=h3) (n3:=n3) zA;have hc3:Cel h3 n (61+1) 0 (opC o):=zC;have ht:Tch [] h n h3 n3:=zA;have iI:n2<=n3:=by omega
   clear ht3 eS ht2 d1 y2 y3 kZ eB hgt;repeat' first|refine wk ?_|apply cX <;> intro
   refine lpR (λi:Nat=>[(0,ptr bt 0),(1,I64 (op:Nat)),(5,ptr n 0),(6,va),(7,vb),(8,I64 i)]) (λi h' n'=>Tch [] h3 n3 h' n'/\i<=A.length/\∀(j:Nat) a,j<i->A[j]? = some a->∀(q:Nat) b,B[q]? = some b->Bad m ns ps o a b) (λi=>A.length - i) 0 ⟨Tch.refl _ _ _,an _,λj _ hj=>absurd hj (aE _)⟩ ?_
   rintro i t h' n' ⟨ht4,hi,eG⟩
   by_cases iJ:i<A.length
   . have a0:A[i]? = some A[i]:=aa iJ;generalize A[i]=a at a0
     have rva2:=rva.tch ht4 iI λ_ _ hx=>(by cases hx);repeat' first|refine wk ?_|apply cX <;> intro
     refine lpR (λq:Nat=>[(0,ptr bt 0),(1,I64 (op:Nat)),(5,ptr n 0),(6,va),(7,vb),(8,I64 i),(9,I64 q)]) (λq h' n'=>Tch [] h3 n3 h' n'/\q<=B.length/\∀(j:Nat) b,j<q->B[j]? = some b->Bad m ns ps o a b) (λq=>B.length - q) 0 ⟨ht4,an _,λj _ hj=>absurd hj (aE _)⟩ ?_;clear ht4 rva2
     rintro q t h4 n4 ⟨ht4,hq,hno2⟩
     have fi:=ht4.le;have gC:Tch [] h n h4 n4:=Tch.tch ht4 ht qL;have k4:=k.tch gC eE;have rva2:=rva.tch ht4 iI λ_ _ hx=>(by cases hx);have rvb2:=rvb.tch ht4 (ad _) λ_ _ hx=>(by cases hx);have e1:=yE rva2 a0;have iq:=rva2.low qJ;by_cases eK:q<B.length
     . have b0:B[q]? = some B[q]:=aa eK;generalize B[q]=b at b0
       have e2:=yE rvb2 b0;have kI:=rvb2.low qJ 
       have nxt:Bad m ns ps o a b->∀(j:Nat) y,j<q+1->B[j]? = some y->Bad m ns ps o a y:=λhb j y hj e=>by
        rcases ai.1 hj with h9|rfl
        . exact hno2 j y h9 e
        . rw[b0]at e;cases e;exact hb
       rcases(show o.tie<0\/o.tie=0\/o.tie=1 by omega) with et|et|et
       . have ji:Cel h4 n (61+1) 0 (opC o):=hc3.tch ht4 qJ qL;repeat' first|refine wk ?_|refine cX (λ_=>?_) λ_=>?_|refine zS (uQ k4.tb qJ  a b) ?_|fail
         . rename_i f1;exact rnd (q+1) ⟨ht4,by omega,nxt ⟨λh9=>by omega,λ_=>f1⟩⟩
         . rename_i f1;refine yG (vO k4 qJ  o.d) ?_
           rintro vd h5 n5 ⟨rvd,ht5⟩
           have fA:=ht5.le;have k5:=k4.tch ht5 qJ;have ie:=mayI_len k o.d;have eF:=fits_n (m:=m) (ns:=ns) a0 b0 et f1;have mI:Tch [] h n h5 n5:=Tch.tch ht5 gC qL;generalize sP m ns o.d=D at rvd ie eF
           repeat' first|refine wk ?_|apply cX <;> intro
           refine lpR (λj:Nat=>[(0,ptr bt 0),(1,I64 (op:Nat)),(13,vd),(14,I64 j)]) (λj h' n'=>h'=h5/\n'=n5/\j<=D.length/\∀(p:Nat) y,p<j->D[p]? = some y->clrN ns ps o y=false) (λj=>D.length - j) 0 ⟨rfl,rfl,an _,λj _ hj=>absurd hj (aE _)⟩ ?_
           rintro j t h6 n6 ⟨rfl,rfl,hj,hno3⟩
           by_cases hlt3:j<D.length
           . have g0:D[j]? = some D[j]:=aa hlt3;generalize D[j]=y at g0
             have g1:=yE rvd g0;repeat' first|refine wk ?_|refine cX (λ_=>?_) λ_=>?_|refine zS (rclear_pur k5.tb qJ  hcb ho y) ?_|fail
             . rename_i f2;exact finT (by rw[eF,any_hit g0 f2]) mI
             . rename_i f2
               exact rnd (j+1) ⟨rfl,rfl,by omega,λp w hp e=>by
                rcases ai.1 hp with h9|rfl
                . exact hno3 p w h9 e
                . rw[g0]at e;cases e;exact f2⟩
           . obtain rfl:j=D.length:=by omega
             repeat' first|refine wk ?_|apply cX <;> intro
             exact finT (by rw[eF,any_ft λi x e=>hno3 i x (ab.1 e).1 e]) mI
       . have ji:Cel h4 n (61+1) 0 [str o.name,str o.d.cls,str o.d.fix,o.usv,I64 0,o.csv]:=by have:=hc3.tch ht4 qJ qL;unfold opC at this;rw [et]at this;exact this
         have eF:=fits_t (m:=m) (ns:=ns) (ps:=ps) (o:=o) a0 b0 qJ;have nx:∀f:rR ps a b=true\/(decide (a∈sP m ns o.d) && clrN ns ps o a)=false,Bad m ns ps o a b:=λf=>⟨λ_=>by rw[if_pos et];rcases f with f|f <;> rw[f] <;> simp,λh9=>by omega⟩;rw [if_pos et]at eF;repeat' first|refine wk ?_|refine cX (λ_=>?_) λ_=>?_|refine zS (uQ k4.tb qJ  a b) ?_|refine ob (a:=_) ?_ (iad_s0 qK)|refine zS (rmay0_pur (Tc.tch k4 zA qJ) qJ  hcb ho a) ?_|fail
         . rename_i f1;exact rnd (q+1) ⟨ht4,by omega,nxt (nx (.inl f1))⟩
         . rename_i f1 f2;exact finT (by rw[eF f1 f2]) zA
         . rename_i f1 f2;exact rnd (q+1) ⟨zA,by omega,nxt (nx (.inr f2))⟩
       . have ji:Cel h4 n (61+1) 0 [str o.name,str o.d.cls,str o.d.fix,o.usv,I64 1,o.csv]:=by have:=hc3.tch ht4 qJ qL;unfold opC at this;rw [et]at this;exact this
         have eF:=fits_t (m:=m) (ns:=ns) (ps:=ps) (o:=o) a0 b0 qJ;have nx:∀f:rR ps a b=true\/(decide (b∈sP m ns o.d) && clrN ns ps o b)=false,Bad m ns ps o a b:=λf=>⟨λ_=>by rw[if_neg qJ];rcases f with f|f <;> rw[f] <;> simp,λh9=>by omega⟩;rw [if_neg qJ]at eF;repeat' first|refine wk ?_|refine cX (λ_=>?_) λ_=>?_|refine zS (uQ k4.tb qJ  a b) ?_|refine ob (a:=_) ?_ (iad_s1 qK)|refine zS (rmay0_pur (Tc.tch k4 zA qJ) qJ  hcb ho b) ?_|fail
         . rename_i f1;exact rnd (q+1) ⟨ht4,by omega,nxt (nx (.inl f1))⟩
         . rename_i f1 f2;exact finT (by rw[eF f1 f2]) zA
         . rename_i f1 f2;exact rnd (q+1) ⟨zA,by omega,nxt (nx (.inr f2))⟩
     . obtain rfl:q=B.length:=by omega
       repeat' first|refine wk ?_|apply cX <;> intro
       exact rnd (i+1) ⟨ht4,by omega,λj y hj e=>by
        rcases ai.1 hj with h9|rfl
        . exact eG j y h9 e
        . rw[a0]at e;cases e;exact λq b hb=>hno2 q b (ab.1 hb).1 hb⟩
   . obtain rfl:i=A.length:=by omega
     repeat' first|refine wk ?_|apply cX <;> intro
     exact finT (by rw[fits_f λj a ha=>eG j a (ab.1 ha).1 ha]) (Tch.tch ht4 ht qL)
 . have eB:=z1 qJ;have hB:B.length<inf:=by rw[eB];decide
   clear fl;repeat' first|refine wk ?_|apply cX <;> intro
   have rvb:Row (n2+1) (hal h2 n2 (mkC [I64 (-1)] 0 0)) (.slice (some ⟨n2,0,none⟩) 1 1) tInt 1 B.length (B.map I64):=by rw[eB];exact zF (e:=tInt) (sz:=1) (len:=1) rfl qK 
   have rva:=cA (h3:=hal h2 n2 (mkC [I64 (-1)] 0 0)) (n3:=n2+1) zA;have hc3:Cel (hal h2 n2 (mkC [I64 (-1)] 0 0)) n (61+1) 0 (opC o):=zE;have ht:Tch [] h n (hal h2 n2 (mkC [I64 (-1)] 0 0)) (n2+1):=zA;have iI:n2<=n2+1:=by omega
   clear ht2 eB hle;generalize hal h2 n2 (mkC [I64 (-1)] 0 0)=h3 at *
   generalize n2+1=n3 at *
   generalize Value.slice (some ⟨n2,0,none⟩) 1 1=vb at *
   refine lpR (λi:Nat=>[(0,ptr bt 0),(1,I64 (op:Nat)),(5,ptr n 0),(6,va),(7,vb),(8,I64 i)]) (λi h' n'=>Tch [] h3 n3 h' n'/\i<=A.length/\∀(j:Nat) a,j<i->A[j]? = some a->∀(q:Nat) b,B[q]? = some b->Bad m ns ps o a b) (λi=>A.length - i) 0 ⟨Tch.refl _ _ _,an _,λj _ hj=>absurd hj (aE _)⟩ ?_
   rintro i t h' n' ⟨ht4,hi,eG⟩
   by_cases iJ:i<A.length
   . have a0:A[i]? = some A[i]:=aa iJ;generalize A[i]=a at a0
     have rva2:=rva.tch ht4 iI λ_ _ hx=>(by cases hx);repeat' first|refine wk ?_|apply cX <;> intro
     refine lpR (λq:Nat=>[(0,ptr bt 0),(1,I64 (op:Nat)),(5,ptr n 0),(6,va),(7,vb),(8,I64 i),(9,I64 q)]) (λq h' n'=>Tch [] h3 n3 h' n'/\q<=B.length/\∀(j:Nat) b,j<q->B[j]? = some b->Bad m ns ps o a b) (λq=>B.length - q) 0 ⟨ht4,an _,λj _ hj=>absurd hj (aE _)⟩ ?_;clear ht4 rva2
     rintro q t h4 n4 ⟨ht4,hq,hno2⟩
     have fi:=ht4.le;have gC:Tch [] h n h4 n4:=Tch.tch ht4 ht qL;have k4:=k.tch gC eE;have rva2:=rva.tch ht4 iI λ_ _ hx=>(by cases hx);have rvb2:=rvb.tch ht4 (ad _) λ_ _ hx=>(by cases hx);have e1:=yE rva2 a0;have iq:=rva2.low qJ;by_cases eK:q<B.length
     . have b0:B[q]? = some B[q]:=aa eK;generalize B[q]=b at b0
       have e2:=yE rvb2 b0;have kI:=rvb2.low qJ 
       have nxt:Bad m ns ps o a b->∀(j:Nat) y,j<q+1->B[j]? = some y->Bad m ns ps o a y:=λhb j y hj e=>by
        rcases ai.1 hj with h9|rfl
        . exact hno2 j y h9 e
        . rw[b0]at e;cases e;exact hb
       rcases(show o.tie<0\/o.tie=0\/o.tie=1 by omega) with et|et|et
       . have ji:Cel h4 n (61+1) 0 (opC o):=hc3.tch ht4 qJ qL;repeat' first|refine wk ?_|refine cX (λ_=>?_) λ_=>?_|refine zS (uQ k4.tb qJ  a b) ?_|fail
         . rename_i f1;exact rnd (q+1) ⟨ht4,by omega,nxt ⟨λh9=>by omega,λ_=>f1⟩⟩
         . rename_i f1;refine yG (vO k4 qJ  o.d) ?_
           rintro vd h5 n5 ⟨rvd,ht5⟩
           have fA:=ht5.le;have k5:=k4.tch ht5 qJ;have ie:=mayI_len k o.d;have eF:=fits_n (m:=m) (ns:=ns) a0 b0 et f1;have mI:Tch [] h n h5 n5:=Tch.tch ht5 gC qL;generalize sP m ns o.d=D at rvd ie eF
           repeat' first|refine wk ?_|apply cX <;> intro
           refine lpR (λj:Nat=>[(0,ptr bt 0),(1,I64 (op:Nat)),(13,vd),(14,I64 j)]) (λj h' n'=>h'=h5/\n'=n5/\j<=D.length/\∀(p:Nat) y,p<j->D[p]? = some y->clrN ns ps o y=false) (λj=>D.length - j) 0 ⟨rfl,rfl,an _,λj _ hj=>absurd hj (aE _)⟩ ?_
           rintro j t h6 n6 ⟨rfl,rfl,hj,hno3⟩
           by_cases hlt3:j<D.length
           . have g0:D[j]? = some D[j]:=aa hlt3;generalize D[j]=y at g0
             have g1:=yE rvd g0;repeat' first|refine wk ?_|refine cX (λ_=>?_) λ_=>?_|refine zS (rclear_pur k5.tb qJ  hcb ho y) ?_|fail
             . rename_i f2;exact finT (by rw[eF,any_hit g0 f2]) mI
             . rename_i f2
               exact rnd (j+1) ⟨rfl,rfl,by omega,λp w hp e=>by
                rcases ai.1 hp with h9|rfl
                . exact hno3 p w h9 e
                . rw[g0]at e;cases e;exact f2⟩
           . obtain rfl:j=D.length:=by omega
             repeat' first|refine wk ?_|apply cX <;> intro
             exact finT (by rw[eF,any_ft λi x e=>hno3 i x (ab.1 e).1 e]) mI
       . have ji:Cel h4 n (61+1) 0 [str o.name,str o.d.cls,str o.d.fix,o.usv,I64 0,o.csv]:=by have:=hc3.tch ht4 qJ qL;unfold opC at this;rw [et]at this;exact this
         have eF:=fits_t (m:=m) (ns:=ns) (ps:=ps) (o:=o) a0 b0 qJ;have nx:∀f:rR ps a b=true\/(decide (a∈sP m ns o.d) && clrN ns ps o a)=false,Bad m ns ps o a b:=λf=>⟨λ_=>by rw[if_pos et];rcases f with f|f <;> rw[f] <;> simp,λh9=>by omega⟩;rw [if_pos et]at eF;repeat' first|refine wk ?_|refine cX (λ_=>?_) λ_=>?_|refine zS (uQ k4.tb qJ  a b) ?_|refine ob (a:=_) ?_ (iad_s0 qK)|refine zS (rmay0_pur (Tc.tch k4 zA qJ) qJ  hcb ho a) ?_|fail
         . rename_i f1;exact rnd (q+1) ⟨ht4,by omega,nxt (nx (.inl f1))⟩
         . rename_i f1 f2;exact finT (by rw[eF f1 f2]) zA
         . rename_i f1 f2;exact rnd (q+1) ⟨zA,by omega,nxt (nx (.inr f2))⟩
       . have ji:Cel h4 n (61+1) 0 [str o.name,str o.d.cls,str o.d.fix,o.usv,I64 1,o.csv]:=by have:=hc3.tch ht4 qJ qL;unfold opC at this;rw [et]at this;exact this
         have eF:=fits_t (m:=m) (ns:=ns) (ps:=ps) (o:=o) a0 b0 qJ;have nx:∀f:rR ps a b=true\/(decide (b∈sP m ns o.d) && clrN ns ps o b)=false,Bad m ns ps o a b:=λf=>⟨λ_=>by rw[if_neg qJ];rcases f with f|f <;> rw[f] <;> simp,λh9=>by omega⟩;rw [if_neg qJ]at eF;repeat' first|refine wk ?_|refine cX (λ_=>?_) λ_=>?_|refine zS (uQ k4.tb qJ  a b) ?_|refine ob (a:=_) ?_ (iad_s1 qK)|refine zS (rmay0_pur (Tc.tch k4 zA qJ) qJ  hcb ho b) ?_|fail
         . rename_i f1;exact rnd (q+1) ⟨ht4,by omega,nxt (nx (.inl f1))⟩
         . rename_i f1 f2;exact finT (by rw[eF f1 f2]) zA
         . rename_i f1 f2;exact rnd (q+1) ⟨zA,by omega,nxt (nx (.inr f2))⟩
     . obtain rfl:q=B.length:=by omega
       repeat' first|refine wk ?_|apply cX <;> intro
       exact rnd (i+1) ⟨ht4,by omega,λj y hj e=>by
        rcases ai.1 hj with h9|rfl
        . exact eG j y h9 e
        . rw[a0]at e;cases e;exact λq b hb=>hno2 q b (ab.1 hb).1 hb⟩
   . obtain rfl:i=A.length:=by omega
     repeat' first|refine wk ?_|apply cX <;> intro
     exact finT (by rw[fits_f λj a ha=>eG j a (ab.1 ha).1 ha]) (Tch.tch ht4 ht qL)
end
end Go.Proofs.YtdiejolnllipnaaGreatDoor
