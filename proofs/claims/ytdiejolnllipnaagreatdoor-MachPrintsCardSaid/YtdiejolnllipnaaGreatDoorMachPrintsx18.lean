/- What the law leans on, part 18 of 24. Conditions: those that each theorem states. -/
import Derived.Test.YtdiejolnllipnaaGreatDoorMachPrintsx17
import Derived.Test.YtdiejolnllipnaaGreatDoorMachPrintsx12
import Derived.Test.YtdiejolnllipnaaGreatDoorMachPrintsx15
import Derived.Test.YtdiejolnllipnaaGreatDoorMachPrintsx9

set_option linter.unusedVariables false
set_option linter.unusedSimpArgs false
namespace Go.Proofs.YtdiejolnllipnaaGreatDoor
open Go Go.Ex Go.Ex.M
set_option maxRecDepth 100000
set_option maxHeartbeats 8000000
section
theorem ato_op{lo n len:Nat}{h:zB}{sv:Value}{vs:List Value}(r:Row lo h sv 61 6 len vs)(_hlt:len<4611686018427387904)(i:Int):Pur P 8 198 [sv,I64 i] h n (.bool (decide (0<=i) && decide (i<len))):=by
 refine ent λu=>?_;by_cases h0:0<=i
 . by_cases h1:i<len
   . repeat' first|refine wk ?_|apply cX <;> intro
     exact fin (by rw[decide_eq_true h0,decide_eq_true h1];rfl)
   . repeat' first|refine wk ?_|apply cX <;> intro
     exact fin (by rw[decide_eq_true h0,decide_eq_false h1];rfl)
 . repeat' first|refine wk ?_|apply cX <;> intro
   exact fin (by rw[decide_eq_false h0];rfl)
theorem ato_op_in{lo n len:Nat}{h:zB}{sv:Value}{vs:List Value}(r:Row lo h sv 61 6 len vs)(eD:len<4611686018427387904){i:Nat}(hi:i<len):Pur P 8 198 [sv,I64 (i:Nat)] h n (.bool true):=by
 have:=ato_op (n:=n) r eD ((i:Nat):Int)
 rwa [decide_eq_true (by omega:(0:Int)<=(i:Nat)),decide_eq_true (by omega:((i:Nat):Int)<(len:Nat))]at this
theorem ato_set{lo n len:Nat}{h:zB}{sv:Value}{vs:List Value}(r:Row lo h sv 105 1 len vs)(_hlt:len<4611686018427387904)(i:Int):Pur P 8 201 [sv,I64 i] h n (.bool (decide (0<=i) && decide (i<len))):=by
 refine ent λu=>?_;by_cases h0:0<=i
 . by_cases h1:i<len
   . repeat' first|refine wk ?_|apply cX <;> intro
     exact fin (by rw[decide_eq_true h0,decide_eq_true h1];rfl)
   . repeat' first|refine wk ?_|apply cX <;> intro
     exact fin (by rw[decide_eq_true h0,decide_eq_false h1];rfl)
 . repeat' first|refine wk ?_|apply cX <;> intro
   exact fin (by rw[decide_eq_false h0];rfl)
theorem ato_set_in{lo n len:Nat}{h:zB}{sv:Value}{vs:List Value}(r:Row lo h sv 105 1 len vs)(eD:len<4611686018427387904){i:Nat}(hi:i<len):Pur P 8 201 [sv,I64 (i:Nat)] h n (.bool true):=by
 have:=ato_set (n:=n) r eD ((i:Nat):Int)
 rwa [decide_eq_true (by omega:(0:Int)<=(i:Nat)),decide_eq_true (by omega:((i:Nat):Int)<(len:Nat))]at this
theorem ato_sets{lo n len:Nat}{h:zB}{sv:Value}{vs:List Value}(r:Row lo h sv 100 1 len vs)(_hlt:len<4611686018427387904)(i:Int):Pur P 8 200 [sv,I64 i] h n (.bool (decide (0<=i) && decide (i<len))):=by
 refine ent λu=>?_;by_cases h0:0<=i
 . by_cases h1:i<len
   . repeat' first|refine wk ?_|apply cX <;> intro
     exact fin (by rw[decide_eq_true h0,decide_eq_true h1];rfl)
   . repeat' first|refine wk ?_|apply cX <;> intro
     exact fin (by rw[decide_eq_true h0,decide_eq_false h1];rfl)
 . repeat' first|refine wk ?_|apply cX <;> intro
   exact fin (by rw[decide_eq_false h0];rfl)
theorem ato_sets_in{lo n len:Nat}{h:zB}{sv:Value}{vs:List Value}(r:Row lo h sv 100 1 len vs)(eD:len<4611686018427387904){i:Nat}(hi:i<len):Pur P 8 200 [sv,I64 (i:Nat)] h n (.bool true):=by
 have:=ato_sets (n:=n) r eD ((i:Nat):Int)
 rwa [decide_eq_true (by omega:(0:Int)<=(i:Nat)),decide_eq_true (by omega:((i:Nat):Int)<(len:Nat))]at this
theorem ato_pl{lo n len:Nat}{h:zB}{sv:Value}{vs:List Value}(r:Row lo h sv 158 3 len vs)(_hlt:len<4611686018427387904)(i:Int):Pur P 8 172 [sv,I64 i] h n (.bool (decide (0<=i) && decide (i<len))):=by
 refine ent λu=>?_;by_cases h0:0<=i
 . by_cases h1:i<len
   . repeat' first|refine wk ?_|apply cX <;> intro
     exact fin (by rw[decide_eq_true h0,decide_eq_true h1];rfl)
   . repeat' first|refine wk ?_|apply cX <;> intro
     exact fin (by rw[decide_eq_true h0,decide_eq_false h1];rfl)
 . repeat' first|refine wk ?_|apply cX <;> intro
   exact fin (by rw[decide_eq_false h0];rfl)
theorem ato_pl_in{lo n len:Nat}{h:zB}{sv:Value}{vs:List Value}(r:Row lo h sv 158 3 len vs)(eD:len<4611686018427387904){i:Nat}(hi:i<len):Pur P 8 172 [sv,I64 (i:Nat)] h n (.bool true):=by
 have:=ato_pl (n:=n) r eD ((i:Nat):Int)
 rwa [decide_eq_true (by omega:(0:Int)<=(i:Nat)),decide_eq_true (by omega:((i:Nat):Int)<(len:Nat))]at this
variable {lo n bt:Nat} {h:zB} {m:MachT} {ns:List Tx} {ps:List Pl} {v:TabV}
theorem onx{x:Tx}(hx:x∈oNs m):∃o,m.ops[(oNs m).idxOf x]? = some o/\o.name=x:=by
 have h2:(oNs m)[(oNs m).idxOf x]? = some x:=idx_at hx;generalize (oNs m).idxOf x=i at *
 unfold oNs at h2;rw [ao]at h2
 cases e:m.ops[i]? with
 | none=>rw [e]at h2;cases h2
 | some c=>rw [e]at h2;exact⟨c,rfl,by injection h2⟩
theorem top_in(k:TabM lo n h bt m ns ps v)(hon:(oNs m).Nodup){x:Tx}(hx:x∈oNs m):Pur P 8 168 [ptr bt 0,str x] h n (.tuple ⟨[I64 ((oNs m).idxOf x:Nat),.bool true]⟩):=by
 have hcel:=k.cel;have mo:=k.mo;obtain⟨A,B,e1,e2⟩:=uO (idx_at hx) hon;rw [e1]at mo;have lk:xG P h 99 (.map (some v.ob)) (str x) true=some (.tuple ⟨[I64 ((oNs m).idxOf x:Nat),.bool true]⟩):=lku_at (P:=P) (ty:=99) (ok:=true) mo e2;refine ent λu=>?_;repeat' first|refine wk ?_|apply cX <;> intro
 exact fin rfl
theorem top_no(k:TabM lo n h bt m ns ps v){x:Tx}(hx:x∉oNs m):Pur P 8 168 [ptr bt 0,str x] h n (.tuple ⟨[I64 0,.bool false]⟩):=by
 have hcel:=k.cel;have mo:=k.mo
 have lk:xG P h 99 (.map (some v.ob)) (str x) true=some (.tuple ⟨[I64 0,.bool false]⟩):=lku_no (P:=P) (ty:=99) mo λp hp e=>hx (by
  have:=numL_key hp
  rwa [e]at this)
 refine ent λu=>?_;repeat' first|refine wk ?_|apply cX <;> intro
 exact fin rfl
theorem tuses_pur(k:TabM lo n h bt m ns ps v)(gI:m.ops.length<=64){j:Nat}{o:OpT}(hj:m.ops[j]? = some o):Pur P 8 169 [ptr bt 0,I64 (j:Nat)] h n (I64 (o.uses.length:Nat)):=by
 have hcel:=k.cel;have r0:=k.cp.orr.row qK;obtain⟨o',e1,e2⟩:=k.cp.oe j o hj;have eD:=(ab.1 hj).1;have c3:=yT (zM r0 e1) (j:=3) rfl;have ru:=e2.ru.row qK;have low:=r0.low qJ;refine ent λu=>?_;repeat' first|refine wk ?_|refine cX (λ_=>?_) λ_=>?_|refine zS (ato_op_in r0 qJ qJ) ?_|fail
 exact fin rfl
theorem ttie_pur(k:TabM lo n h bt m ns ps v)(gI:m.ops.length<=64){j:Nat}{o:OpT}(hj:m.ops[j]? = some o):Pur P 8 174 [ptr bt 0,I64 (j:Nat)] h n (I64 o.tie):=by
 have hcel:=k.cel;have r0:=k.cp.orr.row qK;obtain⟨o',e1,e2⟩:=k.cp.oe j o hj;have eD:=(ab.1 hj).1;have c3:=yT (zM r0 e1) (j:=4) rfl;have ru:=e2.ru.row qK;have low:=r0.low qJ;refine ent λu=>?_;repeat' first|refine wk ?_|refine cX (λ_=>?_) λ_=>?_|refine zS (ato_op_in r0 qJ qJ) ?_|fail
 exact fin (by rw[e2.tie])
theorem tregs_pur(k:TabM lo n h bt m ns ps v):Pur P 8 114 [ptr bt 0] h n (I64 (ns.length:Nat)):=by
 have hcel:=k.cel;have r0:=k.on.row qK;refine ent λu=>?_;repeat' first|refine wk ?_|apply cX <;> intro
 exact fin rfl
theorem tslots_pur(k:TabM lo n h bt m ns ps v):Pur P 8 57 [ptr bt 0] h n (I64 m.slots):=by
 have hcel:=k.cel;have e:=k.cp.slots;refine ent λu=>?_;repeat' first|refine wk ?_|apply cX <;> intro
 exact fin (by rw[e])
theorem targs_ret(k:TabM lo n h bt m ns ps v)(hal:m.args.length<=200):Ret P 8 170 [ptr bt 0] h n λw h' n'=>OwnE n n' h' w vR 1 m.args.length ((ixs ns m.args).map I64)/\Tch [] h n h' n':=by
 have hcel:=k.cel;have al:(ixs ns m.args).length=m.args.length:=by unfold ixs;rw [aD]
 refine ent λu=>?_;repeat' first|refine wk ?_|apply cX <;> intro
 refine yG (clone_int (lo:=n) (Own.row k.av qK) (ad _) (λy hy=>by obtain⟨z,_,rfl⟩:=aB.1 hy;rfl) qJ) ?_
 rintro w h2 n2 ⟨ho,ht⟩
 have o2:=xF ho;rw [al]at ho;repeat' first|refine wk ?_|apply cX <;> intro
 exact⟨_,rfl,ho,ht⟩
theorem rs_cellN{P:Program}{l:List (Nat×Value)}{t:Fr}{h:zB}{i ty sz:Nat}[s:ShC P ty (.agg sz)]{r:List ResultVar}{p:Value}{vs ws:List Value}(e:lk l t i=p)(g:LdN h p sz ws)(f:Rs P l t h r vs):Rs P l t h (.cell i ty::r) (.agg ⟨ws⟩::vs):=by
 obtain⟨b,o,rfl,h0,g⟩:=g;exact⟨_,vs,rfl,by rw[e];exact load_agg s.ok g.row.1 h0 g.row.2,f⟩
abbrev zPl:Nat:=158+1
theorem tplace_ret(k:TabM lo n h bt m ns ps v)(fO:ps.length<=200){j:Nat}{p:Pl}(hj:ps[j]? = some p):Ret P 8 116 [ptr bt 0,I64 (j:Nat)] h n λw h' n'=>w=plV p/\Tch [] h n h' n':=by
 have hcel:=k.cel;obtain⟨_,ib⟩:=k.hb;have r0:=k.op.row qK;have eD:=(ab.1 hj).1;have c3:=zM r0 hj;have low:=r0.low qJ;refine ent λu=>?_;repeat' first|refine wk ?_|refine cX (λ_=>?_) λ_=>?_|refine zS (ato_pl_in (Own.row (k.tch zA).op qK) qJ qJ) ?_|fail
 have t1:Tch [] h n (hal h n (mkC [I64 0,I64 0,I64 0] zPl 0)) (n+1):=zA;refine ob (a:=plC p) ?_ (ldN_of qK  (zM (Own.row (k.tch t1).op qK) hj));repeat' first|refine wk ?_|apply cX <;> intro
 refine ob (a:=[plV p]) ?_ (rs_cellN (ws:=plC p) (by apply qB;((conv=>lhs;whnf) <;> exact rfl)) (ldN_of qK  (vF zJ (vF zJ (vF zJ rd_nil)))) rs_nil);repeat' first|refine wk ?_|apply cX <;> intro
 exact⟨_,rfl,rfl,zA⟩
theorem tmay_pur(k:TabM lo n h bt m ns ps v)(ok:MOK m ns ps)(gI:m.ops.length<=64){op q:Nat}{o:OpT}{x:OperT}(ho:m.ops[op]? = some o)(hx:(o.d::o.uses)[q]? = some x)(r:Int)(hr:r<9223372036854775808):Pur P 8 173 [ptr bt 0,I64 (op:Nat),I64 (q:Nat),I64 r] h n (.bool (mayB m ns ps o q x r)):=by
 have hcel:=k.cel;have gB:=k.mayl;obtain⟨_,sv,S,e1,e2,e3⟩:=k.ope op o ho;have eD:=(ab.1 ho).1;have hqlt:=(ab.1 hx).1;have jE:o.uses.length<=2:=(MOK.sml ok).opu o (ae ho);have r0:=k.may.1.row qK;have hS:=k.may.2 _ (ae e1);have r1:=hS.1.row qK;dsimp only at r1;have e4:S[q]? = some S[q]:=aa qJ;have hel:=hS.2 _ (aM (by omega:q<S.length));have e5:=e3 q x _ hx e4;generalize S[q]=p at e4 hel e5
 have y0:zD h (sbk v.mv) (sof v.mv+op*1)=some sv:=by rw[aQ];exact r0.at (by rw[ao,e1];rfl)
 have y1:zD h (sbk sv) (sof sv+q*1)=some p.1:=by rw[aQ];exact r1.at (by rw[ao,e4];rfl)
 have low0:=r0.low qJ;have low1:=r1.low qJ;have o1:=hel.2.one;have e6:(decide (0<=r) && vY p.2 r.toNat)=mayB m ns ps o q x r:=by rw[e5,may_eq k ok ho hx r]
 have fB:(o.d::o.uses).length<=3:=by simp;omega
 refine Com.pure (ent λu=>?_) (.inl rfl);repeat' first|refine wk ?_|refine cX (λ_=>?_) λ_=>?_|refine zS (ato_sets_in r0 qJ qJ) ?_|refine zS (ato_set_in r1 qJ qJ) ?_|refine zS (has_pur (hel.2.row qK) (ad _) hel.1 _ hr) ?_|fail
 exact finT (by rw[e6]) zA
end
section
abbrev wrC(b k e:Int):zK:=[⟨.iface 125 (.agg ⟨[I64 b,I64 k,I64 e]⟩),false,false⟩]
abbrev zMk:Nat:=129+1
abbrev mkC3(bt:Nat)(c:CodeT)(b k:Int):List Value:=ptr bt 0::(yQ c++[I64 b,I64 k])
variable {n bc:Nat} {h:zB} {bt:Nat} {c:CodeT} {b k:Int}
theorem mneed_com(hc:Cel h bc zMk 0 (mkC3 bt c b k))(hb:bc<n)(z:Bool)(e:Int):Com P 8 55 [ptr bc 0,.bool z,I64 e] h n λo h' n'=>o=(if z then .ret (.tuple #[]) else .panic (wrC b k e))/\h'=h/\n'=n:=by
 refine ent λu=>?_
 cases z with
 | true=>
  repeat' first|refine wk ?_|apply cX <;> intro
  exact⟨rfl,rfl,rfl⟩
 | false=>
  repeat' first|refine wk ?_|apply cX <;> intro
  exact⟨rfl,rfl,rfl⟩
instance ends_c (x:Int) (h:zB) (n:Nat):PurC P 8 167 [I64 x] h n (.bool (endB x)):=⟨by
 refine ent λu=>?_;by_cases h7:x=7
 . repeat' first|refine wk ?_|apply cX <;> intro
   exact fin (by unfold endB;rw [decide_eq_true h7];rfl)
 . by_cases h8:x=8
   . repeat' first|refine wk ?_|apply cX <;> intro
     exact fin (by unfold endB;rw [decide_eq_false h7,decide_eq_true h8];rfl)
   . repeat' first|refine wk ?_|apply cX <;> intro
     exact fin (by unfold endB;rw [decide_eq_false h7,decide_eq_false h8];simp)⟩
theorem ins1_pur{p:Nat}{lo:Nat}(hc:Cel h bc zMk 0 (mkC3 bt c b k))(hb:bc<n)(hp:zD h p 0=some (ptr bc 0))(jQ:p<n)(cm:CodeM lo h c)(x:Int):Pur P 8 115 [I64 x,ptr p 0] h n (.bool (inR x c.blocks.length)):=by
 have rb:=cm.bl 0;refine ent λu=>?_;by_cases h0:0<=x
 . repeat' first|refine wk ?_|apply cX <;> intro
   exact fin (by unfold inR;rw [decide_eq_true h0];rfl)
 . repeat' first|refine wk ?_|apply cX <;> intro
   exact fin (by unfold inR;rw [decide_eq_false h0];rfl)
theorem regsW_len(i:InsT):(yS i).length<=1:=by unfold yS;split <;> simp
theorem mregs_ret{lo:Nat}{i:InsT}(hi:InsM lo h i)(eE:lo<=n):Ret P 8 112 [.agg ⟨wZ i⟩] h n λv h' n'=>∃wv rv,v = .tuple ⟨[wv,rv]⟩/\Row n' h' wv vR 1 (yS i).length ((yS i).map I64)/\Row n' h' rv vR 1 (yO i).length ((yO i).map I64)/\Tch [] h n h' n':=by
 have o1:=(hi.ar 0).one;have ra:=hi.ar vR;refine ent λu=>?_;repeat' first|refine wk ?_|apply cX <;> intro
 all_goals (refine⟨_,rfl,_,_,rfl,?_,?_,zA⟩)
 . rw[show yS i=[i.d] by unfold yS;simp [*]];exact zF (e:=vR) rfl qK 
 . rw[show yO i=[] by unfold yO;simp [*]];exact .inl ⟨rfl,rfl,rfl⟩
 . rw[show yS i=[i.d] by unfold yS;simp [*]];exact zF (e:=vR) rfl qK 
 . rw[show yO i=[] by unfold yO;simp [*]];exact .inl ⟨rfl,rfl,rfl⟩
 . rw[show yS i=[i.d] by unfold yS;simp [*]];exact Row.up (Row.tch (h:=hal (hal h n (mkC (wZ i) (51+1) 0)) (n+1) (mkC [I64 i.d] 0 0)) (zF (e:=vR) rfl qK) (show Tch [] _ (n+1+1) _ (n+1+1+1) from zA) (ad _) λ_ _ hx=>by cases hx) qJ 
 . rw[show yO i=[i.a] by unfold yO;simp [*]];exact zF (e:=vR) rfl qK 
 . rw[show yS i=[i.d] by unfold yS;simp [*]];exact Row.up (Row.tch (h:=hal (hal h n (mkC (wZ i) (51+1) 0)) (n+1) (mkC [I64 i.d] 0 0)) (zF (e:=vR) rfl qK) (show Tch [] _ (n+1+1) _ (n+1+1+1) from zA) (ad _) λ_ _ hx=>by cases hx) qJ 
 . rw[show yO i=[i.a] by unfold yO;simp [*]];exact zF (e:=vR) rfl qK 
 . rw[show yS i=[i.d] by unfold yS;simp [*]];exact zF (e:=vR) rfl qK 
 . rw[show yO i=i.args by unfold yO;simp [*]];exact Row.up (Row.tch ra (show Tch [] h n _ (n+1+1) from zA) eE λ_ _ hx=>by cases hx) qJ 
 . rw[show yS i=[] by unfold yS;simp [*]];exact .inl ⟨rfl,rfl,rfl⟩
 . rw[show yO i=[i.a,i.b] by unfold yO;simp [*]];exact zF (e:=vR) rfl qK 
 . rw[show yS i=[] by unfold yS;simp [*]];exact .inl ⟨rfl,rfl,rfl⟩
 . rw[show yO i=[i.a] by unfold yO;simp [*]];exact zF (e:=vR) rfl qK 
 . rw[show yS i=[] by unfold yS;simp [*]];exact .inl ⟨rfl,rfl,rfl⟩
 . rw[show yO i=[i.a] by unfold yO;simp [*]];exact zF (e:=vR) rfl qK 
 . rw[show yS i=[] by unfold yS;simp [*]];exact .inl ⟨rfl,rfl,rfl⟩
 . rw[show yO i=[] by unfold yO;simp [*]];exact .inl ⟨rfl,rfl,rfl⟩
end
section
variable {n:Nat} {h:zB}
theorem grow_ret(k:Nat)(hk:k<100000):Ret P 8 171 [.slice none 0 0,I64 (k:Nat)] h n λv h' n'=>Tch [] h n h' n'/\((k=0/\v = .slice none 0 0)\/(0<k/\WayR n n' h' v vR 1 0 []/\∀b c,v = .slice b 0 c->c=inf)):=by
 refine ent λu=>?_;by_cases h0:0<k
 . repeat' first|refine wk ?_|refine cX (λ_=>?_) λ_=>?_|refine ob (a:=some (I64 0)) ?_ cap_nil|refine ob (a:=.slice none 0 0) ?_ slice_nil0|fail
   rw[show((k:Nat):Int) - (0 - ((0:Nat):Int))=(k:Nat) by omega];refine appZ (e:=vR) qN  h0 hk ?_;have w0:WayR n (n+1) (hal h n (mkC (rep [I64 0] k) (zc vR 1) 1)) (.slice (some ⟨n,0,none⟩) k inf) vR 1 k (rep [I64 0] k):=wayZ (ad _);obtain⟨v',e1,w,bl⟩:=way_cut (P:=P) (ty:=49) (k:=0) w0 (an _) (ad _)
   have eM:∀b c,v' = .slice b 0 c->c=inf:=λb c e=>by
    subst e;obtain⟨b',m,z,kd,cap,q1,q2,q3,q4,q5,q6,q7,q8⟩:=w;injection q3 with q3 _ q9
    subst q3 q9;have bl:some b'=some n:=bl;injection bl with bl
    subst bl;rw [zO,if_pos rfl]at q4;have q4:=(vK _ _ _).symm.trans q4;rcases q8 with⟨rfl,_⟩|⟨_,q8,_⟩
    . exact absurd (kd_of q4) qK 
    . exact q8
   have o1:v'.oneCell'=true:=by
    obtain⟨b',m,z,kd,cap,q1,q2,rfl,_⟩:=w;rfl
   repeat' first|refine wk ?_|refine cX (λ_=>?_) λ_=>?_|refine ob (a:=v') ?_ e1|fail
   exact⟨_,rfl,zA,.inr ⟨h0,by simpa using w,eM⟩⟩
 . obtain rfl:k=0:=by omega
   repeat' first|refine wk ?_|refine cX (λ_=>?_) λ_=>?_|refine ob (a:=some (I64 0)) ?_ cap_nil|fail
   exact⟨_,rfl,zA,.inl ⟨rfl,rfl⟩⟩
end
section
variable {n:Nat} {h:zB}
def sI(a b:Int):Nat->Int|0=>0|1=>0+a|_=>0+a+b
def tkI(A B:List Int):Nat->List Int|0=>[]|1=>A|_=>A++B
def AccC(n0 n:Nat)(h:zB)(k:Nat)(acc:Value)(L:List Int):Prop:=(k=0/\acc = .slice none 0 0)\/(0<k/\WayR n0 n h acc vR 1 L.length (L.map I64)/\(L.length=0->∀b c,acc = .slice b 0 c->c=inf))
theorem AccC.row{n0 n:Nat}{h:zB}{k:Nat}{acc:Value}{L:List Int}(a:AccC n0 n h k acc L)(hk:L.length<=k):Row n h acc vR 1 L.length (L.map I64):=by
 rcases a with⟨rfl,rfl⟩|⟨_,w,_⟩
 . obtain rfl:L=[]:=aP.1 qJ;exact .inl ⟨rfl,rfl,rfl⟩
 . exact w.row qK 
theorem acc_app{n0 n:Nat}{h:zB}{k:Nat}{acc x:Value}{L M:List Int}{cx:Cx}{d:List Deferred}{u:Option zK}{K:W->Value->Prop}(a:AccC n0 n h k acc L)(hn:n0<=n)(hr:Row n h x vR 1 M.length (M.map I64))(hL:(L++M).length<=k)(hk:k<100000)
(q:∀v' h' n',AccC n0 n' h' k v' (L++M)->(∀b,b<n0->zG h' b=zG h b)->n<=n'->K ⟨d,u,h',n'⟩ v'):BuB P cx .append [49,49] [acc,x] d u h n K:=by
 rcases a with⟨rfl,rfl⟩|⟨h0,w,hc⟩
 . have e:L++M=[]:=aP.1 qJ;obtain⟨rfl,rfl⟩:=List.append_eq_nil_iff.1 e;exact app_nil0 hr (q _ _ _ (.inl ⟨rfl,rfl⟩) (λ_ _=>rfl) (ad _))
 . by_cases hm:M=[]
   . subst hm;refine way_app0 w hr (by rw[ah]at hL;omega) hc (q _ _ _ (.inr ⟨h0,?_,?_⟩) (λ_ _=>rfl) (ad _))
     . rw[bS];exact w
     . rw[bS];exact hc
   . have fG:0<M.length:=List.length_pos_iff.2 hm;rw [ah]at hL;refine uX w (λy hy=>by obtain⟨z,_,rfl⟩:=aB.1 hy;rfl) hn hr fG (λy hy=>by obtain⟨z,_,rfl⟩:=aB.1 hy;rfl) qJ  ?_;intro v' h' n' w' _ t;refine q _ _ _ (.inr ⟨h0,?_,λe=>?_⟩) (λb hb=>?_) t.le
     . rw[ah,aC];exact w'
     . rw[ah]at e;omega
     . refine t.2 b qJ  λfg=>?_;rw [dh]at fg;have:=(w.blk fg).1;omega
theorem concat2_ret{lo:Nat}{sv wv rv:Value}{A B:List Int}(eE:lo<=n)(rs:Row lo h sv yX 1 2 [wv,rv])(ra:Row lo h wv vR 1 A.length (A.map I64))(rb:Row lo h rv vR 1 B.length (B.map I64))(hA:A.length<1000)(hB:B.length<1000) :
 Ret P 8 113 [sv] h n λv h' n'=>Row n' h' v vR 1 (A++B).length ((A++B).map I64)/\Tch [] h n h' n':=by
 have c0:zD h (sbk sv) (sof sv+0*1)=some wv:=rs.at (i:=0) rfl;have c1:zD h (sbk sv) (sof sv+1*1)=some rv:=rs.at (i:=1) rfl;have low:=rs.low qJ;have low1:sbk sv<n:=by omega
 have o1:=ra.one;have o2:=rb.one;refine ent λu=>?_;repeat' first|refine wk ?_|apply cX <;> intro
 refine lpR (λi:Nat=>[(0,sv),(3,I64 (sI A.length B.length i)),(9,sv),(10,I64 (2:Nat)),(11,I64 i)]) (λi h' n'=>h'=h/\n'=n/\i<=2) (λi=>2 - i) 0 ⟨rfl,rfl,an _⟩ ?_
 rintro i t h' n' ⟨e1,e2,hi⟩
 subst e1 e2;obtain rfl|rfl|rfl:i=0\/i=1\/i=2:=by omega
 . rw[show sI A.length B.length 0=0 from rfl];repeat' first|refine wk ?_|apply cX <;> intro
   exact rnd 1 ⟨rfl,rfl,by omega⟩
 . rw[show sI A.length B.length 1=0+(A.length:Nat) from rfl];repeat' first|refine wk ?_|apply cX <;> intro
   exact rnd 2 ⟨rfl,rfl,by omega⟩
 . rw[show sI A.length B.length 2=((A.length+B.length:Nat):Int) from by show(0:Int)+_+_=_;omega];repeat' first|refine wk ?_|apply cX <;> intro
   refine yG (grow_ret _ qJ) ?_
   rintro v2 h2 n2 ⟨t2,g⟩
   have hn2:=t2.le
   have o3:v2.oneCell'=true:=by
    rcases g with⟨_,rfl⟩|⟨_,w,_⟩
    . rfl
    . exact(w.row qK).one
   have a2:AccC n' n2 h2 (A.length+B.length) v2 []:=by
    rcases g with⟨g1,g2⟩|⟨g1,w,g2⟩
    . exact .inl ⟨g1,g2⟩
    . exact .inr ⟨g1,w,λ_=>g2⟩
   repeat' first|refine wk ?_|apply cX <;> intro
   refine lpR (α :=Nat×Value) (λp=>[(6,p.2),(25,sv),(26,I64 (2:Nat)),(27,I64 p.1)]) (λp h3 n3=>Tch [] h' n' h3 n3/\p.1<=2/\AccC n' n3 h3 (A.length+B.length) p.2 (tkI A B p.1)) (λp=>2 - p.1) (0,v2) ⟨t2,an _,a2⟩ ?_
   rintro ⟨i,acc⟩ t3 h3 n3 ⟨ht3,hi3,a3⟩
   dsimp only at hi3 a3 ⊢;have eS:=ht3.le;have rs3:=rs.tch ht3 eE λ_ _ hx=>by cases hx
   have ra3:=(ra.tch ht3 eE λ_ _ hx=>by cases hx).up (aW eE eS);have rb3:=(rb.tch ht3 eE λ_ _ hx=>by cases hx).up (aW eE eS);have d0:zD h3 (sbk sv) (sof sv+0*1)=some wv:=rs3.at (i:=0) rfl;have d1:zD h3 (sbk sv) (sof sv+1*1)=some rv:=rs3.at (i:=1) rfl;have lk:(A++B).length<=A.length+B.length:=by rw[ah];omega
   obtain rfl|rfl|rfl:i=0\/i=1\/i=2:=by omega
   . have o4:=(a3.row (an _)).one;repeat' first|refine wk ?_|apply cX <;> intro
     refine acc_app a3 eS ra3 (by show A.length<=_;omega) qJ  ?_;intro v4 h4 n4 a4 k4 fi;have o5:=(a4.row (by show A.length<=_;omega)).one;have t4:Tch [] h' n' h4 n4:=⟨by omega,λb hb hx=>(k4 b hb).trans (ht3.2 b hb hx)⟩;repeat' first|refine wk ?_|apply cX <;> intro
     exact rnd (1,v4) ⟨t4,by omega,a4⟩
   . have o4:=(a3.row (by show A.length<=_;omega)).one;repeat' first|refine wk ?_|apply cX <;> intro
     refine acc_app a3 eS rb3 lk qJ  ?_;intro v4 h4 n4 a4 k4 fi;have o5:=(a4.row lk).one;have t4:Tch [] h' n' h4 n4:=⟨by omega,λb hb hx=>(k4 b hb).trans (ht3.2 b hb hx)⟩;repeat' first|refine wk ?_|apply cX <;> intro
     exact rnd (2,v4) ⟨t4,by omega,a4⟩
   . have r4:=a3.row lk;have o4:=r4.one;repeat' first|refine wk ?_|apply cX <;> intro
     exact⟨_,rfl,r4,ht3⟩
end
section
variable {n bc:Nat} {h:zB} {bt:Nat} {c:CodeT} {b k:Int}
theorem mchk1_none{p q r:Nat}:Def P 8 54 [ptr p 0,ptr q 0,ptr r 0] none h n λu' h' n'=>u'=none/\Tch [] h n h' n':=by
 refine entD ?_;repeat' first|refine wk ?_|apply cX <;> intro
 exact⟨_,rfl,rfl,zA⟩
theorem vP{p q r zp zq zr:Nat}{x y z:Int}(hp:p<n)(hq:q<n)(hr:r<n)(hpq:p≠q)(hpr:p≠r)(hqr:q≠r)(cp:Cel h p zp 0 [I64 x])(cq:Cel h q zq 0 [I64 y])(cr:Cel h r zr 0 [I64 z])(e:Int) :
 Def P 8 54 [ptr p 0,ptr q 0,ptr r 0] (some (wrC b k e)) h n λu' h' n'=>u'=some [⟨.iface 125 (.agg ⟨[I64 b,I64 k,I64 e]⟩),true,false⟩]/\Tch [p,q,r] h n h' n'/\Cel h' p zp 0 [I64 b]/\Cel h' q zq 0 [I64 k]/\Cel h' r zr 0 [I64 e]:=by
 refine entD ?_;repeat' first|refine wk ?_|apply cX <;> intro
 exact⟨_,rfl,rfl,zA,zC,zC,zC⟩
theorem needC{G:Prop}{z:Bool}{e:Int}{K:Out->zB->Nat->Prop}[s:IsCall G P 8 55 [ptr bc 0,.bool z,I64 e] h n K](hc:Cel h bc zMk 0 (mkC3 bt c b k))(hb:bc<n)(k1:Ch z (K (.ret (.tuple #[])) h n) (K (.panic (wrC b k e)) h n)):G:=cal (mneed_com hc hb z e) λo h' n' ⟨e1,e2,e3⟩=>by
 subst e1 e2 e3;cases z
 . exact k1.2 rfl
 . exact k1.1 rfl
theorem mop_K{lo:Nat}{m:MachT}{ns:List Tx}{ps:List Pl}{v:TabV}(kt:TabM lo n h bt m ns ps v)(hon:(oNs m).Nodup){x:Tx}{G:Prop}{K:Out->zB->Nat->Prop}[s:IsCall G P 8 168 [ptr bt 0,str x] h n K]
(k1:∀j o,m.ops[j]? = some o->opAt m x=some o->K (.ret (.tuple ⟨[I64 (j:Nat),.bool true]⟩)) h n)(k2:opAt m x=none->K (.ret (.tuple ⟨[I64 0,.bool false]⟩)) h n):G:=by
 by_cases hx:x∈oNs m
 . obtain⟨o,h1,h2⟩:=onx hx;refine zS (top_in kt hon hx) (k1 _ o h1 ?_);unfold opAt
   have h3:∃y,m.ops.find? (λo=>decide (o.name=x))=some y:=by
    cases e:m.ops.find? (λo=>decide (o.name=x)) with
    | some y=>exact⟨y,rfl⟩
    | none=>exact absurd (cS.1 e o (ae h1)) (by simp[h2])
   obtain⟨y,hy⟩:=h3;have hy1:y.name=x:=by simpa using List.find?_some hy
   have hy2:=bO hy;obtain⟨i,hi,rfl⟩:=List.getElem_of_mem hy2;have a1:(oNs m)[i]? = some x:=by unfold oNs;rw [ao,aa hi];simp [hy1]
   have a2:(oNs m)[(oNs m).idxOf x]? = some x:=idx_at hx;have fQ:=(ab.1 a1).1;have:i=(oNs m).idxOf x:=(List.getElem?_inj fQ hon).1 (a1.trans a2.symm);rw [hy,aa hi |>.symm,this,h1]
 . refine zS (top_no kt hx) (k2 ?_);unfold opAt;rw [cS];intro o ho;have:o.name≠x:=λe=>hx (by unfold oNs;rw [<- e];exact List.mem_map_of_mem ho);simpa using this
theorem mkind_com{lo lq:Nat}{m:MachT}{ns:List Tx}{ps:List Pl}{v:TabV}(kt:TabM lq n h bt m ns ps v)(ok:MOK m ns ps)(hon:(oNs m).Nodup)(hc:Cel h bc zMk 0 (mkC3 bt c b k))(hb:bc<n){i:InsT}(hi:InsM lo h i)(eE:lo<=n)(last:Bool):Com P 8 111 [ptr bc 0,.agg ⟨wZ i⟩,.bool last] h n λo h' n'=>o=(if vH m i last then .ret (.tuple #[]) else .panic (wrC b k 22))/\Tch [] h n h' n':=by
 have o1:=(hi.ar 0).one;have sm:=MOK.sml ok;have t1:Tch [] h n (hal h n (mkC (wZ i) (51+1) 0)) (n+1):=zA;have iu:=kt.tch t1;have yes:∀{h':zB} {n':Nat},Tch [] h n h' n'->vH m i last=true->(Out.ret (.tuple ⟨[]⟩)=(if vH m i last then Out.ret (.tuple #[]) else Out.panic (wrC b k 22))/\Tch [] h n h' n'):=λt e=>⟨by rw[if_pos e],t⟩;have noo:∀{h':zB} {n':Nat},Tch [] h n h' n'->vH m i last=false->(Out.panic (wrC b k 22)=(if vH m i last then Out.ret (.tuple #[]) else Out.panic (wrC b k 22))/\Tch [] h n h' n'):=λt e=>⟨by rw[if_neg (by rw[e];exact aU)],t⟩;have al:=sm.args;have ra:=hi.ar vR;refine ent λu=>?_;repeat' first|refine wk ?_|refine cX (λ_=>?_) λ_=>?_|refine needC zE qJ  ?_|refine mop_K iu hon (λj o hj ho=>?_) (λho=>?_)|refine zS (tuses_pur iu sm.ops qP) ?_|(refine yG (targs_ret iu sm.args) ?_;rintro w h2 n2 ⟨ho,ht⟩;have hn2:=ht.le;have o2:=(OwnE.row ho qK))|fail
 all_goals (try have hN:i.args.length=o.uses.length:=by omega)
 all_goals (try have hN:¬i.args.length=o.uses.length:=by omega)
 all_goals first
  | refine yes zA ?_;unfold vH;rw [‹(endB i.kind == last)=true›];simp [*];done
  | refine noo zA ?_;unfold vH;rw [‹(endB i.kind == last)=true›];simp [*];done
  | refine noo zA ?_;unfold vH;rw [‹(endB i.kind == last)=false›];simp;done
  | refine noo zA ?_;unfold vH;simp [*];done
end
section
theorem oY{z:Bool}{b k e:Int}{A:Prop}(a:A)(hz:z=true):(Out.ret (.tuple ⟨[]⟩)=(if z then .ret (.tuple #[]) else .panic (wrC b k e)))/\A:=⟨by rw[if_pos hz],a⟩
theorem oN{z:Bool}{b k e:Int}{A:Prop}(a:A)(hz:z=false):(Out.panic (wrC b k e)=(if z then .ret (.tuple #[]) else .panic (wrC b k e)))/\A:=⟨by rw[if_neg (by rw[hz];exact aU)],a⟩
theorem mayB_succ{m:MachT}{ns:List Tx}{ps:List Pl}{o:OpT}{j:Nat}{x:OperT}{r:Int}:mayB m ns ps o (j+1) x r=mayB m ns ps o 1 x r:=by
 unfold mayB;rw [decide_eq_true (by omega:j+1≠0),decide_eq_true (by omega:(1:Nat)≠0)]
theorem zip_all{α β : Type}{p: α×β->Bool}:∀{A:List α} {B:List β},A.length=B.length->(∀(j:Nat) a b,A[j]? = some a->B[j]? = some b->p (a,b)=true)->(A.zip B).all p=true
 | [],[],_,_=>rfl
 | a::A,b::B,hl,h=>by
  rw[List.zip_cons_cons,dM,h 0 a b rfl rfl,zip_all (by simpa using hl) λj x y hx hy=>h (j+1) x y hx hy];rfl
 | [],_::_,hl,_=>by cases hl
 | _::_,[],hl,_=>by cases hl
theorem zip_no{α β : Type}{p: α×β->Bool}{A:List α}{B:List β}{j:Nat}{a: α}{b: β}(ha:A[j]? = some a)(hb:B[j]? = some b)(h:p (a,b)=false):(A.zip B).all p=false:=by
 cases e:(A.zip B).all p with
 | false=>rfl
 | true=>
  have:=aH.1 e (a,b) (aj.2 ⟨j,by rw[List.getElem?_zip_eq_some];exact⟨ha,hb⟩⟩);rw [h]at this;cases this
variable {n bc:Nat} {h:zB} {bt:Nat} {c:CodeT} {b k:Int}
theorem moperands_com{lo lq:Nat}{m:MachT}{ns:List Tx}{ps:List Pl}{v:TabV}(kt:TabM lq n h bt m ns ps v)(ok:MOK m ns ps)(hon:(oNs m).Nodup)(hc:Cel h bc zMk 0 (mkC3 bt c b k))(hb:bc<n){i:InsT}(hi:InsM lo h i)(eE:lo<=n){o:OpT}(ho:opAt m i.name=some o)(eN:i.args.length=o.uses.length):Com P 8 117 [ptr bc 0,.agg ⟨wZ i⟩] h n λout h' n'=>out=(if opsB m ns ps i o then .ret (.tuple #[]) else .panic (wrC b k 23))/\Tch [] h n h' n':=by
 have o1:=(hi.ar 0).one;have sm:=MOK.sml ok;have t1:Tch [] h n (hal h n (mkC (wZ i) (51+1) 0)) (n+1):=zA;have iu:=kt.tch t1;have ra:=hi.ar vR;have hoM:o∈m.ops:=bO ho;have jE:=sm.opu o hoM;have hg:=hi.g.1;have mB:=(MOK.oo ok o hoM).1;have ra1:Row lo (hal h n (mkC (wZ i) (51+1) 0)) i.av vR 1 i.args.length (i.args.map I64):=(hi.ar vR).tch t1 eE λ_ _ hx=>by cases hx
 refine ent λu=>?_;repeat' first|refine wk ?_|refine cX (λ_=>?_) λ_=>?_|refine mop_K iu hon (λj o' hj gm=>?_) (λgm=>?_)|fail
 . rw[ho]at gm;obtain rfl:=Option.some.inj gm;repeat' first|refine wk ?_|refine cX (λ_=>?_) λ_=>?_|refine needC zE qJ  ?_|refine zS (tmay_pur iu ok sm.ops hj (q:=0) (x:=o.d) rfl i.d hg.2) ?_|fail
   . rename_i hd;refine lpR (λq:Nat=>[(0,ptr bc 0),(3,ptr n 0),(4,I64 j),(30,i.av),(31,I64 i.args.length),(32,I64 q)]) (λq h' n'=>h'=hal h n (mkC (wZ i) (51+1) 0)/\n'=n+1/\q<=i.args.length/\∀(j':Nat) a x,j'<q->i.args[j']? = some a->o.uses[j']? = some x->mayB m ns ps o 1 x a=true) (λq=>i.args.length - q) 0 ⟨rfl,rfl,an _,λ_ _ _ fy=>by omega⟩ ?_
     rintro q t h' n' ⟨e1,e2,hq,eH⟩
     subst e1 e2;by_cases eD:q<i.args.length
     . have d0:i.args[q]? = some i.args[q]:=aa eD;have d1:o.uses[q]? = some o.uses[q]:=aa qJ;generalize i.args[q]=a at d0
       generalize o.uses[q]=x at d1
       have c1:zD (hal h n (mkC (wZ i) (51+1) 0)) (sbk i.av) (sof i.av+q*1)=some (I64 a):=by rw[aQ];exact ra1.at (by rw[ao,d0];rfl)
       have ga:=hi.ag a (ae d0);have hm:=tmay_pur (n:=n+1) iu ok sm.ops hj (q:=q+1) (x:=x) (by rw[bW];exact d1) a ga.2;rw [mayB_succ]at hm;repeat' first|refine wk ?_|refine cX (λ_=>?_) λ_=>?_|refine needC zE qJ  ?_|refine zS hm ?_|fail
       . rename_i g1
         exact rnd (q+1) ⟨rfl,rfl,by omega,λj' a' x' fy f1 f2=>by
          rcases ai.1 fy with h9|rfl
          . exact eH j' a' x' h9 f1 f2
          . rw[d0]at f1;rw [d1]at f2;cases f1;cases f2;exact g1⟩
       . rename_i g1;exact oN zA (by unfold opsB;rw [zip_no d0 d1 g1];simp)
     . obtain rfl:q=i.args.length:=by omega
       have zz:((i.args.zip o.uses).all λp=>mayB m ns ps o 1 p.2 p.1)=true:=zip_all eN λj' a x f1 f2=>eH j' a x (ab.1 f1).1 f1 f2;have tl:=mB.2.2.2.1;have th:=mB.2.2.2.2.1;by_cases h0:o.tie<0
       . repeat' first|refine wk ?_|refine cX (λ_=>?_) λ_=>?_|refine needC zE qJ  ?_|refine zS (ttie_pur iu sm.ops hj) ?_|fail
         exact oY zA (by unfold opsB;rw [hd,zz,decide_eq_true h0];rfl)
       . have kX:o.tie.toNat<i.args.length:=by omega
         have d0:i.args[o.tie.toNat]? = some i.args[o.tie.toNat]:=aa kX;generalize i.args[o.tie.toNat]=a at d0
         have c1:zD (hal h n (mkC (wZ i) (51+1) 0)) (sbk i.av) (sof i.av+o.tie.toNat*1)=some (I64 a):=by rw[aQ];exact ra1.at (by rw[ao,d0];rfl)
         repeat' first|refine wk ?_|refine cX (λ_=>?_) λ_=>?_|refine needC zE qJ  ?_|refine zS (ttie_pur iu sm.ops hj) ?_|fail
         . rename_i g1;exact oY zA (by unfold opsB;rw [hd,zz,d0,g1,decide_eq_true (rfl:some a=some a)];simp)
         . rename_i g1;exact oN zA (by unfold opsB;rw [hd,zz,d0,decide_eq_false h0,decide_eq_false (λe=>g1 (Option.some.inj e).symm)];rfl)
   . exact oN zA (by unfold opsB;simp [*])
 . rw[ho]at gm;cases gm
end
section
variable {n bc:Nat} {h:zB} {bt:Nat} {c:CodeT} {b k:Int}
theorem tch_row{lo:Nat}{h':zB}{n':Nat}{v:Value}{e sz len:Nat}{vs:List Value}(r:Row lo h v e sz len vs)(t:Tch [] h n h' n')(hl:lo<=n):Row lo h' v e sz len vs:=r.tch t hl λ_ _ hx=>by cases hx
theorem regsR_len{m:MachT}{i:InsT}{last:Bool}(hk:vH m i last=true)(hu:∀o∈m.ops,o.uses.length<=2):(yO i).length<=2:=by
 unfold yO;split
 . simp
 . split
   . rename_i h3;unfold vH at hk;rw [if_pos h3]at hk
     cases e:opAt m i.name with
     | none=>rw [e]at hk;simp at hk
     | some o=>
      rw[e]at hk;have h4:i.args.length=o.uses.length:=by simp at hk;exact hk.2
      rw[h4];exact hu o (bO e)
   . split <;> simp
theorem kind3{m:MachT}{i:InsT}{last:Bool}(hk:vH m i last=true)(h3:i.kind=3):∃o,opAt m i.name=some o/\i.args.length=o.uses.length:=by
 unfold vH at hk;rw [if_pos h3]at hk
 cases e:opAt m i.name with
 | none=>rw [e]at hk;simp at hk
 | some o=>
  rw[e]at hk;exact⟨o,rfl,by simp at hk;exact hk.2⟩
theorem tplaceI{lo:Nat}{m:MachT}{ns:List Tx}{ps:List Pl}{v:TabV}(kt:TabM lo n h bt m ns ps v)(fO:ps.length<=200){r:Int}(h0:0<=r){p:Pl}(hj:ps[r.toNat]? = some p):Ret P 8 116 [ptr bt 0,I64 r] h n λw h' n'=>w=plV p/\Tch [] h n h' n':=by
 have:=tplace_ret kt fO hj
 rwa [Int.toNat_of_nonneg h0]at this
theorem fld_pl(p:Pl):aField P 158 (plV p) 2=some (I64 p.width):=by
 show aField P 158 (.agg ⟨[I64 p.root,I64 p.at_,I64 p.width]⟩) 2=_;kernel_rfl
theorem mY{x b k:Int}{A:Prop}(a:A)(hx:x=0):(Out.ret (.tuple ⟨[]⟩)=(if x=0 then .ret (.tuple #[]) else .panic (wrC b k x)))/\A:=⟨by rw[if_pos hx],a⟩
theorem mN{x e b k:Int}{A:Prop}(a:A)(hx:x=e)(he:e≠0):(Out.panic (wrC b k e)=(if x=0 then .ret (.tuple #[]) else .panic (wrC b k x)))/\A:=⟨by subst hx;rw [if_neg he],a⟩
theorem mins_com{lo lq:Nat}{m:MachT}{ns:List Tx}{ps:List Pl}{v:TabV}(kt:TabM lq n h bt m ns ps v)(ok:MOK m ns ps)(hon:(oNs m).Nodup)(hc:Cel h bc zMk 0 (mkC3 bt c b k))(hb:bc<n)(cm:CodeM lo h c){i:InsT}(hi:InsM lo h i)(eE:lo<=n)(last:Bool) :
 Com P 8 58 [ptr bc 0,.agg ⟨wZ i⟩,.bool last] h n λo h' n'=>(o=if uC m ns ps c.slots c.blocks.length i last=0 then .ret (.tuple #[]) else .panic (wrC b k (uC m ns ps c.slots c.blocks.length i last)))/\Tch [] h n h' n':=by
 have o1:=(hi.ar 0).one;have sm:=MOK.sml ok;have gok:=geo_ok ok.geo;have t1:Tch [] h n (hal (hal h n (mkC [ptr bc 0] (127+1) 0)) (n+1) (mkC (wZ i) (51+1) 0)) (n+1+1):=zA;have iu:=kt.tch t1;have hi1:=hi.tch t1 eE;have iB:=hc.tch t1 hb qL;refine ent λu=>?_;repeat' first|refine wk ?_|apply cX <;> intro
 refine cal (mkind_com iu ok hon iB qJ  hi1 qJ  last) ?_
 rintro _ h2 n2 ⟨rfl,t2⟩
 have hn2:=t2.le;have cB:Cel h2 n (127+1) 0 [ptr bc 0]:=by clear t1;exact zC
 have cI:Cel h2 (n+1) (51+1) 0 (wZ i):=by clear t1;exact zC
 have gu:Tch [] h n h2 n2:=zA;have kt2:=kt.tch gu;have fh:=hi.tch gu eE;have hc2:=hc.tch gu hb qL;clear t2 t1 iu hi1 iB
 cases hk:vH m i last with
 | false=>
  rw[if_neg aU];repeat' first|refine wk ?_|apply cX <;> intro
  exact mN zA (by unfold uC;rw [if_pos hk]) qK 
 | true=>
  rw[if_pos rfl];repeat' first|refine wk ?_|apply cX <;> intro
  refine yG (mregs_ret fh qJ) ?_
  rintro _ h3 n3 ⟨wv,rv,rfl,rw3,rr3,t3⟩
  have eS:=t3.le;obtain⟨pw,cw,rfl⟩:=rw3.sl;obtain⟨pr,cr,rfl⟩:=rr3.sl;have gh:=regsW_len i;have lB:=regsR_len hk sm.opu;repeat' first|refine wk ?_|apply cX <;> intro
  have t4:Tch [] h3 n3 (hal h3 n3 (mkC [.slice pw (yS i).length cw,.slice pr (yO i).length cr] 0 0)) (n3+1):=zA;refine yG (concat2_ret (lo:=n3+1) (A:=yS i) (B:=yO i) (ad _) (zF (e:=yX) rfl qK) ((tch_row rw3 t4 (ad _)).up qJ) ((tch_row rr3 t4 (ad _)).up qJ) qJ qJ) ?_
  rintro sv h5 n5 ⟨rs,t5⟩
  have fA:=t5.le;have os:=rs.one;have t25:Tch [] h2 n2 h5 n5:=zA;have t05:Tch [] h n h5 n5:=zA;have cB5:Cel h5 n (127+1) 0 [ptr bc 0]:=cB.tch t25 qJ qL;have cI5:Cel h5 (n+1) (51+1) 0 (wZ i):=cI.tch t25 qJ qL;have kt5:=kt.tch t05;have hi5:=hi.tch t05 eE;have hc5:=hc.tch t05 hb qL;have cm5:=cm.tch t05 eE;clear t5 t25 t4 t3 gu cB cI kt2 fh hc2 rw3 rr3;generalize hL:yS i++yO i=L at rs
  have iy:L.length<=3:=by rw[<- hL,ah];omega
  repeat' first|refine wk ?_|apply cX <;> intro
  refine lpR (λq:Nat=>[(3,ptr n 0),(4,ptr (n+1) 0),(23,sv),(24,I64 L.length),(25,I64 q)]) (λq h' n'=>h'=h5/\n'=n5/\q<=L.length/\∀(j:Nat) r,j<q->L[j]? = some r->inR r ns.length=true) (λq=>L.length - q) 0 ⟨rfl,rfl,an _,λ_ _ fy=>by omega⟩ ?_
  rintro q t h' n' ⟨e1,e2,hq,eH⟩
  subst e1 e2;by_cases eD:q<L.length
  . have d0:L[q]? = some L[q]:=aa eD;generalize L[q]=r at d0
    have c1:zD h' (sbk sv) (sof sv+q*1)=some (I64 r):=by rw[aQ];exact rs.at (by rw[ao,d0];rfl)
    have bad:inR r ns.length=false->uC m ns ps c.slots c.blocks.length i last=23:=λhr=>by
     unfold uC;rw [if_neg (by rw[hk];exact Bool.false_ne_true.symm),hL,if_pos]
     cases e:(L.all λr=>inR r ns.length) with
     | false=>rfl
     | true=>rw [aH.1 e r (ae d0)]at hr;cases hr
    repeat' first|refine wk ?_|refine cX (λ_=>?_) λ_=>?_|refine needC zE qJ  ?_|refine zS (tregs_pur kt5) ?_|fail
    . rename_i g1 g2
      exact rnd (q+1) ⟨rfl,rfl,by omega,λj r' fy f1=>by
       rcases ai.1 fy with h9|rfl
       . exact eH j r' h9 f1
       . rw[d0]at f1;cases f1;unfold inR;rw [decide_eq_true g1,decide_eq_true g2];rfl⟩
    . rename_i g1 g2;exact mN zA (bad (by unfold inR;rw [decide_eq_false g2,dk])) qK 
    . rename_i g1;exact mN zA (bad (by unfold inR;rw [decide_eq_false g1,dp])) qK 
  . obtain rfl:q=L.length:=by omega
    have good:(L.all λr=>inR r ns.length)=true:=aH.2 λr hr=>by
     obtain⟨j,hj⟩:=aj.1 hr;exact eH j r (ab.1 hj).1 hj
    have E:uC m ns ps c.slots c.blocks.length i last=if i.kind=2 then(if widthA ps i.d=widthA ps i.a then 0 else 23)
     else if i.kind=3 then(match opAt m i.name with|some o=>if opsB m ns ps i o then 0 else 23|none=>23)
     else if i.kind=10\/i.kind=11 then(if 0<=i.n/\i.n<c.slots then 0 else 24)
     else if i.kind=7 then(if inR i.t c.blocks.length && inR i.f c.blocks.length then 0 else 20)
     else if i.kind=8 then(if inR i.t c.blocks.length then 0 else 20) else 0:=by
     unfold uC;rw [if_neg (by rw[hk];exact Bool.noConfusion),hL,if_neg (by rw[good];exact Bool.noConfusion)];try rfl
    by_cases h2:i.kind=2
    . have w2:∀r,r∈L->0<=r/\∃p,ps[r.toNat]? = some p/\widthA ps r=p.width:=λr hr=>by
       have mD:=aH.1 good r hr;unfold inR at mD;obtain⟨g1,g2⟩:=ak.1 mD;have g1:=of_decide_eq_true g1;have g2:=of_decide_eq_true g2;have lp:ps.length=ns.length:=gok.len;have g3:ps[r.toNat]? = some (ps[r.toNat]' qJ):=aa _;exact⟨g1,_,g3,by unfold widthA;rw [g3]⟩
      obtain⟨a0,p,a1,a2⟩:=w2 i.d (by rw[<- hL];exact aA.2 (.inl (by unfold yS;rw [if_pos qJ];exact aq.2 rfl)));obtain⟨b0,p',b1,b2⟩:=w2 i.a (by rw[<- hL];exact aA.2 (.inr (by unfold yO;rw [if_pos qJ];exact aq.2 rfl)));have lp:ps.length<=200:=by have h8:ps.length=ns.length:=gok.len;have h9:ns.length<=200:=gok.le;omega
      repeat' first|refine wk ?_|apply cX <;> intro
      refine yG (tplaceI kt5 lp a0 a1) ?_
      rintro _ h6 n6 ⟨rfl,t6⟩
      have fV:=t6.le;have cI6:Cel h6 (n+1) (51+1) 0 (wZ i):=cI5.tch t6 qJ qL;have cB6:Cel h6 n (127+1) 0 [ptr bc 0]:=cB5.tch t6 qJ qL;have hc6:=hc5.tch t6 qJ qL;have kt6:=kt5.tch t6;have jW:Tch [] h n h6 n6:=zA;repeat' first|refine wk ?_|refine cX (λ_=>?_) λ_=>?_|refine ob (a:=I64 p.width) ?_ (fld_pl p)|fail
      refine yG (tplaceI kt6 lp b0 b1) ?_
      rintro _ h7 n7 ⟨rfl,t7⟩
      have ir:=t7.le;have cI7:Cel h7 (n+1) (51+1) 0 (wZ i):=cI6.tch t7 qJ qL;have cB7:Cel h7 n (127+1) 0 [ptr bc 0]:=cB6.tch t7 qJ qL;have hc7:=hc6.tch t7 qJ qL;have jX:Tch [] h n h7 n7:=zA;repeat' first|refine wk ?_|apply cX <;> intro
      refine ob (a:=I64 p'.width) ?_ (fld_pl p');repeat' first|refine wk ?_|refine cX (λ_=>?_) λ_=>?_|refine needC zE qJ  ?_|fail
      . rename_i g1;exact mY jX (by rw[E,if_pos h2,a2,b2,if_pos g1])
      . rename_i g1;exact mN jX (by rw[E,if_pos h2,a2,b2,if_neg g1]) qK 
    by_cases h3:i.kind=3
    . obtain⟨o,ho,eN⟩:=kind3 hk h3;repeat' first|refine wk ?_|apply cX <;> intro
      refine cal (moperands_com kt5 ok hon hc5 qJ  hi5 qJ  ho eN) ?_
      rintro _ h6 n6 ⟨rfl,t6⟩
      have fV:=t6.le
      cases e:opsB m ns ps i o with
      | true=>
       rw[if_pos rfl];repeat' first|refine wk ?_|apply cX <;> intro
       exact mY zA (by rw[E,if_neg h2,if_pos h3,ho];show(if opsB m ns ps i o then(0:Int) else 23)=0;rw [e];rfl)
      | false=>
       rw[if_neg aU];repeat' first|refine wk ?_|apply cX <;> intro
       exact mN zA (by rw[E,if_neg h2,if_pos h3,ho];show(if opsB m ns ps i o then(0:Int) else 23)=23;rw [e];rfl) qK 
    have cat5:zD h' n 0=some (ptr bc 0):=cB5.cell rfl;rw [if_neg h2,if_neg h3]at E;clear eH rs;repeat' first|refine wk ?_|refine cX (λ_=>?_) λ_=>?_|refine needC zE qJ  ?_|refine zS (ins1_pur hc5 qJ  cat5 qJ  cm5 _) ?_|fail
    all_goals first
     | exact mY zA (by rw[E];simp [*];done)
     | exact mN zA (by rw[E];simp [*];done) qK 
end
section
attribute [local simp] zY
variable {n:Nat} {h:zB} {bt:Nat} {c:CodeT}
theorem mcheck_nil{lo:Nat}(cm:CodeM lo h c):Ret P 8 19 [.pointer none,.agg ⟨yQ c⟩] h n λw h' n'=>w = .tuple ⟨[I64 0,I64 0,I64 1]⟩/\Tch [] h n h' n':=by
 have o1:=(cm.bl 0).one;refine ent λu=>?_;repeat' first|refine wk ?_|apply cX <;> intro
 exact⟨_,rfl,rfl,zA⟩
theorem mins_K{n0 lo lq bc:Nat}{h0:zB}{m:MachT}{ns:List Tx}{ps:List Pl}{v:TabV}{b k:Int}{i:InsT}{last:Bool}{G:Prop}{K:Out->zB->Nat->Prop}[s:IsCall G P 8 58 [ptr bc 0,.agg ⟨wZ i⟩,.bool last] h n K]
(kt:TabM lq n0 h0 bt m ns ps v)(ok:MOK m ns ps)(hon:(oNs m).Nodup)(cm:CodeM lo h0 c)(hi:InsM lo h0 i)(eE:lo<=n0)(t:Tch [] h0 n0 h n)(hc:Cel h bc zMk 0 (mkC3 bt c b k))(hb:bc<n)
(k1:uC m ns ps c.slots c.blocks.length i last=0->∀h' n',Tch [] h n h' n'->K (.ret (.tuple #[])) h' n')(k2:uC m ns ps c.slots c.blocks.length i last≠0->∀h' n',Tch [] h n h' n'->K (.panic (wrC b k (uC m ns ps c.slots c.blocks.length i last))) h' n'):G:=by
 have hn:=t.le;refine cal (mins_com (kt.tch t) ok hon hc hb (cm.tch t eE) (hi.tch t eE) qJ  last) ?_
 rintro _ h' n' ⟨rfl,t'⟩
 by_cases e:uC m ns ps c.slots c.blocks.length i last=0
 . rw[if_pos e];exact k1 e h' n' t'
 . rw[if_neg e];exact k2 e h' n' t'
noncomputable abbrev hpC(h:zB)(n bt:Nat)(c:CodeT):zB:=hal (hal (hal (hal (hal h n (mkC (yQ c) (30+1) 0)) (n+1) (mkC [I64 0] (3+1) 0)) (n+1+1) (mkC [I64 0] (3+1) 0)) (n+1+1+1) (mkC [I64 0] (40+1) 0)) (n+1+1+1+1) (mkC (mkC3 bt c 0 0) zMk 0)
theorem mcheck_ret{lo lq:Nat}{m:MachT}{ns:List Tx}{ps:List Pl}{v:TabV}(kt:TabM lq n h bt m ns ps v)(ok:MOK m ns ps)(hon:(oNs m).Nodup)(cm:CodeM lo h c)(eE:lo<=n) :
 Ret P 8 19 [ptr bt 0,.agg ⟨yQ c⟩] h n λw h' n'=>∃b k e,w = .tuple ⟨[I64 b,I64 k,I64 e]⟩/\CodeE m ns ps c b k e/\Tch [] h n h' n':=by
 have o1:=(cm.bl 0).one;have ib:=kt.hb.2;have rb0:=cm.bl 0;have t0:Tch [] h n (hpC h n bt c) (n+1+1+1+1+1):=zA;have kt0:=kt.tch t0;have cM0:Cel (hpC h n bt c) (n+1+1+1+1) zMk 0 (mkC3 bt c 0 0):=zE;have cA0:Cel (hpC h n bt c) (n+1) (3+1) 0 [I64 0]:=zE;have cB0:Cel (hpC h n bt c) (n+1+1) (3+1) 0 [I64 0]:=zE;have cC0:Cel (hpC h n bt c) (n+1+1+1) (40+1) 0 [I64 0]:=zE;have cK0:Cel (hpC h n bt c) n (30+1) 0 (yQ c):=zE;refine ent λu=>?_;by_cases h200:c.blocks.length<=200
 rotate_left
 . repeat' first|refine wk ?_|refine cX (λ_=>?_) λ_=>?_|refine needC cM0 qJ  ?_|fail
   refine rN (g:=54) (args:=[]) (cap:=[ptr (n+1) 0,ptr (n+2) 0,ptr (n+3) 0]) (vP (b:=0) (k:=0) qJ qJ qJ qJ qJ qJ  zE zE zE 2) ?_
   rintro h9 n9 ⟨t9,c91,c92,c93⟩
   have gD:Tch [] h n h9 n9:=Tch.tch t9 zA λx hx=>.inl (by simp at hx;omega);clear t9;repeat' first|refine wk ?_|apply cX <;> intro
   exact⟨_,rfl,0,0,2,rfl,.inl ⟨by omega,rfl,rfl,rfl⟩,gD⟩
 cases eO:xL c.name with
 | false=>
  repeat' first|refine wk ?_|refine cX (λ_=>?_) λ_=>?_|refine needC cM0 qJ  ?_|fail
  refine rN (g:=54) (args:=[]) (cap:=[ptr (n+1) 0,ptr (n+2) 0,ptr (n+3) 0]) (vP (b:=0) (k:=0) qJ qJ qJ qJ qJ qJ  zE zE zE 5) ?_
  rintro h9 n9 ⟨t9,c91,c92,c93⟩
  have gD:Tch [] h n h9 n9:=Tch.tch t9 zA λx hx=>.inl (by simp at hx;omega);clear t9;repeat' first|refine wk ?_|apply cX <;> intro
  exact⟨_,rfl,0,0,5,rfl,.inr ⟨h200,.inl ⟨eO,rfl,rfl,rfl⟩⟩,gD⟩
 | true=>
 by_cases fB:0<=c.slots/\c.slots<=m.slots
 rotate_left
 . repeat' first|refine wk ?_|refine cX (λ_=>?_) λ_=>?_|refine needC cM0 qJ  ?_|refine zS (tslots_pur kt0) ?_|fail
   refine rN (g:=54) (args:=[]) (cap:=[ptr (n+1) 0,ptr (n+2) 0,ptr (n+3) 0]) (vP (b:=0) (k:=0) qJ qJ qJ qJ qJ qJ  zE zE zE 24) ?_
   rintro h9 n9 ⟨t9,c91,c92,c93⟩
   have gD:Tch [] h n h9 n9:=Tch.tch t9 zA λx hx=>.inl (by simp at hx;omega);clear t9;repeat' first|refine wk ?_|apply cX <;> intro
   exact⟨_,rfl,0,0,24,rfl,.inr ⟨h200,.inr ⟨eO,.inl ⟨fB,rfl,rfl,rfl⟩⟩⟩,gD⟩;refine rN (g:=54) (args:=[]) (cap:=[ptr (n+1) 0,ptr (n+2) 0,ptr (n+3) 0]) (vP (b:=0) (k:=0) qJ qJ qJ qJ qJ qJ  zE zE zE 24) ?_
   rintro h9 n9 ⟨t9,c91,c92,c93⟩
   have gD:Tch [] h n h9 n9:=Tch.tch t9 zA λx hx=>.inl (by simp at hx;omega);clear t9;repeat' first|refine wk ?_|apply cX <;> intro
   exact⟨_,rfl,0,0,24,rfl,.inr ⟨h200,.inr ⟨eO,.inl ⟨fB,rfl,rfl,rfl⟩⟩⟩,gD⟩
 obtain⟨hs0,jk⟩:=fB;by_cases ff:0<c.blocks.length
 rotate_left
 . repeat' first|refine wk ?_|refine cX (λ_=>?_) λ_=>?_|refine needC cM0 qJ  ?_|refine zS (tslots_pur kt0) ?_|fail
   refine rN (g:=54) (args:=[]) (cap:=[ptr (n+1) 0,ptr (n+2) 0,ptr (n+3) 0]) (vP (b:=0) (k:=0) qJ qJ qJ qJ qJ qJ  zE zE zE 20) ?_
   rintro h9 n9 ⟨t9,c91,c92,c93⟩
   have gD:Tch [] h n h9 n9:=Tch.tch t9 zA λx hx=>.inl (by simp at hx;omega);clear t9;repeat' first|refine wk ?_|apply cX <;> intro
   exact⟨_,rfl,0,0,20,rfl,.inr ⟨h200,.inr ⟨eO,.inr ⟨⟨hs0,jk⟩,.inl ⟨by omega,rfl,rfl,rfl⟩⟩⟩⟩,gD⟩
 repeat' first|refine wk ?_|refine cX (λ_=>?_) λ_=>?_|refine needC cM0 qJ  ?_|refine zS (tslots_pur kt0) ?_|fail
 refine lpR (λi:Nat=>[(0,ptr bt 0),(3,ptr n 0),(4,ptr (n+1) 0),(5,ptr (n+1+1) 0),(6,ptr (n+1+1+1) 0),(7,ptr (n+1+1+1+1) 0),(49,c.bv),(50,I64 c.blocks.length),(51,I64 i)])
  (λi h' n'=>Tch [] h n h' n'/\n+4<n'/\(∃b k,Cel h' (n+1+1+1+1) zMk 0 (mkC3 bt c b k))/\Cel h' (n+1) (3+1) 0 [I64 0]/\Cel h' (n+1+1) (3+1) 0 [I64 0]/\Cel h' (n+1+1+1) (40+1) 0 [I64 0]/\i<=c.blocks.length/\∀(j:Nat) x,j<i->c.blocks[j]? = some x->BlkOK m ns ps c x.2) (λi=>c.blocks.length - i) 0
  ⟨t0,by omega,⟨_,_,cM0⟩,cA0,cB0,cC0,an _,λ_ _ hj=>by omega⟩ ?_
 clear t0 kt0 cM0 cA0 cB0 cC0 cK0
 rintro i t h2 n2 ⟨t2,hn2,⟨b,k,cM⟩,cA,cB,cC,hi,eH⟩
 have cm2:=cm.tch t2 eE;have rb2:=cm2.bl 0;by_cases eD:i<c.blocks.length
 . have d0:c.blocks[i]? = some c.blocks[i]:=aa eD;generalize c.blocks[i]=x at d0
   have hx:=ae d0;obtain⟨rxI,jc⟩:=cm2.el x hx;have iK:=cm.ins x hx;obtain⟨xv,xl⟩:=x;dsimp only at rxI jc iK;have rx:=rxI 0;have ox:=rx.one;have d1:zD h2 (sbk c.bv) (sof c.bv+i*1)=some xv:=by rw[aQ];exact rb2.at (by rw[ao,d0];rfl)
   have R:∀{b k e:Int},(b=(i:Nat)/\((¬(1<=xl.length/\xl.length<=25600)/\k=0/\e=20)\/((1<=xl.length/\xl.length<=25600)/\∃(q:Nat) (i:InsT),xl[q]? = some i/\
    (∀(q':Nat) i',q'<q->xl[q']? = some i'->uC m ns ps c.slots c.blocks.length i' (decide (q'=xl.length - 1))=0)/\k=(q:Nat)/\e=uC m ns ps c.slots c.blocks.length i (decide (q=xl.length - 1))/\e≠0)))->CodeE m ns ps c b k e:=λhz=>.inr ⟨h200,.inr ⟨eO,.inr ⟨⟨hs0,jk⟩,.inr ⟨ff,.inr ⟨i,(xv,xl),d0,eH,hz.1,hz.2⟩⟩⟩⟩⟩
   by_cases hln:1<=xl.length/\xl.length<=25600
   rotate_left
   . repeat' first|refine wk ?_|refine cX (λ_=>?_) λ_=>?_|refine needC (bt:=bt) (c:=c) (b:=(i:Nat)) (k:=0) zC qJ  ?_|fail
     refine rN (g:=54) (args:=[]) (cap:=[ptr (n+1) 0,ptr (n+2) 0,ptr (n+3) 0]) (vP (b:=(i:Nat)) (k:=0) qJ qJ qJ qJ qJ qJ  zE zE zE 20) ?_
     rintro h9 n9 ⟨t9,c91,c92,c93⟩
     have gD:Tch [] h n h9 n9:=Tch.tch t9 zA λx hx=>.inl (by simp at hx;omega);clear t9;repeat' first|refine wk ?_|apply cX <;> intro
     exact⟨_,rfl,(i:Nat),0,20,rfl,R ⟨rfl,.inl ⟨hln,rfl,rfl⟩⟩,gD⟩;refine rN (g:=54) (args:=[]) (cap:=[ptr (n+1) 0,ptr (n+2) 0,ptr (n+3) 0]) (vP (b:=(i:Nat)) (k:=0) qJ qJ qJ qJ qJ qJ  zE zE zE 20) ?_
     rintro h9 n9 ⟨t9,c91,c92,c93⟩
     have gD:Tch [] h n h9 n9:=Tch.tch t9 zA λx hx=>.inl (by simp at hx;omega);clear t9;repeat' first|refine wk ?_|apply cX <;> intro
     exact⟨_,rfl,(i:Nat),0,20,rfl,R ⟨rfl,.inl ⟨hln,rfl,rfl⟩⟩,gD⟩
   . obtain⟨gW,fF⟩:=hln;repeat' first|refine wk ?_|refine cX (λ_=>?_) λ_=>?_|refine needC (bt:=bt) (c:=c) (b:=(i:Nat)) (k:=0) zC qJ  ?_|fail
     refine lpR (λq:Nat=>[(0,ptr bt 0),(3,ptr n 0),(4,ptr (n+1) 0),(5,ptr (n+1+1) 0),(6,ptr (n+1+1+1) 0),(7,ptr (n+1+1+1+1) 0),(49,c.bv),(50,I64 c.blocks.length),(51,I64 i),(8,I64 i),(9,xv),(73,xv),(74,I64 xl.length),(75,I64 q)])
      (λq h' n'=>Tch [] h n h' n'/\n+4<n'/\(∃k,Cel h' (n+1+1+1+1) zMk 0 (mkC3 bt c (i:Nat) k))/\Cel h' (n+1) (3+1) 0 [I64 0]/\Cel h' (n+1+1) (3+1) 0 [I64 0]/\Cel h' (n+1+1+1) (40+1) 0 [I64 0]/\q<=xl.length/\∀(q':Nat) y,q'<q->xl[q']? = some y->uC m ns ps c.slots c.blocks.length y (decide (q'=xl.length - 1))=0) (λq=>xl.length - q) 0
      ⟨zA,by omega,⟨_,zC⟩,zC,zC,zC,an _,λ_ _ hj=>by omega⟩ ?_
     clear cM cA cB cC
     rintro q t h3 n3 ⟨t3,eS,⟨k3,cM⟩,cA,cB,cC,hq,hall2⟩
     have mX:=(cm.tch t3 eE).el (xv,xl) hx |>.1 0;dsimp only at mX;by_cases eK:q<xl.length
     . have f0:xl[q]? = some xl[q]:=aa eK;generalize xl[q]=y at f0
       have c3:=zM mX f0;have hy:=iK y (ae f0);have oy:=(hy.ar 0).one;have el:decide ((q:Int)=(xl.length:Int) - 1)=decide (q=xl.length - 1):=decide_eq_decide.2 qJ;repeat' first|refine wk ?_|apply cX <;> intro
       refine mins_K (b:=(i:Nat)) (k:=(q:Nat)) kt ok hon cm hy eE zA zC qJ  (λe h4 n4 t4=>?_) (λe h4 n4 t4=>?_)
       . have fi:=t4.le;have cM4:Cel h4 (n+1+1+1+1) zMk 0 (mkC3 bt c (i:Nat) (q:Nat)):=zC;have cA4:Cel h4 (n+1) (3+1) 0 [I64 0]:=zC;have cB4:Cel h4 (n+1+1) (3+1) 0 [I64 0]:=zC;have cC4:Cel h4 (n+1+1+1) (40+1) 0 [I64 0]:=zC;have fY:Tch [] h n h4 n4:=zA;rw [el]at e;clear t4;repeat' first|refine wk ?_|apply cX <;> intro
         exact rnd (q+1) ⟨fY,by omega,⟨_,cM4⟩,cA4,cB4,cC4,by omega,λq' y' kP f1=>by
          rcases ai.1 kP with h9|rfl
          . exact hall2 q' y' h9 f1
          . rw[f0]at f1;cases f1;exact e⟩
       . have fi:=t4.le;have cM4:Cel h4 (n+1+1+1+1) zMk 0 (mkC3 bt c (i:Nat) (q:Nat)):=zC;have cA4:Cel h4 (n+1) (3+1) 0 [I64 0]:=zC;have cB4:Cel h4 (n+1+1) (3+1) 0 [I64 0]:=zC;have cC4:Cel h4 (n+1+1+1) (40+1) 0 [I64 0]:=zC;have fY:Tch [] h n h4 n4:=zA;rw [el]at e ⊢;clear t4;repeat' first|refine wk ?_|apply cX <;> intro
         refine rN (g:=54) (args:=[]) (cap:=[ptr (n+1) 0,ptr (n+2) 0,ptr (n+3) 0]) (vP (b:=(i:Nat)) (k:=(q:Nat)) qJ qJ qJ qJ qJ qJ  zE zE zE (uC m ns ps c.slots c.blocks.length y (decide (q=xl.length - 1)))) ?_
         rintro h9 n9 ⟨t9,c91,c92,c93⟩
         have gD:Tch [] h n h9 n9:=Tch.tch t9 zA λx hx=>.inl (by simp at hx;omega);clear t9;repeat' first|refine wk ?_|apply cX <;> intro
         exact⟨_,rfl,(i:Nat),(q:Nat),(uC m ns ps c.slots c.blocks.length y (decide (q=xl.length - 1))),rfl,R ⟨rfl,.inr ⟨⟨gW,fF⟩,q,y,f0,hall2,rfl,rfl,e⟩⟩,gD⟩
     . obtain rfl:q=xl.length:=by omega
       repeat' first|refine wk ?_|apply cX <;> intro
       exact rnd (i+1) ⟨t3,eS,⟨_,_,cM⟩,cA,cB,cC,by omega,λj x' hj f1=>by
        rcases ai.1 hj with h9|rfl
        . exact eH j x' h9 f1
        . rw[d0]at f1;cases f1;exact⟨⟨gW,fF⟩,λq y f2=>hall2 q y (ab.1 f2).1 f2⟩⟩
 . obtain rfl:i=c.blocks.length:=by omega
   repeat' first|refine wk ?_|apply cX <;> intro
   refine lv_none (g:=54) (args:=[]) (cap:=[ptr (n+1) 0,ptr (n+2) 0,ptr (n+3) 0]) mchk1_none ?_
   rintro h9 n9 t9
   have cA9:Cel h9 (n+1) (3+1) 0 [I64 0]:=zC;have cB9:Cel h9 (n+1+1) (3+1) 0 [I64 0]:=zC;have cC9:Cel h9 (n+1+1+1) (40+1) 0 [I64 0]:=zC;have gD:Tch [] h n h9 n9:=zA;clear t9;repeat' first|refine wk ?_|apply cX <;> intro
   exact⟨_,rfl,0,0,0,rfl,.inr ⟨h200,.inr ⟨eO,.inr ⟨⟨hs0,jk⟩,.inr ⟨ff,.inl ⟨λj x f1=>eH j x (ab.1 f1).1 f1,rfl,rfl,rfl⟩⟩⟩⟩⟩,gD⟩
end
section
attribute [local simp] zY
variable {n:Nat} {h:zB}
theorem dig_cut{q:Nat}(hq:q<10):xS P h 9 (str [48,49,50,51,52,53,54,55,56,57]) (some (I64 (q:Nat))) (some (I64 ((q:Nat)+1))) none=some (str [UInt8.ofNat (48+q)]):=by
 have:q=0\/q=1\/q=2\/q=3\/q=4\/q=5\/q=6\/q=7\/q=8\/q=9:=by omega
 rcases this with rfl|rfl|rfl|rfl|rfl|rfl|rfl|rfl|rfl|rfl <;> (show _=_;kernel_rfl)
theorem bs_add{P:Program}{ty:Nat}{ox oy:Operand}{a b:List UInt8}(h:a.length+b.length<1000000):Bn P .add ty ox oy (str a) (str b) (str (a++b)):=by
 show cond (Nat.blt (Nat.add a.length b.length) 1000000) (some (str (a++b))) none=_;rw [xV (show Nat.add a.length b.length<1000000 from h)];rfl
theorem bn_quo10{P:Program}{ty:Nat}{ox oy:Operand}{a:Nat}(h:(a:Int)<9223372036854775808):Bn P .quo ty ox oy (I64 (a:Nat)) (I64 10) (I64 ((a / 10:Nat):Int)):=by
 unfold Bn;rw [binI];show cond (ieqB 10 0) none (some (Value.int .i64 (vS .i64 (Int.tdiv (a:Nat) 10))))=_;rw [wQ];show some (Value.int .i64 (vS .i64 (Int.tdiv (a:Nat) 10)))=_
 have e:Int.tdiv ((a:Nat):Int) 10=((a / 10:Nat):Int):=by
  rw[show(10:Int)=((10:Nat):Int) from rfl,Int.ofNat_tdiv]
 rw[e,wrap_in ⟨by omega,by omega⟩]
theorem bn_rem10{P:Program}{ty:Nat}{ox oy:Operand}{a:Nat}:Bn P .rem ty ox oy (I64 (a:Nat)) (I64 10) (I64 ((a % 10:Nat):Int)):=by
 unfold Bn;rw [binI];show cond (ieqB 10 0) none (some (Value.int .i64 (Int.tmod (a:Nat) 10)))=_;rw [wQ];show some (Value.int .i64 (Int.tmod (a:Nat) 10))=_
 have e:Int.tmod ((a:Nat):Int) 10=((a % 10:Nat):Int):=by
  rw[show(10:Int)=((10:Nat):Int) from rfl,Int.ofNat_tmod]
 rw[e]
abbrev eReg:Nat:=114
abbrev sl0(b len:Nat):Value:=.slice (some ⟨b,0,none⟩) len len
theorem cel_row{b z kd len sz e:Nat}{cs:List Value}(c:Cel h b z kd cs)(hb:b<n)(hl:cs.length=len*sz)(eD:len<inf):Row n h (sl0 b len) e sz len cs:=
 .inr ⟨b,0,len,cs.length,z,kd,hb,rfl,hl,c.1,by omega,λj x hj=>by rw[aK];exact(c.2 j).trans hj,.inl ⟨eD,ad _⟩⟩
abbrev smV(rv cv:Value)(b:Nat):SmV:=⟨rv,sl0 b 1,cv,sl0 (b+1+1+1+1+1) 3,sl0 (b+1+1) 2,sl0 (b+1+1+1) 1,sl0 (b+1+1+1+1) 2,sl0 (b+1+1+1+1+1+1) 1⟩
structure SmF (lo n:Nat) (h:zB) (rv cv:Value) (N b:Nat) (tie:Int) (fx:Tx):Prop where
 hb:lo<=b/\b+7<=n
 hN:N<=40
 rr:Own lo n h rv eReg 4 N ((smR N).flatMap regC)
 cr:Own lo n h cv qI 1 N ((smN N).map str)
 k0:Cel h b 0 0 [str [103],cv]
 k2:Cel h (b+1+1) 0 0 [str [103],str [],str [103],str []]
 k3:Cel h (b+1+1+1) 0 0 [str [103],str []]
 k4:Cel h (b+1+1+1+1) 0 0 [str [103],str [],str [103],str fx]
 k5:Cel h (b+1+1+1+1+1) 0 0 ((smM (smV rv cv b) N tie fx).ops.flatMap opC)
 k6:Cel h (b+1+1+1+1+1+1) 0 0 [str (nam 0)]
theorem SmF.mach{lo N b:Nat}{rv cv:Value}{tie:Int}{fx:Tx}(k:SmF lo n h rv cv N b tie fx):MachM n h (smM (smV rv cv b) N tie fx):=by
 obtain⟨eE,ib⟩:=k.hb;have hN:=k.hN;have eM:1000<inf:=by decide
 have l1:(smR N).length=N:=by unfold smR;rw [aD,dz]
 have l2:(smN N).length=N:=smN_len;refine⟨?_,λe=>cel_row k.k0 qJ  rfl qK,λc hc=>?_,λe=>cel_row k.k5 qJ  rfl qK,λo ho e=>?_,λo ho e=>?_,λe=>cel_row k.k6 qJ  rfl qK,λe=>.inl ⟨rfl,rfl,rfl⟩,by show uT 100;exact⟨by decide,by decide⟩⟩
 . unfold RegsM;refine⟨⟨by rw[l1];omega,by rw[l1];exact k.rr.row qK⟩,λr hr=>?_⟩;obtain⟨i,_,rfl⟩:=aB.1 hr;show RegsM n h nilV [];unfold RegsM;exact⟨⟨by decide,.inl ⟨rfl,rfl,rfl⟩⟩,λ_ h=>by cases h⟩
 . obtain rfl:=aq.1 hc;exact⟨by show(smN N).length<inf;omega,by show Row n h cv qI 1 (smN N).length ((smN N).map str);rw [l2];exact k.cr.row qK⟩
 . simp only[au,bf,or_false]at ho;rcases ho with rfl|rfl|rfl
   . exact cel_row k.k2 qJ  rfl qK 
   . exact cel_row k.k3 qJ  rfl qK 
   . exact cel_row k.k4 qJ  rfl qK 
 . simp only[au,bf,or_false]at ho;rcases ho with rfl|rfl|rfl <;> exact .inl ⟨rfl,rfl,rfl⟩
theorem small_ret{N:Nat}(hN:N<=40):Ret P 8 14 [I64 (N:Nat)] h n λw h' n'=>∃rv cv b,w = .agg ⟨yR (smM (smV rv cv b) N (-1) [])⟩/\SmF n n' h' rv cv N b (-1) []/\Tch [] h n h' n':=by
 refine ent λu=>?_;repeat' first|refine wk ?_|apply cX <;> intro
 refine lpR (α :=Nat×Value×Value) (λp=>[(0,I64 (N:Nat)),(2,ptr n 0),(3,ptr (n+1) 0),(4,ptr (n+1+1) 0),(5,I64 p.1)])
  (λp h' n'=>Tch [] h n h' n'/\n+2<n'/\p.1<=N/\Cel h' (n+1) (27+1) 0 [str [109],p.2.1,nilV,nilV,nilV,str [],nilV,I64 100]/\Cel h' (n+1+1) (56+1) 0 [str [103],p.2.2]
   /\Own (n+1+1+1) n' h' p.2.1 eReg 4 p.1 ((smR p.1).flatMap regC)/\Own (n+1+1+1) n' h' p.2.2 qI 1 p.1 ((smN p.1).map str)/\Cel h' n (27+1) 0 [str [],nilV,nilV,nilV,nilV,str [],nilV,I64 0]) (λp=>N - p.1) (0,nilV,nilV) ?_ ?_
 . exact⟨zA,by omega,an _,zC,zC,.inl ⟨rfl,rfl,rfl⟩,.inl ⟨rfl,rfl,rfl⟩,zC⟩
 rintro ⟨i,rv,cv⟩ t h2 n2 ⟨t2,hn2,hi,cM,cC,oR,oC,cZ⟩
 dsimp only at hi cM cC oR oC ⊢;by_cases eD:i<N
 . have q1:((i:Nat):Int) / 10=((i / 10:Nat):Int):=by omega
   have q2:((i:Nat):Int) % 10=((i % 10:Nat):Int):=by omega
   have x1:i / 10<10:=by omega
   have x2:i % 10<10:=by omega
   repeat' first|refine wk ?_|apply cX <;> intro
   refine ob ?_ (bn_quo10 qJ);repeat' first|refine wk ?_|apply cX <;> intro
   refine ob ?_ (bn_quo10 qJ);repeat' first|refine wk ?_|apply cX <;> intro
   refine ob (a:=str [UInt8.ofNat (48+i / 10)]) ?_ (dig_cut x1);repeat' first|refine wk ?_|apply cX <;> intro
   refine ob (a:=str ([114]++[UInt8.ofNat (48+i / 10)])) ?_ (bs_add (by show 1+1<1000000;omega));repeat' first|refine wk ?_|apply cX <;> intro
   refine ob ?_ bn_rem10;repeat' first|refine wk ?_|apply cX <;> intro
   refine ob ?_ bn_rem10;repeat' first|refine wk ?_|apply cX <;> intro
   refine ob (a:=str [UInt8.ofNat (48+i % 10)]) ?_ (dig_cut x2);repeat' first|refine wk ?_|apply cX <;> intro
   refine ob (a:=str (nam i)) ?_ (bs_add (a:=[114]++[UInt8.ofNat (48+i / 10)]) (b:=[UInt8.ofNat (48+i % 10)]) (by show 2+1<1000000;omega));have or1:=(oR.row qK).one;have oc1:=(oC.row qK).one;repeat' first|refine wk ?_|apply cX <;> intro
   refine appO (e:=eReg) (sz:=4) (oR.tch (S:=[]) zA qL) (zF (e:=eReg) (sz:=4) (len:=1) rfl qK) qJ  ⟨rfl,rfl,rfl,rfl,trivial⟩ qJ  ?_;intro rv3 h3 n3 oR3 t3;have eS:=t3.le;have lowR:=zQ oR;have jG:Tch (zH rv).toList h2 n2 h3 n3:=Tch.tch t3 zA λx hx=>.inr hx;have cM3:=cM.tch jG qJ  λhx=>by have:=lowR _ hx;omega
   have cC3:=cC.tch jG qJ  λhx=>by have:=lowR _ hx;omega
   have cZ3:=cZ.tch jG qJ  λhx=>by have:=lowR _ hx;omega
   have fo:Tch [] h n h3 n3:=Tch.tch jG t2 λx hx=>.inl (by have:=lowR x hx;omega);have oC3:=oC.tch jG (own_ne oC oR (.inr qK));have or3:=(oR3.row qK).one;clear t3 jG;repeat' first|refine wk ?_|apply cX <;> intro
   have tH:Tch [n+1] h3 n3 (hal (hst h3 (n+1) (0+1) [rv3]) n3 (mkC [str (nam i)] 0 0)) (n3+1):=zA;have cMH:Cel (hal (hst h3 (n+1) (0+1) [rv3]) n3 (mkC [str (nam i)] 0 0)) (n+1) (27+1) 0 [str [109],rv3,nilV,nilV,nilV,str [],nilV,I64 100]:=by clear tH;exact zC
   have cCH:=cC3.tch tH qJ qL;have cZH:=cZ3.tch tH qJ qL;have oRH:=oR3.tch tH λb hb hx=>by have:=zQ oR3 b (by rw[hb];simp);simp at hx;omega
   have oCH:=oC3.tch tH λb hb hx=>by have:=zQ oC3 b (by rw[hb];simp);simp at hx;omega
   have t0H:Tch [] h n (hal (hst h3 (n+1) (0+1) [rv3]) n3 (mkC [str (nam i)] 0 0)) (n3+1):=Tch.tch tH fo λx hx=>.inl (by simp at hx;omega);refine appO (e:=qI) (sz:=1) oCH (zF (e:=qI) (sz:=1) (len:=1) rfl qK) qJ  ⟨rfl,trivial⟩ qJ  ?_;intro cv4 h4 n4 oC4 t4;have fi:=t4.le;have lowC:=zQ oCH;have cM4:=cMH.tch t4 qJ  λhx=>by have:=lowC _ hx;omega
   have cC4:=cCH.tch t4 qJ  λhx=>by have:=lowC _ hx;omega
   have cZ4:=cZH.tch t4 qJ  λhx=>by have:=lowC _ hx;omega
   have oR4:=oRH.tch t4 (own_ne oRH oCH (.inr qK));have fY:Tch [] h n h4 n4:=Tch.tch t4 t0H λx hx=>.inl (by have:=lowC x hx;omega);have oc4:=(oC4.row qK).one;clear t4 tH t0H cMH cCH cZH oRH oCH fo oR3 oC3 cM3 cC3 cZ3;have eR:(smR (i+1)).flatMap regC=(smR i).flatMap regC++[str (nam i),I64 8,I64 0,nilV]:=by unfold smR;rw [List.range_succ,aC,aT];rfl
   have eC:(smN (i+1)).map str=(smN i).map str++[str (nam i)]:=by unfold smN;rw [List.range_succ,aC,aC];rfl
   repeat' first|refine wk ?_|apply cX <;> intro
   have cC5:Cel (hst h4 (n+1+1) (0+1) [cv4]) (n+1+1) (56+1) 0 [str [103],cv4]:=zC;have tE:Tch [n+1+1] h4 n4 (hst h4 (n+1+1) (0+1) [cv4]) n4:=zA
   exact rnd (i+1,rv3,cv4) ⟨Tch.tch tE fY λx hx=>.inl (by simp at hx;omega),by omega,by omega,cM4.tch tE qJ qL,cC5,by rw[eR];exact oR4.tch tE λb hb hx=>by have:=zQ oR4 b (by rw[hb];simp);simp at hx;omega,
    by rw[eC];exact oC4.tch tE λb hb hx=>by have:=zQ oC4 b (by rw[hb];simp);simp at hx;omega,cZ4.tch tE qJ qM⟩
 . obtain rfl:i=N:=by omega
   have or1:=(oR.row qK).one;have oc1:=(oC.row qK).one;repeat' first|refine wk ?_|apply cX <;> intro
   refine ob (a:=[.agg ⟨yR (smM (smV rv cv n2) i (-1) [])⟩]) ?_ (rs_cellN (ws:=yR (smM (smV rv cv n2) i (-1) [])) (by apply qB;((conv=>lhs;whnf) <;> exact rfl)) (ldN_of qK  (vF zJ (vF zJ (vF zJ (vF zJ (vF zJ (vF zJ (vF zJ (vF zJ rd_nil))))))))) rs_nil);repeat' first|refine wk ?_|apply cX <;> intro
   refine⟨_,rfl,rv,cv,n2,rfl,⟨⟨by omega,by omega⟩,hN,?_,?_,zC,zC,zC,zC,zC,zC⟩,zA⟩
   . exact Own.dnl (oR.tch (S:=[n+1,n]) zA λb hb hx=>by have:=zQ oR b (by rw[hb];simp);simp at hx;omega) qJ 
   . exact Own.dnl (oC.tch (S:=[n+1,n]) zA λb hb hx=>by have:=zQ oC b (by rw[hb];simp);simp at hx;omega) qJ 
end
end Go.Proofs.YtdiejolnllipnaaGreatDoor
