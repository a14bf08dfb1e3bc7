/- What the law leans on, part 19 of 22. Conditions: those that each theorem states. -/
import Derived.Test.YtmccnilgnlaffaaGreatDoorMachChecksx18
import Derived.Test.YtmccnilgnlaffaaGreatDoorMachChecksx13
import Derived.Test.YtmccnilgnlaffaaGreatDoorMachChecksx16
import Derived.Test.YtmccnilgnlaffaaGreatDoorMachChecksx10
import Derived.Test.YtmccnilgnlaffaaGreatDoorMachChecksx17
import Derived.Test.YtmccnilgnlaffaaGreatDoorMachChecksx11

set_option linter.unusedVariables false
set_option linter.unusedSimpArgs false
namespace Go.Proofs.YtmccnilgnlaffaaGreatDoor
open Go Go.Ex Go.Ex.M
set_option maxRecDepth 100000
set_option maxHeartbeats 8000000
section
theorem ato_op{lo n len:Nat}{h:zB}{sv:Value}{vs:List Value}(r:Row lo h sv 50 6 len vs)(_hlt:len<4611686018427387904)(i:Int):Pur P 8 167 [sv,I64 i] h n (.bool (decide (0≤i) && decide (i<len))):=by
 refine ent λu=>?_;by_cases h0:0≤i
 · by_cases h1:i<len
   · repeat' first|refine wk ?_|refine cX (λ_=>?_) λ_=>?_|fail
     exact fin (by rw[decide_eq_true h0,decide_eq_true h1];rfl)
   · repeat' first|refine wk ?_|refine cX (λ_=>?_) λ_=>?_|fail
     exact fin (by rw[decide_eq_true h0,decide_eq_false h1];rfl)
 · repeat' first|refine wk ?_|refine cX (λ_=>?_) λ_=>?_|fail
   exact fin (by rw[decide_eq_false h0];rfl)
theorem ato_op_in{lo n len:Nat}{h:zB}{sv:Value}{vs:List Value}(r:Row lo h sv 50 6 len vs)(dV:len<4611686018427387904){i:Nat}(hi:i<len):Pur P 8 167 [sv,I64 (i:Nat)] h n (.bool true):=by
 have:=ato_op (n:=n) r dV ((i:Nat):Int)
 rwa [decide_eq_true (by omega:(0:Int)≤(i:Nat)),decide_eq_true (by omega:((i:Nat):Int)<(len:Nat))]at this
theorem ato_set{lo n len:Nat}{h:zB}{sv:Value}{vs:List Value}(r:Row lo h sv 92 1 len vs)(_hlt:len<4611686018427387904)(i:Int):Pur P 8 170 [sv,I64 i] h n (.bool (decide (0≤i) && decide (i<len))):=by
 refine ent λu=>?_;by_cases h0:0≤i
 · by_cases h1:i<len
   · repeat' first|refine wk ?_|refine cX (λ_=>?_) λ_=>?_|fail
     exact fin (by rw[decide_eq_true h0,decide_eq_true h1];rfl)
   · repeat' first|refine wk ?_|refine cX (λ_=>?_) λ_=>?_|fail
     exact fin (by rw[decide_eq_true h0,decide_eq_false h1];rfl)
 · repeat' first|refine wk ?_|refine cX (λ_=>?_) λ_=>?_|fail
   exact fin (by rw[decide_eq_false h0];rfl)
theorem ato_set_in{lo n len:Nat}{h:zB}{sv:Value}{vs:List Value}(r:Row lo h sv 92 1 len vs)(dV:len<4611686018427387904){i:Nat}(hi:i<len):Pur P 8 170 [sv,I64 (i:Nat)] h n (.bool true):=by
 have:=ato_set (n:=n) r dV ((i:Nat):Int)
 rwa [decide_eq_true (by omega:(0:Int)≤(i:Nat)),decide_eq_true (by omega:((i:Nat):Int)<(len:Nat))]at this
theorem ato_sets{lo n len:Nat}{h:zB}{sv:Value}{vs:List Value}(r:Row lo h sv 88 1 len vs)(_hlt:len<4611686018427387904)(i:Int):Pur P 8 169 [sv,I64 i] h n (.bool (decide (0≤i) && decide (i<len))):=by
 refine ent λu=>?_;by_cases h0:0≤i
 · by_cases h1:i<len
   · repeat' first|refine wk ?_|refine cX (λ_=>?_) λ_=>?_|fail
     exact fin (by rw[decide_eq_true h0,decide_eq_true h1];rfl)
   · repeat' first|refine wk ?_|refine cX (λ_=>?_) λ_=>?_|fail
     exact fin (by rw[decide_eq_true h0,decide_eq_false h1];rfl)
 · repeat' first|refine wk ?_|refine cX (λ_=>?_) λ_=>?_|fail
   exact fin (by rw[decide_eq_false h0];rfl)
theorem ato_sets_in{lo n len:Nat}{h:zB}{sv:Value}{vs:List Value}(r:Row lo h sv 88 1 len vs)(dV:len<4611686018427387904){i:Nat}(hi:i<len):Pur P 8 169 [sv,I64 (i:Nat)] h n (.bool true):=by
 have:=ato_sets (n:=n) r dV ((i:Nat):Int)
 rwa [decide_eq_true (by omega:(0:Int)≤(i:Nat)),decide_eq_true (by omega:((i:Nat):Int)<(len:Nat))]at this
theorem ato_pl{lo n len:Nat}{h:zB}{sv:Value}{vs:List Value}(r:Row lo h sv 135 3 len vs)(_hlt:len<4611686018427387904)(i:Int):Pur P 8 121 [sv,I64 i] h n (.bool (decide (0≤i) && decide (i<len))):=by
 refine ent λu=>?_;by_cases h0:0≤i
 · by_cases h1:i<len
   · repeat' first|refine wk ?_|refine cX (λ_=>?_) λ_=>?_|fail
     exact fin (by rw[decide_eq_true h0,decide_eq_true h1];rfl)
   · repeat' first|refine wk ?_|refine cX (λ_=>?_) λ_=>?_|fail
     exact fin (by rw[decide_eq_true h0,decide_eq_false h1];rfl)
 · repeat' first|refine wk ?_|refine cX (λ_=>?_) λ_=>?_|fail
   exact fin (by rw[decide_eq_false h0];rfl)
theorem ato_pl_in{lo n len:Nat}{h:zB}{sv:Value}{vs:List Value}(r:Row lo h sv 135 3 len vs)(dV:len<4611686018427387904){i:Nat}(hi:i<len):Pur P 8 121 [sv,I64 (i:Nat)] h n (.bool true):=by
 have:=ato_pl (n:=n) r dV ((i:Nat):Int)
 rwa [decide_eq_true (by omega:(0:Int)≤(i:Nat)),decide_eq_true (by omega:((i:Nat):Int)<(len:Nat))]at this
variable {lo n bt:Nat} {h:zB} {m:MachT} {ns:List Tx} {ps:List Pl} {v:TabV}
theorem onx{x:Tx}(hx:x∈oNs m):∃o,m.ops[(oNs m).idxOf x]? = some o∧o.name=x:=by
 have h2:(oNs m)[(oNs m).idxOf x]? = some x:=idx_at hx;generalize (oNs m).idxOf x=i at *
 unfold oNs at h2;rw [ap]at h2
 cases e:m.ops[i]? with
 | none=>rw [e]at h2;cases h2
 | some c=>rw [e]at h2;exact⟨c,rfl,by injection h2⟩
theorem top_in(k:TabM lo n h bt m ns ps v)(hon:(oNs m).Nodup){x:Tx}(hx:x∈oNs m):Pur P 8 117 [ptr bt 0,str x] h n (.tuple ⟨[I64 ((oNs m).idxOf x:Nat),.bool true]⟩):=by
 have hcel:=k.cel;have mo:=k.mo;obtain⟨A,B,e1,e2⟩:=qB (idx_at hx) hon;rw [e1]at mo;have lk:yX P h 87 (.map (some v.ob)) (str x) true=some (.tuple ⟨[I64 ((oNs m).idxOf x:Nat),.bool true]⟩):=lku_at (P:=P) (ty:=87) (ok:=true) mo e2;refine ent λu=>?_;repeat' first|refine wk ?_|refine cX (λ_=>?_) λ_=>?_|fail
 exact fin rfl
theorem top_no(k:TabM lo n h bt m ns ps v){x:Tx}(hx:x∉oNs m):Pur P 8 117 [ptr bt 0,str x] h n (.tuple ⟨[I64 0,.bool false]⟩):=by
 have hcel:=k.cel;have mo:=k.mo
 have lk:yX P h 87 (.map (some v.ob)) (str x) true=some (.tuple ⟨[I64 0,.bool false]⟩):=lku_no (P:=P) (ty:=87) mo λp hp e=>hx (by
  have:=numL_key hp
  rwa [e]at this)
 refine ent λu=>?_;repeat' first|refine wk ?_|refine cX (λ_=>?_) λ_=>?_|fail
 exact fin rfl
theorem tuses_pur(k:TabM lo n h bt m ns ps v)(gu:m.ops.length≤64){j:Nat}{o:OpT}(hj:m.ops[j]? = some o):Pur P 8 118 [ptr bt 0,I64 (j:Nat)] h n (I64 (o.uses.length:Nat)):=by
 have hcel:=k.cel;have r0:=k.cp.orr.row (by decide);obtain⟨o',e1,e2⟩:=k.cp.oe j o hj;have dV:=(ab.1 hj).1;have c3:=yN (zK r0 e1) (j:=3) rfl;have ru:=e2.ru.row (by decide);have low:=r0.low (by omega);refine ent λu=>?_;repeat' first|refine wk ?_|refine cX (λ_=>?_) λ_=>?_|refine zX (ato_op_in r0 (by omega) (by omega)) ?_|fail
 exact fin rfl
theorem ttie_pur(k:TabM lo n h bt m ns ps v)(gu:m.ops.length≤64){j:Nat}{o:OpT}(hj:m.ops[j]? = some o):Pur P 8 123 [ptr bt 0,I64 (j:Nat)] h n (I64 o.tie):=by
 have hcel:=k.cel;have r0:=k.cp.orr.row (by decide);obtain⟨o',e1,e2⟩:=k.cp.oe j o hj;have dV:=(ab.1 hj).1;have c3:=yN (zK r0 e1) (j:=4) rfl;have ru:=e2.ru.row (by decide);have low:=r0.low (by omega);refine ent λu=>?_;repeat' first|refine wk ?_|refine cX (λ_=>?_) λ_=>?_|refine zX (ato_op_in r0 (by omega) (by omega)) ?_|fail
 exact fin (by rw[e2.tie])
theorem tregs_pur(k:TabM lo n h bt m ns ps v):Pur P 8 61 [ptr bt 0] h n (I64 (ns.length:Nat)):=by
 have hcel:=k.cel;have r0:=k.on.row (by decide);refine ent λu=>?_;repeat' first|refine wk ?_|refine cX (λ_=>?_) λ_=>?_|fail
 exact fin rfl
theorem tslots_pur(k:TabM lo n h bt m ns ps v):Pur P 8 23 [ptr bt 0] h n (I64 m.slots):=by
 have hcel:=k.cel;have e:=k.cp.slots;refine ent λu=>?_;repeat' first|refine wk ?_|refine cX (λ_=>?_) λ_=>?_|fail
 exact fin (by rw[e])
theorem targs_ret(k:TabM lo n h bt m ns ps v)(hal:m.args.length≤200):Ret P 8 119 [ptr bt 0] h n λw h' n'=>OwnE n n' h' w vU 1 m.args.length ((ixs ns m.args).map I64)∧Tch [] h n h' n':=by
 have hcel:=k.cel;have al:(ixs ns m.args).length=m.args.length:=by unfold ixs;rw [aE]
 refine ent λu=>?_;repeat' first|refine wk ?_|refine cX (λ_=>?_) λ_=>?_|fail
 refine wY (clone_int (lo:=n) (Own.row k.av (by decide)) (ae _) (λy hy=>by obtain⟨z,_,rfl⟩:=ao.1 hy;rfl) (by omega)) ?_
 rintro w h2 n2 ⟨ho,ht⟩
 have o2:=xB ho;rw [al]at ho;repeat' first|refine wk ?_|refine cX (λ_=>?_) λ_=>?_|fail
 exact⟨_,rfl,ho,ht⟩
theorem rs_cellN{P:Program}{l:List (Nat×Value)}{t:Fr}{h:zB}{i ty sz:Nat}[s:ShC P ty (.agg sz)]{r:List ResultVar}{p:Value}{vs ws:List Value}(e:lk l t i=p)(g:LdN h p sz ws)(f:Rs P l t h r vs):Rs P l t h (.cell i ty::r) (.agg ⟨ws⟩::vs):=by
 obtain⟨b,o,rfl,h0,g⟩:=g;exact⟨_,vs,rfl,by rw[e];exact load_agg s.ok g.row.1 h0 g.row.2,f⟩
abbrev zPl:Nat:=135+1
theorem tplace_ret(k:TabM lo n h bt m ns ps v)(eR:ps.length≤200){j:Nat}{p:Pl}(hj:ps[j]? = some p):Ret P 8 63 [ptr bt 0,I64 (j:Nat)] h n λw h' n'=>w=plV p∧Tch [] h n h' n':=by
 have hcel:=k.cel;obtain⟨_,gz⟩:=k.hb;have r0:=k.op.row (by decide);have dV:=(ab.1 hj).1;have c3:=zK r0 hj;have low:=r0.low (by omega);refine ent λu=>?_;repeat' first|refine wk ?_|refine cX (λ_=>?_) λ_=>?_|refine zX (ato_pl_in (Own.row (k.tch zA).op (by decide)) (by omega) (by omega)) ?_|fail
 have t1:Tch [] h n (hal h n (mkC [I64 0,I64 0,I64 0] zPl 0)) (n+1):=zA;refine ob (a:=plC p) ?_ (ldN_of (by decide) (zK (Own.row (k.tch t1).op (by decide)) hj));repeat' first|refine wk ?_|refine cX (λ_=>?_) λ_=>?_|fail
 refine ob (a:=[plV p]) ?_ (rs_cellN (ws:=plC p) (by apply lk_box;((conv=>lhs;whnf) <;> exact rfl)) (ldN_of (by decide) (rd_cons zM (rd_cons zM (rd_cons zM rd_nil)))) rs_nil);repeat' first|refine wk ?_|refine cX (λ_=>?_) λ_=>?_|fail
 exact⟨_,rfl,rfl,zA⟩
theorem tmay_pur(k:TabM lo n h bt m ns ps v)(ok:MOK m ns ps)(gu:m.ops.length≤64){op q:Nat}{o:OpT}{x:OperT}(ho:m.ops[op]? = some o)(hx:(o.d::o.uses)[q]? = some x)(r:Int)(hr:r<9223372036854775808):Pur P 8 122 [ptr bt 0,I64 (op:Nat),I64 (q:Nat),I64 r] h n (.bool (mayB m ns ps o q x r)):=by
 have hcel:=k.cel;have fY:=k.mayl;obtain⟨_,sv,S,e1,e2,e3⟩:=k.ope op o ho;have dV:=(ab.1 ho).1;have hqlt:=(ab.1 hx).1;have iY:o.uses.length≤2:=(MOK.sml ok).opu o (ah ho);have r0:=k.may.1.row (by decide);have hS:=k.may.2 _ (ah e1);have r1:=hS.1.row (by decide);dsimp only at r1;have e4:S[q]? = some S[q]:=aa (by omega);have hel:=hS.2 _ (aR (by omega:q<S.length));have e5:=e3 q x _ hx e4;generalize S[q]=p at e4 hel e5
 have y0:zC h (sbk v.mv) (sof v.mv+op*1)=some sv:=by rw[aP];exact r0.at (by rw[ap,e1];rfl)
 have y1:zC h (sbk sv) (sof sv+q*1)=some p.1:=by rw[aP];exact r1.at (by rw[ap,e4];rfl)
 have low0:=r0.low (by omega);have low1:=r1.low (by omega);have o1:=hel.2.one;have e6:(decide (0≤r) && uB p.2 r.toNat)=mayB m ns ps o q x r:=by rw[e5,may_eq k ok ho hx r]
 have hsl:(o.d::o.uses).length≤3:=by simp;omega
 refine Com.pure (ent λu=>?_) (.inl rfl);repeat' first|refine wk ?_|refine cX (λ_=>?_) λ_=>?_|refine zX (ato_sets_in r0 (by omega) (by omega)) ?_|refine zX (ato_set_in r1 (by omega) (by omega)) ?_|refine zX (has_pur (hel.2.row (by decide)) (ae _) hel.1 _ hr) ?_|fail
 exact finT (by rw[e6]) zA
end
section
abbrev wrC(b k e:Int):zI:=[⟨.iface 70 (.agg ⟨[I64 b,I64 k,I64 e]⟩),false,false⟩]
abbrev zMk:Nat:=74+1
abbrev mkC3(bt:Nat)(c:CodeT)(b k:Int):List Value:=ptr bt 0::(vT c++[I64 b,I64 k])
variable {n bc:Nat} {h:zB} {bt:Nat} {c:CodeT} {b k:Int}
theorem mneed_com(hc:Cel h bc zMk 0 (mkC3 bt c b k))(hb:bc<n)(z:Bool)(e:Int):Com P 8 21 [ptr bc 0,.bool z,I64 e] h n λo h' n'=>o=(if z then .ret (.tuple #[]) else .panic (wrC b k e))∧h'=h∧n'=n:=by
 refine ent λu=>?_
 cases z with
 | true=>
  repeat' first|refine wk ?_|refine cX (λ_=>?_) λ_=>?_|fail
  exact⟨rfl,rfl,rfl⟩
 | false=>
  repeat' first|refine wk ?_|refine cX (λ_=>?_) λ_=>?_|fail
  exact⟨rfl,rfl,rfl⟩
instance ends_c (x:Int) (h:zB) (n:Nat):PurC P 8 116 [I64 x] h n (.bool (endB x)):=⟨by
 refine ent λu=>?_;by_cases h7:x=7
 · repeat' first|refine wk ?_|refine cX (λ_=>?_) λ_=>?_|fail
   exact fin (by unfold endB;rw [decide_eq_true h7];rfl)
 · by_cases h8:x=8
   · repeat' first|refine wk ?_|refine cX (λ_=>?_) λ_=>?_|fail
     exact fin (by unfold endB;rw [decide_eq_false h7,decide_eq_true h8];rfl)
   · repeat' first|refine wk ?_|refine cX (λ_=>?_) λ_=>?_|fail
     exact fin (by unfold endB;rw [decide_eq_false h7,decide_eq_false h8];simp)⟩
theorem ins1_pur{p:Nat}{lo:Nat}(hc:Cel h bc zMk 0 (mkC3 bt c b k))(hb:bc<n)(hp:zC h p 0=some (ptr bc 0))(jy:p<n)(cm:CodeM lo h c)(x:Int):Pur P 8 62 [I64 x,ptr p 0] h n (.bool (inR x c.blocks.length)):=by
 have rb:=cm.bl 0;refine ent λu=>?_;by_cases h0:0≤x
 · repeat' first|refine wk ?_|refine cX (λ_=>?_) λ_=>?_|fail
   exact fin (by unfold inR;rw [decide_eq_true h0];rfl)
 · repeat' first|refine wk ?_|refine cX (λ_=>?_) λ_=>?_|fail
   exact fin (by unfold inR;rw [decide_eq_false h0];rfl)
theorem regsW_len(i:InsT):(yP i).length≤1:=by unfold yP;split <;> simp
theorem mregs_ret{lo:Nat}{i:InsT}(hi:InsM lo h i)(dX:lo≤n):Ret P 8 59 [.agg ⟨insC i⟩] h n λv h' n'=>∃wv rv,v = .tuple ⟨[wv,rv]⟩∧Row n' h' wv vU 1 (yP i).length ((yP i).map I64)∧Row n' h' rv vU 1 (yQ i).length ((yQ i).map I64)∧Tch [] h n h' n':=by
 have o1:=(hi.ar 0).one;have ra:=hi.ar vU;refine ent λu=>?_;repeat' first|refine wk ?_|refine cX (λ_=>?_) λ_=>?_|fail
 all_goals (refine⟨_,rfl,_,_,rfl,?_,?_,zA⟩)
 · rw[show yP i=[i.d] by unfold yP;simp [*]];exact zL (e:=vU) rfl (by decide)
 · rw[show yQ i=[] by unfold yQ;simp [*]];exact .inl ⟨rfl,rfl,rfl⟩
 · rw[show yP i=[i.d] by unfold yP;simp [*]];exact zL (e:=vU) rfl (by decide)
 · rw[show yQ i=[] by unfold yQ;simp [*]];exact .inl ⟨rfl,rfl,rfl⟩
 · rw[show yP i=[i.d] by unfold yP;simp [*]];exact Row.up (Row.tch (h:=hal (hal h n (mkC (insC i) (57+1) 0)) (n+1) (mkC [I64 i.d] 0 0)) (zL (e:=vU) rfl (by decide)) (show Tch [] _ (n+1+1) _ (n+1+1+1) from zA) (ae _) λ_ _ hx=>by cases hx) (by omega)
 · rw[show yQ i=[i.a] by unfold yQ;simp [*]];exact zL (e:=vU) rfl (by decide)
 · rw[show yP i=[i.d] by unfold yP;simp [*]];exact Row.up (Row.tch (h:=hal (hal h n (mkC (insC i) (57+1) 0)) (n+1) (mkC [I64 i.d] 0 0)) (zL (e:=vU) rfl (by decide)) (show Tch [] _ (n+1+1) _ (n+1+1+1) from zA) (ae _) λ_ _ hx=>by cases hx) (by omega)
 · rw[show yQ i=[i.a] by unfold yQ;simp [*]];exact zL (e:=vU) rfl (by decide)
 · rw[show yP i=[i.d] by unfold yP;simp [*]];exact zL (e:=vU) rfl (by decide)
 · rw[show yQ i=i.args by unfold yQ;simp [*]];exact Row.up (Row.tch ra (show Tch [] h n _ (n+1+1) from zA) dX λ_ _ hx=>by cases hx) (by omega)
 · rw[show yP i=[] by unfold yP;simp [*]];exact .inl ⟨rfl,rfl,rfl⟩
 · rw[show yQ i=[i.a,i.b] by unfold yQ;simp [*]];exact zL (e:=vU) rfl (by decide)
 · rw[show yP i=[] by unfold yP;simp [*]];exact .inl ⟨rfl,rfl,rfl⟩
 · rw[show yQ i=[i.a] by unfold yQ;simp [*]];exact zL (e:=vU) rfl (by decide)
 · rw[show yP i=[] by unfold yP;simp [*]];exact .inl ⟨rfl,rfl,rfl⟩
 · rw[show yQ i=[i.a] by unfold yQ;simp [*]];exact zL (e:=vU) rfl (by decide)
 · rw[show yP i=[] by unfold yP;simp [*]];exact .inl ⟨rfl,rfl,rfl⟩
 · rw[show yQ i=[] by unfold yQ;simp [*]];exact .inl ⟨rfl,rfl,rfl⟩
end
section
variable {n:Nat} {h:zB}
theorem grow_ret(k:Nat)(hk:k<100000):Ret P 8 120 [.slice none 0 0,I64 (k:Nat)] h n λv h' n'=>Tch [] h n h' n'∧((k=0∧v = .slice none 0 0)∨(0<k∧WayR n n' h' v vU 1 0 []∧∀b c,v = .slice b 0 c→c=inf)):=by
 refine ent λu=>?_;by_cases h0:0<k
 · repeat' first|refine wk ?_|refine cX (λ_=>?_) λ_=>?_|refine ob (a:=some (I64 0)) ?_ cap_nil|refine ob (a:=.slice none 0 0) ?_ slice_nil0|fail
   rw[show((k:Nat):Int) - (0 - ((0:Nat):Int))=(k:Nat) by omega];refine appZ (e:=vU) (by kernel_rfl) h0 hk ?_;have w0:WayR n (n+1) (hal h n (mkC (rep [I64 0] k) (zc vU 1) 1)) (.slice (some ⟨n,0,none⟩) k inf) vU 1 k (rep [I64 0] k):=wayZ (ae _);obtain⟨v',e1,w,bl⟩:=way_cut (P:=P) (ty:=55) (k:=0) w0 (am _) (ae _)
   have d9:∀b c,v' = .slice b 0 c→c=inf:=λb c e=>by
    subst e;obtain⟨b',m,z,kd,cap,q1,q2,q3,q4,q5,q6,q7,q8⟩:=w;injection q3 with q3 _ q9
    subst q3 q9;have bl:some b'=some n:=bl;injection bl with bl
    subst bl;rw [zO,if_pos rfl]at q4;have q4:=(uN _ _ _).symm.trans q4;rcases q8 with⟨rfl,_⟩|⟨_,q8,_⟩
    · exact absurd (kd_of q4) (by decide)
    · exact q8
   have o1:v'.oneCell'=true:=by
    obtain⟨b',m,z,kd,cap,q1,q2,rfl,_⟩:=w;rfl
   repeat' first|refine wk ?_|refine cX (λ_=>?_) λ_=>?_|refine ob (a:=v') ?_ e1|fail
   exact⟨_,rfl,zA,.inr ⟨h0,by simpa using w,d9⟩⟩
 · obtain rfl:k=0:=by omega
   repeat' first|refine wk ?_|refine cX (λ_=>?_) λ_=>?_|refine ob (a:=some (I64 0)) ?_ cap_nil|fail
   exact⟨_,rfl,zA,.inl ⟨rfl,rfl⟩⟩
end
section
variable {n:Nat} {h:zB}
def sI(a b:Int):Nat→Int|0=>0|1=>0+a|_=>0+a+b
def tkI(A B:List Int):Nat→List Int|0=>[]|1=>A|_=>A++B
def AccC(n0 n:Nat)(h:zB)(k:Nat)(acc:Value)(L:List Int):Prop:=(k=0∧acc = .slice none 0 0)∨(0<k∧WayR n0 n h acc vU 1 L.length (L.map I64)∧(L.length=0→∀b c,acc = .slice b 0 c→c=inf))
theorem AccC.row{n0 n:Nat}{h:zB}{k:Nat}{acc:Value}{L:List Int}(a:AccC n0 n h k acc L)(hk:L.length≤k):Row n h acc vU 1 L.length (L.map I64):=by
 rcases a with⟨rfl,rfl⟩|⟨_,w,_⟩
 · obtain rfl:L=[]:=aH.1 (by omega);exact .inl ⟨rfl,rfl,rfl⟩
 · exact w.row (by decide)
theorem acc_app{n0 n:Nat}{h:zB}{k:Nat}{acc x:Value}{L M:List Int}{cx:Cx}{d:List Deferred}{u:Option zI}{K:W→Value→Prop}(a:AccC n0 n h k acc L)(hn:n0≤n)(hr:Row n h x vU 1 M.length (M.map I64))(hL:(L++M).length≤k)(hk:k<100000)
(q:∀v' h' n',AccC n0 n' h' k v' (L++M)→(∀b,b<n0→zF h' b=zF h b)→n≤n'→K ⟨d,u,h',n'⟩ v'):BuB P cx .append [55,55] [acc,x] d u h n K:=by
 rcases a with⟨rfl,rfl⟩|⟨h0,w,hc⟩
 · have e:L++M=[]:=aH.1 (by omega);obtain⟨rfl,rfl⟩:=List.append_eq_nil_iff.1 e;exact app_nil0 hr (q _ _ _ (.inl ⟨rfl,rfl⟩) (λ_ _=>rfl) (ae _))
 · by_cases hm:M=[]
   · subst hm;refine way_app0 w hr (by rw[ak]at hL;omega) hc (q _ _ _ (.inr ⟨h0,?_,?_⟩) (λ_ _=>rfl) (ae _))
     · rw[bK];exact w
     · rw[bK];exact hc
   · have fx:0<M.length:=List.length_pos_iff.2 hm;rw [ak]at hL;refine way_app w (λy hy=>by obtain⟨z,_,rfl⟩:=ao.1 hy;rfl) hn hr fx (λy hy=>by obtain⟨z,_,rfl⟩:=ao.1 hy;rfl) (by omega) ?_;intro v' h' n' w' _ t;refine q _ _ _ (.inr ⟨h0,?_,λe=>?_⟩) (λb hb=>?_) t.le
     · rw[ak,aK];exact w'
     · rw[ak]at e;omega
     · refine t.2 b (by omega) λeO=>?_;rw [Option.mem_toList]at eO;have:=(w.blk eO).1;omega
theorem concat2_ret{lo:Nat}{sv wv rv:Value}{A B:List Int}(dX:lo≤n)(rs:Row lo h sv yS 1 2 [wv,rv])(ra:Row lo h wv vU 1 A.length (A.map I64))(rb:Row lo h rv vU 1 B.length (B.map I64))(hA:A.length<1000)(hB:B.length<1000) :
 Ret P 8 60 [sv] h n λv h' n'=>Row n' h' v vU 1 (A++B).length ((A++B).map I64)∧Tch [] h n h' n':=by
 have c0:zC h (sbk sv) (sof sv+0*1)=some wv:=rs.at (i:=0) rfl;have c1:zC h (sbk sv) (sof sv+1*1)=some rv:=rs.at (i:=1) rfl;have low:=rs.low (by omega);have low1:sbk sv<n:=by omega
 have o1:=ra.one;have o2:=rb.one;refine ent λu=>?_;repeat' first|refine wk ?_|refine cX (λ_=>?_) λ_=>?_|fail
 refine lpR (λi:Nat=>[(0,sv),(3,I64 (sI A.length B.length i)),(9,sv),(10,I64 (2:Nat)),(11,I64 i)]) (λi h' n'=>h'=h∧n'=n∧i≤2) (λi=>2 - i) 0 ⟨rfl,rfl,am _⟩ ?_
 rintro i t h' n' ⟨e1,e2,hi⟩
 subst e1 e2;obtain rfl|rfl|rfl:i=0∨i=1∨i=2:=by omega
 · rw[show sI A.length B.length 0=0 from rfl];repeat' first|refine wk ?_|refine cX (λ_=>?_) λ_=>?_|fail
   exact rnd 1 ⟨rfl,rfl,by omega⟩
 · rw[show sI A.length B.length 1=0+(A.length:Nat) from rfl];repeat' first|refine wk ?_|refine cX (λ_=>?_) λ_=>?_|fail
   exact rnd 2 ⟨rfl,rfl,by omega⟩
 · rw[show sI A.length B.length 2=((A.length+B.length:Nat):Int) from by show(0:Int)+_+_=_;omega];repeat' first|refine wk ?_|refine cX (λ_=>?_) λ_=>?_|fail
   refine wY (grow_ret _ (by omega)) ?_
   rintro v2 h2 n2 ⟨t2,g⟩
   have hn2:=t2.le
   have o3:v2.oneCell'=true:=by
    rcases g with⟨_,rfl⟩|⟨_,w,_⟩
    · rfl
    · exact(w.row (by decide)).one
   have a2:AccC n' n2 h2 (A.length+B.length) v2 []:=by
    rcases g with⟨g1,g2⟩|⟨g1,w,g2⟩
    · exact .inl ⟨g1,g2⟩
    · exact .inr ⟨g1,w,λ_=>g2⟩
   repeat' first|refine wk ?_|refine cX (λ_=>?_) λ_=>?_|fail
   refine lpR (α :=Nat×Value) (λp=>[(6,p.2),(25,sv),(26,I64 (2:Nat)),(27,I64 p.1)]) (λp h3 n3=>Tch [] h' n' h3 n3∧p.1≤2∧AccC n' n3 h3 (A.length+B.length) p.2 (tkI A B p.1)) (λp=>2 - p.1) (0,v2) ⟨t2,am _,a2⟩ ?_
   rintro ⟨i,acc⟩ t3 h3 n3 ⟨ht3,hi3,a3⟩
   dsimp only at hi3 a3 ⊢;have eH:=ht3.le;have rs3:=rs.tch ht3 dX λ_ _ hx=>by cases hx
   have ra3:=(ra.tch ht3 dX λ_ _ hx=>by cases hx).up (aZ dX eH);have rb3:=(rb.tch ht3 dX λ_ _ hx=>by cases hx).up (aZ dX eH);have d0:zC h3 (sbk sv) (sof sv+0*1)=some wv:=rs3.at (i:=0) rfl;have d1:zC h3 (sbk sv) (sof sv+1*1)=some rv:=rs3.at (i:=1) rfl;have lk:(A++B).length≤A.length+B.length:=by rw[ak];omega
   obtain rfl|rfl|rfl:i=0∨i=1∨i=2:=by omega
   · have o4:=(a3.row (am _)).one;repeat' first|refine wk ?_|refine cX (λ_=>?_) λ_=>?_|fail
     refine acc_app a3 eH ra3 (by show A.length≤_;omega) (by omega) ?_;intro v4 h4 n4 a4 k4 fL;have o5:=(a4.row (by show A.length≤_;omega)).one;have t4:Tch [] h' n' h4 n4:=⟨by omega,λb hb hx=>(k4 b hb).trans (ht3.2 b hb hx)⟩;repeat' first|refine wk ?_|refine cX (λ_=>?_) λ_=>?_|fail
     exact rnd (1,v4) ⟨t4,by omega,a4⟩
   · have o4:=(a3.row (by show A.length≤_;omega)).one;repeat' first|refine wk ?_|refine cX (λ_=>?_) λ_=>?_|fail
     refine acc_app a3 eH rb3 lk (by omega) ?_;intro v4 h4 n4 a4 k4 fL;have o5:=(a4.row lk).one;have t4:Tch [] h' n' h4 n4:=⟨by omega,λb hb hx=>(k4 b hb).trans (ht3.2 b hb hx)⟩;repeat' first|refine wk ?_|refine cX (λ_=>?_) λ_=>?_|fail
     exact rnd (2,v4) ⟨t4,by omega,a4⟩
   · have r4:=a3.row lk;have o4:=r4.one;repeat' first|refine wk ?_|refine cX (λ_=>?_) λ_=>?_|fail
     exact⟨_,rfl,r4,ht3⟩
end
section
variable {n bc:Nat} {h:zB} {bt:Nat} {c:CodeT} {b k:Int}
theorem mchk1_none{p q r:Nat}:Def P 8 20 [ptr p 0,ptr q 0,ptr r 0] none h n λu' h' n'=>u'=none∧Tch [] h n h' n':=by
 refine entD ?_;repeat' first|refine wk ?_|refine cX (λ_=>?_) λ_=>?_|fail
 exact⟨_,rfl,rfl,zA⟩
theorem vS{p q r zp zq zr:Nat}{x y z:Int}(hp:p<n)(hq:q<n)(hr:r<n)(hpq:p≠q)(hpr:p≠r)(hqr:q≠r)(cp:Cel h p zp 0 [I64 x])(cq:Cel h q zq 0 [I64 y])(cr:Cel h r zr 0 [I64 z])(e:Int) :
 Def P 8 20 [ptr p 0,ptr q 0,ptr r 0] (some (wrC b k e)) h n λu' h' n'=>u'=some [⟨.iface 70 (.agg ⟨[I64 b,I64 k,I64 e]⟩),true,false⟩]∧Tch [p,q,r] h n h' n'∧Cel h' p zp 0 [I64 b]∧Cel h' q zq 0 [I64 k]∧Cel h' r zr 0 [I64 e]:=by
 refine entD ?_;repeat' first|refine wk ?_|refine cX (λ_=>?_) λ_=>?_|fail
 exact⟨_,rfl,rfl,zA,zD,zD,zD⟩
theorem needC{G:Prop}{z:Bool}{e:Int}{K:Out→zB→Nat→Prop}[s:IsCall G P 8 21 [ptr bc 0,.bool z,I64 e] h n K](hc:Cel h bc zMk 0 (mkC3 bt c b k))(hb:bc<n)(k1:Ch z (K (.ret (.tuple #[])) h n) (K (.panic (wrC b k e)) h n)):G:=cal (mneed_com hc hb z e) λo h' n' ⟨e1,e2,e3⟩=>by
 subst e1 e2 e3;cases z
 · exact k1.2 rfl
 · exact k1.1 rfl
theorem mop_K{lo:Nat}{m:MachT}{ns:List Tx}{ps:List Pl}{v:TabV}(kt:TabM lo n h bt m ns ps v)(hon:(oNs m).Nodup){x:Tx}{G:Prop}{K:Out→zB→Nat→Prop}[s:IsCall G P 8 117 [ptr bt 0,str x] h n K]
(k1:∀j o,m.ops[j]? = some o→opAt m x=some o→K (.ret (.tuple ⟨[I64 (j:Nat),.bool true]⟩)) h n)(k2:opAt m x=none→K (.ret (.tuple ⟨[I64 0,.bool false]⟩)) h n):G:=by
 by_cases hx:x∈oNs m
 · obtain⟨o,h1,h2⟩:=onx hx;refine zX (top_in kt hon hx) (k1 _ o h1 ?_);unfold opAt
   have h3:∃y,m.ops.find? (λo=>decide (o.name=x))=some y:=by
    cases e:m.ops.find? (λo=>decide (o.name=x)) with
    | some y=>exact⟨y,rfl⟩
    | none=>exact absurd (cD.1 e o (ah h1)) (by simp[h2])
   obtain⟨y,hy⟩:=h3;have hy1:y.name=x:=by simpa using List.find?_some hy
   have hy2:=bJ hy;obtain⟨i,hi,rfl⟩:=List.getElem_of_mem hy2;have a1:(oNs m)[i]? = some x:=by unfold oNs;rw [ap,aa hi];simp [hy1]
   have a2:(oNs m)[(oNs m).idxOf x]? = some x:=idx_at hx;have fy:=(ab.1 a1).1;have:i=(oNs m).idxOf x:=(List.getElem?_inj fy hon).1 (a1.trans a2.symm);rw [hy,aa hi |>.symm,this,h1]
 · refine zX (top_no kt hx) (k2 ?_);unfold opAt;rw [cD];intro o ho;have:o.name≠x:=λe=>hx (by unfold oNs;rw [← e];exact List.mem_map_of_mem ho);simpa using this
theorem mkind_com{lo lq:Nat}{m:MachT}{ns:List Tx}{ps:List Pl}{v:TabV}(kt:TabM lq n h bt m ns ps v)(ok:MOK m ns ps)(hon:(oNs m).Nodup)(hc:Cel h bc zMk 0 (mkC3 bt c b k))(hb:bc<n){i:InsT}(hi:InsM lo h i)(dX:lo≤n)(last:Bool):Com P 8 58 [ptr bc 0,.agg ⟨insC i⟩,.bool last] h n λo h' n'=>o=(if uA m i last then .ret (.tuple #[]) else .panic (wrC b k 22))∧Tch [] h n h' n':=by
 have o1:=(hi.ar 0).one;have sm:=MOK.sml ok;have t1:Tch [] h n (hal h n (mkC (insC i) (57+1) 0)) (n+1):=zA;have gX:=kt.tch t1;have yes:∀{h':zB} {n':Nat},Tch [] h n h' n'→uA m i last=true→(Out.ret (.tuple ⟨[]⟩)=(if uA m i last then Out.ret (.tuple #[]) else Out.panic (wrC b k 22))∧Tch [] h n h' n'):=λt e=>⟨by rw[if_pos e],t⟩;have noo:∀{h':zB} {n':Nat},Tch [] h n h' n'→uA m i last=false→(Out.panic (wrC b k 22)=(if uA m i last then Out.ret (.tuple #[]) else Out.panic (wrC b k 22))∧Tch [] h n h' n'):=λt e=>⟨by rw[if_neg (by rw[e];exact aM)],t⟩;have al:=sm.args;have ra:=hi.ar vU;refine ent λu=>?_;repeat' first|refine wk ?_|refine cX (λ_=>?_) λ_=>?_|refine needC zG (by omega) ?_|refine mop_K gX hon (λj o hj ho=>?_) (λho=>?_)|refine zX (tuses_pur gX sm.ops (by assumption)) ?_|(refine wY (targs_ret gX sm.args) ?_;rintro w h2 n2 ⟨ho,ht⟩;have hn2:=ht.le;have o2:=(OwnE.row ho (by decide)))|fail
 all_goals (try have hN:i.args.length=o.uses.length:=by omega)
 all_goals (try have hN:¬i.args.length=o.uses.length:=by omega)
 all_goals first
  | refine yes zA ?_;unfold uA;rw [‹(endB i.kind == last)=true›];simp [*];done
  | refine noo zA ?_;unfold uA;rw [‹(endB i.kind == last)=true›];simp [*];done
  | refine noo zA ?_;unfold uA;rw [‹(endB i.kind == last)=false›];simp;done
  | refine noo zA ?_;unfold uA;simp [*];done
end
section
theorem oY{z:Bool}{b k e:Int}{A:Prop}(a:A)(hz:z=true):(Out.ret (.tuple ⟨[]⟩)=(if z then .ret (.tuple #[]) else .panic (wrC b k e)))∧A:=⟨by rw[if_pos hz],a⟩
theorem oN{z:Bool}{b k e:Int}{A:Prop}(a:A)(hz:z=false):(Out.panic (wrC b k e)=(if z then .ret (.tuple #[]) else .panic (wrC b k e)))∧A:=⟨by rw[if_neg (by rw[hz];exact aM)],a⟩
theorem mayB_succ{m:MachT}{ns:List Tx}{ps:List Pl}{o:OpT}{j:Nat}{x:OperT}{r:Int}:mayB m ns ps o (j+1) x r=mayB m ns ps o 1 x r:=by
 unfold mayB;rw [decide_eq_true (by omega:j+1≠0),decide_eq_true (by omega:(1:Nat)≠0)]
theorem zip_all{α β : Type}{p: α×β→Bool}:∀{A:List α} {B:List β},A.length=B.length→(∀(j:Nat) a b,A[j]? = some a→B[j]? = some b→p (a,b)=true)→(A.zip B).all p=true
 | [],[],_,_=>rfl
 | a::A,b::B,hl,h=>by
  rw[List.zip_cons_cons,cK,h 0 a b rfl rfl,zip_all (by simpa using hl) λj x y hx hy=>h (j+1) x y hx hy];rfl
 | [],_::_,hl,_=>by cases hl
 | _::_,[],hl,_=>by cases hl
theorem zip_no{α β : Type}{p: α×β→Bool}{A:List α}{B:List β}{j:Nat}{a: α}{b: β}(ha:A[j]? = some a)(hb:B[j]? = some b)(h:p (a,b)=false):(A.zip B).all p=false:=by
 cases e:(A.zip B).all p with
 | false=>rfl
 | true=>
  have:=ay.1 e (a,b) (aj.2 ⟨j,by rw[List.getElem?_zip_eq_some];exact⟨ha,hb⟩⟩);rw [h]at this;cases this
variable {n bc:Nat} {h:zB} {bt:Nat} {c:CodeT} {b k:Int}
theorem moperands_com{lo lq:Nat}{m:MachT}{ns:List Tx}{ps:List Pl}{v:TabV}(kt:TabM lq n h bt m ns ps v)(ok:MOK m ns ps)(hon:(oNs m).Nodup)(hc:Cel h bc zMk 0 (mkC3 bt c b k))(hb:bc<n){i:InsT}(hi:InsM lo h i)(dX:lo≤n){o:OpT}(ho:opAt m i.name=some o)(ej:i.args.length=o.uses.length):Com P 8 64 [ptr bc 0,.agg ⟨insC i⟩] h n λout h' n'=>out=(if opsB m ns ps i o then .ret (.tuple #[]) else .panic (wrC b k 23))∧Tch [] h n h' n':=by
 have o1:=(hi.ar 0).one;have sm:=MOK.sml ok;have t1:Tch [] h n (hal h n (mkC (insC i) (57+1) 0)) (n+1):=zA;have gX:=kt.tch t1;have ra:=hi.ar vU;have hoM:o∈m.ops:=bJ ho;have iY:=sm.opu o hoM;have hg:=hi.g.1;have mi:=(MOK.oo ok o hoM).1;have ra1:Row lo (hal h n (mkC (insC i) (57+1) 0)) i.av vU 1 i.args.length (i.args.map I64):=(hi.ar vU).tch t1 dX λ_ _ hx=>by cases hx
 refine ent λu=>?_;repeat' first|refine wk ?_|refine cX (λ_=>?_) λ_=>?_|refine mop_K gX hon (λj o' hj fP=>?_) (λfP=>?_)|fail
 · rw[ho]at fP;obtain rfl:=Option.some.inj fP;repeat' first|refine wk ?_|refine cX (λ_=>?_) λ_=>?_|refine needC zG (by omega) ?_|refine zX (tmay_pur gX ok sm.ops hj (q:=0) (x:=o.d) rfl i.d hg.2) ?_|fail
   · rename_i hd;refine lpR (λq:Nat=>[(0,ptr bc 0),(3,ptr n 0),(4,I64 j),(30,i.av),(31,I64 i.args.length),(32,I64 q)]) (λq h' n'=>h'=hal h n (mkC (insC i) (57+1) 0)∧n'=n+1∧q≤i.args.length∧∀(j':Nat) a x,j'<q→i.args[j']? = some a→o.uses[j']? = some x→mayB m ns ps o 1 x a=true) (λq=>i.args.length - q) 0 ⟨rfl,rfl,am _,λ_ _ _ eV=>by omega⟩ ?_
     rintro q t h' n' ⟨e1,e2,hq,dZ⟩
     subst e1 e2;by_cases dV:q<i.args.length
     · have d0:i.args[q]? = some i.args[q]:=aa dV;have d1:o.uses[q]? = some o.uses[q]:=aa (by omega);generalize i.args[q]=a at d0
       generalize o.uses[q]=x at d1
       have c1:zC (hal h n (mkC (insC i) (57+1) 0)) (sbk i.av) (sof i.av+q*1)=some (I64 a):=by rw[aP];exact ra1.at (by rw[ap,d0];rfl)
       have ga:=hi.ag a (ah d0);have hm:=tmay_pur (n:=n+1) gX ok sm.ops hj (q:=q+1) (x:=x) (by rw[bL];exact d1) a ga.2;rw [mayB_succ]at hm;repeat' first|refine wk ?_|refine cX (λ_=>?_) λ_=>?_|refine needC zG (by omega) ?_|refine zX hm ?_|fail
       · rename_i g1
         exact rnd (q+1) ⟨rfl,rfl,by omega,λj' a' x' eV f1 f2=>by
          rcases ai.1 eV with h9|rfl
          · exact dZ j' a' x' h9 f1 f2
          · rw[d0]at f1;rw [d1]at f2;cases f1;cases f2;exact g1⟩
       · rename_i g1;exact oN zA (by unfold opsB;rw [zip_no d0 d1 g1];simp)
     · obtain rfl:q=i.args.length:=by omega
       have zz:((i.args.zip o.uses).all λp=>mayB m ns ps o 1 p.2 p.1)=true:=zip_all ej λj' a x f1 f2=>dZ j' a x (ab.1 f1).1 f1 f2;have tl:=mi.2.2.2.1;have th:=mi.2.2.2.2.1;by_cases h0:o.tie<0
       · repeat' first|refine wk ?_|refine cX (λ_=>?_) λ_=>?_|refine needC zG (by omega) ?_|refine zX (ttie_pur gX sm.ops hj) ?_|fail
         exact oY zA (by unfold opsB;rw [hd,zz,decide_eq_true h0];rfl)
       · have jZ:o.tie.toNat<i.args.length:=by omega
         have d0:i.args[o.tie.toNat]? = some i.args[o.tie.toNat]:=aa jZ;generalize i.args[o.tie.toNat]=a at d0
         have c1:zC (hal h n (mkC (insC i) (57+1) 0)) (sbk i.av) (sof i.av+o.tie.toNat*1)=some (I64 a):=by rw[aP];exact ra1.at (by rw[ap,d0];rfl)
         repeat' first|refine wk ?_|refine cX (λ_=>?_) λ_=>?_|refine needC zG (by omega) ?_|refine zX (ttie_pur gX sm.ops hj) ?_|fail
         · rename_i g1;exact oY zA (by unfold opsB;rw [hd,zz,d0,g1,decide_eq_true (rfl:some a=some a)];simp)
         · rename_i g1;exact oN zA (by unfold opsB;rw [hd,zz,d0,decide_eq_false h0,decide_eq_false (λe=>g1 (Option.some.inj e).symm)];rfl)
   · exact oN zA (by unfold opsB;simp [*])
 · rw[ho]at fP;cases fP
end
section
variable {n bc:Nat} {h:zB} {bt:Nat} {c:CodeT} {b k:Int}
theorem tch_row{lo:Nat}{h':zB}{n':Nat}{v:Value}{e sz len:Nat}{vs:List Value}(r:Row lo h v e sz len vs)(t:Tch [] h n h' n')(hl:lo≤n):Row lo h' v e sz len vs:=r.tch t hl λ_ _ hx=>by cases hx
theorem regsR_len{m:MachT}{i:InsT}{last:Bool}(hk:uA m i last=true)(hu:∀o∈m.ops,o.uses.length≤2):(yQ i).length≤2:=by
 unfold yQ;split
 · simp
 · split
   · rename_i h3;unfold uA at hk;rw [if_pos h3]at hk
     cases e:opAt m i.name with
     | none=>rw [e]at hk;simp at hk
     | some o=>
      rw[e]at hk;have h4:i.args.length=o.uses.length:=by simp at hk;exact hk.2
      rw[h4];exact hu o (bJ e)
   · split <;> simp
theorem kind3{m:MachT}{i:InsT}{last:Bool}(hk:uA m i last=true)(h3:i.kind=3):∃o,opAt m i.name=some o∧i.args.length=o.uses.length:=by
 unfold uA at hk;rw [if_pos h3]at hk
 cases e:opAt m i.name with
 | none=>rw [e]at hk;simp at hk
 | some o=>
  rw[e]at hk;exact⟨o,rfl,by simp at hk;exact hk.2⟩
theorem tplaceI{lo:Nat}{m:MachT}{ns:List Tx}{ps:List Pl}{v:TabV}(kt:TabM lo n h bt m ns ps v)(eR:ps.length≤200){r:Int}(h0:0≤r){p:Pl}(hj:ps[r.toNat]? = some p):Ret P 8 63 [ptr bt 0,I64 r] h n λw h' n'=>w=plV p∧Tch [] h n h' n':=by
 have:=tplace_ret kt eR hj
 rwa [Int.toNat_of_nonneg h0]at this
theorem fld_pl(p:Pl):aField P 135 (plV p) 2=some (I64 p.width):=by
 show aField P 135 (.agg ⟨[I64 p.root,I64 p.at_,I64 p.width]⟩) 2=_;kernel_rfl
theorem mY{x b k:Int}{A:Prop}(a:A)(hx:x=0):(Out.ret (.tuple ⟨[]⟩)=(if x=0 then .ret (.tuple #[]) else .panic (wrC b k x)))∧A:=⟨by rw[if_pos hx],a⟩
theorem mN{x e b k:Int}{A:Prop}(a:A)(hx:x=e)(he:e≠0):(Out.panic (wrC b k e)=(if x=0 then .ret (.tuple #[]) else .panic (wrC b k x)))∧A:=⟨by subst hx;rw [if_neg he],a⟩
theorem mins_com{lo lq:Nat}{m:MachT}{ns:List Tx}{ps:List Pl}{v:TabV}(kt:TabM lq n h bt m ns ps v)(ok:MOK m ns ps)(hon:(oNs m).Nodup)(hc:Cel h bc zMk 0 (mkC3 bt c b k))(hb:bc<n)(cm:CodeM lo h c){i:InsT}(hi:InsM lo h i)(dX:lo≤n)(last:Bool) :
 Com P 8 24 [ptr bc 0,.agg ⟨insC i⟩,.bool last] h n λo h' n'=>(o=if sA m ns ps c.slots c.blocks.length i last=0 then .ret (.tuple #[]) else .panic (wrC b k (sA m ns ps c.slots c.blocks.length i last)))∧Tch [] h n h' n':=by
 have o1:=(hi.ar 0).one;have sm:=MOK.sml ok;have gok:=geo_ok ok.geo;have t1:Tch [] h n (hal (hal h n (mkC [ptr bc 0] (72+1) 0)) (n+1) (mkC (insC i) (57+1) 0)) (n+1+1):=zA;have gX:=kt.tch t1;have hi1:=hi.tch t1 dX;have iZ:=hc.tch t1 hb (by simp);refine ent λu=>?_;repeat' first|refine wk ?_|refine cX (λ_=>?_) λ_=>?_|fail
 refine cal (mkind_com gX ok hon iZ (by omega) hi1 (by omega) last) ?_
 rintro _ h2 n2 ⟨rfl,t2⟩
 have hn2:=t2.le;have cB:Cel h2 n (72+1) 0 [ptr bc 0]:=by clear t1;exact zD
 have cI:Cel h2 (n+1) (57+1) 0 (insC i):=by clear t1;exact zD
 have gW:Tch [] h n h2 n2:=zA;have kt2:=kt.tch gW;have fc:=hi.tch gW dX;have hc2:=hc.tch gW hb (by simp);clear t2 t1 gX hi1 iZ
 cases hk:uA m i last with
 | false=>
  rw[if_neg aM];repeat' first|refine wk ?_|refine cX (λ_=>?_) λ_=>?_|fail
  exact mN zA (by unfold sA;rw [if_pos hk]) (by decide)
 | true=>
  rw[if_pos rfl];repeat' first|refine wk ?_|refine cX (λ_=>?_) λ_=>?_|fail
  refine wY (mregs_ret fc (by omega)) ?_
  rintro _ h3 n3 ⟨wv,rv,rfl,rw3,rr3,t3⟩
  have eH:=t3.le;obtain⟨pw,cw,rfl⟩:=rw3.sl;obtain⟨pr,cr,rfl⟩:=rr3.sl;have fN:=regsW_len i;have kE:=regsR_len hk sm.opu;repeat' first|refine wk ?_|refine cX (λ_=>?_) λ_=>?_|fail
  have t4:Tch [] h3 n3 (hal h3 n3 (mkC [.slice pw (yP i).length cw,.slice pr (yQ i).length cr] 0 0)) (n3+1):=zA;refine wY (concat2_ret (lo:=n3+1) (A:=yP i) (B:=yQ i) (ae _) (zL (e:=yS) rfl (by decide)) ((tch_row rw3 t4 (ae _)).up (by omega)) ((tch_row rr3 t4 (ae _)).up (by omega)) (by omega) (by omega)) ?_
  rintro sv h5 n5 ⟨rs,t5⟩
  have fm:=t5.le;have os:=rs.one;have t25:Tch [] h2 n2 h5 n5:=zA;have t05:Tch [] h n h5 n5:=zA;have cB5:Cel h5 n (72+1) 0 [ptr bc 0]:=cB.tch t25 (by omega) (by simp);have cI5:Cel h5 (n+1) (57+1) 0 (insC i):=cI.tch t25 (by omega) (by simp);have kt5:=kt.tch t05;have hi5:=hi.tch t05 dX;have hc5:=hc.tch t05 hb (by simp);have cm5:=cm.tch t05 dX;clear t5 t25 t4 t3 gW cB cI kt2 fc hc2 rw3 rr3;generalize hL:yP i++yQ i=L at rs
  have ip:L.length≤3:=by rw[← hL,ak];omega
  repeat' first|refine wk ?_|refine cX (λ_=>?_) λ_=>?_|fail
  refine lpR (λq:Nat=>[(3,ptr n 0),(4,ptr (n+1) 0),(23,sv),(24,I64 L.length),(25,I64 q)]) (λq h' n'=>h'=h5∧n'=n5∧q≤L.length∧∀(j:Nat) r,j<q→L[j]? = some r→inR r ns.length=true) (λq=>L.length - q) 0 ⟨rfl,rfl,am _,λ_ _ eV=>by omega⟩ ?_
  rintro q t h' n' ⟨e1,e2,hq,dZ⟩
  subst e1 e2;by_cases dV:q<L.length
  · have d0:L[q]? = some L[q]:=aa dV;generalize L[q]=r at d0
    have c1:zC h' (sbk sv) (sof sv+q*1)=some (I64 r):=by rw[aP];exact rs.at (by rw[ap,d0];rfl)
    have bad:inR r ns.length=false→sA m ns ps c.slots c.blocks.length i last=23:=λhr=>by
     unfold sA;rw [if_neg (by rw[hk];exact Bool.false_ne_true.symm),hL,if_pos]
     cases e:(L.all λr=>inR r ns.length) with
     | false=>rfl
     | true=>rw [ay.1 e r (ah d0)]at hr;cases hr
    repeat' first|refine wk ?_|refine cX (λ_=>?_) λ_=>?_|refine needC zG (by omega) ?_|refine zX (tregs_pur kt5) ?_|fail
    · rename_i g1 g2
      exact rnd (q+1) ⟨rfl,rfl,by omega,λj r' eV f1=>by
       rcases ai.1 eV with h9|rfl
       · exact dZ j r' h9 f1
       · rw[d0]at f1;cases f1;unfold inR;rw [decide_eq_true g1,decide_eq_true g2];rfl⟩
    · rename_i g1 g2;exact mN zA (bad (by unfold inR;rw [decide_eq_false g2,cn])) (by decide)
    · rename_i g1;exact mN zA (bad (by unfold inR;rw [decide_eq_false g1,da])) (by decide)
  · obtain rfl:q=L.length:=by omega
    have good:(L.all λr=>inR r ns.length)=true:=ay.2 λr hr=>by
     obtain⟨j,hj⟩:=aj.1 hr;exact dZ j r (ab.1 hj).1 hj
    have E:sA m ns ps c.slots c.blocks.length i last=if i.kind=2 then(if widthA ps i.d=widthA ps i.a then 0 else 23)
     else if i.kind=3 then(match opAt m i.name with|some o=>if opsB m ns ps i o then 0 else 23|none=>23)
     else if i.kind=10∨i.kind=11 then(if 0≤i.n∧i.n<c.slots then 0 else 24)
     else if i.kind=7 then(if inR i.t c.blocks.length && inR i.f c.blocks.length then 0 else 20)
     else if i.kind=8 then(if inR i.t c.blocks.length then 0 else 20) else 0:=by
     unfold sA;rw [if_neg (by rw[hk];exact Bool.noConfusion),hL,if_neg (by rw[good];exact Bool.noConfusion)];try rfl
    by_cases h2:i.kind=2
    · have w2:∀r,r∈L→0≤r∧∃p,ps[r.toNat]? = some p∧widthA ps r=p.width:=λr hr=>by
       have lG:=ay.1 good r hr;unfold inR at lG;obtain⟨g1,g2⟩:=ad.1 lG;have g1:=of_decide_eq_true g1;have g2:=of_decide_eq_true g2;have lp:ps.length=ns.length:=gok.len;have g3:ps[r.toNat]? = some (ps[r.toNat]'(by omega)):=aa _;exact⟨g1,_,g3,by unfold widthA;rw [g3]⟩
      obtain⟨a0,p,a1,a2⟩:=w2 i.d (by rw[← hL];exact az.2 (.inl (by unfold yP;rw [if_pos (by omega)];exact bD.2 rfl)));obtain⟨b0,p',b1,b2⟩:=w2 i.a (by rw[← hL];exact az.2 (.inr (by unfold yQ;rw [if_pos (by omega)];exact bD.2 rfl)));have lp:ps.length≤200:=by have h8:ps.length=ns.length:=gok.len;have h9:ns.length≤200:=gok.le;omega
      repeat' first|refine wk ?_|refine cX (λ_=>?_) λ_=>?_|fail
      refine wY (tplaceI kt5 lp a0 a1) ?_
      rintro _ h6 n6 ⟨rfl,t6⟩
      have gM:=t6.le;have cI6:Cel h6 (n+1) (57+1) 0 (insC i):=cI5.tch t6 (by omega) (by simp);have cB6:Cel h6 n (72+1) 0 [ptr bc 0]:=cB5.tch t6 (by omega) (by simp);have hc6:=hc5.tch t6 (by omega) (by simp);have kt6:=kt5.tch t6;have kZ:Tch [] h n h6 n6:=zA;repeat' first|refine wk ?_|refine cX (λ_=>?_) λ_=>?_|fail
      refine wY (tplaceI kt6 lp b0 b1) ?_
      rintro _ h7 n7 ⟨rfl,t7⟩
      have jd:=t7.le;have cI7:Cel h7 (n+1) (57+1) 0 (insC i):=cI6.tch t7 (by omega) (by simp);have cB7:Cel h7 n (72+1) 0 [ptr bc 0]:=cB6.tch t7 (by omega) (by simp);have hc7:=hc6.tch t7 (by omega) (by simp);have kf:Tch [] h n h7 n7:=zA;repeat' first|refine wk ?_|refine cX (λ_=>?_) λ_=>?_|fail
      refine ob (a:=I64 p.width) ?_ (fld_pl p);repeat' first|refine wk ?_|refine cX (λ_=>?_) λ_=>?_|fail
      refine ob (a:=I64 p'.width) ?_ (fld_pl p');repeat' first|refine wk ?_|refine cX (λ_=>?_) λ_=>?_|refine needC zG (by omega) ?_|fail
      · rename_i g1;exact mY kf (by rw[E,if_pos h2,a2,b2,if_pos g1])
      · rename_i g1;exact mN kf (by rw[E,if_pos h2,a2,b2,if_neg g1]) (by decide)
    by_cases h3:i.kind=3
    · obtain⟨o,ho,ej⟩:=kind3 hk h3;repeat' first|refine wk ?_|refine cX (λ_=>?_) λ_=>?_|fail
      refine cal (moperands_com kt5 ok hon hc5 (by omega) hi5 (by omega) ho ej) ?_
      rintro _ h6 n6 ⟨rfl,t6⟩
      have gM:=t6.le
      cases e:opsB m ns ps i o with
      | true=>
       rw[if_pos rfl];repeat' first|refine wk ?_|refine cX (λ_=>?_) λ_=>?_|fail
       exact mY zA (by rw[E,if_neg h2,if_pos h3,ho];show(if opsB m ns ps i o then(0:Int) else 23)=0;rw [e];rfl)
      | false=>
       rw[if_neg aM];repeat' first|refine wk ?_|refine cX (λ_=>?_) λ_=>?_|fail
       exact mN zA (by rw[E,if_neg h2,if_pos h3,ho];show(if opsB m ns ps i o then(0:Int) else 23)=23;rw [e];rfl) (by decide)
    have cat5:zC h' n 0=some (ptr bc 0):=cB5.cell rfl;rw [if_neg h2,if_neg h3]at E;clear dZ rs;repeat' first|refine wk ?_|refine cX (λ_=>?_) λ_=>?_|refine needC zG (by omega) ?_|refine zX (ins1_pur hc5 (by omega) cat5 (by omega) cm5 _) ?_|fail
    all_goals first
     | exact mY zA (by rw[E];simp [*];done)
     | exact mN zA (by rw[E];simp [*];done) (by decide)
end
section
attribute [local simp] vB
variable {n:Nat} {h:zB} {bt:Nat} {c:CodeT}
theorem mcheck_nil{lo:Nat}(cm:CodeM lo h c):Ret P 8 9 [.pointer none,.agg ⟨vT c⟩] h n λw h' n'=>w = .tuple ⟨[I64 0,I64 0,I64 1]⟩∧Tch [] h n h' n':=by
 have o1:=(cm.bl 0).one;refine ent λu=>?_;repeat' first|refine wk ?_|refine cX (λ_=>?_) λ_=>?_|fail
 exact⟨_,rfl,rfl,zA⟩
theorem mins_K{n0 lo lq bc:Nat}{h0:zB}{m:MachT}{ns:List Tx}{ps:List Pl}{v:TabV}{b k:Int}{i:InsT}{last:Bool}{G:Prop}{K:Out→zB→Nat→Prop}[s:IsCall G P 8 24 [ptr bc 0,.agg ⟨insC i⟩,.bool last] h n K]
(kt:TabM lq n0 h0 bt m ns ps v)(ok:MOK m ns ps)(hon:(oNs m).Nodup)(cm:CodeM lo h0 c)(hi:InsM lo h0 i)(dX:lo≤n0)(t:Tch [] h0 n0 h n)(hc:Cel h bc zMk 0 (mkC3 bt c b k))(hb:bc<n)
(k1:sA m ns ps c.slots c.blocks.length i last=0→∀h' n',Tch [] h n h' n'→K (.ret (.tuple #[])) h' n')(k2:sA m ns ps c.slots c.blocks.length i last≠0→∀h' n',Tch [] h n h' n'→K (.panic (wrC b k (sA m ns ps c.slots c.blocks.length i last))) h' n'):G:=by
 have hn:=t.le;refine cal (mins_com (kt.tch t) ok hon hc hb (cm.tch t dX) (hi.tch t dX) (by omega) last) ?_
 rintro _ h' n' ⟨rfl,t'⟩
 by_cases e:sA m ns ps c.slots c.blocks.length i last=0
 · rw[if_pos e];exact k1 e h' n' t'
 · rw[if_neg e];exact k2 e h' n' t'
noncomputable abbrev hpC(h:zB)(n bt:Nat)(c:CodeT):zB:=hal (hal (hal (hal (hal h n (mkC (vT c) (30+1) 0)) (n+1) (mkC [I64 0] (3+1) 0)) (n+1+1) (mkC [I64 0] (3+1) 0)) (n+1+1+1) (mkC [I64 0] (38+1) 0)) (n+1+1+1+1) (mkC (mkC3 bt c 0 0) zMk 0)
theorem mcheck_ret{lo lq:Nat}{m:MachT}{ns:List Tx}{ps:List Pl}{v:TabV}(kt:TabM lq n h bt m ns ps v)(ok:MOK m ns ps)(hon:(oNs m).Nodup)(cm:CodeM lo h c)(dX:lo≤n) :
 Ret P 8 9 [ptr bt 0,.agg ⟨vT c⟩] h n λw h' n'=>∃b k e,w = .tuple ⟨[I64 b,I64 k,I64 e]⟩∧CodeE m ns ps c b k e∧Tch [] h n h' n':=by
 have o1:=(cm.bl 0).one;have gz:=kt.hb.2;have rb0:=cm.bl 0;have t0:Tch [] h n (hpC h n bt c) (n+1+1+1+1+1):=zA;have kt0:=kt.tch t0;have cM0:Cel (hpC h n bt c) (n+1+1+1+1) zMk 0 (mkC3 bt c 0 0):=zG;have cA0:Cel (hpC h n bt c) (n+1) (3+1) 0 [I64 0]:=zG;have cB0:Cel (hpC h n bt c) (n+1+1) (3+1) 0 [I64 0]:=zG;have cC0:Cel (hpC h n bt c) (n+1+1+1) (38+1) 0 [I64 0]:=zG;have cK0:Cel (hpC h n bt c) n (30+1) 0 (vT c):=zG;refine ent λu=>?_;by_cases h200:c.blocks.length≤200
 rotate_left
 · repeat' first|refine wk ?_|refine cX (λ_=>?_) λ_=>?_|refine needC cM0 (by omega) ?_|fail
   refine rF (g:=20) (args:=[]) (cap:=[ptr (n+1) 0,ptr (n+2) 0,ptr (n+3) 0]) (vS (b:=0) (k:=0) (by omega) (by omega) (by omega) (by omega) (by omega) (by omega) zG zG zG 2) ?_
   rintro h9 n9 ⟨t9,c91,c92,c93⟩
   have fZ:Tch [] h n h9 n9:=Tch.tch t9 zA λx hx=>.inl (by simp at hx;omega);clear t9;repeat' first|refine wk ?_|refine cX (λ_=>?_) λ_=>?_|fail
   exact⟨_,rfl,0,0,2,rfl,.inl ⟨by omega,rfl,rfl,rfl⟩,fZ⟩
 cases ep:nameB c.name with
 | false=>
  repeat' first|refine wk ?_|refine cX (λ_=>?_) λ_=>?_|refine needC cM0 (by omega) ?_|fail
  refine rF (g:=20) (args:=[]) (cap:=[ptr (n+1) 0,ptr (n+2) 0,ptr (n+3) 0]) (vS (b:=0) (k:=0) (by omega) (by omega) (by omega) (by omega) (by omega) (by omega) zG zG zG 5) ?_
  rintro h9 n9 ⟨t9,c91,c92,c93⟩
  have fZ:Tch [] h n h9 n9:=Tch.tch t9 zA λx hx=>.inl (by simp at hx;omega);clear t9;repeat' first|refine wk ?_|refine cX (λ_=>?_) λ_=>?_|fail
  exact⟨_,rfl,0,0,5,rfl,.inr ⟨h200,.inl ⟨ep,rfl,rfl,rfl⟩⟩,fZ⟩
 | true=>
 by_cases hsl:0≤c.slots∧c.slots≤m.slots
 rotate_left
 · repeat' first|refine wk ?_|refine cX (λ_=>?_) λ_=>?_|refine needC cM0 (by omega) ?_|refine zX (tslots_pur kt0) ?_|fail
   refine rF (g:=20) (args:=[]) (cap:=[ptr (n+1) 0,ptr (n+2) 0,ptr (n+3) 0]) (vS (b:=0) (k:=0) (by omega) (by omega) (by omega) (by omega) (by omega) (by omega) zG zG zG 24) ?_
   rintro h9 n9 ⟨t9,c91,c92,c93⟩
   have fZ:Tch [] h n h9 n9:=Tch.tch t9 zA λx hx=>.inl (by simp at hx;omega);clear t9;repeat' first|refine wk ?_|refine cX (λ_=>?_) λ_=>?_|fail
   exact⟨_,rfl,0,0,24,rfl,.inr ⟨h200,.inr ⟨ep,.inl ⟨hsl,rfl,rfl,rfl⟩⟩⟩,fZ⟩;refine rF (g:=20) (args:=[]) (cap:=[ptr (n+1) 0,ptr (n+2) 0,ptr (n+3) 0]) (vS (b:=0) (k:=0) (by omega) (by omega) (by omega) (by omega) (by omega) (by omega) zG zG zG 24) ?_
   rintro h9 n9 ⟨t9,c91,c92,c93⟩
   have fZ:Tch [] h n h9 n9:=Tch.tch t9 zA λx hx=>.inl (by simp at hx;omega);clear t9;repeat' first|refine wk ?_|refine cX (λ_=>?_) λ_=>?_|fail
   exact⟨_,rfl,0,0,24,rfl,.inr ⟨h200,.inr ⟨ep,.inl ⟨hsl,rfl,rfl,rfl⟩⟩⟩,fZ⟩
 obtain⟨hs0,fJ⟩:=hsl;by_cases fF:0<c.blocks.length
 rotate_left
 · repeat' first|refine wk ?_|refine cX (λ_=>?_) λ_=>?_|refine needC cM0 (by omega) ?_|refine zX (tslots_pur kt0) ?_|fail
   refine rF (g:=20) (args:=[]) (cap:=[ptr (n+1) 0,ptr (n+2) 0,ptr (n+3) 0]) (vS (b:=0) (k:=0) (by omega) (by omega) (by omega) (by omega) (by omega) (by omega) zG zG zG 20) ?_
   rintro h9 n9 ⟨t9,c91,c92,c93⟩
   have fZ:Tch [] h n h9 n9:=Tch.tch t9 zA λx hx=>.inl (by simp at hx;omega);clear t9;repeat' first|refine wk ?_|refine cX (λ_=>?_) λ_=>?_|fail
   exact⟨_,rfl,0,0,20,rfl,.inr ⟨h200,.inr ⟨ep,.inr ⟨⟨hs0,fJ⟩,.inl ⟨by omega,rfl,rfl,rfl⟩⟩⟩⟩,fZ⟩
 repeat' first|refine wk ?_|refine cX (λ_=>?_) λ_=>?_|refine needC cM0 (by omega) ?_|refine zX (tslots_pur kt0) ?_|fail
 refine lpR (λi:Nat=>[(0,ptr bt 0),(3,ptr n 0),(4,ptr (n+1) 0),(5,ptr (n+1+1) 0),(6,ptr (n+1+1+1) 0),(7,ptr (n+1+1+1+1) 0),(49,c.bv),(50,I64 c.blocks.length),(51,I64 i)])
  (λi h' n'=>Tch [] h n h' n'∧n+4<n'∧(∃b k,Cel h' (n+1+1+1+1) zMk 0 (mkC3 bt c b k))∧Cel h' (n+1) (3+1) 0 [I64 0]∧Cel h' (n+1+1) (3+1) 0 [I64 0]∧Cel h' (n+1+1+1) (38+1) 0 [I64 0]∧i≤c.blocks.length∧∀(j:Nat) x,j<i→c.blocks[j]? = some x→BlkOK m ns ps c x.2) (λi=>c.blocks.length - i) 0
  ⟨t0,by omega,⟨_,_,cM0⟩,cA0,cB0,cC0,am _,λ_ _ hj=>by omega⟩ ?_
 clear t0 kt0 cM0 cA0 cB0 cC0 cK0
 rintro i t h2 n2 ⟨t2,hn2,⟨b,k,cM⟩,cA,cB,cC,hi,dZ⟩
 have cm2:=cm.tch t2 dX;have rb2:=cm2.bl 0;by_cases dV:i<c.blocks.length
 · have d0:c.blocks[i]? = some c.blocks[i]:=aa dV;generalize c.blocks[i]=x at d0
   have hx:=ah d0;obtain⟨rxI,gA⟩:=cm2.el x hx;have ie:=cm.ins x hx;obtain⟨xv,xl⟩:=x;dsimp only at rxI gA ie;have rx:=rxI 0;have ox:=rx.one;have d1:zC h2 (sbk c.bv) (sof c.bv+i*1)=some xv:=by rw[aP];exact rb2.at (by rw[ap,d0];rfl)
   have R:∀{b k e:Int},(b=(i:Nat)∧((¬(1≤xl.length∧xl.length≤25600)∧k=0∧e=20)∨((1≤xl.length∧xl.length≤25600)∧∃(q:Nat) (i:InsT),xl[q]? = some i∧
    (∀(q':Nat) i',q'<q→xl[q']? = some i'→sA m ns ps c.slots c.blocks.length i' (decide (q'=xl.length - 1))=0)∧k=(q:Nat)∧e=sA m ns ps c.slots c.blocks.length i (decide (q=xl.length - 1))∧e≠0)))→CodeE m ns ps c b k e:=λhz=>.inr ⟨h200,.inr ⟨ep,.inr ⟨⟨hs0,fJ⟩,.inr ⟨fF,.inr ⟨i,(xv,xl),d0,dZ,hz.1,hz.2⟩⟩⟩⟩⟩
   by_cases jm:1≤xl.length∧xl.length≤25600
   rotate_left
   · repeat' first|refine wk ?_|refine cX (λ_=>?_) λ_=>?_|refine needC (bt:=bt) (c:=c) (b:=(i:Nat)) (k:=0) zD (by omega) ?_|fail
     refine rF (g:=20) (args:=[]) (cap:=[ptr (n+1) 0,ptr (n+2) 0,ptr (n+3) 0]) (vS (b:=(i:Nat)) (k:=0) (by omega) (by omega) (by omega) (by omega) (by omega) (by omega) zG zG zG 20) ?_
     rintro h9 n9 ⟨t9,c91,c92,c93⟩
     have fZ:Tch [] h n h9 n9:=Tch.tch t9 zA λx hx=>.inl (by simp at hx;omega);clear t9;repeat' first|refine wk ?_|refine cX (λ_=>?_) λ_=>?_|fail
     exact⟨_,rfl,(i:Nat),0,20,rfl,R ⟨rfl,.inl ⟨jm,rfl,rfl⟩⟩,fZ⟩;refine rF (g:=20) (args:=[]) (cap:=[ptr (n+1) 0,ptr (n+2) 0,ptr (n+3) 0]) (vS (b:=(i:Nat)) (k:=0) (by omega) (by omega) (by omega) (by omega) (by omega) (by omega) zG zG zG 20) ?_
     rintro h9 n9 ⟨t9,c91,c92,c93⟩
     have fZ:Tch [] h n h9 n9:=Tch.tch t9 zA λx hx=>.inl (by simp at hx;omega);clear t9;repeat' first|refine wk ?_|refine cX (λ_=>?_) λ_=>?_|fail
     exact⟨_,rfl,(i:Nat),0,20,rfl,R ⟨rfl,.inl ⟨jm,rfl,rfl⟩⟩,fZ⟩
   · obtain⟨gG,fi⟩:=jm;repeat' first|refine wk ?_|refine cX (λ_=>?_) λ_=>?_|refine needC (bt:=bt) (c:=c) (b:=(i:Nat)) (k:=0) zD (by omega) ?_|fail
     refine lpR (λq:Nat=>[(0,ptr bt 0),(3,ptr n 0),(4,ptr (n+1) 0),(5,ptr (n+1+1) 0),(6,ptr (n+1+1+1) 0),(7,ptr (n+1+1+1+1) 0),(49,c.bv),(50,I64 c.blocks.length),(51,I64 i),(8,I64 i),(9,xv),(73,xv),(74,I64 xl.length),(75,I64 q)])
      (λq h' n'=>Tch [] h n h' n'∧n+4<n'∧(∃k,Cel h' (n+1+1+1+1) zMk 0 (mkC3 bt c (i:Nat) k))∧Cel h' (n+1) (3+1) 0 [I64 0]∧Cel h' (n+1+1) (3+1) 0 [I64 0]∧Cel h' (n+1+1+1) (38+1) 0 [I64 0]∧q≤xl.length∧∀(q':Nat) y,q'<q→xl[q']? = some y→sA m ns ps c.slots c.blocks.length y (decide (q'=xl.length - 1))=0) (λq=>xl.length - q) 0
      ⟨zA,by omega,⟨_,zD⟩,zD,zD,zD,am _,λ_ _ hj=>by omega⟩ ?_
     clear cM cA cB cC
     rintro q t h3 n3 ⟨t3,eH,⟨k3,cM⟩,cA,cB,cC,hq,hall2⟩
     have lC:=(cm.tch t3 dX).el (xv,xl) hx |>.1 0;dsimp only at lC;by_cases d5:q<xl.length
     · have f0:xl[q]? = some xl[q]:=aa d5;generalize xl[q]=y at f0
       have c3:=zK lC f0;have hy:=ie y (ah f0);have oy:=(hy.ar 0).one;have el:decide ((q:Int)=(xl.length:Int) - 1)=decide (q=xl.length - 1):=decide_eq_decide.2 (by omega);repeat' first|refine wk ?_|refine cX (λ_=>?_) λ_=>?_|fail
       refine mins_K (b:=(i:Nat)) (k:=(q:Nat)) kt ok hon cm hy dX zA zD (by omega) (λe h4 n4 t4=>?_) (λe h4 n4 t4=>?_)
       · have fL:=t4.le;have cM4:Cel h4 (n+1+1+1+1) zMk 0 (mkC3 bt c (i:Nat) (q:Nat)):=zD;have cA4:Cel h4 (n+1) (3+1) 0 [I64 0]:=zD;have cB4:Cel h4 (n+1+1) (3+1) 0 [I64 0]:=zD;have cC4:Cel h4 (n+1+1+1) (38+1) 0 [I64 0]:=zD;have gN:Tch [] h n h4 n4:=zA;rw [el]at e;clear t4;repeat' first|refine wk ?_|refine cX (λ_=>?_) λ_=>?_|fail
         exact rnd (q+1) ⟨gN,by omega,⟨_,cM4⟩,cA4,cB4,cC4,by omega,λq' y' hq' f1=>by
          rcases ai.1 hq' with h9|rfl
          · exact hall2 q' y' h9 f1
          · rw[f0]at f1;cases f1;exact e⟩
       · have fL:=t4.le;have cM4:Cel h4 (n+1+1+1+1) zMk 0 (mkC3 bt c (i:Nat) (q:Nat)):=zD;have cA4:Cel h4 (n+1) (3+1) 0 [I64 0]:=zD;have cB4:Cel h4 (n+1+1) (3+1) 0 [I64 0]:=zD;have cC4:Cel h4 (n+1+1+1) (38+1) 0 [I64 0]:=zD;have gN:Tch [] h n h4 n4:=zA;rw [el]at e ⊢;clear t4;repeat' first|refine wk ?_|refine cX (λ_=>?_) λ_=>?_|fail
         refine rF (g:=20) (args:=[]) (cap:=[ptr (n+1) 0,ptr (n+2) 0,ptr (n+3) 0]) (vS (b:=(i:Nat)) (k:=(q:Nat)) (by omega) (by omega) (by omega) (by omega) (by omega) (by omega) zG zG zG (sA m ns ps c.slots c.blocks.length y (decide (q=xl.length - 1)))) ?_
         rintro h9 n9 ⟨t9,c91,c92,c93⟩
         have fZ:Tch [] h n h9 n9:=Tch.tch t9 zA λx hx=>.inl (by simp at hx;omega);clear t9;repeat' first|refine wk ?_|refine cX (λ_=>?_) λ_=>?_|fail
         exact⟨_,rfl,(i:Nat),(q:Nat),(sA m ns ps c.slots c.blocks.length y (decide (q=xl.length - 1))),rfl,R ⟨rfl,.inr ⟨⟨gG,fi⟩,q,y,f0,hall2,rfl,rfl,e⟩⟩,fZ⟩
     · obtain rfl:q=xl.length:=by omega
       repeat' first|refine wk ?_|refine cX (λ_=>?_) λ_=>?_|fail
       exact rnd (i+1) ⟨t3,eH,⟨_,_,cM⟩,cA,cB,cC,by omega,λj x' hj f1=>by
        rcases ai.1 hj with h9|rfl
        · exact dZ j x' h9 f1
        · rw[d0]at f1;cases f1;exact⟨⟨gG,fi⟩,λq y f2=>hall2 q y (ab.1 f2).1 f2⟩⟩
 · obtain rfl:i=c.blocks.length:=by omega
   repeat' first|refine wk ?_|refine cX (λ_=>?_) λ_=>?_|fail
   refine lv_none (g:=20) (args:=[]) (cap:=[ptr (n+1) 0,ptr (n+2) 0,ptr (n+3) 0]) mchk1_none ?_
   rintro h9 n9 t9
   have cA9:Cel h9 (n+1) (3+1) 0 [I64 0]:=zD;have cB9:Cel h9 (n+1+1) (3+1) 0 [I64 0]:=zD;have cC9:Cel h9 (n+1+1+1) (38+1) 0 [I64 0]:=zD;have fZ:Tch [] h n h9 n9:=zA;clear t9;repeat' first|refine wk ?_|refine cX (λ_=>?_) λ_=>?_|fail
   exact⟨_,rfl,0,0,0,rfl,.inr ⟨h200,.inr ⟨ep,.inr ⟨⟨hs0,fJ⟩,.inr ⟨fF,.inl ⟨λj x f1=>dZ j x (ab.1 f1).1 f1,rfl,rfl,rfl⟩⟩⟩⟩⟩,fZ⟩
end
section
theorem long_com{lo e n:Nat}{h:zB}{sv:Value}{l:List Tx}(r:Row lo h sv e 1 l.length (l.map str))(hl:l.length<vD)(ht:∀x∈l,x.length<vD):Com P 8 17 [sv] h n λo h' n'=>∃k:Nat,o = .ret (I64 (k:Nat))∧k<2*vD∧h'=h∧n'=n:=by
 have d9:vD=1125899906842624:=rfl;refine ent λu=>?_;repeat' first|refine wk ?_|refine cX (λ_=>?_) λ_=>?_|fail
 refine lpR (α :=Nat×Nat) (λa=>[(0,sv),(3,I64 a.2),(4,I64 a.1)]) (λa h' n'=>h'=h∧n'=n∧a.1≤l.length∧a.2<2*vD) (λa=>l.length - a.1) (0,l.length) ⟨rfl,rfl,am _,by dsimp only;omega⟩ ?_
 rintro ⟨i,k⟩ t h' n' ⟨rfl,rfl,hi,hk⟩
 dsimp only at hi hk ⊢;by_cases dV:i<l.length
 · have c0:l[i]? = some l[i]:=aa dV;have hx:=ht _ (aR dV);generalize l[i]=x at c0 hx
   have c1:=xF r c0;by_cases hg:k≤5000
   · repeat' first|refine wk ?_|refine cX (λ_=>?_) λ_=>?_|fail
     exact rnd (i+1,k+x.length / 8) ⟨rfl,rfl,by omega,by dsimp only;omega⟩
   · repeat' first|refine wk ?_|refine cX (λ_=>?_) λ_=>?_|fail
     exact⟨k,rfl,by omega,rfl,rfl⟩
 · obtain rfl:i=l.length:=by omega
   repeat' first|refine wk ?_|refine cX (λ_=>?_) λ_=>?_|fail
   exact⟨k,rfl,by omega,rfl,rfl⟩
theorem size_com:∀(d:Nat) {l:List RegT} {x:Int} {sv:Value} {lo n:Nat} {h:zB},d≤30→x=(d:Nat)→RegsM lo h sv l→lo≤n→TxtR l→Com P 8 16 [sv,I64 x] h n λo h' n'=>∃k:Nat,o = .ret (I64 (k:Nat))∧k<(d+1)*9007199254740992∧h'=h∧n'=n:=by
 intro d
 induction d with
 | zero=>
  rintro l x sv lo n h - rfl hr dX ht
  have r:=hr.row 0;have hl:=ht.len;have md:vD=1125899906842624:=rfl;refine ent λu=>?_;repeat' first|refine wk ?_|refine cX (λ_=>?_) λ_=>?_|fail
  refine lpR (λ_:Nat=>[(0,sv),(1,I64 ((0:Nat):Int)),(5,I64 l.length),(6,I64 0)]) (λ_ h' n'=>h'=h∧n'=n) (λ_=>0) 0 ⟨rfl,rfl⟩ ?_
  rintro i t h' n' ⟨rfl,rfl⟩
  by_cases dV:0<l.length
  · repeat' first|refine wk ?_|refine cX (λ_=>?_) λ_=>?_|fail
    · exact⟨5001,rfl,by omega,rfl,rfl⟩
    · exact⟨l.length,rfl,by omega,rfl,rfl⟩
  · repeat' first|refine wk ?_|refine cX (λ_=>?_) λ_=>?_|fail
    exact⟨l.length,rfl,by omega,rfl,rfl⟩
 | succ d ih=>
  rintro l x sv lo n h hd rfl hr dX ht
  have d9:vD=1125899906842624:=rfl;have r:=hr.row 0;have hl:=ht.len;have md:vD=1125899906842624:=rfl;refine ent λu=>?_;repeat' first|refine wk ?_|refine cX (λ_=>?_) λ_=>?_|fail
  refine lpR (α :=Nat×Nat) (λa=>[(0,sv),(1,I64 ((d+1:Nat):Int)),(5,I64 a.2),(6,I64 a.1)]) (λa h' n'=>h'=h∧n'=n∧a.1≤l.length∧a.2<(d+1+1)*9007199254740992) (λa=>l.length - a.1) (0,l.length) ⟨rfl,rfl,am _,by dsimp only;omega⟩ ?_
  rintro ⟨i,k⟩ t h' n' ⟨rfl,rfl,hi,hk⟩
  dsimp only at hi hk ⊢;by_cases dV:i<l.length
  · have c0:l[i]? = some l[i]:=aa dV;generalize l[i]=x at c0
    have hm:=ah c0;obtain⟨hx,hs⟩:=ht.at hm;have c1:=yN (zK r c0) (j:=0) rfl;have low:=r.low (by omega);have c3:=yN (zK r c0) (j:=3) rfl;by_cases hg:k≤5000
    · repeat' first|refine wk ?_|refine cX (λ_=>?_) λ_=>?_|fail
      refine cal (ih (by omega) (by omega) (hr.sub hm) dX hs) ?_
      rintro _ _ _ ⟨k2,rfl,hk2,rfl,rfl⟩
      repeat' first|refine wk ?_|refine cX (λ_=>?_) λ_=>?_|fail
      exact rnd (i+1,k+x.name.length / 8+k2) ⟨rfl,rfl,by omega,by dsimp only;omega⟩
    · repeat' first|refine wk ?_|refine cX (λ_=>?_) λ_=>?_|fail
      exact⟨k,rfl,by omega,rfl,rfl⟩
  · obtain rfl:i=l.length:=by omega
    repeat' first|refine wk ?_|refine cX (λ_=>?_) λ_=>?_|fail
    exact⟨k,rfl,by omega,rfl,rfl⟩
end
section
variable {lo n:Nat} {h:zB} {m:MachT}
theorem bn_quo8s{P:Program}{ty:Nat}{ox oy:Operand}{a b:Nat}(h:((a+b:Nat):Int)<9223372036854775808):Bn P .quo ty ox oy (I64 ((a:Nat)+(b:Nat))) (I64 8) (I64 (((a+b) / 8:Nat):Int)):=by
 rw[← Int.natCast_add];exact bn_quo8 h
theorem big_com(mm:MachM lo h m)(dX:lo≤n)(tx:TxtM m):Com P 8 6 [.agg ⟨yU m⟩] h n λo h' n'=>∃b,o = .ret (.bool b)∧Tch [] h n h' n':=by
 obtain⟨o1,o2,o3,o4,o5⟩:=sO mm;have ht:vD=1125899906842624:=rfl;have g0:=tx.nm;have g5:=tx.re;have g2:=tx.cll;have g3:=tx.opl;refine ent λu=>?_;repeat' first|refine wk ?_|refine cX (λ_=>?_) λ_=>?_|fail
 have t1:Tch [] h n (hal h n (mkC (yU m) zMc 0)) (n+1):=zA;have c1:Cel (hal h n (mkC (yU m) zMc 0)) n zMc 0 (yU m):=cel_hal _ _ _ _ _;have m1:=mm.tch t1 dX;have za:=m1.args 0;have zs:=m1.saved 0;have zr:=m1.regs.row 0;have zc:=m1.cls 0;have zo:=m1.ops 0;generalize hal h n (mkC (yU m) zMc 0)=h1 at *
 refine cal (size_com 30 (ae _) rfl m1.regs (by omega) tx.rg) ?_
 rintro _ _ _ ⟨k1,rfl,hk1,rfl,rfl⟩
 repeat' first|refine wk ?_|refine cX (λ_=>?_) λ_=>?_|fail
 refine cal (long_com (m1.args 0) tx.ar.1 tx.ar.2) ?_
 rintro _ _ _ ⟨k2,rfl,hk2,rfl,rfl⟩
 repeat' first|refine wk ?_|refine cX (λ_=>?_) λ_=>?_|fail
 refine cal (long_com (m1.saved 0) tx.sv.1 tx.sv.2) ?_
 rintro _ _ _ ⟨k3,rfl,jS,rfl,rfl⟩
 repeat' first|refine wk ?_|refine cX (λ_=>?_) λ_=>?_|fail
 refine lpR (α :=Nat×Nat) (λa=>[(1,ptr n 0),(3,I64 a.2),(4,I64 a.1)]) (λa h' n'=>h'=_∧n'=n+1∧a.1≤m.classes.length∧a.2<33*9007199254740992) (λa=>m.classes.length - a.1) (0,k1+k2+k3+m.name.length / 8+m.result.length / 8) ⟨rfl,rfl,am _,by dsimp only;omega⟩ ?_
 rintro ⟨i,k⟩ t h' n' ⟨rfl,rfl,hi,hk⟩
 dsimp only at hi hk ⊢;by_cases dV:i<m.classes.length∧k≤5000
 · obtain⟨dV,hg⟩:=dV;have d0:m.classes[i]? = some m.classes[i]:=aa dV;generalize m.classes[i]=c at d0
   have hcm:=ah d0;obtain⟨x1,x2⟩:=tx.cl c hcm;have d1:=yN (zK zc d0) (j:=0) rfl;have d2:=yN (zK zc d0) (j:=1) rfl;have low:=zc.low (by omega);have zr2:=m1.clsr c hcm 0;repeat' first|refine wk ?_|refine cX (λ_=>?_) λ_=>?_|fail
   refine cal (long_com zr2 x2.1 x2.2) ?_
   rintro _ _ _ ⟨q,rfl,hq,rfl,rfl⟩
   repeat' first|refine wk ?_|refine cX (λ_=>?_) λ_=>?_|fail
   exact rnd (i+1,k+1+q+c.name.length / 8) ⟨rfl,rfl,by omega,by dsimp only;omega⟩
 · by_cases d5:i<m.classes.length
   · have hg:¬k≤5000:=λh9=>dV ⟨d5,h9⟩;repeat' first|refine wk ?_|refine cX (λ_=>?_) λ_=>?_|fail
     have cM:=c1;have tM:=t1;refine lpR (α :=Nat×Nat) (λa=>[(1,ptr n 0),(3,I64 a.2),(5,I64 a.1)]) (λa h2 n2=>Tch [] h n h2 n2∧n+1≤n2∧Cel h2 n zMc 0 (yU m)∧a.1≤m.ops.length∧a.2<64*9007199254740992) (λa=>m.ops.length - a.1) (0,k) ⟨t1,ae _,c1,am _,by dsimp only;omega⟩ ?_
     rintro ⟨i2,k4⟩ t h2 n2 ⟨t2,hn2,c2,fc,hk4⟩
     dsimp only at fc hk4 ⊢;have m2:=mm.tch t2 dX;have zo2:=m2.ops 0;by_cases hlt3:i2<m.ops.length
     · by_cases hg3:k4≤5000
       · have d0:m.ops[i2]? = some m.ops[i2]:=aa hlt3;generalize m.ops[i2]=o at d0
         have eU:=ah d0;obtain⟨x1,x2,x3,x4,x5,x6⟩:=tx.op o eU;have d1:=zK zo2 d0;have low:=zo2.low (by omega);have zu:=m2.opsu o eU 0;have zv:=m2.opsc o eU 0;have ou1:=zu.one;have oc1:=zv.one;repeat' first|refine wk ?_|refine cX (λ_=>?_) λ_=>?_|fail
         have t3:Tch [] h n (hst (hal h2 n2 (mkC [str [],str [],str [],.slice none 0 0,I64 0,.slice none 0 0] (eOp+1) 0)) n2 0 (opC o)) (n2+1):=zA;have cO:Cel (hst (hal h2 n2 (mkC [str [],str [],str [],.slice none 0 0,I64 0,.slice none 0 0] (eOp+1) 0)) n2 0 (opC o)) n2 (eOp+1) 0 (opC o):=zD;have cM3:Cel (hst (hal h2 n2 (mkC [str [],str [],str [],.slice none 0 0,I64 0,.slice none 0 0] (eOp+1) 0)) n2 0 (opC o)) n zMc 0 (yU m):=zD;have m3:=mm.tch t3 dX;generalize (hst (hal h2 n2 (mkC [str [],str [],str [],.slice none 0 0,I64 0,.slice none 0 0] (eOp+1) 0)) n2 0 (opC o))=h3 at *
         have zu3:=m3.opsu o eU 0;have zv3:=m3.opsc o eU 0;refine cal (long_com zv3 x6.1 x6.2) ?_
         rintro _ _ _ ⟨q5,rfl,hq5,rfl,rfl⟩
         repeat' first|refine wk ?_|refine cX (λ_=>?_) λ_=>?_|refine ob (a:=_) ?_ (bn_quo8s (by omega))|fail
         refine lpR (α :=Nat×Nat) (λa=>[(1,ptr n 0),(3,I64 a.2),(5,I64 i2),(6,ptr n2 0),(7,I64 a.1)]) (λa h5 n5=>h5=_∧n5=n2+1∧a.1≤o.uses.length∧a.2<63*9007199254740992) (λa=>o.uses.length - a.1) (0,k4+2+q5+o.name.length / 8+(o.d.cls.length+o.d.fix.length) / 8+o.uses.length) ⟨rfl,rfl,am _,by dsimp only;omega⟩ ?_
         rintro ⟨e,k6⟩ t h5 n5 ⟨rfl,rfl,he,hk6⟩
         dsimp only at he hk6 ⊢;by_cases hlt4:e<o.uses.length
         · by_cases hg4:k6≤5000
           · have e0:o.uses[e]? = some o.uses[e]:=aa hlt4;generalize o.uses[e]=x at e0
             obtain⟨y1,y2⟩:=x5 x (ah e0);have e1:=yN (zK zu3 e0) (j:=0) rfl;have e2:=yN (zK zu3 e0) (j:=1) rfl;have low3:=zu3.low (by omega);repeat' first|refine wk ?_|refine cX (λ_=>?_) λ_=>?_|refine ob (a:=_) ?_ (bn_quo8s (by omega))|fail
             exact rnd (e+1,k6+(x.cls.length+x.fix.length) / 8) ⟨rfl,rfl,by omega,by dsimp only;omega⟩
           · repeat' first|refine wk ?_|refine cX (λ_=>?_) λ_=>?_|fail
             exact rnd (i2+1,k6) ⟨t3,by omega,cM3,by dsimp only;omega,by dsimp only;omega⟩
         · obtain rfl:e=o.uses.length:=by omega
           repeat' first|refine wk ?_|refine cX (λ_=>?_) λ_=>?_|fail
           exact rnd (i2+1,k6) ⟨t3,by omega,cM3,by dsimp only;omega,by dsimp only;omega⟩
       · repeat' first|refine wk ?_|refine cX (λ_=>?_) λ_=>?_|fail
         exact⟨_,rfl,t2⟩
     · obtain rfl:i2=m.ops.length:=by omega
       repeat' first|refine wk ?_|refine cX (λ_=>?_) λ_=>?_|fail
       exact⟨_,rfl,t2⟩
   · obtain rfl:i=m.classes.length:=by omega
     repeat' first|refine wk ?_|refine cX (λ_=>?_) λ_=>?_|fail
     have cM:=c1;have tM:=t1;refine lpR (α :=Nat×Nat) (λa=>[(1,ptr n 0),(3,I64 a.2),(5,I64 a.1)]) (λa h2 n2=>Tch [] h n h2 n2∧n+1≤n2∧Cel h2 n zMc 0 (yU m)∧a.1≤m.ops.length∧a.2<64*9007199254740992) (λa=>m.ops.length - a.1) (0,k) ⟨t1,ae _,c1,am _,by dsimp only;omega⟩ ?_
     rintro ⟨i2,k4⟩ t h2 n2 ⟨t2,hn2,c2,fc,hk4⟩
     dsimp only at fc hk4 ⊢;have m2:=mm.tch t2 dX;have zo2:=m2.ops 0;by_cases hlt3:i2<m.ops.length
     · by_cases hg3:k4≤5000
       · have d0:m.ops[i2]? = some m.ops[i2]:=aa hlt3;generalize m.ops[i2]=o at d0
         have eU:=ah d0;obtain⟨x1,x2,x3,x4,x5,x6⟩:=tx.op o eU;have d1:=zK zo2 d0;have low:=zo2.low (by omega);have zu:=m2.opsu o eU 0;have zv:=m2.opsc o eU 0;have ou1:=zu.one;have oc1:=zv.one;repeat' first|refine wk ?_|refine cX (λ_=>?_) λ_=>?_|fail
         have t3:Tch [] h n (hst (hal h2 n2 (mkC [str [],str [],str [],.slice none 0 0,I64 0,.slice none 0 0] (eOp+1) 0)) n2 0 (opC o)) (n2+1):=zA;have cO:Cel (hst (hal h2 n2 (mkC [str [],str [],str [],.slice none 0 0,I64 0,.slice none 0 0] (eOp+1) 0)) n2 0 (opC o)) n2 (eOp+1) 0 (opC o):=zD;have cM3:Cel (hst (hal h2 n2 (mkC [str [],str [],str [],.slice none 0 0,I64 0,.slice none 0 0] (eOp+1) 0)) n2 0 (opC o)) n zMc 0 (yU m):=zD;have m3:=mm.tch t3 dX;generalize (hst (hal h2 n2 (mkC [str [],str [],str [],.slice none 0 0,I64 0,.slice none 0 0] (eOp+1) 0)) n2 0 (opC o))=h3 at *
         have zu3:=m3.opsu o eU 0;have zv3:=m3.opsc o eU 0;refine cal (long_com zv3 x6.1 x6.2) ?_
         rintro _ _ _ ⟨q5,rfl,hq5,rfl,rfl⟩
         repeat' first|refine wk ?_|refine cX (λ_=>?_) λ_=>?_|refine ob (a:=_) ?_ (bn_quo8s (by omega))|fail
         refine lpR (α :=Nat×Nat) (λa=>[(1,ptr n 0),(3,I64 a.2),(5,I64 i2),(6,ptr n2 0),(7,I64 a.1)]) (λa h5 n5=>h5=_∧n5=n2+1∧a.1≤o.uses.length∧a.2<63*9007199254740992) (λa=>o.uses.length - a.1) (0,k4+2+q5+o.name.length / 8+(o.d.cls.length+o.d.fix.length) / 8+o.uses.length) ⟨rfl,rfl,am _,by dsimp only;omega⟩ ?_
         rintro ⟨e,k6⟩ t h5 n5 ⟨rfl,rfl,he,hk6⟩
         dsimp only at he hk6 ⊢;by_cases hlt4:e<o.uses.length
         · by_cases hg4:k6≤5000
           · have e0:o.uses[e]? = some o.uses[e]:=aa hlt4;generalize o.uses[e]=x at e0
             obtain⟨y1,y2⟩:=x5 x (ah e0);have e1:=yN (zK zu3 e0) (j:=0) rfl;have e2:=yN (zK zu3 e0) (j:=1) rfl;have low3:=zu3.low (by omega);repeat' first|refine wk ?_|refine cX (λ_=>?_) λ_=>?_|refine ob (a:=_) ?_ (bn_quo8s (by omega))|fail
             exact rnd (e+1,k6+(x.cls.length+x.fix.length) / 8) ⟨rfl,rfl,by omega,by dsimp only;omega⟩
           · repeat' first|refine wk ?_|refine cX (λ_=>?_) λ_=>?_|fail
             exact rnd (i2+1,k6) ⟨t3,by omega,cM3,by dsimp only;omega,by dsimp only;omega⟩
         · obtain rfl:e=o.uses.length:=by omega
           repeat' first|refine wk ?_|refine cX (λ_=>?_) λ_=>?_|fail
           exact rnd (i2+1,k6) ⟨t3,by omega,cM3,by dsimp only;omega,by dsimp only;omega⟩
       · repeat' first|refine wk ?_|refine cX (λ_=>?_) λ_=>?_|fail
         exact⟨_,rfl,t2⟩
     · obtain rfl:i2=m.ops.length:=by omega
       repeat' first|refine wk ?_|refine cX (λ_=>?_) λ_=>?_|fail
       exact⟨_,rfl,t2⟩
end
end Go.Proofs.YtmccnilgnlaffaaGreatDoor
