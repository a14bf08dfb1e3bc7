/- What the law leans on, part 15 of 22. Conditions: those that each theorem states. -/
import Derived.Test.YtmccnilgnlaffaaGreatDoorMachChecksx13
import Derived.Test.YtmccnilgnlaffaaGreatDoorMachChecksx12
import Derived.Test.YtmccnilgnlaffaaGreatDoorMachChecksx9

set_option linter.unusedVariables false
set_option linter.unusedSimpArgs false
namespace Go.Proofs.YtmccnilgnlaffaaGreatDoor
open Go Go.Ex Go.Ex.M
set_option maxRecDepth 100000
set_option maxHeartbeats 8000000
section
abbrev stopG(e:Int):zI:=[⟨.iface 153 (.agg ⟨[I64 e]⟩),false,false⟩]
theorem gneed_com(z:Bool)(e:Int)(h:zB)(n:Nat):Com P 8 141 [.bool z,I64 e] h n λo h' n'=>o=(if z then .ret (.tuple #[]) else .panic (stopG e))∧h'=h∧n'=n:=by
 refine ent λu=>?_;cases z
 · repeat' first|refine wk ?_|refine cX (λ_=>?_) λ_=>?_|fail
   exact⟨rfl,rfl,rfl⟩
 · repeat' first|refine wk ?_|refine cX (λ_=>?_) λ_=>?_|fail
   exact⟨rfl,rfl,rfl⟩
instance {z:Bool} {e:Int} {h:zB} {n:Nat} {K:Out→zB→Nat→Prop}:Stp (CallB P 8 141 [.bool z,I64 e] h n K) (Ch z (K (.ret (.tuple #[])) h n) (K (.panic (stopG e)) h n)):=⟨λ⟨k1,k2⟩=>cal (gneed_com z e h n) λo h' n' ⟨e1,e2,e3⟩=>by
 subst e1 e2 e3;cases z
 · exact k2 rfl
 · exact k1 rfl⟩
theorem places1_none{b1 b2 b3:Nat}{h:zB}{n:Nat}:Def P 8 83 [ptr b1 0,ptr b2 0,ptr b3 0] none h n λu' h' n'=>u'=none∧Tch [] h n h' n':=by
 refine entD ?_;repeat' first|refine wk ?_|refine cX (λ_=>?_) λ_=>?_|fail
 exact⟨_,rfl,rfl,zA⟩
theorem places1_some{b1 b2 b3 z1 z2 z3:Nat}{h:zB}{n:Nat}{v1 v2:Value}{e0 e:Int}(h1:b1<n)(h2:b2<n)(h3:b3<n)(h12:b1≠b2)(h13:b1≠b3)(h23:b2≠b3)(c1:Cel h b1 z1 0 [v1])(c2:Cel h b2 z2 0 [v2])(c3:Cel h b3 z3 0 [I64 e0]):Def P 8 83 [ptr b1 0,ptr b2 0,ptr b3 0] (some (stopG e)) h n λu' h' n'=>u'=some [⟨.iface 153 (.agg ⟨[I64 e]⟩),true,false⟩]∧Tch [b1,b2,b3] h n h' n'∧Cel h' b1 z1 0 [.slice none 0 0]∧Cel h' b2 z2 0 [.slice none 0 0]∧Cel h' b3 z3 0 [I64 e]:=by
 refine entD ?_;repeat' first|refine wk ?_|refine cX (λ_=>?_) λ_=>?_|fail
 exact⟨_,rfl,rfl,zA,zD,zD,zD⟩
end
section
theorem all_ret{h:zB}{n:Nat}{sv:Value}(ho:sv.oneCell'=true):Ret P 8 84 [sv] h n λv h' n'=>∃pl,v = .func (.func 139) ⟨[]⟩ ⟨[ptr pl 0]⟩∧n≤pl∧pl<n'∧zC h' pl 0=some sv∧Tch [] h n h' n':=by
 refine ent λu=>?_;repeat' first|refine wk ?_|refine cX (λ_=>?_) λ_=>?_|fail
 exact⟨_,rfl,n,rfl,by omega,by omega,zM,zA⟩
end
section
theorem cel_same{h h':zB}{b z kd:Nat}{vs:List Value}(c:Cel h b z kd vs)(e:zF h' b=zF h b):Cel h' b z kd vs:=by
 unfold Cel zC;rw [e];exact c
theorem down_com{lo L:Nat}{elems:List (RegT×Int)}{J:List (RegT×Int)→zB→Nat→Prop}{JF:zB→Nat→Prop}{JP:zI→zB→Nat→Prop}
(hE:∀done h' n',J done h' n'→lo≤n')(eG:∀done h' n' h2 n2,J done h' n'→Tch [] h' n' h2 n2→J done h2 n2)
(hkeep:∀done h' n' sv l,J done h' n'→∀h0 n0,J [] h0 n0→RegsM lo h0 sv l→RegsM lo h' sv l)
(hy:∀done e h' n',J done h' n'→(done++[e]) <+: elems→Rou P 8 L [.agg ⟨deepC e⟩] h' n' λr h2 n2=>n'≤n2∧((r = .ret (.bool true)∧J (done++[e]) h2 n2∧∀b,b<n'→yZ (zF h' b)=some (4,52+1,0)→zF h2 b=zF h' b)∨(r = .ret (.bool false)∧JF h2 n2)∨∃c,r = .panic c∧JP c h2 n2))
{h0:zB}{n0:Nat}(hj0:J [] h0 n0):∀(k:Nat) (d:Int) (l:List RegT) (sv:Value) (done:List (RegT×Int)) (h:zB) (n:Nat),d+k=8→0<d→RegsM lo h0 sv l→J done h n→(done++preL k d l) <+: elems→
 Com P 8 140 [sv,I64 d,.func (.yield L) #[] #[]] h n λo h' n'=>n≤n'∧((o = .ret (.bool true)∧J (done++preL k d l) h' n')∨(o = .ret (.bool false)∧JF h' n')∨∃c,o = .panic c∧JP c h' n'):=by
 intro k
 induction k with
 | zero=>
  intro d l sv done h n hd h0d hr hj hp;refine ent λu=>?_;repeat' first|refine wk ?_|refine cX (λ_=>?_) λ_=>?_|fail
  exact⟨ae _,.inl ⟨rfl,by unfold preL;rw [bK];exact hj⟩⟩
 | succ k ih=>
  intro d l sv done h n hd h0d hr hj hp;have dX:=hE _ _ _ hj;have hrm:=hkeep _ _ _ _ _ hj _ _ hj0 hr;have r:=hrm.row 0;have hl:=hrm.row.lt;have d9:inf<4611686018427387904:=by decide
  refine ent λu=>?_;repeat' first|refine wk ?_|refine cX (λ_=>?_) λ_=>?_|fail
  refine lpR (λi:Nat=>[(1,I64 d),(2,.func (.yield L) #[] #[]),(11,sv),(12,I64 l.length),(13,I64 i)]) (λi h' n'=>n≤n'∧i≤l.length∧J (done++preL (k+1) d (l.take i)) h' n') (λi=>l.length - i) 0 ⟨ae _,am _,by unfold preL;simpa using hj⟩ ?_
  rintro i t h' n' ⟨eu,hi,eV⟩
  have hlo':=hE _ _ _ eV;have hrm':=hkeep _ _ _ _ _ eV _ _ hj0 hr;have r':=hrm'.row 0;have gG:=r'.low;by_cases dV:i<l.length
  · have c0:l[i]? = some l[i]:=aa dV;generalize l[i]=x at c0
    have c1:=zK r' c0;have jt:=ah c0;have eQ:=((hrm'.sub jt).row 0).one
    have hpre:(done++preL (k+1) d (l.take i))++((x,d)::preL k (d+1) x.subs) <+: elems:=by
     rw[aN,← pre_snoc c0];exact List.IsPrefix.trans ((cJ done).2 pre_take) hp
    have mf:(done++preL (k+1) d (l.take i))++[(x,d)] <+: elems:=List.IsPrefix.trans ((cJ _).2 ⟨preL k (d+1) x.subs,rfl⟩) hpre;repeat' first|refine wk ?_|refine cX (λ_=>?_) λ_=>?_|fail
    have jI:Cel (hst (hal h' n' (mkC [str [],I64 0,I64 0,.slice none 0 0] (52+1) 0)) n' 0 [str x.name,I64 x.w,I64 x.a,x.sv]) n' (52+1) 0 (regC x):=zD;refine inv_yield (fs:=[]) (cs:=[]) ((hy _ (x,d) _ _ (eG _ _ _ _ _ eV zA) mf).mono ?_)
    rintro _ h2 n2 ⟨hn2,⟨rfl,ji,hsame⟩|⟨rfl,hf⟩|⟨c,rfl,jy⟩⟩
    · have hc9:=cel_same jI (hsame n' (by omega) jI.1);repeat' first|refine wk ?_|refine cX (λ_=>?_) λ_=>?_|fail
      refine cal (ih (d+1) x.subs x.sv _ h2 n2 (by omega) (by omega) (hr.sub jt) ji (by rw[aN];exact hpre)) ?_
      rintro _ h3 n3 ⟨eH,⟨rfl,hj3⟩|⟨rfl,hf⟩|⟨c,rfl,jy⟩⟩
      · repeat' first|refine wk ?_|refine cX (λ_=>?_) λ_=>?_|fail
        exact rnd (i+1) ⟨by omega,by omega,by rw[pre_snoc c0,← aN];rw [aN]at hj3;exact hj3⟩
      · repeat' first|refine wk ?_|refine cX (λ_=>?_) λ_=>?_|fail
        exact⟨by omega,.inr (.inl ⟨rfl,hf⟩)⟩
      · repeat' first|refine wk ?_|refine cX (λ_=>?_) λ_=>?_|fail
        exact⟨by omega,.inr (.inr ⟨c,rfl,jy⟩)⟩
    · repeat' first|refine wk ?_|refine cX (λ_=>?_) λ_=>?_|fail
      exact⟨by omega,.inr (.inl ⟨rfl,hf⟩)⟩
    · repeat' first|refine wk ?_|refine cX (λ_=>?_) λ_=>?_|fail
      exact⟨by omega,.inr (.inr ⟨c,rfl,jy⟩)⟩
  · obtain rfl:i=l.length:=by omega
    repeat' first|refine wk ?_|refine cX (λ_=>?_) λ_=>?_|fail
    rw[bG]at eV;exact⟨eu,.inl ⟨rfl,eV⟩⟩
theorem all1_com{lo L pl:Nat}{l:List RegT}{sv:Value}{J:List (RegT×Int)→zB→Nat→Prop}{JF:zB→Nat→Prop}{JP:zI→zB→Nat→Prop}
(hE:∀done h' n',J done h' n'→lo≤n')(eG:∀done h' n' h2 n2,J done h' n'→Tch [] h' n' h2 n2→J done h2 n2)
(hkeep:∀done h' n' sv l,J done h' n'→∀h0 n0,J [] h0 n0→RegsM lo h0 sv l→RegsM lo h' sv l)
(hy:∀done e h' n',J done h' n'→(done++[e]) <+: preL 7 1 l→Rou P 8 L [.agg ⟨deepC e⟩] h' n' λr h2 n2=>n'≤n2∧((r = .ret (.bool true)∧J (done++[e]) h2 n2∧∀b,b<n'→yZ (zF h' b)=some (4,52+1,0)→zF h2 b=zF h' b)∨(r = .ret (.bool false)∧JF h2 n2)∨∃c,r = .panic c∧JP c h2 n2))
{h:zB}{n:Nat}(hj:J [] h n)(hr:RegsM lo h sv l)(hc:zC h pl 0=some sv):Com P 8 139 [.func (.yield L) #[] #[],ptr pl 0] h n λo h' n'=>n≤n'∧((o = .ret (.tuple #[])∧(J (preL 7 1 l) h' n'∨JF h' n'))∨∃c,o = .panic c∧JP c h' n'):=by
 refine ent λu=>?_;repeat' first|refine wk ?_|refine cX (λ_=>?_) λ_=>?_|fail
 refine cal (down_com hE eG hkeep hy hj 7 1 l sv [] h n (by decide) (by decide) hr hj (by simp)) ?_
 rintro _ h2 n2 ⟨hn,⟨rfl,ji⟩|⟨rfl,hf⟩|⟨c,rfl,hp⟩⟩
 · repeat' first|refine wk ?_|refine cX (λ_=>?_) λ_=>?_|fail
   exact⟨hn,.inl ⟨rfl,.inl ji⟩⟩
 · repeat' first|refine wk ?_|refine cX (λ_=>?_) λ_=>?_|fail
   exact⟨hn,.inl ⟨rfl,.inr hf⟩⟩
 · repeat' first|refine wk ?_|refine cX (λ_=>?_) λ_=>?_|fail
   exact⟨hn,.inr ⟨c,rfl,hp⟩⟩
end
section
abbrev eStr:Nat:=9
abbrev ePl:Nat:=135
structure Ck (lo:Nat) (h:zB) (bc z:Nat) (m:MachT) (nsv psv:Value) (ns:List Tx) (ps:List Pl):Prop where
 mm:MachM lo h m
 cel:Cel h bc z 0 (yU m++[nsv,psv])
 rn:Row lo h nsv eStr 1 ns.length (ns.map str)
 rp:Row lo h psv ePl 3 ps.length (ps.flatMap plC)
 hb:bc<lo
 hl:ps.length=ns.length
 hn:ns.length≤200
 ok:∀p∈ps,PlOK p
theorem cls1_pur(x:ClassT)(ho:x.rsv.oneCell'=true)(h:zB)(n:Nat):Pur P 8 174 [.agg ⟨clsC x⟩] h n (str x.name):=by
 refine Com.pure (ent λu=>?_) (.inl rfl);repeat' first|refine wk ?_|refine cX (λ_=>?_) λ_=>?_|fail
 exact finT rfl zA
theorem op1_pur(x:OpT)(ho:x.usv.oneCell'=true∧x.csv.oneCell'=true)(h:zB)(n:Nat):Pur P 8 177 [.agg ⟨opC x⟩] h n (str x.name):=by
 obtain⟨fG,ho2⟩:=ho;refine Com.pure (ent λu=>?_) (.inl rfl);repeat' first|refine wk ?_|refine cX (λ_=>?_) λ_=>?_|fail
 exact finT rfl zA
theorem index_op1{b1 b2:Nat}{h:zB}{n:Nat}{x:OpT}{s:Tx}(ho:x.usv.oneCell'=true∧x.csv.oneCell'=true)(c1:zC h b1 0=some (.func (.func 177) ⟨[]⟩ ⟨[]⟩))(c2:zC h b2 0=some (str s))(fw:b1<n)(hb2:b2<n):Pur P 8 197 [.agg ⟨opC x⟩,ptr b1 0,ptr b2 0] h n (.bool (decide (x.name=s))):=by
 refine Com.pure (ent λu=>?_) (.inl rfl);have fP:=ho;try obtain⟨fG,ho2⟩:=ho
 repeat' first|refine wk ?_|refine cX (λ_=>?_) λ_=>?_|refine zX (op1_pur x fP _ _) ?_|fail
 exact finT rfl zA
theorem index_op{lo e n:Nat}{h:zB}{sv:Value}{l:List OpT}{s:Tx}(r:Row lo h sv e 6 l.length (l.flatMap opC))(hl:l.length<inf)(dX:lo≤n)(eQ:∀x∈l,x.usv.oneCell'=true∧x.csv.oneCell'=true):Pur P 8 176 [sv,str s,.func (.func 177) ⟨[]⟩ ⟨[]⟩] h n (I64 (posF (λx=>decide (x.name=s)) l)):=by
 refine Com.pure (ent λu=>?_) (.inl rfl);repeat' first|refine wk ?_|refine cX (λ_=>?_) λ_=>?_|fail
 refine zX (idxf_op (p:=λx=>decide (x.name=s)) ((r.tch (S:=[]) (h':=_) (n':=n+1+1) zA dX λ_ _ hx=>by cases hx)) hl λx hx=>index_op1 (eQ x hx) zM zM (by omega) (by omega)) ?_;repeat' first|refine wk ?_|refine cX (λ_=>?_) λ_=>?_|fail
 exact finT rfl zA
theorem index_cls1{b1 b2:Nat}{h:zB}{n:Nat}{x:ClassT}{s:Tx}(ho:x.rsv.oneCell'=true)(c1:zC h b1 0=some (.func (.func 174) ⟨[]⟩ ⟨[]⟩))(c2:zC h b2 0=some (str s))(fw:b1<n)(hb2:b2<n):Pur P 8 195 [.agg ⟨clsC x⟩,ptr b1 0,ptr b2 0] h n (.bool (decide (x.name=s))):=by
 refine Com.pure (ent λu=>?_) (.inl rfl);have fP:=ho;try obtain⟨fG,ho2⟩:=ho
 repeat' first|refine wk ?_|refine cX (λ_=>?_) λ_=>?_|refine zX (cls1_pur x fP _ _) ?_|fail
 exact finT rfl zA
theorem index_cls{lo e n:Nat}{h:zB}{sv:Value}{l:List ClassT}{s:Tx}(r:Row lo h sv e 2 l.length (l.flatMap clsC))(hl:l.length<inf)(dX:lo≤n)(eQ:∀x∈l,x.rsv.oneCell'=true):Pur P 8 173 [sv,str s,.func (.func 174) ⟨[]⟩ ⟨[]⟩] h n (I64 (posF (λx=>decide (x.name=s)) l)):=by
 refine Com.pure (ent λu=>?_) (.inl rfl);repeat' first|refine wk ?_|refine cX (λ_=>?_) λ_=>?_|fail
 refine zX (idxf_cls (p:=λx=>decide (x.name=s)) ((r.tch (S:=[]) (h':=_) (n':=n+1+1) zA dX λ_ _ hx=>by cases hx)) hl λx hx=>index_cls1 (eQ x hx) zM zM (by omega) (by omega)) ?_;repeat' first|refine wk ?_|refine cX (λ_=>?_) λ_=>?_|fail
 exact finT rfl zA
end
section
variable {lo bc z n:Nat} {h:zB} {m:MachT} {nsv psv:Value} {ns:List Tx} {ps:List Pl}
theorem Ck.tch{n':Nat}{h':zB}(k:Ck lo h bc z m nsv psv ns ps)(t:Tch [] h n h' n')(dX:lo≤n):Ck lo h' bc z m nsv psv ns ps:=by
 have:=k.hb;exact⟨k.mm.tch t dX,k.cel.tch t (by omega) (by simp),k.rn.tch t dX λ_ _ hx=>(by cases hx),k.rp.tch t dX λ_ _ hx=>(by cases hx),k.hb,k.hl,k.hn,k.ok⟩
theorem Ck.rnT{n':Nat}{h':zB}(k:Ck lo h bc z m nsv psv ns ps)(t:Tch [] h n h' n')(dX:lo≤n):Row lo h' nsv eStr 1 ns.length (ns.map str):=(k.tch t dX).rn
theorem class_pur(k:Ck lo h bc z m nsv psv ns ps)(dX:lo≤n)(x:Tx):Pur P 8 127 [ptr bc 0,str x] h n (I64 (xG m x)):=by
 have hc:=k.cel;have r:=k.mm.cls 0;refine ent λu=>?_;repeat' first|refine wk ?_|refine cX (λ_=>?_) λ_=>?_|refine zX (index_cls r k.mm.cls.lt dX λc hc=>(k.mm.clsr c hc 0).one) ?_|fail
 exact fin rfl
theorem class_purE(k:Ck lo h bc z m nsv psv ns ps)(dX:lo≤n)(x:Tx){v:Int}(e:xG m x=v):Pur P 8 127 [ptr bc 0,str x] h n (I64 v):=e ▸ class_pur k dX x
theorem reg_com(k:Ck lo h bc z m nsv psv ns ps)(x:Tx)(e:Int):Com P 8 129 [ptr bc 0,str x,I64 e] h n λo h' n'=>o=(if x∈ns then .ret (I64 (ns.idxOf x:Nat)) else .panic (sN e))∧h'=h∧n'=n:=by
 have hc:=k.cel;have r:=k.rn;have hn:=k.hn;refine ent λu=>?_;by_cases hx:x∈ns
 · have e1:=vA hx;repeat' first|refine wk ?_|refine cX (λ_=>?_) λ_=>?_|refine zX (qC r (by omega)) ?_|fail
   rw[if_pos hx,e1];exact⟨rfl,rfl,rfl⟩
 · have e1:=pos_out hx;repeat' first|refine wk ?_|refine cX (λ_=>?_) λ_=>?_|refine zX (qC r (by omega)) ?_|fail
   rw[if_neg hx];exact⟨rfl,rfl,rfl⟩
theorem regK(k:Ck lo h bc z m nsv psv ns ps){G:Prop}{x:Tx}{e:Int}{K:Out→zB→Nat→Prop}[s:IsCall G P 8 129 [ptr bc 0,str x,I64 e] h n K]
(k1:x∈ns→ns.idxOf x<ps.length→Rd h (sbk psv) (sof psv+ns.idxOf x*3) 3 (plC (yF ns ps x))→zC h (sbk psv) (sof psv+ns.idxOf x*3+2)=some (I64 (yF ns ps x).width)→PlOK (yF ns ps x)→sbk psv<lo→K (.ret (I64 (ns.idxOf x:Nat))) h n)(k2:x∉ns→K (.panic (sN e)) h n):G:=
 cal (reg_com k x e) λo h' n' ⟨e1,e2,e3⟩=>by
  subst e2 e3;by_cases hx:x∈ns
  · rw[if_pos hx]at e1;subst e1;have r:=zK k.rp (plc_at hx k.hl);exact k1 hx (by have:=idx_lt hx;have:=k.hl;omega) r (yN r (j:=2) rfl) (k.ok _ (plc_mem hx k.hl)) (k.rp.low (by have:=idx_lt hx;have:=k.hl;omega))
  · rw[if_neg hx]at e1;subst e1;exact k2 hx
theorem regP(k:Ck lo h bc z m nsv psv ns ps){G:Prop}{x:Tx}{e:Int}{K:Out→zB→Nat→Prop}[s:IsCall G P 8 129 [ptr bc 0,str x,I64 e] h n K](hx:x∈ns)
(k1:ns.idxOf x<ps.length→Rd h (sbk psv) (sof psv+ns.idxOf x*3) 3 (plC (yF ns ps x))→zC h (sbk psv) (sof psv+ns.idxOf x*3+2)=some (I64 (yF ns ps x).width)→PlOK (yF ns ps x)→sbk psv<lo→K (.ret (I64 (ns.idxOf x:Nat))) h n):G:=
 regK k (λ_=>k1) λh2=>absurd hx h2
theorem width_pur(k:Ck lo h bc z m nsv psv ns ps)(dX:lo≤n){i:Nat}{c:ClassT}{r0:Tx}{rr:List Tx}(hi:m.classes[i]? = some c)(hc:c.regs=r0::rr)(hr:r0∈ns):Pur P 8 131 [ptr bc 0,I64 (i:Nat)] h n (I64 (wdOf ns ps c)):=by
 have hcel:=k.cel;have r:=k.mm.cls 0;have rp:=k.rp;have rc:=k.mm.clsr c (ah hi) 0;have c1:=zK r hi;have c2:=yN c1 (j:=1) rfl;have c3:=xF (k:=0) (x:=r0) rc (by rw[hc];rfl);have hilt:i<m.classes.length:=(ab.1 hi).1;have ej:0<c.regs.length:=by rw[hc];exact Nat.succ_pos _
 have fV:=k.hb;have l1:=r.low (by omega);have l2:=rc.low ej;have l3:=rp.low;have e1:wdOf ns ps c=(yF ns ps r0).width:=by unfold wdOf;rw [hc]
 refine ent λu=>?_;repeat' first|refine wk ?_|refine cX (λ_=>?_) λ_=>?_|refine regP k hr (λ_ _ _ _ _=>?_)|fail
 exact fin (by rw[e1])
theorem oper_com(k:Ck lo h bc z m nsv psv ns ps)(dX:lo≤n)(o:OperT):Com P 8 178 [ptr bc 0,.agg ⟨oprC o⟩] h n λr h' n'=>r=(if uE m o then .ret (I64 (xG m o.cls)) else .panic (sN 9))∧Tch [] h n h' n':=by
 have fV:=k.hb;refine ent λu=>?_;rcases vE (m:=m) (x:=o.cls) with⟨h1,h2⟩|⟨i,c,h1,h2,h3,h4,h5⟩
 · have e0:uE m o=false:=by unfold uE;rw [h1]
   repeat' first|refine wk ?_|refine cX (λ_=>?_) λ_=>?_|refine zX (class_pur (Ck.tch k zA dX) (by omega) _) ?_|fail
   rw[e0];exact⟨rfl,zA⟩
 · have e0:uE m o=(decide (o.fix=[]) || decide (o.fix∈c.regs)):=by unfold uE;rw [h1]
   have r:=k.mm.cls 0;have c2:=yN (zK r h2) (j:=1) rfl;have rcI:=k.mm.clsr c (ah h2);have d9:inf<4611686018427387904:=by decide
   have hl:=rcI.lt;have hcel:=k.cel;have kE:sbk m.csv<lo:=r.low (by omega);repeat' first|refine wk ?_|refine cX (λ_=>?_) λ_=>?_|refine zX (class_purE (Ck.tch k zA dX) (by omega) _ h3) ?_|refine zX (rE (RowT.tchE rcI zA dX) (by omega)) ?_|fail
   all_goals rw[e0]
   · exact⟨by simp[*],zA⟩
   · exact⟨by simp[*],zA⟩
   · exact⟨by simp[*],zA⟩
end
section
def outE(e:Int):Out:=if e=0 then .ret (.tuple #[]) else .panic (sN e)
variable {lo bc z n:Nat} {h:zB} {m:MachT} {nsv psv:Value} {ns:List Tx} {ps:List Pl}
theorem classes_com(k:Ck lo h bc z m nsv psv ns ps)(dX:lo≤n):Com P 8 74 [ptr bc 0] h n λo h' n'=>∃e,o=outE e∧ClsErr m ns ps e∧Tch [] h n h' n':=by
 have fV:=k.hb;have hcel:=k.cel;have r:=k.mm.cls 0;have gT:=k.hn;refine ent λu=>?_;by_cases fE:m.classes.length≤64
 · repeat' first|refine wk ?_|refine cX (λ_=>?_) λ_=>?_|fail
   refine lpR (λi:Nat=>[(0,ptr bc 0),(19,m.csv),(20,I64 m.classes.length),(21,I64 i)]) (λi h' n'=>Tch [] h n h' n'∧i≤m.classes.length∧∀(j:Nat) c,j<i→m.classes[j]? = some c→clsE m ns ps j c 0) (λi=>m.classes.length - i) 0 ⟨zA,am _,λj _ hj=>by omega⟩ ?_
   rintro i t h' n' ⟨ht,hi,dY⟩
   have eu:=ht.le;have k':=k.tch ht dX;have r':=k'.mm.cls 0;have gD:=k'.cel;by_cases dV:i<m.classes.length
   · have c0:m.classes[i]? = some m.classes[i]:=aa dV;generalize m.classes[i]=c at c0
     have c1:=zK r' c0;have rcI:=k'.mm.clsr c (ah c0);have ro:=(rcI 0).one;have gG:=r'.low (by omega);have kE:=rcI.lt;have d9:inf<4611686018427387904:=by decide
     have fj:¬nameOKc m ns i c→∀h2 n2,Tch [] h n h2 n2→∃e,Out.panic (sN 5)=outE e∧ClsErr m ns ps e∧Tch [] h n h2 n2:=λhb h2 n2 t2=>⟨5,rfl,.inr ⟨fE,sJ c0 (.inr (.inl ⟨rfl,hb⟩)) (by decide) dY⟩,t2⟩;repeat' first|refine wk ?_|refine cX (λ_=>?_) λ_=>?_|refine zX (class_pur (Ck.tch k' zA (by omega)) (by omega) _) ?_|refine zX (rE (Ck.rnT k' zA (by omega)) (by omega)) ?_|fail
     · rename_i e1 e2 e3;have eN:nameOKc m ns i c:=⟨e1,e2,e3⟩;have fq:¬restOKc ns ps c→∀h2 n2,Tch [] h n h2 n2→∃e,Out.panic (sN 8)=outE e∧ClsErr m ns ps e∧Tch [] h n h2 n2:=λhb h2 n2 t2=>⟨8,rfl,.inr ⟨fE,sJ c0 (.inr (.inr ⟨rfl,eN,hb⟩)) (by decide) dY⟩,t2⟩;have rc:=rcI 0;repeat' first|refine wk ?_|refine cX (λ_=>?_) λ_=>?_|fail
       · refine lpR (λj:Nat=>[(0,ptr bc 0),(2,I64 i),(3,ptr n' 0),(19,m.csv),(20,I64 m.classes.length),(21,I64 i),(60,c.rsv),(61,I64 c.regs.length),(62,I64 j)]) (λj h2 n2=>Tch [] h n h2 n2∧n'<n2∧Cel h2 n' (66+1) 0 (clsC c)∧j≤c.regs.length∧∀(j':Nat) x,j'<j→c.regs[j']? = some x→regOKc ns ps c j' x) (λj=>c.regs.length - j) 0 ⟨zA,by omega,zD,am _,λj _ hj=>by omega⟩ ?_
         rintro j t h2 n2 ⟨ht2,hn2,hc2,hj,hno2⟩
         have eH:=ht2.le;have k2:=k.tch ht2 dX;have rp2:=k2.rp;have iP:=k2.mm.clsr c (ah c0) 0;have hcel2:=k2.cel;by_cases d5:j<c.regs.length
         · have d0:c.regs[j]? = some c.regs[j]:=aa d5;generalize c.regs[j]=x at d0
           have d1:=xF iP d0;have bx:¬regOKc ns ps c j x→¬restOKc ns ps c:=λhb hr=>hb (hr.2.2 j x d0)
           have w1:x∈ns→Pur P 8 131 [ptr bc 0,I64 (i:Nat)] h2 n2 (I64 (wdOf ns ps c)):=λhx=>by
            cases hr:c.regs with
            | nil=>rw [hr]at d0;cases d0
            | cons r0 rr=>
             refine width_pur k2 (by omega) c0 hr ?_
             cases j with
             | zero=>rw [hr]at d0;cases d0;exact hx
             | succ j=>exact(hno2 0 r0 (by omega) (by rw[hr];rfl)).1
           repeat' first|refine wk ?_|refine cX (λ_=>?_) λ_=>?_|refine regK k2 (λ_ _ _ _ _ _=>?_) (λ_=>?_)|refine zX (qC iP (by omega)) ?_|refine zX (w1 (by assumption)) ?_|fail
           · rename_i f1 _ _ _ _ _ f2 f3
             exact rnd (j+1) ⟨ht2,hn2,hc2,by omega,λj' y eV e=>by
              rcases ai.1 eV with h9|rfl
              · exact hno2 j' y h9 e
              · rw[d0]at e;cases e;exact⟨f1,f2,f3⟩⟩
           · rename_i f3;exact fq (bx λhb=>f3 hb.2.2) _ _ ht2
           · rename_i f2;exact fq (bx λhb=>f2 hb.2.1) _ _ ht2
           · rename_i f1;exact fq (bx λhb=>f1 hb.1) _ _ ht2
         · obtain rfl:j=c.regs.length:=by omega
           repeat' first|refine wk ?_|refine cX (λ_=>?_) λ_=>?_|fail
           exact rnd (i+1) ⟨ht2,by omega,rY c0 (.inl ⟨rfl,eN,by omega,by omega,λj' y e=>hno2 j' y (ab.1 e).1 e⟩) dY⟩
       · rename_i g2;exact fq (λhb=>g2 (by have:=hb.2.1;omega)) _ _ zA
       · rename_i g1;exact fq (λhb=>g1 (by have:=hb.1;omega)) _ _ zA
     · rename_i e3;exact fj (λhb=>hb.2.2 e3) _ _ zA
     · rename_i e2;exact fj (λhb=>e2 hb.2.1) _ _ zA
     · rename_i e1;exact fj (λhb=>by have:=hb.1;rw [e1]at this;cases this) _ _ zA
   · obtain rfl:i=m.classes.length:=by omega
     repeat' first|refine wk ?_|refine cX (λ_=>?_) λ_=>?_|fail
     exact⟨0,rfl,.inr ⟨fE,first_all dY⟩,ht⟩
 · repeat' first|refine wk ?_|refine cX (λ_=>?_) λ_=>?_|fail
   exact⟨2,rfl,.inl ⟨rfl,by omega⟩,zA⟩
end
section
theorem opr_eqA(a b c d:Tx):eqA P 47 [str a,str b] [str c,str d]=Bool.rec (some false) (Bool.rec (some false) (some true) (vF b d)) (vF a c):=by kernel_rfl
instance (a b:OperT):BnC P .eql 47 (.agg ⟨oprC a⟩) (.agg ⟨oprC b⟩) (.bool (decide (a=b))):=⟨λox oy=>by
 show(eqA P 47 [str a.cls,str a.fix] [str b.cls,str b.fix]).map Value.bool=_;rw [opr_eqA,wP,wP];obtain⟨a1,a2⟩:=a;obtain⟨b1,b2⟩:=b;by_cases h1:a1=b1
 · by_cases h2:a2=b2
   · subst h1 h2;simp
   · simp[h1,h2]
 · simp[h1]⟩
variable {lo bc z n:Nat} {h:zB} {m:MachT} {nsv psv:Value} {ns:List Tx} {ps:List Pl}
theorem wd_hit(k:Ck lo h bc z m nsv psv ns ps)(dX:lo≤n)(hc:∀c∈m.classes,∃r0 rr,c.regs=r0::rr∧r0∈ns){u:OperT}(hu:uE m u=true):Pur P 8 131 [ptr bc 0,I64 (xG m u.cls)] h n (I64 (wdC m ns ps u.cls)):=by
 rcases vE (m:=m) (x:=u.cls) with⟨h1,h2⟩|⟨i,c,h1,h2,h3,h4,h5⟩
 · unfold uE at hu;rw [h1]at hu;cases hu
 · obtain⟨r0,rr,e1,e2⟩:=hc c (ah h2);rw [h3,show wdC m ns ps u.cls=wdOf ns ps c by unfold wdC;rw [h1]];exact width_pur k dX h2 e1 e2
theorem op_com(k:Ck lo h bc z m nsv psv ns ps)(dX:lo≤n)(eG:∀c∈m.classes,∃r0 rr,c.regs=r0::rr∧r0∈ns){i:Nat}{o:OpT}(hi:m.ops[i]? = some o):Com P 8 132 [ptr bc 0,I64 (i:Nat)] h n λr h' n'=>∃e,r=outE e∧opE m ns ps i o e∧Tch [] h n h' n':=by
 have fV:=k.hb;have hcel:=k.cel;have r:=k.mm.ops 0;have gT:=k.hn;have dV:i<m.ops.length:=(ab.1 hi).1;have d8:=ah hi;have c1:=zK r hi;have ruI:=k.mm.opsu o d8;have rcI:=k.mm.opsc o d8;have ru:=ruI 0;have rc:=rcI 0;have kI:=ru.one;have kM:=rc.one;have iY:=ruI.lt;have hcll:=rcI.lt;have gu:=k.mm.ops.lt;have d9:inf<4611686018427387904:=by decide
 have gG:=r.low (by omega);have eQ:∀x∈m.ops,x.usv.oneCell'=true∧x.csv.oneCell'=true:=λx hx=>⟨(k.mm.opsu x hx 0).one,(k.mm.opsc x hx 0).one⟩;have fj:¬nameOKo m i o→∀h2 n2,Tch [] h n h2 n2→∃e,Out.panic (sN 5)=outE e∧opE m ns ps i o e∧Tch [] h n h2 n2:=λhb h2 n2 t2=>⟨5,rfl,.inr (.inl ⟨rfl,hb⟩),t2⟩;refine ent λu=>?_;repeat' first|refine wk ?_|refine cX (λ_=>?_) λ_=>?_|refine zX (index_op (RowA.tchE k.mm.ops zA dX) gu (by omega) eQ) ?_|fail
 · rename_i f0 f1 f2;have eN:nameOKo m i o:=⟨f0,f1⟩;have eI:¬tL m ns ps o→∀h2 n2,Tch [] h n h2 n2→∃e,Out.panic (sN 9)=outE e∧opE m ns ps i o e∧Tch [] h n h2 n2:=λhb h2 n2 t2=>⟨9,rfl,.inr (.inr ⟨rfl,eN,hb⟩),t2⟩;repeat' first|refine wk ?_|refine cX (λ_=>?_) λ_=>?_|fail
   refine cal (oper_com (Ck.tch k zA dX) (by omega) o.d) ?_
   rintro _ h2 n2 ⟨rfl,ht⟩
   have hn2:=ht.le
   cases hd:uE m o.d with
   | false=>
    rw[if_neg (by decide)];repeat' first|refine wk ?_|refine cX (λ_=>?_) λ_=>?_|fail
    exact eI (λhb=>by have:=hb.2.1;rw [hd]at this;cases this) _ _ zA
   | true=>
    rw[if_pos rfl];have hc2:Cel h2 n (50+1) 0 (opC o):=zD;have fI:Tch [] h n h2 n2:=zA;clear ht;repeat' first|refine wk ?_|refine cX (λ_=>?_) λ_=>?_|fail
    refine lpR (λj:Nat=>[(0,ptr bc 0),(1,I64 i),(4,ptr n 0),(5,I64 (xG m o.d.cls)),(48,o.usv),(49,I64 o.uses.length),(50,I64 j)]) (λj h2 n2=>Tch [] h n h2 n2∧n<n2∧Cel h2 n (50+1) 0 (opC o)∧j≤o.uses.length∧∀(j':Nat) x,j'<j→o.uses[j']? = some x→useOKo m ns ps o x) (λj=>o.uses.length - j) 0 ⟨fI,by omega,hc2,am _,λj _ hj=>by omega⟩ ?_;clear hc2 fI hn2
    rintro j t h2 n2 ⟨ht2,hn2,hc2,hj,hno2⟩
    have eH:=ht2.le;have k2:=k.tch ht2 dX;have iU:=k2.mm.opsu o d8 0;have hcel2:=k2.cel;by_cases d5:j<o.uses.length
    · have d0:o.uses[j]? = some o.uses[j]:=aa d5;generalize o.uses[j]=x at d0
      have d1:=zK iU d0;have bx:¬useOKo m ns ps o x→¬tL m ns ps o:=λhb hr=>hb (hr.2.2.1 j x d0);repeat' first|refine wk ?_|refine cX (λ_=>?_) λ_=>?_|fail
      refine cal (oper_com (Ck.tch k2 zA (by omega)) (by omega) x) ?_
      rintro _ h3 n3 ⟨rfl,ht3⟩
      have fL:=ht3.le
      cases hd3:uE m x with
      | false=>
       rw[if_neg (by decide)];repeat' first|refine wk ?_|refine cX (λ_=>?_) λ_=>?_|fail
       exact eI (bx λhb=>by have:=hb.1;rw [hd3]at this;cases this) _ _ zA
      | true=>
       rw[if_pos rfl];have iT:Cel h3 n (50+1) 0 (opC o):=zG;have ht4:Tch [] h n h3 n3:=zA;repeat' first|refine wk ?_|refine cX (λ_=>?_) λ_=>?_|refine zX (wd_hit (Ck.tch k ht4 dX) (by omega) eG hd3) ?_|refine zX (wd_hit (Ck.tch k ht4 dX) (by omega) eG hd) ?_|fail
       · rename_i f3
         exact rnd (j+1) ⟨ht4,by omega,iT,by omega,λj' y eV e=>by
          rcases ai.1 eV with h9|rfl
          · exact hno2 j' y h9 e
          · rw[d0]at e;cases e;exact⟨hd3,f3⟩⟩
       · rename_i f3;exact eI (bx λhb=>f3 hb.2) _ _ ht4
    · obtain rfl:j=o.uses.length:=by omega
      have tiebad:¬(-1≤o.tie∧o.tie<o.uses.length)→¬tL m ns ps o:=λhb hr=>hb ⟨hr.2.2.2.1,hr.2.2.2.2.1⟩;by_cases htie:0≤o.tie∧o.tie<o.uses.length
      · obtain⟨fI,ht1⟩:=htie;have jZ:o.tie.toNat<o.uses.length:=by omega
        have d0:o.uses[o.tie.toNat]? = some o.uses[o.tie.toNat]:=aa jZ;generalize o.uses[o.tie.toNat]=x at d0
        have d1:=zK iU d0;repeat' first|refine wk ?_|refine cX (λ_=>?_) λ_=>?_|fail
        · rename_i f3 f4;have tieok:0≤o.tie→o.uses[o.tie.toNat]? = some o.d:=λ_=>by rw[d0,f3]
          refine lpR (λj:Nat=>[(0,ptr bc 0),(1,I64 i),(4,ptr n 0),(98,o.csv),(99,I64 o.clob.length),(100,I64 j)]) (λj h2 n2=>Tch [] h n h2 n2∧n<n2∧Cel h2 n (50+1) 0 (opC o)∧j≤o.clob.length∧∀(j':Nat) x,j'<j→o.clob[j']? = some x→clobOKo ns o j' x) (λj=>o.clob.length - j) 0 ⟨ht2,by omega,hc2,am _,λj _ hj=>by omega⟩ ?_;clear hc2 ht2 hn2 hcel2 k2 iU eH
          rintro j t h3 n3 ⟨ht2,hn2,hc2,hj3,hno3⟩
          have eH:=ht2.le;have k2:=k.tch ht2 dX;have iP:=k2.mm.opsc o d8 0;have hcel2:=k2.cel;by_cases hlt3:j<o.clob.length
          · have e0:o.clob[j]? = some o.clob[j]:=aa hlt3;generalize o.clob[j]=y at e0
            have e1:=xF iP e0;have by':¬clobOKo ns o j y→¬tL m ns ps o:=λhb hr=>hb (hr.2.2.2.2.2.2.2 j y e0);repeat' first|refine wk ?_|refine cX (λ_=>?_) λ_=>?_|refine regK k2 (λ_ _ _ _ _ _=>?_) (λ_=>?_)|refine zX (qC iP (by omega)) ?_|fail
            · rename_i g1 _ _ _ _ _ g2
              exact rnd (j+1) ⟨ht2,hn2,hc2,by omega,λj' z eV e=>by
               rcases ai.1 eV with h9|rfl
               · exact hno3 j' z h9 e
               · rw[e0]at e;cases e;exact⟨g1,g2⟩⟩
            · rename_i g2;exact eI (by' λhb=>g2 hb.2) _ _ ht2
            · rename_i g1;exact eI (by' λhb=>g1 hb.1) _ _ ht2
          · obtain rfl:j=o.clob.length:=by omega
            repeat' first|refine wk ?_|refine cX (λ_=>?_) λ_=>?_|fail
            exact⟨0,rfl,.inl ⟨rfl,eN,f2,hd,λj' y e=>hno2 j' y (ab.1 e).1 e,by omega,by omega,tieok,by omega,λj' y e=>hno3 j' y (ab.1 e).1 e⟩,ht2⟩
        · rename_i f4;exact eI (λhb=>f4 (by have:=hb.2.2.2.2.2.2.1;omega)) _ _ ht2
        · rename_i f3;exact eI (λhb=>f3 (by have:=hb.2.2.2.2.2.1 fI;rw [d0]at this;exact(Option.some.inj this).symm)) _ _ ht2
      · repeat' first|refine wk ?_|refine cX (λ_=>?_) λ_=>?_|fail
        · rename_i f3 f5 f6 f4;have tieok:0≤o.tie→o.uses[o.tie.toNat]? = some o.d:=λ_=>by omega
          refine lpR (λj:Nat=>[(0,ptr bc 0),(1,I64 i),(4,ptr n 0),(98,o.csv),(99,I64 o.clob.length),(100,I64 j)]) (λj h2 n2=>Tch [] h n h2 n2∧n<n2∧Cel h2 n (50+1) 0 (opC o)∧j≤o.clob.length∧∀(j':Nat) x,j'<j→o.clob[j']? = some x→clobOKo ns o j' x) (λj=>o.clob.length - j) 0 ⟨ht2,by omega,hc2,am _,λj _ hj=>by omega⟩ ?_;clear hc2 ht2 hn2 hcel2 k2 iU eH
          rintro j t h3 n3 ⟨ht2,hn2,hc2,hj3,hno3⟩
          have eH:=ht2.le;have k2:=k.tch ht2 dX;have iP:=k2.mm.opsc o d8 0;have hcel2:=k2.cel;by_cases hlt3:j<o.clob.length
          · have e0:o.clob[j]? = some o.clob[j]:=aa hlt3;generalize o.clob[j]=y at e0
            have e1:=xF iP e0;have by':¬clobOKo ns o j y→¬tL m ns ps o:=λhb hr=>hb (hr.2.2.2.2.2.2.2 j y e0);repeat' first|refine wk ?_|refine cX (λ_=>?_) λ_=>?_|refine regK k2 (λ_ _ _ _ _ _=>?_) (λ_=>?_)|refine zX (qC iP (by omega)) ?_|fail
            · rename_i g1 _ _ _ _ _ g2
              exact rnd (j+1) ⟨ht2,hn2,hc2,by omega,λj' z eV e=>by
               rcases ai.1 eV with h9|rfl
               · exact hno3 j' z h9 e
               · rw[e0]at e;cases e;exact⟨g1,g2⟩⟩
            · rename_i g2;exact eI (by' λhb=>g2 hb.2) _ _ ht2
            · rename_i g1;exact eI (by' λhb=>g1 hb.1) _ _ ht2
          · obtain rfl:j=o.clob.length:=by omega
            repeat' first|refine wk ?_|refine cX (λ_=>?_) λ_=>?_|fail
            exact⟨0,rfl,.inl ⟨rfl,eN,f2,hd,λj' y e=>hno2 j' y (ab.1 e).1 e,by omega,by omega,tieok,by omega,λj' y e=>hno3 j' y (ab.1 e).1 e⟩,ht2⟩
        · rename_i f4;exact eI (λhb=>f4 (by have:=hb.2.2.2.2.2.2.1;omega)) _ _ ht2
        · rename_i f4;exact eI (tiebad (by omega)) _ _ ht2
        · rename_i f4;exact eI (tiebad (by omega)) _ _ ht2
 · rename_i f0 f1 f2;exact⟨9,rfl,.inr (.inr ⟨rfl,⟨f0,f1⟩,λhb=>f2 hb.1⟩),zA⟩
 · rename_i f1;exact fj (λhb=>f1 hb.2) _ _ zA
 · rename_i f1;exact fj (λhb=>f1 hb.1) _ _ zA
end
section
variable {lo bc z n:Nat} {h:zB} {m:MachT} {nsv psv:Value} {ns:List Tx} {ps:List Pl}
theorem ops_com(k:Ck lo h bc z m nsv psv ns ps)(dX:lo≤n)(eG:∀c∈m.classes,∃r0 rr,c.regs=r0::rr∧r0∈ns):Com P 8 75 [ptr bc 0] h n λo h' n'=>∃e,o=outE e∧rZ m ns ps e∧Tch [] h n h' n':=by
 have fV:=k.hb;have hcel:=k.cel;have r:=k.mm.ops 0;refine ent λu=>?_;by_cases fE:m.ops.length≤64
 · repeat' first|refine wk ?_|refine cX (λ_=>?_) λ_=>?_|fail
   refine lpR (λi:Nat=>[(0,ptr bc 0),(16,I64 m.ops.length),(17,I64 i)]) (λi h' n'=>Tch [] h n h' n'∧i≤m.ops.length∧∀(j:Nat) c,j<i→m.ops[j]? = some c→opE m ns ps j c 0) (λi=>m.ops.length - i) 0 ⟨zA,am _,λj _ hj=>by omega⟩ ?_
   rintro i t h' n' ⟨ht,hi,dY⟩
   have eu:=ht.le;have k':=k.tch ht dX;by_cases dV:i<m.ops.length
   · have c0:m.ops[i]? = some m.ops[i]:=aa dV;repeat' first|refine wk ?_|refine cX (λ_=>?_) λ_=>?_|fail
     refine cal (op_com k' (by omega) eG c0) ?_
     rintro _ h2 n2 ⟨e,rfl,he,ht2⟩
     by_cases e0:e=0
     · subst e0;rw [show outE 0 = .ret (.tuple #[]) from rfl];repeat' first|refine wk ?_|refine cX (λ_=>?_) λ_=>?_|fail
       exact rnd (i+1) ⟨zA,by omega,rY c0 he dY⟩
     · rw[show outE e = .panic (sN e) from if_neg e0];repeat' first|refine wk ?_|refine cX (λ_=>?_) λ_=>?_|fail
       exact⟨e,(if_neg e0).symm,.inr ⟨fE,sJ c0 he e0 dY⟩,zA⟩
   · obtain rfl:i=m.ops.length:=by omega
     repeat' first|refine wk ?_|refine cX (λ_=>?_) λ_=>?_|fail
     exact⟨0,rfl,.inr ⟨fE,first_all dY⟩,ht⟩
 · repeat' first|refine wk ?_|refine cX (λ_=>?_) λ_=>?_|fail
   exact⟨2,rfl,.inl ⟨rfl,by omega⟩,zA⟩
end
section
variable {lo bc z n:Nat} {h:zB} {m:MachT} {nsv psv:Value} {ns:List Tx} {ps:List Pl}
theorem apart_com(k:Ck lo h bc z m nsv psv ns ps)(dX:lo≤n){sv:Value}{l:List Tx}{most:Int}(rI:RowI lo h sv 1 l.length (l.map str))(hm:most≤64):Com P 8 133 [ptr bc 0,sv,I64 most] h n λo h' n'=>Tch [] h n h' n'∧((o = .panic (sN 10)∧¬wQ ns ps l most)∨∃v,o = .ret v∧wQ ns ps l most∧Own n n' h' v ePl 3 l.length ((l.map (yF ns ps)).flatMap plC)):=by
 have fV:=k.hb;have hcel:=k.cel;have r:=rI 0;have gT:=k.hn;refine ent λu=>?_;by_cases fE:(l.length:Nat)≤most
 · repeat' first|refine wk ?_|refine cX (λ_=>?_) λ_=>?_|fail
   refine lpR (α :=Nat×Value) (λa=>[(0,ptr bc 0),(7,a.2),(18,sv),(19,I64 l.length),(20,I64 a.1)]) (λa h' n'=>Tch [] h n h' n'∧a.1≤l.length∧Own n n' h' a.2 ePl 3 a.1 (((l.take a.1).map (yF ns ps)).flatMap plC)∧∀(j:Nat) c,j<a.1→l[j]? = some c→apOK ns ps l j c) (λa=>l.length - a.1) (0,.slice none 0 0) ⟨zA,am _,Own.nil,λj _ hj=>absurd hj (aD _)⟩ ?_
   rintro ⟨i,ov⟩ t h' n' ⟨ht,hi,ho,dY⟩
   dsimp only at hi ho dY ⊢;have eu:=ht.le;have k':=k.tch ht dX;have gD:=k'.cel;have rp':=k'.rp;have r':=(rI.tch ht dX) 0;have ro:=ho.row (by decide);by_cases dV:i<l.length
   · have c0:l[i]? = some l[i]:=aa dV;generalize l[i]=x at c0
     have c1:=xF r' c0;have bad:¬apOK ns ps l i x→¬wQ ns ps l most:=λhb hr=>hb (hr.2 i x c0);repeat' first|refine wk ?_|refine cX (λ_=>?_) λ_=>?_|refine regK k' (λ_ _ _ _ _ _=>?_) (λ_=>?_)|fail
     · rename_i f1 f2 f3 f4 f5 f6;have eR:=f5;refine lpR (λq:Nat=>[(0,ptr bc 0),(7,ov),(18,sv),(19,I64 l.length),(20,I64 i),(10,ptr n' 0),(33,ov),(34,I64 i),(35,I64 q)]) (λq h2 n2=>Tch [] h n h2 n2∧n'<n2∧Cel h2 n' (ePl+1) 0 (plC (yF ns ps x))∧Own n n2 h2 ov ePl 3 i (((l.take i).map (yF ns ps)).flatMap plC)∧q≤i∧∀(j:Nat) y,j<q→l[j]? = some y→sP (yF ns ps x) (yF ns ps y)=false) (λq=>i - q) 0 ⟨zA,by omega,zD,ho.tch (S:=[]) zA (by simp),am _,λj _ hj=>absurd hj (aD _)⟩ ?_
       rintro q t h2 n2 ⟨ht2,hn2,hc2,ho2,hq,hno2⟩
       have eH:=ht2.le;have ro2:=ho2.row (by decide);by_cases d5:q<i
       · have d0:l[q]? = some l[q]:=aa (by omega);generalize l[q]=y at d0
         have hy:y∈ns:=(dY q y d5 d0).1;have d1:=zK ro2 (el_at d0 d5);have oky:PlOK (yF ns ps y):=k.ok _ (plc_mem hy k.hl);repeat' first|refine wk ?_|refine cX (λ_=>?_) λ_=>?_|refine zX (lap_pur _ _ eR oky _ _) ?_|fail
         · rename_i g1
           exact rnd (q+1) ⟨zA,by omega,zG,ho2.tch (S:=[]) zA (by simp),by omega,λj z hj e=>by
            rcases ai.1 hj with h9|rfl
            · exact hno2 j z h9 e
            · rw[d0]at e;cases e;exact g1⟩
         · rename_i g1;exact⟨zA,.inl ⟨rfl,bad λhb=>by rw[hb.2 q y d5 d0]at g1;cases g1⟩⟩
       · obtain rfl:q=i:=by omega
         repeat' first|refine wk ?_|refine cX (λ_=>?_) λ_=>?_|fail
         refine appO (ho2.tch (S:=[]) zA (by simp)) (zL (e:=ePl) (sz:=3) (len:=1) rfl (by decide)) (by omega) ⟨rfl,rfl,rfl,trivial⟩ (by omega) ?_
         rintro v' h3 n3 ho3 ht3
         have ht4:Tch [] h n h3 n3:=Tch.tch ht3 zA λx hx=>.inl (zZ ho2 x hx);repeat' first|refine wk ?_|refine cX (λ_=>?_) λ_=>?_|fail
         exact rnd (q+1,v') ⟨ht4,by omega,by rw[xS c0,aK,a8];exact ho3,λj z hj e=>by
          rcases ai.1 hj with h9|rfl
          · exact dY j z h9 e
          · rw[c0]at e;cases e;exact⟨f1,hno2⟩⟩
     · rename_i f1;exact⟨ht,.inl ⟨rfl,bad λhb=>f1 hb.1⟩⟩
   · obtain rfl:i=l.length:=by omega
     repeat' first|refine wk ?_|refine cX (λ_=>?_) λ_=>?_|fail
     exact⟨ht,.inr ⟨ov,rfl,⟨fE,λj y e=>dY j y (ab.1 e).1 e⟩,by rwa [bG]at ho⟩⟩
 · repeat' first|refine wk ?_|refine cX (λ_=>?_) λ_=>?_|fail
   exact⟨zA,.inl ⟨rfl,λhb=>fE hb.1⟩⟩
end
section
theorem clone_str{lo n len:Nat}{h:zB}{sv:Value}{vs:List Value}(r:Row lo h sv eStr 1 len vs)(dX:lo≤n)(h1:∀y∈vs,y.oneCell'=true)(hlim:len<1000000):Ret P 8 81 [sv] h n λv h' n'=>OwnE n n' h' v eStr 1 len vs∧Tch [] h n h' n':=by
 refine ent λu=>?_;have r':=r;rcases r with⟨rfl,rfl,rfl⟩|⟨b,off,cap,m,z,kd,_,rfl,_⟩
 · repeat' first|refine wk ?_|refine cX (λ_=>?_) λ_=>?_|fail
   exact⟨_,rfl,.inl Own.nil,zA⟩
 · repeat' first|refine wk ?_|refine cX (λ_=>?_) λ_=>?_|fail
   refine appE (.inr ⟨mty_new (ae n),rfl,rfl⟩) ((r'.tch (S:=[]) zA dX λ_ _ hx=>(by cases hx)).up (by omega)) (by omega) h1 (by omega) ?_
   rintro v' h2 n2 ho ht
   have ht2:Tch [] h n h2 n2:=Tch.tch ht zA λx hx=>.inl (by
    have hx:x∈(some n).toList:=hx;simp at hx;omega)
   rw[aG,bV]at ho;repeat' first|refine wk ?_|refine cX (λ_=>?_) λ_=>?_|fail
   exact⟨_,rfl,ho,ht2⟩
theorem str_one(l:List Tx):∀y∈l.map str,y.oneCell'=true:=λy hy=>by obtain⟨z,_,rfl⟩:=ao.1 hy;rfl
variable {lo bc z n:Nat} {h:zB} {m:MachT} {nsv psv:Value} {ns:List Tx} {ps:List Pl}
theorem conv1_pur{b6:Nat}{x:Tx}{c:ClassT}(rI:RowI lo h c.rsv 1 c.regs.length (c.regs.map str))(dX:lo≤n)(hb:b6<n)(hc:zC h b6 0=some (str x)):Pur P 8 134 [.agg ⟨clsC c⟩,ptr b6 0] h n (.bool (decide (x∈c.regs))):=by
 have hl:=rI.lt;have d9:inf<4611686018427387904:=by decide
 have ro:=(rI 0).one;refine Com.pure (ent λu=>?_) (.inl rfl);repeat' first|refine wk ?_|refine cX (λ_=>?_) λ_=>?_|refine zX (rE (RowI.tchE rI zA dX) (by omega)) ?_|fail
 exact finT rfl zA
theorem contf_cls{lo e n:Nat}{h:zB}{sv:Value}{l:List ClassT}{g:FuncId}{fs cs:List Value}{p:ClassT→Bool}(r:Row lo h sv e 2 l.length (l.flatMap clsC))(hl:l.length<inf)(hp:∀x∈l,Pur P 8 g (fs++([.agg ⟨clsC x⟩]++cs)) h n (.bool (p x))):Pur P 8 135 [sv,.func (.func g) ⟨fs⟩ ⟨cs⟩] h n (.bool (l.any p)):=by
 refine ent λu=>?_;repeat' first|refine wk ?_|refine cX (λ_=>?_) λ_=>?_|refine zX (idxf_cls r hl hp) ?_|fail
 exact fin (by rw[show decide (0≤posF p l)=l.any p from by cases h9:l.any p with
  | true=>exact decide_eq_true (posF_ge.2 h9)
  | false=>exact decide_eq_false λh=>by rw[posF_ge.1 h]at h9;cases h9])
theorem conv_com(k:Ck lo h bc z m nsv psv ns ps)(dX:lo≤n):Com P 8 76 [ptr bc 0] h n λo h' n'=>∃e,o=outE e∧((e=0∧rD m ns ps (wQ ns ps))∨(e=10∧¬rD m ns ps (wQ ns ps)))∧Tch [] h n h' n':=by
 have fV:=k.hb;have hcel:=k.cel;have gT:=k.hn;have bad:¬rD m ns ps (wQ ns ps)→∀h2 n2,Tch [] h n h2 n2→∃e,Out.panic (sN 10)=outE e∧((e=0∧rD m ns ps (wQ ns ps))∨(e=10∧¬rD m ns ps (wQ ns ps)))∧Tch [] h n h2 n2:=λhb h2 n2 t2=>⟨10,rfl,.inr ⟨rfl,hb⟩,t2⟩;refine ent λu=>?_;repeat' first|refine wk ?_|refine cX (λ_=>?_) λ_=>?_|fail
 refine cal (apart_com k dX k.mm.args.toI (by decide)) ?_
 rintro _ h2 n2 ⟨ht2,⟨rfl,hb⟩|⟨v,rfl,eD,ho⟩⟩
 · repeat' first|refine wk ?_|refine cX (λ_=>?_) λ_=>?_|fail
   exact bad (λhc=>hb hc.1) _ _ ht2
 have hn2:=ht2.le;have k2:=k.tch ht2 dX;have hcel2:=k2.cel;have rp2:=k2.rp;repeat' first|refine wk ?_|refine cX (λ_=>?_) λ_=>?_|refine regK k2 (λ_ _ _ _ _ _=>?_) (λ_=>?_)|fail
 · rename_i f1 f2 f3 f4 f5 f6;refine cal (apart_com (Ck.tch k2 zA (by omega)) (by omega) (RowI.tch (RowA.toI k2.mm.saved) zA (by omega)) (by decide)) ?_
   rintro _ h3 n3 ⟨ht3,⟨rfl,hb⟩|⟨v3,rfl,gZ,ho3⟩⟩
   · repeat' first|refine wk ?_|refine cX (λ_=>?_) λ_=>?_|fail
     exact bad (λhc=>hb hc.2.2.1) _ _ zA
   have eH:=ht3.le;have hc3:Cel h3 n2 (ePl+1) 0 (plC (yF ns ps m.result)):=zD;have ht4:Tch [] h n h3 n3:=zA;have r3:=ho3.row (by decide);clear ht3;repeat' first|refine wk ?_|refine cX (λ_=>?_) λ_=>?_|fail
   refine lpR (λq:Nat=>[(0,ptr bc 0),(2,ptr n2 0),(34,v3),(35,I64 m.saved.length),(36,I64 q)]) (λq h4 n4=>Tch [] h n h4 n4∧n2<n4∧Cel h4 n2 (ePl+1) 0 (plC (yF ns ps m.result))∧Own (n2+1) n4 h4 v3 ePl 3 m.saved.length ((m.saved.map (yF ns ps)).flatMap plC)∧q≤m.saved.length∧∀(j:Nat) y,j<q→m.saved[j]? = some y→sP (yF ns ps y) (yF ns ps m.result)=false) (λq=>m.saved.length - q) 0 ⟨ht4,by omega,hc3,ho3,am _,λj _ hj=>absurd hj (aD _)⟩ ?_;clear hc3 ht4 r3 ho3 eH
   rintro q t h4 n4 ⟨ht4,fL,iT,ho4,hq,dY⟩
   have fm:=ht4.le;have r4:=ho4.row (by decide);have sl:=k.mm.saved.lt;have d9:inf<4611686018427387904:=by decide
   by_cases dV:q<m.saved.length
   · have d0:m.saved[q]? = some m.saved[q]:=aa dV;generalize m.saved[q]=y at d0
     have hy:y∈ns:=(gZ.2 q y d0).1;have d1:=zK r4 (show(m.saved.map (yF ns ps))[q]? = some (yF ns ps y) by rw[ap,d0];rfl);have oky:PlOK (yF ns ps y):=k.ok _ (plc_mem hy k.hl);repeat' first|refine wk ?_|refine cX (λ_=>?_) λ_=>?_|refine zX (lap_pur _ _ oky f5 _ _) ?_|fail
     · rename_i g1
       exact rnd (q+1) ⟨zA,by omega,zG,ho4.tch (S:=[]) zA (by simp),by omega,λj z hj e=>by
        rcases ai.1 hj with h9|rfl
        · exact dY j z h9 e
        · rw[d0]at e;cases e;exact g1⟩
     · rename_i g1;exact bad (λhc=>by rw[hc.2.2.2.1 q y d0]at g1;cases g1) _ _ zA
   · obtain rfl:q=m.saved.length:=by omega
     have k4:=k.tch ht4 dX;have hcel4:=k4.cel;have ra4:Row lo h4 m.asv eStr 1 m.args.length (m.args.map str):=k4.mm.args eStr;have hal:=eD.1;repeat' first|refine wk ?_|refine cX (λ_=>?_) λ_=>?_|fail
     · rename_i s1 s2;refine wY (clone_str ra4 (by omega) (str_one _) (by omega)) ?_
       rintro v5 h5 n5 ⟨ho5,ht5⟩
       have gM:=ht5.le;repeat' first|refine wk ?_|refine cX (λ_=>?_) λ_=>?_|fail
       refine appE (ho5.tch (S:=[]) zA (by simp)) (zL (e:=eStr) (sz:=1) (len:=1) rfl (by decide)) (by omega) (str_one [m.result]) (by omega) ?_
       rintro v6 h6 n6 ho6 ht6
       have ht7:Tch [] h n h6 n6:=Tch.tch ht6 zA λx hx=>.inl (by have:=ho5.low x hx;omega);have jd:=ht6.le;replace ho6:OwnE n4 n6 h6 v6 eStr 1 (m.args.length+1) ((m.args++[m.result]).map str):=by rw[aK];exact ho6
       have r6:=ho6.row (by decide);have ej:(m.args++[m.result]).length=m.args.length+1:=by simp
       generalize m.args.length+1=len at *
       have hlen2:len≤17:=by have:=eD.1;simp at ej;omega
       have allb:∀{q:Nat} {y:Tx},(m.args++[m.result])[q]? = some y→¬m.classes.any (λc=>decide (y∈c.regs))=true→¬rD m ns ps (wQ ns ps):=λhd hb hc=>hb (hc.2.2.2.2.2.2 _ _ hd);have hcel5:Cel h5 bc z 0 (yU m++[nsv,psv]):=hcel4.tch ht5 (by omega) (by simp);have lY:Cel h6 bc z 0 (yU m++[nsv,psv]):=hcel.tch ht7 (by omega) (by simp);clear ht6 ho5 ht5;repeat' first|refine wk ?_|refine cX (λ_=>?_) λ_=>?_|fail
       refine lpR (λq:Nat=>[(0,ptr bc 0),(73,v6),(74,I64 len),(75,I64 q)]) (λq h7 n7=>Tch [] h n h7 n7∧n4≤n7∧OwnE n4 n7 h7 v6 eStr 1 len ((m.args++[m.result]).map str)∧q≤len∧∀(j:Nat) y,j<q→(m.args++[m.result])[j]? = some y→m.classes.any (λc=>decide (y∈c.regs))=true) (λq=>len - q) 0 ⟨ht7,by omega,ho6,am _,λj _ hj=>absurd hj (aD _)⟩ ?_
       rintro q t h7 n7 ⟨hta,hna,hoa,hqa,hnoa⟩
       have hna2:=hta.le;have ra:=hoa.row (by decide);have ka:=k.tch hta dX;have hcela:=ka.cel;by_cases hlta:q<len
       · have d0:(m.args++[m.result])[q]? = some (m.args++[m.result])[q]:=aa (by omega);generalize (m.args++[m.result])[q]=y at d0
         have d1:=xF ra d0;repeat' first|refine wk ?_|refine cX (λ_=>?_) λ_=>?_|fail
         refine zX (contf_cls (p:=λc=>decide (y∈c.regs)) (RowA.tchE ka.mm.cls zA (by omega)) ka.mm.cls.lt (λc hc=>conv1_pur (RowI.tch (ka.mm.clsr c hc).toI zA (by omega)) (by omega) (by omega) zM)) ?_;repeat' first|refine wk ?_|refine cX (λ_=>?_) λ_=>?_|fail
         · rename_i g1
           exact rnd (q+1) ⟨zA,by omega,hoa.tch (S:=[]) zA (by simp),by omega,λj z hj e=>by
            rcases ai.1 hj with h9|rfl
            · exact hnoa j z h9 e
            · rw[d0]at e;cases e;exact g1⟩
         · rename_i g1;exact bad (allb d0 (by rw[g1];decide)) _ _ zA
       · obtain rfl:q=len:=by omega
         repeat' first|refine wk ?_|refine cX (λ_=>?_) λ_=>?_|fail
         exact⟨0,rfl,.inl ⟨rfl,eD,f1,gZ,λi x e=>dY i x (ab.1 e).1 e,s1,s2,λi x e=>hnoa i x (by have:=(ab.1 e).1;omega) e⟩,hta⟩
     · rename_i s2;exact bad (λhc=>s2 hc.2.2.2.2.2.1) _ _ ht4
     · rename_i s2;exact bad (λhc=>s2 hc.2.2.2.2.1) _ _ ht4
 · rename_i f1;exact bad (λhc=>f1 hc.2.1) _ _ ht2
end
section
variable {lo bc z n:Nat} {h:zB} {m:MachT} {nsv psv:Value} {ns:List Tx} {ps:List Pl}
theorem may1_com{pc po L:Nat}{o:OperT}{c:ClassT}{i:Nat}(hcls:vH m o.cls=some c)(fh:m.classes[i]? = some c)(hcp:xG m o.cls=(i:Nat))(hcr:∀r∈c.regs,r∈ns)(J:List Pl→zB→Nat→Prop)(JF:zB→Nat→Prop)
(hE:∀done h' n',J done h' n'→Ck lo h' bc z m nsv psv ns ps∧lo≤n'∧pc<n'∧po<n'∧zC h' pc 0=some (ptr bc 0)∧zC h' po 0=some (str o.cls)∧zC h' po 1=some (str o.fix))(h0:J [] h n)
(hy:∀done p h' n',J done h' n'→(done++[p]) <+: tR m ns ps o→Rou P 8 L [plV p] h' n' λr h2 n2=>n'≤n2∧((r = .ret (.bool true)∧J (done++[p]) h2 n2)∨(r = .ret (.bool false)∧JF h2 n2))) :
 Com P 8 200 [.func (.yield L) #[] #[],ptr pc 0,ptr po 0] h n λr h' n'=>r = .ret (.tuple #[])∧(J (tR m ns ps o) h' n'∨JF h' n'):=by
 have hL:tR m ns ps o=(c.regs.filter (mayF o)).map (yF ns ps):=by unfold tR;rw [hcls]
 have hilt:i<m.classes.length:=(ab.1 fh).1;have hcm:=ah fh;obtain⟨k,dX,hpc,hpo,d1,d2,d3⟩:=hE _ _ _ h0;have d9:inf<4611686018427387904:=by decide
 have fV:=k.hb;have hcel:=k.cel;have r:=k.mm.cls 0;have e2:=yN (zK r fh) (j:=1) rfl;have rcI:=k.mm.clsr c hcm;have rc:=rcI 0;have kE:=rcI.lt;have hrl2:=r.low (by omega);refine ent λu=>?_;repeat' first|refine wk ?_|refine cX (λ_=>?_) λ_=>?_|refine zX (class_purE k dX _ hcp) ?_|fail
 refine lpR (λq:Nat=>[(0,.func (.yield L) #[] #[]),(1,ptr pc 0),(2,ptr po 0),(17,c.rsv),(18,I64 c.regs.length),(19,I64 q)]) (λq h' n'=>q≤c.regs.length∧J (((c.regs.take q).filter (mayF o)).map (yF ns ps)) h' n') (λq=>c.regs.length - q) 0 ⟨am _,h0⟩ ?_;clear hcel k d1 d2 d3 dX hpc hpo e2 r rc hrl2
 rintro q t h' n' ⟨hq,hJ⟩
 obtain⟨k,dX,hpc,hpo,d1,d2,d3⟩:=hE _ _ _ hJ;have hcel:=k.cel;have rc:=k.mm.clsr c hcm 0;have rp:=k.rp;by_cases dV:q<c.regs.length
 · have c0:c.regs[q]? = some c.regs[q]:=aa dV;generalize c.regs[q]=x at c0
   have hx:x∈ns:=hcr x (ah c0);have c1:=xF rc c0;have iO:=may_step (o:=o) (f:=yF ns ps) c0;repeat' first|refine wk ?_|refine cX (λ_=>?_) λ_=>?_|refine regP k hx (λ_ _ _ _ _=>?_)|fail
   · rename_i f1 _ _ _ _ _;have hf:mayF o x=true:=by unfold mayF;rw [f1];rfl
     rw[hf,if_pos rfl]at iO;refine inv_yield (fs:=[]) (cs:=[]) ((hy _ _ _ _ hJ (by rw[hL,← iO];exact may_pre)).mono ?_)
     rintro _ h2 n2 ⟨hn2,⟨rfl,hJ2⟩|⟨rfl,hF⟩⟩
     · repeat' first|refine wk ?_|refine cX (λ_=>?_) λ_=>?_|fail
       exact rnd (q+1) ⟨by omega,by rw[iO];exact hJ2⟩
     · repeat' first|refine wk ?_|refine cX (λ_=>?_) λ_=>?_|fail
       exact⟨rfl,.inr hF⟩
   · rename_i f0 f1 _ _ _ _ _;have hf:mayF o x=true:=by unfold mayF;rw [f1];simp
     rw[hf,if_pos rfl]at iO;refine inv_yield (fs:=[]) (cs:=[]) ((hy _ _ _ _ hJ (by rw[hL,← iO];exact may_pre)).mono ?_)
     rintro _ h2 n2 ⟨hn2,⟨rfl,hJ2⟩|⟨rfl,hF⟩⟩
     · repeat' first|refine wk ?_|refine cX (λ_=>?_) λ_=>?_|fail
       exact rnd (q+1) ⟨by omega,by rw[iO];exact hJ2⟩
     · repeat' first|refine wk ?_|refine cX (λ_=>?_) λ_=>?_|fail
       exact⟨rfl,.inr hF⟩
   · rename_i f0 f1;have hf:mayF o x=false:=by unfold mayF;simp [f0,f1]
     rw[hf]at iO;exact rnd (q+1) ⟨by omega,by rw[iO];exact hJ⟩
 · obtain rfl:q=c.regs.length:=by omega
   repeat' first|refine wk ?_|refine cX (λ_=>?_) λ_=>?_|fail
   rw[bG,← hL]at hJ;exact⟨rfl,.inl hJ⟩
def MayE(lo bc z:Nat)(m:MachT)(nsv psv:Value)(ns:List Tx)(ps:List Pl)(o:OperT)(pc po:Nat)(h':zB)(n':Nat):Prop:=Ck lo h' bc z m nsv psv ns ps∧lo≤n'∧pc<n'∧po<n'∧zC h' pc 0=some (ptr bc 0)∧zC h' po 0=some (str o.cls)∧zC h' po 1=some (str o.fix)
theorem may1_it{pc po L:Nat}{o:OperT}{c:ClassT}{i:Nat}(hcls:vH m o.cls=some c)(fh:m.classes[i]? = some c)(hcp:xG m o.cls=(i:Nat))(hcr:∀r∈c.regs,r∈ns):Iter P 8 plV (tR m ns ps o) 200 [.func (.yield L) #[] #[],ptr pc 0,ptr po 0] L h n (MayE lo bc z m nsv psv ns ps o pc po):=
 λJ JF hE h0 hy=>may1_com hcls fh hcp hcr J JF hE h0 hy
theorem may_ret(k:bc<n)(o:OperT):Ret P 8 182 [ptr bc 0,.agg ⟨oprC o⟩] h n λv h' n'=>∃pc po,v = .func (.func 200) ⟨[]⟩ ⟨[ptr pc 0,ptr po 0]⟩∧n≤pc∧n≤po∧pc<n'∧po<n'∧zC h' pc 0=some (ptr bc 0)∧zC h' po 0=some (str o.cls)∧zC h' po 1=some (str o.fix)∧Tch [] h n h' n':=by
 refine ent λu=>?_;repeat' first|refine wk ?_|refine cX (λ_=>?_) λ_=>?_|fail
 exact⟨_,rfl,n,n+1,rfl,by omega,by omega,by omega,by omega,zM,zM,zM,zA⟩
end
section
variable {lo bc z n:Nat} {h:zB} {m:MachT} {nsv psv:Value} {ns:List Tx} {ps:List Pl}
abbrev opA(c:ClassT):OperT:=⟨c.name,[]⟩
def pairB(m:MachT)(ns:List Tx)(ps:List Pl)(a b:OperT):Prop:=∃p∈tR m ns ps a,∃q∈tR m ns ps b,sP p q=false
theorem pair_ret(k:Ck lo h bc z m nsv psv ns ps)(dX:lo≤n)(hok:∀(i:Nat) c,m.classes[i]? = some c→xG m c.name=(i:Nat)∧∀r∈c.regs,r∈ns){a b:Nat}{ca cb:ClassT}(ha:m.classes[a]? = some ca)(hb:m.classes[b]? = some cb):Com P 8 137 [ptr bc 0,I64 (a:Nat),I64 (b:Nat)] h n λo h' n'=>∃r,o = .ret (.bool r)∧(r=true↔pairB m ns ps (opA ca) (opA cb))∧Tch [] h n h' n':=by
 have fV:=k.hb;have hcel:=k.cel;have r:=k.mm.cls 0;have gU:=(ab.1 ha).1;have ku:=(ab.1 hb).1;have a1:=zK r ha;have b1:=zK r hb;have a2:=yN a1 (j:=0) rfl;have b2:=yN b1 (j:=0) rfl;have gG:=r.low (by omega)
 have cf:∀{i:Nat} {c:ClassT},m.classes[i]? = some c→vH m c.name=some c∧xG m c.name=(i:Nat):=fun {i c} hi=>by
  have h1:=(hok i c hi).1;rcases vE (m:=m) (x:=c.name) with⟨_,h3⟩|⟨j,c',h2,h3,h4,h5,h6⟩
  · rw[h1]at h3;omega
  · have:j=i:=by rw[h1]at h4;omega
    subst this;rw [hi]at h3;cases h3;exact⟨h2,h4⟩
 have mok:∀{o:OperT} {p:Pl},p∈tR m ns ps o→PlOK p:=fun {o p} hp=>by
  unfold tR at hp
  cases hc:vH m o.cls with
  | none=>rw [hc]at hp;cases hp
  | some c=>
   rw[hc]at hp;obtain⟨x,hx,rfl⟩:=ao.1 hp;obtain⟨i,hi⟩:=aj.1 (bJ hc);exact k.ok _ (plc_mem ((hok i c hi).2 x (aV.1 hx).1) k.hl)
 refine ent λu=>?_;repeat' first|refine wk ?_|refine cX (λ_=>?_) λ_=>?_|fail
 refine wY (may_ret (by omega) (opA ca)) ?_
 rintro _ h2 n2 ⟨pc,po,rfl,p1,p2,p3,p4,p5,p6,p7,ht2⟩
 have hn2:=ht2.le;obtain⟨ka1,ka2⟩:=cf ha;obtain⟨kb1,kb2⟩:=cf hb;repeat' first|refine wk ?_|refine cX (λ_=>?_) λ_=>?_|fail
 have base:Tch [] h n (hal h2 n2 (.deferred true)) (n2+1):=zA;have g3:zC h2 n 0=some (ptr bc 0):=zM;have g5:zC h2 (n+1) 0=some (I64 (b:Nat)):=zM;have g6:Cel h2 (n+2) (4+1) 0 [.bool false]:=zD;clear ht2;refine wc_rg0 (g:=200) (fs:=[]) (cs:=[ptr pc 0,ptr po 0]) (by(apply sZ;((conv=>lhs;whnf) <;> exact rfl))) ?_
 refine it_core (enc:=plV) (elems:=tR m ns ps (opA ca)) (ps:=[21]) (λdone h' n'=>Tch [] (hal h2 n2 (.deferred true)) (n2+1) h' n'∧n2+2≤n'∧∀p∈done,∀q∈tR m ns ps (opA cb),sP p q=true)
  (λj h' n'=>j = .ret∧Tch [n+2] (hal h2 n2 (.deferred true)) (n2+1) h' n'∧n2+2≤n'∧Cel h' (n+2) (4+1) 0 [.bool true]∧pairB m ns ps (opA ca) (opA cb)) rfl (may1_it (lo:=lo) (bc:=bc) (z:=z) (nsv:=nsv) (psv:=psv) ka1 ha ka2 (hok a ca ha).2) ?_ rG ⟨zA,by omega,λp hp=>by cases hp⟩ ?_ ?_ ?_
 · rintro done h' n' ⟨ht,eu,_⟩
   exact⟨k.tch (Tch.tch ht base (by simp)) dX,by omega,by omega,by omega,zM,zM,zM⟩
 · rintro done p h' n' ⟨ht,eu,dY⟩ hL hpre
   have hpm:p∈tR m ns ps (opA ca):=hpre.subset (by simp);have g3':zC h' n 0=some (ptr bc 0):=zM;have g5':zC h' (n+1) 0=some (I64 (b:Nat)):=zM;have g6':Cel h' (n+2) (4+1) 0 [.bool false]:=zG;have k':=k.tch (Tch.tch ht base (by simp)) dX;have gD:=k'.cel;have r':=k'.mm.cls 0;have b1':=zK r' hb;have b2':=yN b1' (j:=0) rfl;repeat' first|refine wk ?_|refine cX (λ_=>?_) λ_=>?_|fail
   refine wY (may_ret (by omega) (opA cb)) ?_
   rintro _ h4 n4 ⟨pc2,po2,rfl,q1,q2,q3,q4,q5,q6,q7,ht4⟩
   have fL:=ht4.le;repeat' first|refine wk ?_|refine cX (λ_=>?_) λ_=>?_|fail
   have c7:Cel h4 n' (ePl+1) 0 (plC p):=zD;have g6'':Cel h4 (n+2) (4+1) 0 [.bool false]:=zG;have ht5:Tch [] (hal h2 n2 (.deferred true)) (n2+1) h4 n4:=zA;have hbu:=obe_tch ht4 (by omega) (by simp) xX;clear ht4;refine wc_rg1 (g:=200) (fs:=[]) (cs:=[ptr pc2 0,ptr po2 0]) hbu (by(apply sZ;((conv=>lhs;whnf) <;> exact rfl))) ?_
   refine it_core (enc:=plV) (elems:=tR m ns ps (opA cb)) (ps:=[34]) (λdone h5 n5=>Tch [] h4 n4 h5 n5∧n4+1≤n5∧∀q∈done,sP p q=true)
    (λj h5 n5=>j = .ret∧Tch [n+2] h4 n4 h5 n5∧n4+1≤n5∧Cel h5 (n+2) (4+1) 0 [.bool true]∧∃q∈tR m ns ps (opA cb),sP p q=false) rfl (may1_it (lo:=lo) (bc:=bc) (z:=z) (nsv:=nsv) (psv:=psv) kb1 hb kb2 (hok b cb hb).2) ?_ rG ⟨zA,by omega,λp hp=>by cases hp⟩ ?_ ?_ ?_
   · rintro done2 h5 n5 ⟨ht6,fm,_⟩
     exact⟨k.tch (Tch.tch (Tch.tch ht6 ht5 (by simp)) base (by simp)) dX,by omega,by omega,by omega,zM,zM,zM⟩
   · rintro done2 q h5 n5 ⟨ht6,fm,hno2⟩ hL2 hpre2
     have hqm:q∈tR m ns ps (opA cb):=hpre2.subset (by simp);repeat' first|refine wk ?_|refine cX (λ_=>?_) λ_=>?_|refine zX (lap_pur _ _ (mok hpm) (mok hqm) _ _) ?_|fail
     · rename_i f1;exact⟨by omega,.inr ⟨rfl,.ret,xX,rfl,zA,by omega,zD,q,hqm,f1⟩⟩
     · rename_i f1
       exact⟨by omega,.inl ⟨rfl,xX,zA,by omega,λx hx=>by
        rcases az.1 hx with h9|h9
        · exact hno2 x h9
        · simp at h9;subst h9;exact f1⟩⟩
   · rintro h5 n5 ⟨ht6,fm,hno2⟩
     repeat' first|refine wk ?_|refine cX (λ_=>?_) λ_=>?_|fail
     exact⟨by omega,.inl ⟨rfl,xX,zA,by omega,λx hx=>by
      rcases az.1 hx with h9|h9
      · exact dY x h9
      · simp at h9;subst h9;exact hno2⟩⟩
   · rintro _ h5 n5 ⟨rfl,ht6,fm,hc2,kP⟩
     repeat' first|refine wk ?_|refine cX (λ_=>?_) λ_=>?_|fail
     exact⟨by omega,.inr ⟨rfl,.ret,xX,rfl,zA,by omega,zG,p,hpm,kP⟩⟩
 · rintro h' n' ⟨ht,eu,dY⟩
   repeat' first|refine wk ?_|refine cX (λ_=>?_) λ_=>?_|fail
   exact⟨false,rfl,⟨Bool.noConfusion,λ⟨p,hp,q,hq,e⟩=>by rw[dY p hp q hq]at e;cases e⟩,zA⟩
 · rintro _ h' n' ⟨rfl,ht,eu,hc,hp⟩
   repeat' first|refine wk ?_|refine cX (λ_=>?_) λ_=>?_|fail
   exact⟨true,rfl,⟨λ_=>hp,λ_=>rfl⟩,zA⟩
theorem pair_pur(k:Ck lo h bc z m nsv psv ns ps)(dX:lo≤n)(hok:∀(i:Nat) c,m.classes[i]? = some c→xG m c.name=(i:Nat)∧∀r∈c.regs,r∈ns){a b:Nat}{ca cb:ClassT}(ha:m.classes[a]? = some ca)(hb:m.classes[b]? = some cb):Pur P 8 137 [ptr bc 0,I64 (a:Nat),I64 (b:Nat)] h n (.bool (qA m ns ps (opA ca) (opA cb))):=by
 refine Com.pure ((pair_ret k dX hok ha hb).mono λo h' n' ⟨r,e,hr,t⟩=>⟨?_,t⟩) (.inl rfl);rw [e]
 have e2:qA m ns ps (opA ca) (opA cb)=true↔pairB m ns ps (opA ca) (opA cb):=by
  unfold qA pairB;simp [aq]
 congr 2
 exact bC.2 (hr.trans e2.symm)
theorem spared_pur(k:Ck lo h bc z m nsv psv ns ps)(dX:lo≤n){o:OpT}(hm:o∈m.ops)(hc:∀r∈o.clob,r∈ns){p:Pl}(hp:PlOK p):Pur P 8 199 [ptr bc 0,.agg ⟨opC o⟩,plV p] h n (.bool (sparB ns ps o p)):=by
 have fV:=k.hb;have rI:=k.mm.opsc o hm;have kI:=(k.mm.opsu o hm 0).one;have kM:=(rI 0).one;have hl:=rI.lt;have d9:inf<4611686018427387904:=by decide
 have rc:Row lo h o.csv 0 1 o.clob.length (o.clob.map str):=rI 0;refine Com.pure (ent λu=>?_) (.inl rfl);repeat' first|refine wk ?_|refine cX (λ_=>?_) λ_=>?_|fail
 refine lpR (λq:Nat=>[(0,ptr bc 0),(5,ptr (n+1) 0),(10,o.csv),(11,I64 o.clob.length),(12,I64 q)]) (λq h' n'=>Tch [] h n h' n'∧n+2≤n'∧Cel h' (n+1) (ePl+1) 0 (plC p)∧q≤o.clob.length∧∀(j:Nat) r,j<q→o.clob[j]? = some r→sP p (yF ns ps r)=false) (λq=>o.clob.length - q) 0 ⟨zA,by omega,zD,am _,λj _ hj=>absurd hj (aD _)⟩ ?_
 rintro q t h' n' ⟨ht,eu,hc5,hq,dY⟩
 have k':=k.tch ht dX;have gD:=k'.cel;have rp':=k'.rp;have rc':=k'.mm.opsc o hm 0;by_cases dV:q<o.clob.length
 · have c0:o.clob[q]? = some o.clob[q]:=aa dV;generalize o.clob[q]=x at c0
   have c1:=xF rc' c0;have hx:x∈ns:=hc x (ah c0);have okx:PlOK (yF ns ps x):=k.ok _ (plc_mem hx k.hl);repeat' first|refine wk ?_|refine cX (λ_=>?_) λ_=>?_|refine regP k' hx (λ_ _ _ _ _=>?_)|refine zX (lap_pur _ _ hp okx _ _) ?_|fail
   · rename_i f1;exact finT (by unfold sparB;rw [all_false c0 (by rw[f1];rfl)]) ht
   · rename_i f1
     exact rnd (q+1) ⟨ht,eu,hc5,by omega,λj y hj e=>by
      rcases ai.1 hj with h9|rfl
      · exact dY j y h9 e
      · rw[c0]at e;cases e;exact f1⟩
 · obtain rfl:q=o.clob.length:=by omega
   repeat' first|refine wk ?_|refine cX (λ_=>?_) λ_=>?_|fail
   exact finT (by unfold sparB;rw [all_true λi x hi e=>by rw[dY i x hi e];rfl]) ht
end
section
variable {lo bc z n:Nat} {h:zB} {m:MachT} {nsv psv:Value} {ns:List Tx} {ps:List Pl}
theorem may_ok(k:Ck lo h bc z m nsv psv ns ps)(hok:∀(i:Nat) c,m.classes[i]? = some c→xG m c.name=(i:Nat)∧∀r∈c.regs,r∈ns){o:OperT}{p:Pl}(hp:p∈tR m ns ps o):PlOK p:=by
 unfold tR at hp
 cases hc:vH m o.cls with
 | none=>rw [hc]at hp;cases hp
 | some c=>
  rw[hc]at hp;obtain⟨x,hx,rfl⟩:=ao.1 hp;obtain⟨i,hi⟩:=aj.1 (bJ hc);exact k.ok _ (plc_mem ((hok i c hi).2 x (aV.1 hx).1) k.hl)
theorem def_pur(k:Ck lo h bc z m nsv psv ns ps)(dX:lo≤n)(hok:∀(i:Nat) c,m.classes[i]? = some c→xG m c.name=(i:Nat)∧∀r∈c.regs,r∈ns){o:OpT}(hm:o∈m.ops)(hc:∀r∈o.clob,r∈ns){c:ClassT}{i:Nat}(gH:vH m o.d.cls=some c)(hd2:m.classes[i]? = some c)(hd3:xG m o.d.cls=(i:Nat))
{lo2:Nat}{uv:Value}{uses:List Pl}(ru:Row lo2 h uv ePl 3 uses.length (uses.flatMap plC))(hlo2:lo2≤n)(hut:o.tie<uses.length)(huo:∀p∈uses,PlOK p)(iY:uses.length<1000):Pur P 8 181 [ptr bc 0,.agg ⟨opC o⟩,uv] h n (.bool (defB m ns ps o uses)):=by
 have fV:=k.hb;have kI:=(k.mm.opsu o hm 0).one;have kM:=(k.mm.opsc o hm 0).one;have rul:=ru.low;refine Com.pure (ent λu=>?_) (.inl rfl);by_cases htie:0≤o.tie
 · have jZ:o.tie.toNat<uses.length:=by omega
   have d0:uses[o.tie.toNat]? = some uses[o.tie.toNat]:=aa jZ;have e0:defB m ns ps o uses=sparB ns ps o uses[o.tie.toNat]:=by unfold defB;rw [if_pos htie,aU,d0];rfl
   generalize uses[o.tie.toNat]=x at d0 e0
   have okx:PlOK x:=huo x (ah d0);have d1:=zK ru d0;have fi:=ru.low (by omega);have y0:zC h (sbk uv) (sof uv+o.tie.toNat*3)=some (I64 x.root):=yN d1 (j:=0) rfl;have y1:zC h (sbk uv) (sof uv+o.tie.toNat*3+1)=some (I64 x.at_):=yN d1 (j:=1) rfl;have y2:zC h (sbk uv) (sof uv+o.tie.toNat*3+1+1)=some (I64 x.width):=yN d1 (j:=2) rfl;repeat' first|refine wk ?_|refine cX (λ_=>?_) λ_=>?_|refine zX (spared_pur (Ck.tch k zA dX) (by omega) hm hc okx) ?_|fail
   exact finT (by rw[e0]) zA
 · have e0:defB m ns ps o uses=(tR m ns ps o.d).any (sparB ns ps o):=by unfold defB;rw [if_neg htie]
   repeat' first|refine wk ?_|refine cX (λ_=>?_) λ_=>?_|fail
   refine wY (may_ret (by omega) o.d) ?_
   rintro _ h2 n2 ⟨pc,po,rfl,p1,p2,p3,p4,p5,p6,p7,ht2⟩
   have hn2:=ht2.le;have g3:zC h2 n 0=some (ptr bc 0):=zM;have g4:Cel h2 (n+1) (50+1) 0 (opC o):=zD;have g6:Cel h2 (n+2) (4+1) 0 [.bool false]:=zD;have base:Tch [] h n (hal h2 n2 (.deferred true)) (n2+1):=zA;clear ht2;repeat' first|refine wk ?_|refine cX (λ_=>?_) λ_=>?_|fail
   refine wc_rg0 (g:=200) (fs:=[]) (cs:=[ptr pc 0,ptr po 0]) (by(apply sZ;((conv=>lhs;whnf) <;> exact rfl))) ?_
   refine it_core (enc:=plV) (elems:=tR m ns ps o.d) (ps:=[23]) (λdone h' n'=>Tch [] (hal h2 n2 (.deferred true)) (n2+1) h' n'∧n2+2≤n'∧∀p∈done,sparB ns ps o p=false)
    (λj h' n'=>j = .ret∧Tch [n+2] (hal h2 n2 (.deferred true)) (n2+1) h' n'∧n2+2≤n'∧Cel h' (n+2) (4+1) 0 [.bool true]∧∃p∈tR m ns ps o.d,sparB ns ps o p=true) rfl (may1_it (lo:=lo) (bc:=bc) (z:=z) (nsv:=nsv) (psv:=psv) gH hd2 hd3 (hok i c hd2).2) ?_ rG ⟨zA,by omega,λp hp=>by cases hp⟩ ?_ ?_ ?_
   · rintro done h' n' ⟨ht,eu,_⟩
     exact⟨k.tch (Tch.tch ht base (by simp)) dX,by omega,by omega,by omega,zM,zM,zM⟩
   · rintro done p h' n' ⟨ht,eu,dY⟩ hL hpre
     have hpm:p∈tR m ns ps o.d:=hpre.subset (by simp);have k':=k.tch (Tch.tch ht base (by simp)) dX;have g3':zC h' n 0=some (ptr bc 0):=zM;have g4':Cel h' (n+1) (50+1) 0 (opC o):=zG;have g6':Cel h' (n+2) (4+1) 0 [.bool false]:=zG;repeat' first|refine wk ?_|refine cX (λ_=>?_) λ_=>?_|refine zX (spared_pur (Ck.tch k' zA (by omega)) (by omega) hm hc (may_ok k hok hpm)) ?_|fail
     · rename_i f1;exact⟨by omega,.inr ⟨rfl,.ret,xX,rfl,zA,by omega,zD,p,hpm,f1⟩⟩
     · rename_i f1
       exact⟨by omega,.inl ⟨rfl,xX,zA,by omega,λx hx=>by
        rcases az.1 hx with h9|h9
        · exact dY x h9
        · simp at h9;subst h9;exact f1⟩⟩
   · rintro h' n' ⟨ht,eu,dY⟩
     repeat' first|refine wk ?_|refine cX (λ_=>?_) λ_=>?_|fail
     exact finT (by rw[e0];congr 1;cases e:(tR m ns ps o.d).any (sparB ns ps o) with
      | false=>rfl
      | true=>
       obtain⟨p,hp,e2⟩:=aq.1 e;rw [dY p hp]at e2;cases e2) zA
   · rintro _ h' n' ⟨rfl,ht,eu,hc,p,hp,e2⟩
     repeat' first|refine wk ?_|refine cX (λ_=>?_) λ_=>?_|fail
     exact finT (by rw[e0,aq.2 ⟨p,hp,e2⟩]) zA
end
section
variable {lo bc z n:Nat} {h:zB} {m:MachT} {nsv psv:Value} {ns:List Tx} {ps:List Pl}
def ClsOK(m:MachT)(ns:List Tx)(x:Tx):Prop:=∃c i,vH m x=some c∧m.classes[i]? = some c∧xG m x=(i:Nat)∧∀r∈c.regs,r∈ns
abbrev plR(l:List Pl)(v:Value)(h:zB)(n:Nat):Prop:=Row n h v ePl 3 l.length (l.flatMap plC)
def ChsE(lo bc z:Nat)(m:MachT)(nsv psv:Value)(ns:List Tx)(ps:List Pl)(o:OpT)(pc po:Nat)(h':zB)(n':Nat):Prop:=Ck lo h' bc z m nsv psv ns ps∧lo≤n'∧pc<n'∧po<n'∧zC h' pc 0=some (ptr bc 0)∧Cel h' po (50+1) 0 (opC o)
theorem chs_ret(fV:bc<n){o:OpT}(ho:o.usv.oneCell'=true∧o.csv.oneCell'=true):Ret P 8 180 [ptr bc 0,.agg ⟨opC o⟩] h n λv h' n'=>∃pc po,v = .func (.func 198) ⟨[]⟩ ⟨[ptr pc 0,ptr po 0]⟩∧n≤pc∧n≤po∧pc<n'∧po<n'∧zC h' pc 0=some (ptr bc 0)∧Cel h' po (50+1) 0 (opC o)∧Tch [] h n h' n':=by
 obtain⟨fG,ho2⟩:=ho;refine ent λu=>?_;repeat' first|refine wk ?_|refine cX (λ_=>?_) λ_=>?_|fail
 exact⟨_,rfl,n,n+1,rfl,by omega,by omega,by omega,by omega,zM,zD,zA⟩
theorem one_it{pc po L:Nat}{o:OpT}{us:OperT}(hm:o∈m.ops)(hu:o.uses=[us])(hc:ClsOK m ns us.cls):IterM P 8 plR (chL m ns ps o) 198 [.func (.yield L) #[] #[],ptr pc 0,ptr po 0] L n h n (ChsE lo bc z m nsv psv ns ps o pc po):=by
 intro J JF hE eG hclF h0 hy;obtain⟨c,i,c1,c2,c3,c4⟩:=hc;have eL:chL m ns ps o=(tR m ns ps us).map λp=>[p]:=by unfold chL;rw [hu]
 obtain⟨k,dX,hpc,hpo,d1,d2⟩:=hE _ _ _ h0;have ru:Row lo h o.usv 0 2 1 ([us].flatMap oprC):=by have:=k.mm.opsu o hm 0;rw [hu]at this;exact this
 have jG:=zK ru (k:=0) (x:=us) rfl;have y0:zC h (sbk o.usv) (sof o.usv+0*2)=some (str us.cls):=yN jG (j:=0) rfl;have y1:zC h (sbk o.usv) (sof o.usv+0*2+1)=some (str us.fix):=yN jG (j:=1) rfl;have iY:=ru.low (by decide);have fV:=k.hb;refine ent λu=>?_;repeat' first|refine wk ?_|refine cX (λ_=>?_) λ_=>?_|fail
 refine wY (may_ret (by omega) us) ?_
 rintro _ h2 n2 ⟨pc',po',rfl,p1,p2,p3,p4,p5,p6,p7,ht2⟩
 have hn2:=ht2.le;repeat' first|refine wk ?_|refine cX (λ_=>?_) λ_=>?_|fail
 have base:Tch [] h n (hal h2 n2 (.deferred true)) (n2+1):=zA;have g0:zC h2 n 0=some (.func (.yield L) #[] #[]):=zM;clear ht2;refine wc_rg0 (g:=200) (fs:=[]) (cs:=[ptr pc' 0,ptr po' 0]) (by(apply sZ;((conv=>lhs;whnf) <;> exact rfl))) ?_
 refine it_core (enc:=plV) (elems:=tR m ns ps us) (ps:=[12]) (λdone h' n'=>J (done.map λp=>[p]) h' n'∧Tch (List.range n) (hal h2 n2 (.deferred true)) (n2+1) h' n'∧n2+2≤n')
  (λj h' n'=>j = .ret∧JF h' n'∧Tch (List.range n) (hal h2 n2 (.deferred true)) (n2+1) h' n'∧n2+2≤n') rfl (may1_it (lo:=lo) (bc:=bc) (z:=z) (nsv:=nsv) (psv:=psv) c1 c2 c3 c4) ?_ rG ⟨eG _ _ _ _ _ h0 (Tch.lowR (S:=[]) zA (ae _) (by simp)),zA,by omega⟩ ?_ ?_ ?_
 · rintro done h' n' ⟨hj,ht,eu⟩
   obtain⟨k,dX,hpc,hpo,d1,d2⟩:=hE _ _ _ hj;exact⟨k,dX,by omega,by omega,zM,zM,zM⟩
 · rintro done p h' n' ⟨hj,ht,eu⟩ hL hpre
   obtain⟨k,dX,hpc,hpo,d1,d2⟩:=hE _ _ _ hj;have ru:Row lo h' o.usv 0 2 1 ([us].flatMap oprC):=by have:=k.mm.opsu o hm 0;rw [hu]at this;exact this
   have g0':zC h' n 0=some (.func (.yield L) #[] #[]):=zM;repeat' first|refine wk ?_|refine cX (λ_=>?_) λ_=>?_|fail
   refine inv_yield (fs:=[]) (cs:=[]) (Rou.mono (hy (done.map λp=>[p]) [p] _ _ _ ?_ ?_ ?_) ?_)
   · exact eG _ _ _ _ _ hj (Tch.lowR (S:=[n2+1]) zA (by omega) (by simp;omega))
   · exact zL (e:=ePl) (sz:=3) (len:=1) rfl (by decide)
   · rw[eL];show done.map (λp=>[p])++[p].map (λp=>[p]) <+: _;rw [← aK];exact hpre.map _
   rintro _ h3 n3 ⟨eH,⟨rfl,hj3,ht3⟩|⟨rfl,hf,ht3⟩⟩
   · repeat' first|refine wk ?_|refine cX (λ_=>?_) λ_=>?_|fail
     have hj4:=λ(ob:AObj)=>eG _ _ _ (hal h3 (n2+1) ob) n3 hj3 (Tch.lowR (S:=[n2+1]) (Tch.refl _ _ _ |>.upd (.inr (by simp))) (by omega) (by simp;omega));have ht4:Tch (List.range n) (hal h2 n2 (.deferred true)) (n2+1) h3 n3:=Tch.tch ht3 zA λx hx=>.inr hx;exact⟨by omega,.inl ⟨rfl,xX,by rw[aK];exact hj4 _,zA,by omega⟩⟩
   · repeat' first|refine wk ?_|refine cX (λ_=>?_) λ_=>?_|fail
     have hf2:=λ(ob:AObj)=>hclF _ _ (hal h3 (n2+1) ob) n3 hf (Tch.lowR (S:=[n2+1]) (Tch.refl _ _ _ |>.upd (.inr (by simp))) (by omega) (by simp;omega));have ht4:Tch (List.range n) (hal h2 n2 (.deferred true)) (n2+1) h3 n3:=Tch.tch ht3 zA λx hx=>.inr hx;exact⟨by omega,.inr ⟨rfl,.ret,xX,rfl,hf2 _,zA,by omega⟩⟩
 · rintro h' n' ⟨hj,ht,eu⟩
   repeat' first|refine wk ?_|refine cX (λ_=>?_) λ_=>?_|fail
   exact⟨by omega,rfl,.inl (by rw[eL];exact eG _ _ _ _ _ hj (Tch.lowR (S:=[n2,n2+1]) zA (by omega) (by simp;omega)))⟩
 · rintro _ h' n' ⟨rfl,hf,ht,eu⟩
   repeat' first|refine wk ?_|refine cX (λ_=>?_) λ_=>?_|fail
   exact⟨by omega,rfl,.inr (hclF _ _ _ _ hf (Tch.lowR (S:=[n2,n2+1]) zA (by omega) (by simp;omega)))⟩
theorem fl_pre{α β : Type}{f: α→List β}{a b:List α}(h:a <+: b):a.flatMap f <+: b.flatMap f:=by
 obtain⟨t,rfl⟩:=h;rw [a8];exact List.prefix_append _ _
def prs(p:Pl)(l:List Pl):List (List Pl):=(l.filter λq=> !sP p q).map λq=>[p,q]
theorem prs_pre{p:Pl}{a b:List Pl}(h:a <+: b):prs p a <+: prs p b:=(h.filter _).map _
theorem prs_hit{p q:Pl}{a:List Pl}(h:sP p q=false):prs p (a++[q])=prs p a++[[p,q]]:=by unfold prs;rw [dz];simp [h]
theorem prs_no{p q:Pl}{a:List Pl}(h:sP p q=true):prs p (a++[q])=prs p a:=by unfold prs;rw [dz];simp [h]
theorem two_it(hok:∀(i:Nat) c,m.classes[i]? = some c→xG m c.name=(i:Nat)∧∀r∈c.regs,r∈ns){pc po L:Nat}{o:OpT}{us vs:OperT}(hm:o∈m.ops)(hu:o.uses=[us,vs])(hc:ClsOK m ns us.cls)(hd:ClsOK m ns vs.cls):IterM P 8 plR (chL m ns ps o) 198 [.func (.yield L) #[] #[],ptr pc 0,ptr po 0] L n h n (ChsE lo bc z m nsv psv ns ps o pc po):=by
 intro J JF hE eG hclF h0 hy;obtain⟨c,i,c1,c2,c3,c4⟩:=hc;obtain⟨d,j,e1,e2,e3,e4⟩:=hd;have eL:chL m ns ps o=(tR m ns ps us).flatMap λp=>prs p (tR m ns ps vs):=by unfold chL;rw [hu];rfl
 obtain⟨k,dX,hpc,hpo,d1,d2⟩:=hE _ _ _ h0;have ru:Row lo h o.usv 0 2 2 ([us,vs].flatMap oprC):=by have:=k.mm.opsu o hm 0;rw [hu]at this;exact this
 have jG:=zK ru (k:=0) (x:=us) rfl;have y0:zC h (sbk o.usv) (sof o.usv+0*2)=some (str us.cls):=yN jG (j:=0) rfl;have y1:zC h (sbk o.usv) (sof o.usv+0*2+1)=some (str us.fix):=yN jG (j:=1) rfl;have iY:=ru.low (by decide);have fV:=k.hb;have k0:=k;refine ent λu=>?_;repeat' first|refine wk ?_|refine cX (λ_=>?_) λ_=>?_|fail
 refine wY (may_ret (by omega) us) ?_
 rintro _ h2 n2 ⟨pc',po',rfl,p1,p2,p3,p4,p5,p6,p7,ht2⟩
 have hn2:=ht2.le;repeat' first|refine wk ?_|refine cX (λ_=>?_) λ_=>?_|fail
 have g0:zC h2 n 0=some (.func (.yield L) #[] #[]):=zM;have base:Tch [] h n (hal h2 n2 (.deferred true)) (n2+1):=zA;clear ht2;refine wc_rg0 (g:=200) (fs:=[]) (cs:=[ptr pc' 0,ptr po' 0]) (by(apply sZ;((conv=>lhs;whnf) <;> exact rfl))) ?_
 refine it_core (enc:=plV) (elems:=tR m ns ps us) (ps:=[12]) (λdone h' n'=>J (done.flatMap λp=>prs p (tR m ns ps vs)) h' n'∧Tch (List.range n) (hal h2 n2 (.deferred true)) (n2+1) h' n'∧n2+2≤n')
  (λj h' n'=>j = .ret∧JF h' n'∧Tch (List.range n) (hal h2 n2 (.deferred true)) (n2+1) h' n'∧n2+2≤n') rfl (may1_it (lo:=lo) (bc:=bc) (z:=z) (nsv:=nsv) (psv:=psv) c1 c2 c3 c4) ?_ rG ⟨eG _ _ _ _ _ h0 (Tch.lowR (S:=[]) zA (ae _) (by simp)),zA,by omega⟩ ?_ ?_ ?_
 · rintro done h' n' ⟨hj,ht,eu⟩
   obtain⟨k,dX,hpc,hpo,d1,d2⟩:=hE _ _ _ hj;exact⟨k,dX,by omega,by omega,zM,zM,zM⟩
 · rintro done p h' n' ⟨hj,ht,eu⟩ hL hpre
   have hpm:p∈tR m ns ps us:=hpre.subset (by simp);obtain⟨k,dX,hpc,hpo,d1,d2⟩:=hE _ _ _ hj;have ru:Row lo h' o.usv 0 2 2 ([us,vs].flatMap oprC):=by have:=k.mm.opsu o hm 0;rw [hu]at this;exact this
   have jG:=zK ru (k:=1) (x:=vs) rfl;have y0:zC h' (sbk o.usv) (sof o.usv+1*2)=some (str vs.cls):=yN jG (j:=0) rfl;have y1:zC h' (sbk o.usv) (sof o.usv+1*2+1)=some (str vs.fix):=yN jG (j:=1) rfl;have iY:=ru.low (by decide);have g0':zC h' n 0=some (.func (.yield L) #[] #[]):=zM;repeat' first|refine wk ?_|refine cX (λ_=>?_) λ_=>?_|fail
   refine wY (may_ret (by omega) vs) ?_
   rintro _ h4 n4 ⟨pc2,po2,rfl,q1,q2,q3,q4,q5,q6,q7,ht4⟩
   have fL:=ht4.le;repeat' first|refine wk ?_|refine cX (λ_=>?_) λ_=>?_|fail
   have c7:Cel h4 n' (ePl+1) 0 (plC p):=zD;have g04:zC h4 n 0=some (.func (.yield L) #[] #[]):=zM;have hj4:J (done.flatMap λp=>prs p (tR m ns ps vs)) h4 n4:=eG _ _ _ _ _ hj (Tch.lowR (S:=[n2+1]) zA (by omega) (by simp;omega));have hbu:=obe_tch ht4 (by omega) (by simp) xX;have ht5:Tch (List.range n) (hal h2 n2 (.deferred true)) (n2+1) h4 n4:=Tch.tch ht4 zA (by simp);clear ht4;refine wc_rg1 (g:=200) (fs:=[]) (cs:=[ptr pc2 0,ptr po2 0]) hbu (by(apply sZ;((conv=>lhs;whnf) <;> exact rfl))) ?_
   refine it_core (enc:=plV) (elems:=tR m ns ps vs) (ps:=[28]) (λdone2 h5 n5=>J ((done.flatMap λp=>prs p (tR m ns ps vs))++prs p done2) h5 n5∧Tch (List.range n) h4 n4 h5 n5∧n4+1≤n5)
    (λj h5 n5=>j = .ret∧JF h5 n5∧Tch (List.range n) h4 n4 h5 n5∧n4+1≤n5) rfl (may1_it (lo:=lo) (bc:=bc) (z:=z) (nsv:=nsv) (psv:=psv) e1 e2 e3 e4) ?_ rG ⟨by rw[show prs p []=[] from rfl,bK];exact eG _ _ _ _ _ hj4 (Tch.lowR (S:=[]) zA (by omega) (by simp)),zA,by omega⟩ ?_ ?_ ?_
   · rintro done2 h5 n5 ⟨hj5,ht6,fm⟩
     obtain⟨k,dX,hpc,hpo,d1,d2⟩:=hE _ _ _ hj5;exact⟨k,dX,by omega,by omega,zM,zM,zM⟩
   · rintro done2 q h5 n5 ⟨hj5,ht6,fm⟩ hL2 hpre2
     have hqm:q∈tR m ns ps vs:=hpre2.subset (by simp);have g05:zC h5 n 0=some (.func (.yield L) #[] #[]):=zM;have c8:Cel h5 n' (ePl+1) 0 (plC p):=zG;repeat' first|refine wk ?_|refine cX (λ_=>?_) λ_=>?_|refine zX (lap_pur _ _ (may_ok k0 hok hpm) (may_ok k0 hok hqm) _ _) ?_|fail
     · rename_i f1;refine inv_yield (fs:=[]) (cs:=[]) (Rou.mono (hy ((done.flatMap λp=>prs p (tR m ns ps vs))++prs p done2) [p,q] _ _ _ ?_ ?_ ?_) ?_)
       · exact eG _ _ _ _ _ hj5 (Tch.lowR (S:=[n4]) zA (by omega) (by simp;omega))
       · exact zL (e:=ePl) (sz:=3) (len:=2) rfl (by decide)
       · rw[aN,← prs_hit f1,eL];refine List.IsPrefix.trans ?_ (fl_pre hpre);rw [a8];exact(cJ _).2 (by simpa using prs_pre hpre2)
       rintro _ h6 n6 ⟨gM,⟨rfl,hj6,ht7⟩|⟨rfl,hf,ht7⟩⟩
       · repeat' first|refine wk ?_|refine cX (λ_=>?_) λ_=>?_|fail
         have hj7:=λ(ob:AObj)=>eG _ _ _ (hal h6 n4 ob) n6 hj6 (Tch.lowR (S:=[n4]) (Tch.refl _ _ _ |>.upd (.inr (by simp))) (by omega) (by simp;omega));have ht8:Tch (List.range n) h4 n4 h6 n6:=Tch.tch ht7 zA λx hx=>.inr hx;exact⟨by omega,.inl ⟨rfl,xX,by rw[prs_hit f1,← aN];exact hj7 _,zA,by omega⟩⟩
       · repeat' first|refine wk ?_|refine cX (λ_=>?_) λ_=>?_|fail
         have hf2:=λ(ob:AObj)=>hclF _ _ (hal h6 n4 ob) n6 hf (Tch.lowR (S:=[n4]) (Tch.refl _ _ _ |>.upd (.inr (by simp))) (by omega) (by simp;omega));have ht8:Tch (List.range n) h4 n4 h6 n6:=Tch.tch ht7 zA λx hx=>.inr hx;exact⟨by omega,.inr ⟨rfl,.ret,xX,rfl,hf2 _,zA,by omega⟩⟩
     · rename_i f1;exact⟨by omega,.inl ⟨rfl,xX,by rw[prs_no f1];exact eG _ _ _ _ _ hj5 (Tch.lowR (S:=[n4]) zA (by omega) (by simp;omega)),zA,by omega⟩⟩
   · rintro h5 n5 ⟨hj5,ht6,fm⟩
     repeat' first|refine wk ?_|refine cX (λ_=>?_) λ_=>?_|fail
     have hj7:=λ(ob1 ob2:AObj)=>eG _ _ _ (hal (hal h5 n4 ob1) (n2+1) ob2) n5 hj5 (Tch.lowR (S:=[n2+1,n4]) (Tch.refl _ _ _ |>.upd (L:=n4) (.inr (by simp)) |>.upd (L:=n2+1) (.inr (by simp))) (by omega) (by simp;omega));have ht8:Tch (List.range n) (hal h2 n2 (.deferred true)) (n2+1) h5 n5:=Tch.tch ht6 ht5 λx hx=>.inr hx;exact⟨by omega,.inl ⟨rfl,xX,by rw[a8];simpa using hj7 _ _,zA,by omega⟩⟩
   · rintro _ h5 n5 ⟨rfl,hf,ht6,fm⟩
     repeat' first|refine wk ?_|refine cX (λ_=>?_) λ_=>?_|fail
     have ht8:Tch (List.range n) (hal h2 n2 (.deferred true)) (n2+1) h5 n5:=Tch.tch ht6 ht5 λx hx=>.inr hx;exact⟨by omega,.inr ⟨rfl,.ret,xX,rfl,hclF _ _ _ _ hf (Tch.lowR (S:=[n2+1,n4]) zA (by omega) (by simp;omega)),zA,by omega⟩⟩
 · rintro h' n' ⟨hj,ht,eu⟩
   repeat' first|refine wk ?_|refine cX (λ_=>?_) λ_=>?_|fail
   exact⟨by omega,rfl,.inl (by rw[eL];exact eG _ _ _ _ _ hj (Tch.lowR (S:=[n2,n2+1]) zA (by omega) (by simp;omega)))⟩
 · rintro _ h' n' ⟨rfl,hf,ht,eu⟩
   repeat' first|refine wk ?_|refine cX (λ_=>?_) λ_=>?_|fail
   exact⟨by omega,rfl,.inr (hclF _ _ _ _ hf (Tch.lowR (S:=[n2,n2+1]) zA (by omega) (by simp;omega)))⟩
end
section
variable {lo bc z n:Nat} {h:zB} {m:MachT} {nsv psv:Value} {ns:List Tx} {ps:List Pl}
theorem tch_rng{nI n n' L:Nat}{h h':zB}{o:AObj}(hL:L<nI)(t:Tch (List.range nI) h n h' n'):Tch (List.range nI) h n (hal h' L o) n':=⟨t.1,λb hb hS=>by
 rw[zO,if_neg (by rintro rfl;exact hS (bP.2 hL))];exact t.2 b hb hS⟩
theorem tch_low{S:List Nat}{nI n n' n2:Nat}{h h' h2:zB}(t:Tch S h n h' n')(l:Low nI h' n' h2 n2)(hn:n≤nI):Tch S h n h2 n2:=⟨aZ t.1 l.1,λb hb hS=>by rw[l.2 b (by omega)];exact t.2 b hb hS⟩
theorem cel_low{nI n n' b z kd:Nat}{h h':zB}{vs:List Value}(c:Cel h b z kd vs)(l:Low nI h n h' n')(hn:b<nI):Cel h' b z kd vs:=cel_same c (l.2 b hn)
theorem row_ne{n L e sz len D:Nat}{h:zB}{v:Value}{vs:List Value}{st:LoopState}{pe:Option Code}{fn:FuncId}{pa:Array Tmp}{asg bo:Code}{t:Fr}(r:Row n h v e sz len vs)(hL:zF h L=LoO st pe fn pa asg bo D t):∀b,zP v=some b→b∉[L]:=λb hb=>by
 rcases r with⟨rfl,_,_⟩|⟨b',off,cap,m,z,kd,_,rfl,_,hi,_⟩
 · cases hb
 · injection hb with hb
   have hb:b'=b:=hb;subst hb;simp
   rintro rfl
   rw[hL]at hi;cases hi
structure OpOK (m:MachT) (ns:List Tx) (o:OpT):Prop where
 hm:o∈m.ops
 us:∀u∈o.uses,ClsOK m ns u.cls
 d:ClsOK m ns o.d.cls
 cl:∀r∈o.clob,r∈ns
 tie:o.tie<o.uses.length
 len:o.uses.length=1∨o.uses.length=2
theorem ch_len{o:OpT}{l:List Pl}(h:l∈chL m ns ps o):l.length=o.uses.length∨(2<o.uses.length∧l.length=2):=by
 unfold chL at h;split at h
 · cases h
 · rename_i u hu;obtain⟨p,_,rfl⟩:=ao.1 h;rw [hu];exact .inl rfl
 · rename_i u v r hu;obtain⟨p,_,h⟩:=bF.1 h;obtain⟨q,_,rfl⟩:=ao.1 h;rw [hu]
   cases r with
   | nil=>exact .inl rfl
   | cons=>exact .inr ⟨by simp,rfl⟩
theorem ch_mem{o:OpT}{l:List Pl}(h:l∈chL m ns ps o):∀p∈l,∃u∈o.uses,p∈tR m ns ps u:=by
 unfold chL at h;split at h
 · cases h
 · rename_i u hu;obtain⟨p,hp,rfl⟩:=ao.1 h;intro q hq;simp at hq;subst hq;exact⟨u,by rw[hu];simp,hp⟩
 · rename_i u v r hu;obtain⟨p,hp,h⟩:=bF.1 h;obtain⟨q,hq,rfl⟩:=ao.1 h;intro x hx;simp at hx;rcases hx with rfl|rfl
   · exact⟨u,by rw[hu];simp,hp⟩
   · exact⟨v,by rw[hu];simp,(aV.1 hq).1⟩
theorem fits_pur(k:Ck lo h bc z m nsv psv ns ps)(dX:lo≤n)(hok:∀(i:Nat) c,m.classes[i]? = some c→xG m c.name=(i:Nat)∧∀r∈c.regs,r∈ns){o:OpT}(ho:OpOK m ns o):Pur P 8 136 [ptr bc 0,.agg ⟨opC o⟩] h n (.bool (fitsB m ns ps o)):=by
 obtain⟨hm,hus,⟨dc,di,d1,d2,d3,d4⟩,eG,htie,ej⟩:=ho;have fV:=k.hb;have kI:=(k.mm.opsu o hm 0).one;have kM:=(k.mm.opsc o hm 0).one;refine Com.pure (ent λu=>?_) (.inl rfl);repeat' first|refine wk ?_|refine cX (λ_=>?_) λ_=>?_|fail
 refine wY (chs_ret (by omega) ⟨kI,kM⟩) ?_
 rintro _ h2 n2 ⟨pc,po,rfl,p1,p2,p3,p4,p5,p6,ht2⟩
 have hn2:=ht2.le;have g3:zC h2 n 0=some (ptr bc 0):=zM;have g4:Cel h2 (n+1) (50+1) 0 (opC o):=zD;have g6:Cel h2 (n+2) (4+1) 0 [.bool false]:=zD;have base:Tch [] h n (hal h2 n2 (.deferred true)) (n2+1):=zA;clear ht2;repeat' first|refine wk ?_|refine cX (λ_=>?_) λ_=>?_|fail
 refine wc_rg0 (g:=198) (fs:=[]) (cs:=[ptr pc 0,ptr po 0]) (by(apply sZ;((conv=>lhs;whnf) <;> exact rfl))) ?_
 refine it_coreM (elR:=plR) (elems:=chL m ns ps o) (ps:=[9]) (nI:=n2+2) (E:=ChsE lo bc z m nsv psv ns ps o pc po) (λdone h' n'=>Tch [] (hal h2 n2 (.deferred true)) (n2+1) h' n'∧n2+2≤n'∧∀l∈done,defB m ns ps o l=false)
  (λj h' n'=>j = .ret∧Tch [n+2] (hal h2 n2 (.deferred true)) (n2+1) h' n'∧n2+2≤n'∧Cel h' (n+2) (4+1) 0 [.bool true]∧∃l∈chL m ns ps o,defB m ns ps o l=true) rfl ?_ ?_ ?_ ?_ (by omega) rG ⟨zA,by omega,λp hp=>by cases hp⟩ ?_ ?_ ?_
 · rcases hu:o.uses with _|⟨u1,_|⟨u2,_|⟨u3,r⟩⟩⟩
   · rw[hu]at ej;simp at ej
   · exact one_it hm hu (hus u1 (by rw[hu];simp))
   · exact two_it hok hm hu (hus u1 (by rw[hu];simp)) (hus u2 (by rw[hu];simp))
   · rw[hu]at ej;simp at ej
 · rintro done h' n' ⟨ht,eu,_⟩
   exact⟨k.tch (Tch.tch ht base (by simp)) dX,by omega,by omega,by omega,zM,zG⟩
 · rintro done h' n' h3 n3 ⟨ht,eu,dY⟩ lw
   have:=lw.1;exact⟨tch_low ht lw (by omega),by omega,dY⟩
 · rintro j h' n' h3 n3 ⟨rfl,ht,eu,hc,he⟩ lw
   have:=lw.1;exact⟨rfl,tch_low ht lw (by omega),by omega,cel_low hc lw (by omega),he⟩
 · rintro done l v h' n' ⟨ht,eu,dY⟩ hL hr hpre
   have hlm:l∈chL m ns ps o:=hpre.subset (by simp);have k':=k.tch (Tch.tch ht base (by simp)) dX;have g3':zC h' n 0=some (ptr bc 0):=zM;have g4':Cel h' (n+1) (50+1) 0 (opC o):=zG;have g6':Cel h' (n+2) (4+1) 0 [.bool false]:=zG;have hU:l.length=o.uses.length:=by rcases ch_len hlm with h9|h9 <;> omega
   have hr':∀o',plR l v (hal h' (n2+1) o') n':=λo'=>hr.tch (S:=[n2+1]) ⟨ae _,λb hb hS=>by rw[zO,if_neg (by rintro rfl;simp at hS)]⟩ (ae _) (row_ne hr hL);repeat' first|refine wk ?_|refine cX (λ_=>?_) λ_=>?_|refine zX (def_pur (Ck.tch k' zA (by omega)) (by omega) hok hm eG d1 d2 d3 (hr' _) (ae _) (by omega) (λp hp=>by obtain⟨u,hu,hp⟩:=ch_mem hlm p hp;exact may_ok k hok hp) (by omega)) ?_|fail
   · rename_i f1;exact⟨by omega,.inr ⟨rfl,⟨.ret,xX,rfl,zA,by omega,zD,l,hlm,f1⟩,tch_rng (by omega) ((tch_rng (by omega) (Tch.refl _ _ _)).hst (.inr (bP.2 (by omega))))⟩⟩
   · rename_i f1
     exact⟨by omega,.inl ⟨rfl,xX,⟨zA,by omega,λx hx=>by
      rcases az.1 hx with h9|h9
      · exact dY x h9
      · simp at h9;subst h9;exact f1⟩,tch_rng (by omega) (tch_rng (by omega) (Tch.refl _ _ _))⟩⟩
 · rintro h' n' kj ⟨ht,eu,dY⟩
   repeat' first|refine wk ?_|refine cX (λ_=>?_) λ_=>?_|fail
   exact finT (by unfold fitsB;congr 1;cases e:(chL m ns ps o).any (defB m ns ps o) with
    | false=>rfl
    | true=>
     obtain⟨p,hp,e2⟩:=aq.1 e;rw [dY p hp]at e2;cases e2) zA
 · rintro _ h' n' kj ⟨rfl,ht,eu,hc,p,hp,e2⟩
   repeat' first|refine wk ?_|refine cX (λ_=>?_) λ_=>?_|fail
   exact finT (by unfold fitsB;rw [aq.2 ⟨p,hp,e2⟩]) zA
end
end Go.Proofs.YtmccnilgnlaffaaGreatDoor
