/- What the law leans on, part 15 of 24. Conditions: those that each theorem states. -/
import Derived.Test.YtdiejolnllipnaaGreatDoorMachPrintsx14
import Derived.Test.YtdiejolnllipnaaGreatDoorMachPrintsx12
import Derived.Test.YtdiejolnllipnaaGreatDoorMachPrintsx11

set_option linter.unusedVariables false
set_option linter.unusedSimpArgs false
namespace Go.Proofs.YtdiejolnllipnaaGreatDoor
open Go Go.Ex Go.Ex.M
set_option maxRecDepth 100000
set_option maxHeartbeats 8000000
section
abbrev zW:Nat:=163+1
abbrev eAr:Nat:=160
abbrev WayM:=Pl×Value×List Pl
abbrev wayC(x:WayM):List Value:=[I64 x.1.root,I64 x.1.at_,I64 x.1.width,x.2.1]
def Kp(n0 bw br:Nat)(h:zB)(b:Nat):Prop:=b<n0\/(b≠bw/\b≠br/\(yC (zG h b)=none\/∃m z,0<z/\yC (zG h b)=some (m,z,0)))
def KeepR(n0 bw br:Nat)(h:zB)(n:Nat)(h':zB)(n':Nat):Prop:=n<=n'/\∀b,b<n->Kp n0 bw br h b->zG h' b=zG h b
theorem KeepR.refl(n0 bw br:Nat)(h:zB)(n:Nat):KeepR n0 bw br h n h n:=⟨ad _,λ_ _ _=>rfl⟩
theorem KeepR.step{S:List Nat}{n0 bw br n n1 n2:Nat}{h h1 h2:zB}(k:KeepR n0 bw br h n h1 n1)(t:Tch S h1 n1 h2 n2)(hS:∀b∈S,¬Kp n0 bw br h1 b):KeepR n0 bw br h n h2 n2:=⟨aW k.1 t.1,λb hb hc=>by
 have e:=k.2 b hb hc;rw [t.2 b (by have:=k.1;omega) λhx=>?_,e];refine hS b hx ?_;unfold Kp at hc ⊢;rw [e];exact hc⟩
theorem kp_bw{n0 bw br:Nat}{h:zB}(hb:n0<=bw):¬Kp n0 bw br h bw:=λk=>by
 rcases k with k|⟨k,_⟩
 . omega
 . exact k rfl
theorem kp_br{n0 bw br:Nat}{h:zB}(hb:n0<=br):¬Kp n0 bw br h br:=λk=>by
 rcases k with k|⟨_,k,_⟩
 . omega
 . exact k rfl
theorem own_info{n0 bw br n:Nat}{h:zB}{v:Value}{e sz len:Nat}{vs:List Value}(o:Own n0 n h v e sz len vs):∀b∈(zH v).toList,¬Kp n0 bw br h b:=λb hb k=>by
 rcases o with⟨rfl,_⟩|⟨b2,q1,q2,rfl,p3,_⟩
 . cases hb
 have hb:b∈(some b2).toList:=hb;simp at hb;subst hb;rcases k with k|⟨_,_,k|⟨m,z,_,k⟩⟩
 . omega
 . rw[p3]at k;cases k
 . rw[p3]at k;exact absurd (kd_of k) qK 
theorem way_info{n0 bw br n:Nat}{h:zB}{v:Value}{e sz len:Nat}{vs:List Value}(w:WayR n0 n h v e sz len vs):∀b∈(zH v).toList,¬Kp n0 bw br h b:=λb hb k=>by
 obtain⟨b2,m,z,kd,cap,h1,h2,rfl,h3,_,_,_,h7⟩:=w;have hb:b∈(some b2).toList:=hb;simp at hb;subst hb;rcases k with k|⟨_,_,k|⟨m',z',hz,k⟩⟩
 . omega
 . rw[h3]at k;cases k
 . rw[h3]at k;injection k with k
   injection k with _ k
   injection k with k1 k2
   rcases h7 with⟨_,rfl,_⟩|⟨rfl,_⟩
   . omega
   . cases k2
theorem way_own{lo lo' n n':Nat}{h:zB}{v v':Value}{e sz len e' sz' len':Nat}{vs vs':List Value}(w:WayR lo n h v e sz len vs)(o:Own lo' n' h v' e' sz' len' vs')(eJ:e≠e'\/sz≠sz'):Dj v v':=λb hb e2=>by
 obtain⟨b2,m,z,kd,cap,h1,h2,rfl,h3,_,_,_,h7⟩:=w;injection hb with hb
 have hb:b2=b:=hb;subst hb;rcases o with⟨rfl,_⟩|⟨b3,_,_,rfl,p3,_⟩
 . cases e2
 injection e2 with e2
 have e2:b3=b2:=e2;subst e2;rw [h3]at p3;injection p3 with p3
 injection p3 with _ p3
 injection p3 with p3 p4
 rcases h7 with⟨rfl,_⟩|⟨_,_,rfl⟩
 . cases p4
 . obtain⟨a,b⟩:=zc_inj p3;omega
theorem way_cel{lo n b z:Nat}{h:zB}{v:Value}{e sz len:Nat}{vs ws:List Value}(w:WayR lo n h v e sz len vs)(c:Cel h b z 0 ws)(hz:0<z):zH v≠some b:=λhb=>by
 obtain⟨b2,m,z',kd,cap,h1,h2,rfl,h3,_,_,_,h7⟩:=w;injection hb with hb
 have hb:b2=b:=hb;subst hb;rw [c.1]at h3;injection h3 with h3
 injection h3 with _ h3
 injection h3 with h3 h4
 rcases h7 with⟨_,rfl,_⟩|⟨rfl,_⟩
 . omega
 . cases h4
theorem rO{lo n b:Nat}{h:zB}{v:Value}{e sz len:Nat}{vs:List Value}{l:List (List UInt8×Value)}(m:MpS h b l)(o:Own lo n h v e sz len vs):b∉(zH v).toList:=λhx=>by
 obtain⟨es,clock,m,_⟩:=m;rcases o with⟨rfl,_⟩|⟨b2,_,_,rfl,p3,_⟩
 . cases hx
 have hx:b∈(some b2).toList:=hx;simp at hx;subst hx;rw [m]at p3;cases p3
theorem xH{b b' z kd:Nat}{h:zB}{vs:List Value}{l:List (List UInt8×Value)}(m:MpS h b l)(c:Cel h b' z kd vs):b≠b':=by
 rintro rfl
 obtain⟨es,clock,m,_⟩:=m;have:=c.1;rw [m]at this;cases this
theorem map_way{lo n b:Nat}{h:zB}{v:Value}{e sz len:Nat}{vs:List Value}{l:List (List UInt8×Value)}(m:MpS h b l)(w:WayR lo n h v e sz len vs):zH v≠some b:=λhb=>by
 obtain⟨es,clock,m,_⟩:=m;obtain⟨b2,m',z',kd,cap,h1,h2,rfl,h3,_⟩:=w;injection hb with hb
 have hb:b2=b:=hb;subst hb;rw [m]at h3;cases h3
theorem no_of{v:Value}{b:Nat}(h:zH v≠some b):b∉(zH v).toList:=λhx=>by
 cases e:zH v with
 | none=>rw [e]at hx;cases hx
 | some c=>rw [e]at hx h;simp at hx;subst hx;exact h rfl
theorem yW{v:Value}{b0:Nat}(h:b0∉(zH v).toList):∀b,zH v=some b->b∉[b0]:=λb hb hx=>by
 simp at hx;subst hx;exact h (by rw[hb];simp)
theorem way_put{lo n i:Nat}{h:zB}{v x:Value}{e sz len bb cap:Nat}{vs:List Value}(w:WayR lo n h v e sz len vs)(hv:v = .slice (some ⟨bb,0,none⟩) len cap)(hi:i<vs.length)(_hx:x.oneCell'=true):WayR lo n (hst h bb i [x]) v e sz len (vs.set i x):=by
 obtain⟨b2,m,z,kd,cap',h1,h2,rfl,h3,h4,h5,h6,h7⟩:=w;injection hv with fC _ hv2
 injection fC with fC
 injection fC with fC _
 subst fC hv2;have hk:kd≠3:=by rcases h7 with⟨rfl,_⟩|⟨rfl,_⟩ <;> decide
 refine⟨b2,m,z,kd,cap',h1,h2,rfl,by rw[zX,if_pos rfl,sA];exact h3,by rw[bh];exact h4,by rw[bh];exact h5,λj hj=>?_,h7⟩;rw [bh]at hj;unfold zD;rw [zX,if_pos rfl,cellOf_stC _ _ _ h3 qM  hk];by_cases e:i=j
 . subst e;rw [if_pos qL,bB,bY hj];rfl
 . rw[if_neg qM,bH e];exact h6 j hj
theorem stp_way{lo n i:Nat}{h:zB}{v x:Value}{e sz len bb cap:Nat}{vs:List Value}(w:WayR lo n h v e sz len vs)(hv:v = .slice (some ⟨bb,0,none⟩) len cap)(hi:i<vs.length)(hx:x.oneCell'=true):StP h (ptr bb i) [x] (hst h bb i [x]):=by
 obtain⟨b2,m,z,kd,cap',h1,h2,rfl,h3,h4,h5,h6,h7⟩:=w;injection hv with fC _ hv2
 injection fC with fC
 injection fC with fC _
 subst fC hv2;exact⟨b2,i,m,z,kd,rfl,h3,by rcases h7 with⟨rfl,_⟩|⟨rfl,_⟩ <;> exact⟨by decide,by decide⟩,by simp;omega,λy hy=>by simp at hy;subst hy;exact hx,rfl⟩
structure Gw (n0:Nat) (h:zB) (n bw br:Nat) (cs:List Value) (nsv psv wsv:Value) (ns ms:List Tx) (ps:List Pl) (wm:List WayM):Prop where
 cel:Cel h bw zW 0 cs
 hb:n0<=bw/\bw<n/\n0<=br/\br<n
 on:Own n0 n h nsv qI 1 ns.length (ns.map str)
 op:Own n0 n h psv ePl 3 ps.length (ps.flatMap plC)
 mp:MpS h br (numL ms)
 ow:WayR n0 n h wsv eAr 4 wm.length (wm.flatMap wayC)
 oi:∀(i:Nat) x,wm[i]? = some x->Own n0 n h x.2.1 ePl 3 x.2.2.length (x.2.2.flatMap plC)
 dj:∀(i:Nat) x,wm[i]? = some x->Dj x.2.1 psv
 dd:∀(i j:Nat) x y,i≠j->wm[i]? = some x->wm[j]? = some y->Dj x.2.1 y.2.1
section
variable {n0 n n' bw br:Nat} {h h':zB} {cs cs':List Value} {nsv psv wsv v':Value} {ns ms:List Tx} {ps:List Pl} {wm:List WayM}
theorem Gw.tch(g:Gw n0 h n bw br cs nsv psv wsv ns ms ps wm)(t:Tch [] h n h' n'):Gw n0 h' n' bw br cs nsv psv wsv ns ms ps wm:=by
 obtain⟨b1,b2,b3,b4⟩:=g.hb;have:=t.le;exact⟨g.cel.tch t b2 qL,⟨b1,by omega,b3,by omega⟩,g.on.tch t qL,g.op.tch t qL,g.mp.tch t b4 qL,g.ow.tch t qL,λi x hx=>(g.oi i x hx).tch t qL,g.dj,g.dd⟩
theorem Gw.own(g:Gw n0 h n bw br cs nsv psv wsv ns ms ps wm)(t:Tch [bw] h n h' n')(c:Cel h' bw zW 0 cs'):Gw n0 h' n' bw br cs' nsv psv wsv ns ms ps wm:=by
 obtain⟨b1,b2,b3,b4⟩:=g.hb;have:=t.le;have hc:=g.cel;exact⟨c,⟨b1,by omega,b3,by omega⟩,g.on.tch t (yW (yK hc g.on)),g.op.tch t (yW (yK hc g.op)),g.mp.tch t b4 (by simpa using xH g.mp hc),g.ow.tch t (yW (no_of (way_cel g.ow hc qK))),λi x hx=>(g.oi i x hx).tch t (yW (yK hc (g.oi i x hx))),g.dj,g.dd⟩
theorem Gw.cut(g:Gw n0 h n bw br cs nsv psv wsv ns ms ps wm){k:Nat}(w:WayR n0 n h v' eAr 4 k ((wm.flatMap wayC).take (k*4)))(hk:k<=wm.length):Gw n0 h n bw br cs nsv psv v' ns ms ps (wm.take k):=by
 have sub:∀(i:Nat) x,(wm.take k)[i]? = some x->wm[i]? = some x:=λi x hx=>by
  have:=(ab.1 hx).1;rw [aI]at this
  rwa [aJ qJ]at hx
 have e1:∀(l:List WayM) k,k<=l.length->(l.flatMap wayC).take (k*4)=(l.take k).flatMap wayC:=by
  intro l
  induction l with
  | nil=>intro k hk;simp at hk;subst hk;rfl
  | cons a l ih =>
   intro k hk
   cases k with
   | zero=>rfl
   | succ k=>
    rw[aV,cE,aV,<- ih k (by simpa using hk),show(k+1)*4=k*4+4 by omega];rfl
 refine⟨g.cel,g.hb,g.on,g.op,g.mp,?_,λi x hx=>g.oi i x (sub i x hx),λi x hx=>g.dj i x (sub i x hx),λi j x y hij hx hy=>g.dd i j x y hij (sub i x hx) (sub j y hy)⟩;rw [<- e1 wm k hk,aI,b8 hk];exact w
theorem Gw.win(g:Gw n0 h n bw br cs nsv psv wsv ns ms ps wm){dn bb cap:Nat}{x:WayM}{p:Pl}(hx:wm[dn]? = some x)(hv:wsv = .slice (some ⟨bb,0,none⟩) wm.length cap)(o':Own n n' h' v' ePl 3 (x.2.2.length+1) (x.2.2.flatMap plC++plC p))(t:Tch (zH x.2.1).toList h n h' n'):Gw n0 (hst h' bb (dn*4+3) [v']) n' bw br cs nsv psv wsv ns ms ps (wm.set dn (x.1,v',x.2.2++[p])):=by
 obtain⟨b1,b2,b3,b4⟩:=g.hb;have:=t.le;have ox:=g.oi dn x hx;have fT:zH wsv=some bb:=by rw[hv];rfl
 have eD:=(ab.1 hx).1;have w1:WayR n0 n' h' wsv eAr 4 wm.length (wm.flatMap wayC):=g.ow.tch t (way_own g.ow ox (.inl qK)).no;have c1:Cel h' bw zW 0 cs:=g.cel.app ox t b2;have m1:MpS h' br (numL ms):=g.mp.tch t b4 (rO g.mp ox);have on1:=g.on.tch t (sQ g.on ox (.inl qK)).no;have op1:=g.op.tch t (g.dj dn x hx).comm.no;have t2:Tch [bb] h' n' (hst h' bb (dn*4+3) [v']) n':=Tch.hst (Tch.refl _ _ _) (.inr qL);have nb:∀{lo v e sz len vs},Own lo n' h' v e sz len vs->(eAr≠e\/4≠sz)->∀b,zH v=some b->b∉[bb]:=λo eJ=>yW (no_of (λe=>way_own w1 o eJ bb fT e));have o2:Own n0 n' h' v' ePl 3 (x.2.2.length+1) (x.2.2.flatMap plC++plC p):=o'.dnl qJ;have oi1:∀(i:Nat) y,i≠dn->wm[i]? = some y->Own n0 n' h' y.2.1 ePl 3 y.2.2.length (y.2.2.flatMap plC):=λi y hi hy=>(g.oi i y hy).tch t (g.dd i dn y x hi hy hx).no
 have kU:∀(l:List WayM) d,d<l.length->(l.flatMap wayC).set (d*4+3) v'=(l.set d ((l[d]?.getD (⟨0,0,0⟩,v',[])).1,v',x.2.2++[p])).flatMap wayC:=by
  intro l
  induction l with
  | nil=>intro d hd;cases hd
  | cons a l ih =>
   intro d hd
   cases d with
   | zero=>rfl
   | succ d=>
    rw[aV,show(d+1)*4+3=(d*4+3)+4 by omega,List.set_cons_succ,aV,bW,<- ih d (by simpa using hd)];rfl
 have gh:(wm.flatMap wayC).length=wm.length*4:=flat_len (f:=wayC) (sz:=4) (λ_=>rfl) wm;have w2:=way_put w1 hv (i:=dn*4+3) (x:=v') (by rw[gh];omega) o2.one;rw [kU wm dn eD,hx]at w2;refine⟨c1.hst (λe=>way_cel w1 c1 qK  (by rw[fT,e])),⟨b1,by omega,b3,by omega⟩,on1.tch t2 (nb on1 (.inl qK)),op1.tch t2 (nb op1 (.inl qK)),m1.tch t2 qJ  (by simp;rintro rfl;exact map_way m1 w1 fT),by rw[bh];exact w2,λi y hy=>?_,λi y hy=>?_,λi j y z hij hy hz=>?_⟩
 . rw[dg]at hy;split at hy
   . cases hy
     show Own n0 n' _ v' ePl 3 (x.2.2++[p]).length ((x.2.2++[p]).flatMap plC);rw [ah,aT];exact o2.tch t2 (nb o2 (.inl qK))
   . rename_i eJ;have:=oi1 i y (λe=>eJ e.symm) hy;exact this.tch t2 (nb this (.inl qK))
 . rw[dg]at hy;split at hy
   . cases hy
     exact(vM g.op o').comm
   . exact g.dj i y hy
 . rw[dg]at hy hz;split at hy
   . cases hy
     split at hz
     . exact absurd qJ  hij
     . exact(vM (g.oi j z hz) o').comm
   . split at hz
     . cases hz
       exact vM (g.oi i y hy) o'
     . exact g.dd i j y z hij hy hz
theorem Gw.map(g:Gw n0 h n bw br cs nsv psv wsv ns ms ps wm){o:AObj}{ms':List Tx}(m:MpS (hal h br o) br (numL ms')):Gw n0 (hal h br o) n bw br cs nsv psv wsv ns ms' ps wm:=by
 obtain⟨b1,b2,b3,b4⟩:=g.hb;have t:Tch [br] h n (hal h br o) n:=(Tch.refl _ _ _).upd (.inr qL);exact⟨g.cel.tch t b2 (by simpa using (xH g.mp g.cel).symm),g.hb,g.on.tch t (yW (rO g.mp g.on)),g.op.tch t (yW (rO g.mp g.op)),m,g.ow.tch t (yW (no_of (map_way g.mp g.ow))),λi x hx=>(g.oi i x hx).tch t (yW (rO g.mp (g.oi i x hx))),g.dj,g.dd⟩
theorem Gw.nm(g:Gw n0 h n bw br cs nsv psv wsv ns ms ps wm){x:Tx}(o':Own n n' h' v' qI 1 (ns.length+1) (ns.map str++[str x]))(t:Tch (zH nsv).toList h n h' n'):Gw n0 h' n' bw br cs v' psv wsv (ns++[x]) ms ps wm:=by
 obtain⟨b1,b2,b3,b4⟩:=g.hb;have:=t.le;exact⟨g.cel.app g.on t b2,⟨b1,by omega,b3,by omega⟩,by rw[ah,aC];exact o'.dnl qJ,g.op.tch t (sQ g.op g.on (.inl qK)).no,g.mp.tch t b4 (rO g.mp g.on),g.ow.tch t (way_own g.ow g.on (.inl qK)).no,λi x hx=>(g.oi i x hx).tch t (sQ (g.oi i x hx) g.on (.inl qK)).no,g.dj,g.dd⟩
theorem Gw.pl(g:Gw n0 h n bw br cs nsv psv wsv ns ms ps wm){p:Pl}(o':Own n n' h' v' ePl 3 (ps.length+1) (ps.flatMap plC++plC p))(t:Tch (zH psv).toList h n h' n'):Gw n0 h' n' bw br cs nsv v' wsv ns ms (ps++[p]) wm:=by
 obtain⟨b1,b2,b3,b4⟩:=g.hb;have:=t.le;exact⟨g.cel.app g.op t b2,⟨b1,by omega,b3,by omega⟩,g.on.tch t (sQ g.on g.op (.inl qK)).no,by rw[ah,aT];exact o'.dnl qJ,g.mp.tch t b4 (rO g.mp g.op),g.ow.tch t (way_own g.ow g.op (.inl qK)).no,λi x hx=>(g.oi i x hx).tch t (g.dj i x hx).no,λi x hx=>vM (g.oi i x hx) o',g.dd⟩
theorem Gw.way(g:Gw n0 h n bw br cs nsv psv wsv ns ms ps wm){p:Pl}(w:WayR n0 n' h' v' eAr 4 (wm.length+1) (wm.flatMap wayC++(plC p++[.slice none 0 0])))(t:Tch (zH wsv).toList h n h' n'):Gw n0 h' n' bw br cs nsv psv v' ns ms ps (wm++[(p,.slice none 0 0,[])]):=by
 obtain⟨b1,b2,b3,b4⟩:=g.hb;have:=t.le;have no:∀{lo v e sz len vs},Own lo n h v e sz len vs->(eAr≠e\/4≠sz)->∀b,zH v=some b->b∉(zH wsv).toList:=λo eJ=>(way_own g.ow o eJ).comm.no
 have fZ:∀(i:Nat) x,(wm++[(p,Value.slice none 0 0,([]:List Pl))])[i]? = some x->wm[i]? = some x\/(i=wm.length/\x=(p,.slice none 0 0,[])):=λi x hx=>by
  rw[List.getElem?_append]at hx;split at hx
  . exact .inl hx
  . rename_i kF
    have:i - wm.length=0:=by
     rcases bK (i - wm.length) with h9|h9
     . exact h9
     . rw[aw qM]at hx;cases hx
    rw[this]at hx;exact .inr ⟨by omega,(Option.some.inj hx).symm⟩
 refine⟨g.cel.tch t b2 (no_of (way_cel g.ow g.cel qK)),⟨b1,by omega,b3,by omega⟩,g.on.tch t (no g.on (.inl qK)),g.op.tch t (no g.op (.inl qK)),g.mp.tch t b4 (no_of (map_way g.mp g.ow)),by rw[ah,aT];exact w,λi x hx=>?_,λi x hx=>?_,λi j x y hij hx hy=>?_⟩
 . rcases fZ i x hx with hx|⟨_,rfl⟩
   . exact(g.oi i x hx).tch t (no (g.oi i x hx) (.inl qK))
   . exact Own.nil
 . rcases fZ i x hx with hx|⟨_,rfl⟩
   . exact g.dj i x hx
   . exact Dj.nil _
 . rcases fZ i x hx with hx|⟨h1,rfl⟩
   . rcases fZ j y hy with hy|⟨h2,rfl⟩
     . exact g.dd i j x y hij hx hy
     . exact(Dj.nil _).comm
   . exact Dj.nil _
end
abbrev zDp:Nat:=168+1
abbrev tMap:Nat:=98
theorem way_sl{lo n:Nat}{h:zB}{v:Value}{e sz len:Nat}{vs:List Value}(w:WayR lo n h v e sz len vs):∃bb cap,v = .slice (some ⟨bb,0,none⟩) len cap/\lo<=bb/\bb<n:=by
 obtain⟨b,m,z,kd,cap,h1,h2,rfl,_⟩:=w;exact⟨b,cap,rfl,h1,h2⟩
theorem iadw{dn b len cap:Nat}(h:dn<len):Iad 4 (.slice (some ⟨b,0,none⟩) len cap) (I64 (((dn+1:Nat):Int) - 1)) (ptr b (dn*4)):=⟨b,0,len,cap,.i64,dn,rfl,by rw[show((dn+1:Nat):Int) - 1=(dn:Nat) by omega];rfl,h,by rw[aK]⟩
theorem numL_app{l:List Tx}{x:Tx}:numL (l++[x])=numL l++[(x,I64 (l.length:Nat))]:=by
 have h1:(l++[x])[l.length]? = some x:=by rw[ax (ad _),bB];rfl
 have:=numL_snoc h1
 rwa [cW qL,List.take_left']at this
 rfl
theorem way_back{lo n n':Nat}{h h':zB}{v:Value}{e sz len:Nat}{vs:List Value}(w:WayR lo n' h' v e sz len vs)(hk:∀b,zH v=some b->b<n/\zG h b=zG h' b):WayR lo n h v e sz len vs:=by
 obtain⟨b,m,z,kd,cap,h1,h2,rfl,h3,h4,h5,h6,h7⟩:=w;obtain⟨k1,k2⟩:=hk b rfl;exact⟨b,m,z,kd,cap,h1,k1,rfl,by rw[k2];exact h3,h4,h5,λi hi=>by unfold zD;rw [k2];exact h6 i hi,h7⟩
theorem way_cell{lo n bb len cap e sz i:Nat}{h:zB}{vs:List Value}{x:Value}(w:WayR lo n h (.slice (some ⟨bb,0,none⟩) len cap) e sz len vs)(hx:vs[i]? = some x):zD h bb i=some x:=by
 obtain⟨b,m,z,kd,cap',h1,h2,hv,h3,h4,h5,h6,h7⟩:=w;injection hv with hv _ _
 injection hv with hv
 injection hv with hv _
 subst hv;rw [h6 i (ab.1 hx).1];exact hx
end
section
attribute [local simp] zY
variable {n0 n bw br:Nat} {h:zB} {nsv psv wsv:Value} {ns:List Tx} {ps:List Pl} {wm:List WayM} {roots:Int}
theorem one_com0{x:RegT}{dn:Nat}{top:WayM}(g:Gw n0 h n bw br [nsv,psv,.map (some br),wsv,I64 roots] nsv psv wsv ns ns ps wm)(hd7:dn<=7)(hd0:dn=0)(htop:wm[dn]? = some top)(hroots:dn=0->roots=(top.2.2.length:Nat))(hx:x.sv.oneCell'=true)(hok:GOK ⟨ns,ps⟩)(hpg:0<dn->PlG top.1)(hsib:∀q∈top.2.2,PlG q)(hlim:top.2.2.length<=200)(gh:wm.length<=10):Com P 8 91 [ptr bw 0,.agg ⟨deepC (x,((dn+1:Nat):Int))⟩] h n λo h' n'=>KeepR n0 bw br h n h' n'/\
    ((∃e,sV ((dn+1:Nat):Int) top.1 top.2.2 ⟨ns,ps⟩ x = .error e/\o = .panic (stopG e))\/
     ∃p nsv' psv' wsv' v',sV ((dn+1:Nat):Int) top.1 top.2.2 ⟨ns,ps⟩ x = .ok p/\o = .ret (.tuple #[])/\Gw n0 h' n' bw br [nsv',psv',.map (some br),wsv',I64 (if dn=0 then roots+1 else roots)] nsv' psv' wsv' (ns++[x.name]) (ns++[x.name]) (ps++[p]) ((wm.take (dn+1)).set dn (top.1,v',top.2.2++[p])++[(p,.slice none 0 0,[])])):=by
  have ie:=(ab.1 htop).1;obtain⟨b1,b2,b3,b4⟩:=g.hb;have hcw0:=g.cel;have on1:=g.on.one;have op1:=g.op.one;have rn0:=g.on.row qK;have gN:=hok.le;have gN:ns.length<=200:=gN
  have bad:∀e:Int,sV ((dn+1:Nat):Int) top.1 top.2.2 ⟨ns,ps⟩ x = .error e->∀h2 n2,Tch [bw] h n h2 n2->KeepR n0 bw br h n h2 n2/\((∃e',sV ((dn+1:Nat):Int) top.1 top.2.2 ⟨ns,ps⟩ x = .error e'/\Out.panic (stopG e) = .panic (stopG e'))\/
     ∃p nsv' psv' wsv' v',sV ((dn+1:Nat):Int) top.1 top.2.2 ⟨ns,ps⟩ x = .ok p/\Out.panic (stopG e) = .ret (.tuple #[])/\Gw n0 h2 n2 bw br [nsv',psv',.map (some br),wsv',I64 (if dn=0 then roots+1 else roots)] nsv' psv' wsv' (ns++[x.name]) (ns++[x.name]) (ps++[p]) ((wm.take (dn+1)).set dn (top.1,v',top.2.2++[p])++[(p,.slice none 0 0,[])])):=λe he h2 n2 t2=>
    ⟨(KeepR.refl n0 bw br h n).step t2 λb hb=>by simp at hb;subst hb;exact kp_bw b1,.inl ⟨e,he,rfl⟩⟩
  have g0:=g.tch (h':=hal h n (mkC (deepC (x,((dn+1:Nat):Int))) zDp 0)) (n':=n+1) zA;refine ent λu=>?_;by_cases fe:x.name∈ns
  . obtain⟨A,B,e1,e2⟩:=uO (idx_at fe) hok.nd;have mp:=g0.mp;rw [e1]at mp;have lD:xG P (hal h n (mkC (deepC (x,((dn+1:Nat):Int))) zDp 0)) tMap (.map (some br)) (str x.name) true=some (.tuple ⟨[I64 (ns.idxOf x.name:Nat),.bool true]⟩):=lku_at (P:=P) (ty:=tMap) (ok:=true) mp e2;repeat' first|refine wk ?_|apply cX <;> intro
    . rename_i f1 f2 f3;exact bad 5 (gOne5 qJ  (by show ¬200<=ns.length;omega) (.inr fe)) _ _ zA
    . rename_i f1 f2 f3;exact bad 5 (gOne5 qJ  (by show ¬200<=ns.length;omega) (.inr fe)) _ _ zA
    . exact bad 2 (gOne2 qJ  (by show 200<=ns.length;omega)) _ _ zA
  have lD:xG P (hal h n (mkC (deepC (x,((dn+1:Nat):Int))) zDp 0)) tMap (.map (some br)) (str x.name) true=some (.tuple ⟨[I64 0,.bool false]⟩):=lku_no (P:=P) (ty:=tMap) g0.mp λp hp e=>fe (e ▸ numL_key hp);obtain⟨wsv1,fB,hcut0,hblk⟩:=way_cut (P:=P) (ty:=161) (k:=dn+1) g0.ow qJ qK;obtain⟨bb,cap,rfl,hbb1,kj⟩:=way_sl hcut0;have km:bb≠bw:=λe=>way_cel hcut0 g0.cel qK  (by rw[<- e];rfl);have ib:bb<n:=(g.ow.blk (b:=bb) (by rw[<- hblk];rfl)).2
  have iE:WayR n0 n h (.slice (some ⟨bb,0,none⟩) (dn+1) cap) eAr 4 (dn+1) ((wm.flatMap wayC).take ((dn+1)*4)):=way_back hcut0 λb hb=>by
    injection hb with hb
    have hb:bb=b:=hb;subst hb;exact⟨ib,by rw[zO,if_neg qJ]⟩
  have mJ:(wm.take (dn+1))[dn]? = some top:=by rw[aJ (be _)];exact htop
  have ycell:∀(j:Nat) v,(wayC top)[j]? = some v->zD h bb (dn*4+j)=some v:=λj v hj=>way_cell iE (by
    rw[aJ (by have:=(ab.1 hj).1;simp at this;omega)];exact uZ (f:=wayC) (sz:=4) (λ_=>rfl) htop hj)
  have y0:zD h bb (dn*4+0+0)=some (I64 top.1.root):=ycell 0 _ rfl;have y1:zD h bb (dn*4+0+1)=some (I64 top.1.at_):=ycell 1 _ rfl;have y2:zD h bb (dn*4+0+2)=some (I64 top.1.width):=ycell 2 _ rfl;have y3:zD h bb (dn*4+3)=some top.2.1:=ycell 3 _ rfl;have qr:=(g.oi dn top htop).row qK;clear ycell;have h2e:∀{G:Prop},(¬200<=(⟨ns,ps⟩:GSt).ns.length->G)->ns.length<200->G:=λk h9=>k (by show ¬200<=ns.length;omega);have hrt:=hroots hd0;repeat' first|refine wk ?_|refine cX (λ_=>?_) λ_=>?_|refine ob (a:=ptr bb (dn*4)) ?_ (iadw qJ)|fail
  all_goals dsimp only at *
  . rename_i f1 eO f2 f3 f4 f5;have fN:x.name∉ns:=fe;have iZ:¬(x.w<1\/64<x.w\/x.a<0\/(((dn+1:Nat):Int)=1/\x.a≠0)\/(((dn+1:Nat):Int)≠1/\top.1.width - x.w<x.a)):=by omega
    have hw:gPl ((dn+1:Nat):Int) top.1 top.2.2 x=⟨roots,x.a,x.w⟩:=by unfold gPl;rw [if_pos qJ,hrt]
    have hpG:PlG ⟨roots,x.a,x.w⟩:=by unfold PlG;dsimp only;omega
    have hif:(if dn=0 then roots+1 else roots)=roots+1:=if_pos hd0;refine lpR (λq:Nat=>[(0,ptr bw 0),(3,ptr n 0),(6,ptr bb (dn*4)),(7,ptr (n+1) 0),(135,top.2.1),(136,I64 (top.2.2.length:Nat)),(137,I64 q)]) (λq h2 n2=>Tch [bw] h n h2 n2/\n+2<=n2/\Cel h2 n zDp 0 (deepC (x,((dn+1:Nat):Int)))/\Cel h2 (n+1) (ePl+1) 0 (plC (⟨roots,x.a,x.w⟩:Pl))/\Cel h2 bw zW 0 [nsv,psv,.map (some br),.slice (some ⟨bb,0,none⟩) (dn+1) cap,I64 (roots+1)]/\q<=top.2.2.length/\∀(j:Nat) y,j<q->top.2.2[j]? = some y->sU (⟨roots,x.a,x.w⟩:Pl) y=false) (λq=>top.2.2.length - q) 0 ⟨zA,by omega,zC,zC,zC,an _,λj _ hj=>absurd hj (aE _)⟩ ?_;generalize (⟨roots,x.a,x.w⟩:Pl)=p at *
    generalize hrf:(roots+1)=roots' at *
    rintro q t h2 n2 ⟨ht2,hn2,hcr,hcp,hcw,hq,eG⟩
    have ro2:=(g.oi dn top htop).tch ht2 (yW (yK g.cel (g.oi dn top htop)));have rw2:=ro2.row qK;by_cases eK:q<top.2.2.length
    . have d0:top.2.2[q]? = some top.2.2[q]:=aa eK;generalize top.2.2[q]=y at d0
      have d1:=zM rw2 d0;have hly:=rw2.low qJ;repeat' first|refine wk ?_|refine cX (λ_=>?_) λ_=>?_|refine zS (lap_pur _ _ hpG.ok (hsib y (ae d0)).ok _ _) ?_|fail
      . rename_i f1
        exact rnd (q+1) ⟨zA,by omega,zE,zE,zE,by omega,λj w hj e=>by
          rcases ai.1 hj with h9|rfl
          . exact eG j w h9 e
          . rw[d0]at e;cases e;exact f1⟩
      . rename_i f1;exact bad 7 (gOne7 qJ  (by show ¬200<=ns.length;omega) eO fN iZ (ap.2 ⟨y,ae d0,by rw[hw];exact f1⟩)) _ _ zA
    . obtain rfl:q=top.2.2.length:=by omega
      have hgo:sV ((dn+1:Nat):Int) top.1 top.2.2 ⟨ns,ps⟩ x = .ok p:=by
        rw[<- hw];exact gOneK qJ  (by show ¬200<=ns.length;omega) eO fN iZ (by rw[hw];exact any_no λj y e=>eG j y (ab.1 e).1 e)
      have G2:=(g.cut iE qJ).own ht2 hcw;have fH:(wm.take (dn+1))[dn]? = some top:=by rw[aJ (be _)];exact htop
      have fF:(wm.take (dn+1)).length=dn+1:=by rw[aI];omega
      have K2:KeepR n0 bw br h n h2 n2:=(KeepR.refl n0 bw br h n).step ht2 λb hb=>by simp at hb;subst hb;exact kp_bw g.hb.1
      have tA:Tch [] h2 n2 (hal h2 n2 (mkC (plC p) 0 0)) (n2+1):=zA;have GA:=G2.tch tA
      have yA:zD h2 bb (dn*4+3)=some top.2.1:=by
        have:=(G2.ow.row qK).at (uZ (f:=wayC) (sz:=4) (λ_=>rfl) fH (j:=3) rfl)
        rwa [show sof (.slice (some ⟨bb,0,none⟩) (dn+1) cap)+(dn*4+3)=dn*4+3 from aK _]at this
      have hof:=GA.oi dn top fH;have hown:=hof.one;clear ht2 ro2 rw2 eG;repeat' first|refine wk ?_|apply cX <;> intro
      refine appN hof (zF (e:=ePl) (sz:=3) (len:=1) rfl qK) qK  ⟨rfl,rfl,rfl,trivial⟩ qJ  ?_
      rintro v3 h3 n3 o3 ht3
      have eS:=ht3.le;have w3:=GA.ow.tch ht3 (way_own GA.ow hof (.inl qK)).no;rw [fF]at w3;have hcr3:=(hcr.tch tA qJ qL).app hof ht3 qJ;have hcp3:=(hcp.tch tA qJ qL).app hof ht3 qJ;have kD:=GA.cel.app hof ht3 (by have:=GA.hb;omega)
      have yB:zD h3 bb (dn*4+3)=some top.2.1:=by
        have:=(w3.row qK).at (uZ (f:=wayC) (sz:=4) (λ_=>rfl) fH (j:=3) rfl)
        rwa [show sof (.slice (some ⟨bb,0,none⟩) (dn+1) cap)+(dn*4+3)=dn*4+3 from aK _]at this
      have lm:((wm.take (dn+1)).flatMap wayC).length=(dn+1)*4:=by rw[flat_len (f:=wayC) (sz:=4) (λ_=>rfl),fF]
      have ho3:=o3.one;have G3:=GA.win fH (by rw[fF]) o3 ht3;have K3:=(K2.step tA qL).step ht3 (own_info hof);have w3i:=way_info (bw:=bw) (br:=br) w3;have im:=G2.hb;have kj:bb≠n/\bb≠n+1:=by omega
      repeat' first|refine wk ?_|refine cX (λ_=>?_) λ_=>?_|refine ob (a:=hst _ bb (dn*4+3) [v3]) ?_ (stp_way w3 rfl qJ  ho3)|fail
      have tH:Tch [bb] h3 n3 (hst h3 bb (dn*4+3) [v3]) n3:=zA;have K4:=K3.step tH λb hb=>by simp at hb;subst hb;exact w3i b (by simp[zH])
      have hcr4:=hcr3.tch tH qJ qM;have hcp4:=hcp3.tch tH qJ qM;clear yA yB hcr hcp hcw hcr3 hcp3 kD w3 w3i tA tH GA G2 K2 K3 ht3 o3 hof;generalize hst h3 bb (dn*4+3) [v3]=h4 at *
      have kN:∀p∈numL ns,p.1≠x.name:=λp hp e=>fN (e ▸ numL_key hp);obtain⟨om,ms,hm2⟩:=mset_new (P:=P) (ty:=tMap) (v:=I64 (ns.length:Nat)) (x:=x.name) G3.mp kN;rw [<- numL_app]at hm2;have rn4:=G3.on.row qK;have ji:=G3.cel;have G4:=G3.map hm2;have tM:Tch [br] h4 n3 (hal h4 br om) n3:=(Tch.refl _ _ _).upd (.inr qL)
      have K5:=K4.step tM λb hb=>by
        simp at hb;subst hb;exact kp_br g.hb.2.2.1
      have hcr5:=hcr4.tch tM qJ qM;have hcp5:=hcp4.tch tM qJ qM;have hc5:=G4.cel;clear K4 tM G3 hm2;generalize hal h4 br om=h5 at *
      have tB:Tch [] h5 n3 (hal h5 n3 (mkC [str x.name] 0 0)) (n3+1):=zA;have tC:Tch [] (hal h5 n3 (mkC [str x.name] 0 0)) (n3+1) (hal (hal h5 n3 (mkC [str x.name] 0 0)) (n3+1) (mkC (plC p) 0 0)) (n3+2):=zA;have GB:=(G4.tch tB).tch tC;have rB:=((zF (h:=h5) (n:=n3) (e:=qI) (sz:=1) (len:=1) (cs:=[str x.name]) rfl qK).tch tC (ad _) qL).up (cH _);repeat' first|refine wk ?_|apply cX <;> intro
      refine appN GB.on rB qK  ⟨rfl,trivial⟩ qJ  ?_
      rintro v6 h6 n6 o6 ht6
      have fV:=ht6.le;have hcr6:=((hcr5.tch tB qJ qL).tch tC qJ qL).app GB.on ht6 qJ;have hcp6:=((hcp5.tch tB qJ qL).tch tC qJ qL).app GB.on ht6 qJ 
      have nB:∀b,zH (.slice (some ⟨n3+1,0,none⟩) 1 1)=some b->b∉(zH nsv).toList:=λb hb hm=>by
        injection hb with hb
        have:=(G4.on.blk (dh.1 hm)).2;have hb:n3+1=b:=hb;omega
      have rC:=((zF (h:=hal h5 n3 (mkC [str x.name] 0 0)) (n:=n3+1) (e:=ePl) (sz:=3) (len:=1) (cs:=plC p) rfl qK).tch ht6 (ad _) nB).up fV;have hob6:zG h6 (n3+1)=mkC (plC p) 0 0:=by rw[ht6.2 _ (be _) (nB _ rfl),zO,if_pos rfl]
      have K6:=((K5.step tB qL).step tC qL).step ht6 (own_info GB.on);have G5:=GB.nm o6 ht6;have hc6:=G5.cel;have gP:=G5.op;clear ht6 o6 K5;repeat' first|refine wk ?_|apply cX <;> intro
      refine appN G5.op rC qK  ⟨rfl,rfl,rfl,trivial⟩ (by have:=hok.len;have h9:ps.length=ns.length:=this;omega) ?_
      rintro v7 h7 n7 o7 ht7
      have ir:=ht7.le;have hcr7:=hcr6.app G5.op ht7 qJ;have hcp7:=hcp6.app G5.op ht7 qJ;have K7:=K6.step ht7 (own_info G5.op);have G6:=G5.pl o7 ht7;have hc7:=G6.cel;have ho6:=G6.on.one;have ho7:=G6.op.one;clear ht7 o7 K6;repeat' first|refine wk ?_|apply cX <;> intro
      have tD:Tch [bw] h7 n7 (hal (hst (hst h7 bw 0 [v6]) bw (0+1) [v7]) n7 (mkC (plC p++[.slice none 0 0]) 0 0)) (n7+1):=zA;have GD:=G6.own (cs':=[v6,v7,.map (some br),.slice (some ⟨bb,0,none⟩) (dn+1) cap,I64 roots']) tD zC;have K8:=K7.step tD λb hb=>by simp at hb;subst hb;exact kp_bw b1
      have ja:((wm.take (dn+1)).set dn (top.1,v3,top.2.2++[p])).length=dn+1:=by rw[bh];exact fF
      have wD:=GD.ow;rw [ja]at wD;refine uX wD (λy hy=>?_) qJ  (zF (e:=eAr) (sz:=4) (len:=1) rfl qK) qK  (λy hy=>by simp at hy;rcases hy with rfl|rfl|rfl|rfl <;> rfl) qJ  ?_
      . obtain⟨a,ha,hy⟩:=bE.1 hy;obtain⟨i,hi⟩:=aj.1 ha;have:=(GD.oi i a hi).one;simp at hy;rcases hy with rfl|rfl|rfl|rfl
        . rfl
        . rfl
        . rfl
        . exact this
      rintro v8 h8 n8 w8 _ ht8
      have jj:=ht8.le;have hw8:v8.oneCell'=true:=by obtain⟨_,_,rfl,_⟩:=way_sl w8;rfl
      have G8:=GD.way (by rw[ja];exact w8) ht8;have K9:=K8.step ht8 (way_info GD.ow);have ko:=G8.cel;clear ht8 K7 K8;repeat' first|refine wk ?_|apply cX <;> intro
      have G9:=G8.own (cs':=[v6,v7,.map (some br),v8,I64 roots']) (zA:Tch [bw] h8 n8 (hst h8 bw (0+3) [v8]) n8) zC;exact⟨K9.step (zA:Tch [bw] h8 n8 (hst h8 bw (0+3) [v8]) n8) λb hb=>by simp at hb;subst hb;exact kp_bw b1,.inr ⟨p,v6,v7,v8,v3,hgo,rfl,by rw[hif];exact G9⟩⟩
  iterate 4
    . exact bad 6 (gOne6 qJ  (by show ¬200<=ns.length;omega) qP  fe qJ) _ _ zA
  . exact bad 5 (gOne5 qJ  (by show ¬200<=ns.length;omega) (.inl qP)) _ _ zA
  . exact bad 2 (gOne2 qJ  (by show 200<=ns.length;omega)) _ _ zA
end
section
attribute [local simp] zY
variable {n0 n bw br:Nat} {h:zB} {nsv psv wsv:Value} {ns:List Tx} {ps:List Pl} {wm:List WayM} {roots:Int}
theorem one_comS{x:RegT}{dn:Nat}{top:WayM}(g:Gw n0 h n bw br [nsv,psv,.map (some br),wsv,I64 roots] nsv psv wsv ns ns ps wm)(hd7:dn<=7)(hd0:0<dn)(htop:wm[dn]? = some top)(hroots:dn=0->roots=(top.2.2.length:Nat))(hx:x.sv.oneCell'=true)(hok:GOK ⟨ns,ps⟩)(hpg:0<dn->PlG top.1)(hsib:∀q∈top.2.2,PlG q)(hlim:top.2.2.length<=200)(gh:wm.length<=10):Com P 8 91 [ptr bw 0,.agg ⟨deepC (x,((dn+1:Nat):Int))⟩] h n λo h' n'=>KeepR n0 bw br h n h' n'/\
    ((∃e,sV ((dn+1:Nat):Int) top.1 top.2.2 ⟨ns,ps⟩ x = .error e/\o = .panic (stopG e))\/
     ∃p nsv' psv' wsv' v',sV ((dn+1:Nat):Int) top.1 top.2.2 ⟨ns,ps⟩ x = .ok p/\o = .ret (.tuple #[])/\Gw n0 h' n' bw br [nsv',psv',.map (some br),wsv',I64 (if dn=0 then roots+1 else roots)] nsv' psv' wsv' (ns++[x.name]) (ns++[x.name]) (ps++[p]) ((wm.take (dn+1)).set dn (top.1,v',top.2.2++[p])++[(p,.slice none 0 0,[])])):=by
  have ie:=(ab.1 htop).1;obtain⟨b1,b2,b3,b4⟩:=g.hb;have hcw0:=g.cel;have on1:=g.on.one;have op1:=g.op.one;have rn0:=g.on.row qK;have gN:=hok.le;have gN:ns.length<=200:=gN
  have bad:∀e:Int,sV ((dn+1:Nat):Int) top.1 top.2.2 ⟨ns,ps⟩ x = .error e->∀h2 n2,Tch [bw] h n h2 n2->KeepR n0 bw br h n h2 n2/\((∃e',sV ((dn+1:Nat):Int) top.1 top.2.2 ⟨ns,ps⟩ x = .error e'/\Out.panic (stopG e) = .panic (stopG e'))\/
     ∃p nsv' psv' wsv' v',sV ((dn+1:Nat):Int) top.1 top.2.2 ⟨ns,ps⟩ x = .ok p/\Out.panic (stopG e) = .ret (.tuple #[])/\Gw n0 h2 n2 bw br [nsv',psv',.map (some br),wsv',I64 (if dn=0 then roots+1 else roots)] nsv' psv' wsv' (ns++[x.name]) (ns++[x.name]) (ps++[p]) ((wm.take (dn+1)).set dn (top.1,v',top.2.2++[p])++[(p,.slice none 0 0,[])])):=λe he h2 n2 t2=>
    ⟨(KeepR.refl n0 bw br h n).step t2 λb hb=>by simp at hb;subst hb;exact kp_bw b1,.inl ⟨e,he,rfl⟩⟩
  have g0:=g.tch (h':=hal h n (mkC (deepC (x,((dn+1:Nat):Int))) zDp 0)) (n':=n+1) zA;refine ent λu=>?_;by_cases fe:x.name∈ns
  . obtain⟨A,B,e1,e2⟩:=uO (idx_at fe) hok.nd;have mp:=g0.mp;rw [e1]at mp;have lD:xG P (hal h n (mkC (deepC (x,((dn+1:Nat):Int))) zDp 0)) tMap (.map (some br)) (str x.name) true=some (.tuple ⟨[I64 (ns.idxOf x.name:Nat),.bool true]⟩):=lku_at (P:=P) (ty:=tMap) (ok:=true) mp e2;repeat' first|refine wk ?_|apply cX <;> intro
    . rename_i f1 f2 f3;exact bad 5 (gOne5 qJ  (by show ¬200<=ns.length;omega) (.inr fe)) _ _ zA
    . rename_i f1 f2 f3;exact bad 5 (gOne5 qJ  (by show ¬200<=ns.length;omega) (.inr fe)) _ _ zA
    . exact bad 2 (gOne2 qJ  (by show 200<=ns.length;omega)) _ _ zA
    . exact bad 4 (gOne4 qJ) _ _ zA
  have lD:xG P (hal h n (mkC (deepC (x,((dn+1:Nat):Int))) zDp 0)) tMap (.map (some br)) (str x.name) true=some (.tuple ⟨[I64 0,.bool false]⟩):=lku_no (P:=P) (ty:=tMap) g0.mp λp hp e=>fe (e ▸ numL_key hp);obtain⟨wsv1,fB,hcut0,hblk⟩:=way_cut (P:=P) (ty:=161) (k:=dn+1) g0.ow qJ qK;obtain⟨bb,cap,rfl,hbb1,kj⟩:=way_sl hcut0;have km:bb≠bw:=λe=>way_cel hcut0 g0.cel qK  (by rw[<- e];rfl);have ib:bb<n:=(g.ow.blk (b:=bb) (by rw[<- hblk];rfl)).2
  have iE:WayR n0 n h (.slice (some ⟨bb,0,none⟩) (dn+1) cap) eAr 4 (dn+1) ((wm.flatMap wayC).take ((dn+1)*4)):=way_back hcut0 λb hb=>by
    injection hb with hb
    have hb:bb=b:=hb;subst hb;exact⟨ib,by rw[zO,if_neg qJ]⟩
  have mJ:(wm.take (dn+1))[dn]? = some top:=by rw[aJ (be _)];exact htop
  have ycell:∀(j:Nat) v,(wayC top)[j]? = some v->zD h bb (dn*4+j)=some v:=λj v hj=>way_cell iE (by
    rw[aJ (by have:=(ab.1 hj).1;simp at this;omega)];exact uZ (f:=wayC) (sz:=4) (λ_=>rfl) htop hj)
  have y0:zD h bb (dn*4+0+0)=some (I64 top.1.root):=ycell 0 _ rfl;have y1:zD h bb (dn*4+0+1)=some (I64 top.1.at_):=ycell 1 _ rfl;have y2:zD h bb (dn*4+0+2)=some (I64 top.1.width):=ycell 2 _ rfl;have y3:zD h bb (dn*4+3)=some top.2.1:=ycell 3 _ rfl;have qr:=(g.oi dn top htop).row qK;clear ycell;have h2e:∀{G:Prop},(¬200<=(⟨ns,ps⟩:GSt).ns.length->G)->ns.length<200->G:=λk h9=>k (by show ¬200<=ns.length;omega);obtain⟨q1,q2,q3⟩:=hpg hd0;repeat' first|refine wk ?_|refine cX (λ_=>?_) λ_=>?_|refine ob (a:=ptr bb (dn*4)) ?_ (iadw qJ)|fail
  all_goals dsimp only at *
  . rename_i f0 f1 eO f2 f3 f4 f5;have fN:x.name∉ns:=fe;have iZ:¬(x.w<1\/64<x.w\/x.a<0\/(((dn+1:Nat):Int)=1/\x.a≠0)\/(((dn+1:Nat):Int)≠1/\top.1.width - x.w<x.a)):=by omega
    have hw:gPl ((dn+1:Nat):Int) top.1 top.2.2 x=⟨top.1.root,top.1.at_+x.a,x.w⟩:=by unfold gPl;rw [if_neg qJ]
    have hpG:PlG ⟨top.1.root,top.1.at_+x.a,x.w⟩:=by unfold PlG;dsimp only;omega
    have hif:(if dn=0 then roots+1 else roots)=roots:=if_neg qJ;refine lpR (λq:Nat=>[(0,ptr bw 0),(3,ptr n 0),(6,ptr bb (dn*4)),(7,ptr (n+1) 0),(135,top.2.1),(136,I64 (top.2.2.length:Nat)),(137,I64 q)]) (λq h2 n2=>Tch [bw] h n h2 n2/\n+2<=n2/\Cel h2 n zDp 0 (deepC (x,((dn+1:Nat):Int)))/\Cel h2 (n+1) (ePl+1) 0 (plC (⟨top.1.root,top.1.at_+x.a,x.w⟩:Pl))/\Cel h2 bw zW 0 [nsv,psv,.map (some br),.slice (some ⟨bb,0,none⟩) (dn+1) cap,I64 roots]/\q<=top.2.2.length/\∀(j:Nat) y,j<q->top.2.2[j]? = some y->sU (⟨top.1.root,top.1.at_+x.a,x.w⟩:Pl) y=false) (λq=>top.2.2.length - q) 0 ⟨zA,by omega,zC,zC,zC,an _,λj _ hj=>absurd hj (aE _)⟩ ?_;generalize (⟨top.1.root,top.1.at_+x.a,x.w⟩:Pl)=p at *
    generalize hrf:roots=roots' at *
    rintro q t h2 n2 ⟨ht2,hn2,hcr,hcp,hcw,hq,eG⟩
    have ro2:=(g.oi dn top htop).tch ht2 (yW (yK g.cel (g.oi dn top htop)));have rw2:=ro2.row qK;by_cases eK:q<top.2.2.length
    . have d0:top.2.2[q]? = some top.2.2[q]:=aa eK;generalize top.2.2[q]=y at d0
      have d1:=zM rw2 d0;have hly:=rw2.low qJ;repeat' first|refine wk ?_|refine cX (λ_=>?_) λ_=>?_|refine zS (lap_pur _ _ hpG.ok (hsib y (ae d0)).ok _ _) ?_|fail
      . rename_i f1
        exact rnd (q+1) ⟨zA,by omega,zE,zE,zE,by omega,λj w hj e=>by
          rcases ai.1 hj with h9|rfl
          . exact eG j w h9 e
          . rw[d0]at e;cases e;exact f1⟩
      . rename_i f1;exact bad 7 (gOne7 qJ  (by show ¬200<=ns.length;omega) eO fN iZ (ap.2 ⟨y,ae d0,by rw[hw];exact f1⟩)) _ _ zA
    . obtain rfl:q=top.2.2.length:=by omega
      have hgo:sV ((dn+1:Nat):Int) top.1 top.2.2 ⟨ns,ps⟩ x = .ok p:=by
        rw[<- hw];exact gOneK qJ  (by show ¬200<=ns.length;omega) eO fN iZ (by rw[hw];exact any_no λj y e=>eG j y (ab.1 e).1 e)
      have G2:=(g.cut iE qJ).own ht2 hcw;have fH:(wm.take (dn+1))[dn]? = some top:=by rw[aJ (be _)];exact htop
      have fF:(wm.take (dn+1)).length=dn+1:=by rw[aI];omega
      have K2:KeepR n0 bw br h n h2 n2:=(KeepR.refl n0 bw br h n).step ht2 λb hb=>by simp at hb;subst hb;exact kp_bw g.hb.1
      have tA:Tch [] h2 n2 (hal h2 n2 (mkC (plC p) 0 0)) (n2+1):=zA;have GA:=G2.tch tA
      have yA:zD h2 bb (dn*4+3)=some top.2.1:=by
        have:=(G2.ow.row qK).at (uZ (f:=wayC) (sz:=4) (λ_=>rfl) fH (j:=3) rfl)
        rwa [show sof (.slice (some ⟨bb,0,none⟩) (dn+1) cap)+(dn*4+3)=dn*4+3 from aK _]at this
      have hof:=GA.oi dn top fH;have hown:=hof.one;clear ht2 ro2 rw2 eG;repeat' first|refine wk ?_|apply cX <;> intro
      refine appN hof (zF (e:=ePl) (sz:=3) (len:=1) rfl qK) qK  ⟨rfl,rfl,rfl,trivial⟩ qJ  ?_
      rintro v3 h3 n3 o3 ht3
      have eS:=ht3.le;have w3:=GA.ow.tch ht3 (way_own GA.ow hof (.inl qK)).no;rw [fF]at w3;have hcr3:=(hcr.tch tA qJ qL).app hof ht3 qJ;have hcp3:=(hcp.tch tA qJ qL).app hof ht3 qJ;have kD:=GA.cel.app hof ht3 (by have:=GA.hb;omega)
      have yB:zD h3 bb (dn*4+3)=some top.2.1:=by
        have:=(w3.row qK).at (uZ (f:=wayC) (sz:=4) (λ_=>rfl) fH (j:=3) rfl)
        rwa [show sof (.slice (some ⟨bb,0,none⟩) (dn+1) cap)+(dn*4+3)=dn*4+3 from aK _]at this
      have lm:((wm.take (dn+1)).flatMap wayC).length=(dn+1)*4:=by rw[flat_len (f:=wayC) (sz:=4) (λ_=>rfl),fF]
      have ho3:=o3.one;have G3:=GA.win fH (by rw[fF]) o3 ht3;have K3:=(K2.step tA qL).step ht3 (own_info hof);have w3i:=way_info (bw:=bw) (br:=br) w3;have im:=G2.hb;have kj:bb≠n/\bb≠n+1:=by omega
      repeat' first|refine wk ?_|refine cX (λ_=>?_) λ_=>?_|refine ob (a:=hst _ bb (dn*4+3) [v3]) ?_ (stp_way w3 rfl qJ  ho3)|fail
      have tH:Tch [bb] h3 n3 (hst h3 bb (dn*4+3) [v3]) n3:=zA;have K4:=K3.step tH λb hb=>by simp at hb;subst hb;exact w3i b (by simp[zH])
      have hcr4:=hcr3.tch tH qJ qM;have hcp4:=hcp3.tch tH qJ qM;clear yA yB hcr hcp hcw hcr3 hcp3 kD w3 w3i tA tH GA G2 K2 K3 ht3 o3 hof;generalize hst h3 bb (dn*4+3) [v3]=h4 at *
      have kN:∀p∈numL ns,p.1≠x.name:=λp hp e=>fN (e ▸ numL_key hp);obtain⟨om,ms,hm2⟩:=mset_new (P:=P) (ty:=tMap) (v:=I64 (ns.length:Nat)) (x:=x.name) G3.mp kN;rw [<- numL_app]at hm2;have rn4:=G3.on.row qK;have ji:=G3.cel;have G4:=G3.map hm2;have tM:Tch [br] h4 n3 (hal h4 br om) n3:=(Tch.refl _ _ _).upd (.inr qL)
      have K5:=K4.step tM λb hb=>by
        simp at hb;subst hb;exact kp_br g.hb.2.2.1
      have hcr5:=hcr4.tch tM qJ qM;have hcp5:=hcp4.tch tM qJ qM;have hc5:=G4.cel;clear K4 tM G3 hm2;generalize hal h4 br om=h5 at *
      have tB:Tch [] h5 n3 (hal h5 n3 (mkC [str x.name] 0 0)) (n3+1):=zA;have tC:Tch [] (hal h5 n3 (mkC [str x.name] 0 0)) (n3+1) (hal (hal h5 n3 (mkC [str x.name] 0 0)) (n3+1) (mkC (plC p) 0 0)) (n3+2):=zA;have GB:=(G4.tch tB).tch tC;have rB:=((zF (h:=h5) (n:=n3) (e:=qI) (sz:=1) (len:=1) (cs:=[str x.name]) rfl qK).tch tC (ad _) qL).up (cH _);repeat' first|refine wk ?_|apply cX <;> intro
      refine appN GB.on rB qK  ⟨rfl,trivial⟩ qJ  ?_
      rintro v6 h6 n6 o6 ht6
      have fV:=ht6.le;have hcr6:=((hcr5.tch tB qJ qL).tch tC qJ qL).app GB.on ht6 qJ;have hcp6:=((hcp5.tch tB qJ qL).tch tC qJ qL).app GB.on ht6 qJ 
      have nB:∀b,zH (.slice (some ⟨n3+1,0,none⟩) 1 1)=some b->b∉(zH nsv).toList:=λb hb hm=>by
        injection hb with hb
        have:=(G4.on.blk (dh.1 hm)).2;have hb:n3+1=b:=hb;omega
      have rC:=((zF (h:=hal h5 n3 (mkC [str x.name] 0 0)) (n:=n3+1) (e:=ePl) (sz:=3) (len:=1) (cs:=plC p) rfl qK).tch ht6 (ad _) nB).up fV;have hob6:zG h6 (n3+1)=mkC (plC p) 0 0:=by rw[ht6.2 _ (be _) (nB _ rfl),zO,if_pos rfl]
      have K6:=((K5.step tB qL).step tC qL).step ht6 (own_info GB.on);have G5:=GB.nm o6 ht6;have hc6:=G5.cel;have gP:=G5.op;clear ht6 o6 K5;repeat' first|refine wk ?_|apply cX <;> intro
      refine appN G5.op rC qK  ⟨rfl,rfl,rfl,trivial⟩ (by have:=hok.len;have h9:ps.length=ns.length:=this;omega) ?_
      rintro v7 h7 n7 o7 ht7
      have ir:=ht7.le;have hcr7:=hcr6.app G5.op ht7 qJ;have hcp7:=hcp6.app G5.op ht7 qJ;have K7:=K6.step ht7 (own_info G5.op);have G6:=G5.pl o7 ht7;have hc7:=G6.cel;have ho6:=G6.on.one;have ho7:=G6.op.one;clear ht7 o7 K6;repeat' first|refine wk ?_|apply cX <;> intro
      have tD:Tch [bw] h7 n7 (hal (hst (hst h7 bw 0 [v6]) bw (0+1) [v7]) n7 (mkC (plC p++[.slice none 0 0]) 0 0)) (n7+1):=zA;have GD:=G6.own (cs':=[v6,v7,.map (some br),.slice (some ⟨bb,0,none⟩) (dn+1) cap,I64 roots']) tD zC;have K8:=K7.step tD λb hb=>by simp at hb;subst hb;exact kp_bw b1
      have ja:((wm.take (dn+1)).set dn (top.1,v3,top.2.2++[p])).length=dn+1:=by rw[bh];exact fF
      have wD:=GD.ow;rw [ja]at wD;refine uX wD (λy hy=>?_) qJ  (zF (e:=eAr) (sz:=4) (len:=1) rfl qK) qK  (λy hy=>by simp at hy;rcases hy with rfl|rfl|rfl|rfl <;> rfl) qJ  ?_
      . obtain⟨a,ha,hy⟩:=bE.1 hy;obtain⟨i,hi⟩:=aj.1 ha;have:=(GD.oi i a hi).one;simp at hy;rcases hy with rfl|rfl|rfl|rfl
        . rfl
        . rfl
        . rfl
        . exact this
      rintro v8 h8 n8 w8 _ ht8
      have jj:=ht8.le;have hw8:v8.oneCell'=true:=by obtain⟨_,_,rfl,_⟩:=way_sl w8;rfl
      have G8:=GD.way (by rw[ja];exact w8) ht8;have K9:=K8.step ht8 (way_info GD.ow);have ko:=G8.cel;clear ht8 K7 K8;repeat' first|refine wk ?_|apply cX <;> intro
      have G9:=G8.own (cs':=[v6,v7,.map (some br),v8,I64 roots']) (zA:Tch [bw] h8 n8 (hst h8 bw (0+3) [v8]) n8) zC;exact⟨K9.step (zA:Tch [bw] h8 n8 (hst h8 bw (0+3) [v8]) n8) λb hb=>by simp at hb;subst hb;exact kp_bw b1,.inr ⟨p,v6,v7,v8,v3,hgo,rfl,by rw[hif];exact G9⟩⟩
  iterate 4
    . exact bad 6 (gOne6 qJ  (by show ¬200<=ns.length;omega) qP  fe qJ) _ _ zA
  . exact bad 5 (gOne5 qJ  (by show ¬200<=ns.length;omega) (.inl qP)) _ _ zA
  . exact bad 2 (gOne2 qJ  (by show 200<=ns.length;omega)) _ _ zA
  . exact bad 4 (gOne4 qJ) _ _ zA
end
section
attribute [local simp] zY
theorem one_com{n0 n bw br dn:Nat}{h:zB}{nsv psv wsv:Value}{ns:List Tx}{ps:List Pl}{wm:List WayM}{roots:Int}{x:RegT}{top:WayM}(g:Gw n0 h n bw br [nsv,psv,.map (some br),wsv,I64 roots] nsv psv wsv ns ns ps wm)(hd7:dn<=7)(htop:wm[dn]? = some top)(hroots:dn=0->roots=(top.2.2.length:Nat))(hx:x.sv.oneCell'=true)(hok:GOK ⟨ns,ps⟩)(hpg:0<dn->PlG top.1)(hsib:∀q∈top.2.2,PlG q)(hlim:top.2.2.length<=200)(gh:wm.length<=10):Com P 8 91 [ptr bw 0,.agg ⟨deepC (x,((dn+1:Nat):Int))⟩] h n λo h' n'=>KeepR n0 bw br h n h' n'/\
    ((∃e,sV ((dn+1:Nat):Int) top.1 top.2.2 ⟨ns,ps⟩ x = .error e/\o = .panic (stopG e))\/
     ∃p nsv' psv' wsv' v',sV ((dn+1:Nat):Int) top.1 top.2.2 ⟨ns,ps⟩ x = .ok p/\o = .ret (.tuple #[])/\Gw n0 h' n' bw br [nsv',psv',.map (some br),wsv',I64 (if dn=0 then roots+1 else roots)] nsv' psv' wsv' (ns++[x.name]) (ns++[x.name]) (ps++[p]) ((wm.take (dn+1)).set dn (top.1,v',top.2.2++[p])++[(p,.slice none 0 0,[])])):=by
  rcases bK dn with h0|h0
  . exact one_com0 g hd7 h0 htop hroots hx hok hpg hsib hlim gh
  . exact one_comS g hd7 h0 htop hroots hx hok hpg hsib hlim gh
theorem pre_one{lo:Nat}{h:zB}:∀(k:Nat) (d:Int) (l:List RegT) (sv:Value) (e:RegT×Int),RegsM lo h sv l->e∈preL k d l->e.1.sv.oneCell'=true:=by
 intro k
 induction k with
 | zero=>intro d l sv e _ he;cases he
 | succ k ih=>
  intro d l sv e hr he;obtain⟨r,hm,he⟩:=bE.1 he;rcases au.1 he with rfl|he
  . exact((hr.sub hm).row 0).one
  . exact ih _ _ _ _ (hr.sub hm) he
theorem Gw.lp{n0 n n' bw br L:Nat}{h h':zB}{cs:List Value}{nsv psv wsv:Value}{ns ms:List Tx}{ps:List Pl}{wm:List WayM}(g:Gw n0 h n bw br cs nsv psv wsv ns ms ps wm)(t:Tch [L] h n h' n')(hi:yC (zG h L)=none)(hm:∀es c,zG h L≠.map es c):Gw n0 h' n' bw br cs nsv psv wsv ns ms ps wm:=by
 obtain⟨b1,b2,b3,b4⟩:=g.hb;have:=t.le
 have ow:∀{lo v e sz len vs},Own lo n h v e sz len vs->∀b,zH v=some b->b∉[L]:=λo b hb hx=>by
  simp at hx;subst hx;rcases o with⟨rfl,_⟩|⟨b2,_,_,rfl,p3,_⟩
  . cases hb
  . injection hb with hb
    have hb:b2=b:=hb;subst hb;rw [hi]at p3;cases p3
 refine⟨g.cel.tch t b2 (by simp;rintro rfl;have:=g.cel.1;rw [hi]at this;cases this),⟨b1,by omega,b3,by omega⟩,g.on.tch t (ow g.on),g.op.tch t (ow g.op),g.mp.tch t b4 (by simp;rintro rfl;obtain⟨es,c,e,_⟩:=g.mp;exact hm _ _ e),g.ow.tch t (λb hb hx=>?_),λi x hx=>(g.oi i x hx).tch t (ow (g.oi i x hx)),g.dj,g.dd⟩;simp at hx;subst hx;obtain⟨b2,m,z,kd,cap,h1,h2,e,h3,_⟩:=g.ow;rw [e]at hb;injection hb with hb
 have hb:b2=b:=hb;subst hb;rw [hi]at h3;cases h3
abbrev w0:WSt:=⟨[],[],[(⟨0,0,0⟩,[])]⟩
theorem KeepR.stepL{S:List Nat}{n0 bw br n n1 n2:Nat}{h h1 h2:zB}(k:KeepR n0 bw br h n h1 n1)(t:Tch S h1 n1 h2 n2)(hS:∀b∈S,n<=b):KeepR n0 bw br h n h2 n2:=⟨aW k.1 t.1,λb hb hc=>by
 have e:=k.2 b hb hc;rw [t.2 b (by have:=k.1;omega) λhx=>by have:=hS b hx;omega,e]⟩
theorem KeepR.mono{N n0 bw br n n1 n2:Nat}{h h1 h2:zB}(k:KeepR n0 bw br h N h1 n1)(t:KeepR n0 bw br h1 n h2 n2)(hn:n1<=n):KeepR n0 bw br h N h2 n2:=⟨by have:=k.1;have:=t.1;omega,λb hb hc=>by
 have e:=k.2 b hb hc;rw [t.2 b (by have:=k.1;omega) (by unfold Kp at hc ⊢;rw [e];exact hc),e]⟩
theorem gw_init{n n2:Nat}{X h2:zB}{z6:Nat}{v6:List Value}(t:Tch [] (hst (hal (hal (hal (hal X (n+3) (.map [] 0)) (n+4) (mkC [I64 0,I64 0,I64 0,.slice none 0 0] 0 0)) (n+5) (mkC [.slice none 0 0,.slice none 0 0,.map (some (n+3)),.slice (some ⟨n+4,0,none⟩) 1 1,I64 0] zW 0)) (n+6) (mkC v6 z6 0)) (n+6) 0 [ptr (n+5) 0]) (n+7) h2 n2):Gw (n+3) h2 n2 (n+5) (n+3) [.slice none 0 0,.slice none 0 0,.map (some (n+3)),.slice (some ⟨n+4,0,none⟩) 1 1,I64 0] (.slice none 0 0) (.slice none 0 0) (.slice (some ⟨n+4,0,none⟩) 1 1) [] [] [] [(⟨0,0,0⟩,.slice none 0 0,[])]:=by
 have hn:=t.le;refine⟨zC,by omega,Own.nil,Own.nil,?_,?_,λi x hx=>?_,λi x hx=>?_,λi j x y hij hx hy=>?_⟩
 . exact(mps_new (h:=X) (n:=n+3)).tch (zA:Tch [] (hal X (n+3) (.map [] 0)) (n+4) h2 n2) qJ qL 
 . exact(way_new (h:=hal X (n+3) (.map [] 0)) (n:=n+4) (e:=eAr) (sz:=4) (len:=1) (lo:=n+3) (cs:=[I64 0,I64 0,I64 0,.slice none 0 0]) qJ  rfl qK).tch (zA:Tch [] (hal (hal X (n+3) (.map [] 0)) (n+4) (mkC [I64 0,I64 0,I64 0,.slice none 0 0] 0 0)) (n+5) h2 n2) qL 
 all_goals have hi:i=0/\x=(⟨0,0,0⟩,.slice none 0 0,[]):=by(cases i with
  | zero=>exact⟨rfl,(Option.some.inj hx).symm⟩
  | succ i=>cases hx)
 . rw[hi.2];exact Own.nil
 . rw[hi.2];exact Dj.nil _
 . rw[hi.2];exact Dj.nil _
theorem all_core{lo L pl D:Nat}{l:List RegT}{sv:Value}{ps:List Tmp}{assign body:Code}{fn:FuncId}{lt:List (Nat×Value)}{t:Fr}{cx:Cx}{d:List Deferred}{u:Option zK}{h:zB}{n:Nat}{Q:QX}
(I:List (RegT×Int)->zB->Nat->Prop)(JP:zK->zB->Nat->Prop)(gP:ps.length=1)(hL:zG h L=LoO .ready none fn ps.toArray assign body D (FA lt t))(h0:I [] h n)
(hE:∀done h' n',I done h' n'->lo<=n'/\L<n')(eX:∀done h' n' h2 n2,I done h' n'->Tch [] h' n' h2 n2->I done h2 n2)(hk:∀done h' n',I done h' n'->∀b,b<lo->zG h' b=zG h b)
(bd:∀done e h' n',I done h' n'->zG h' L=LoO .ready none fn ps.toArray assign body D (FA lt t)->(done++[e]) <+: preL 7 1 l->WC P 8 assign ⟨fn,some L,false⟩ (FA (parl ps [.agg ⟨deepC e⟩] lt) t) ⟨[],none,h',n'⟩ (asQ P 8 L fn ps.toArray assign body D (FA lt t) λr h2 n2=>n'<=n2/\((r = .ret (.bool true)/\zG h2 L=LoO .ready none fn ps.toArray assign body D (FA lt t)/\I (done++[e]) h2 n2/\∀b,b<n'->yC (zG h' b)=some (4,114+1,0)->zG h2 b=zG h' b)\/∃c,r = .panic c/\JP c h2 n2)))
(fin:∀h' n',zG h' L=LoO .ready none fn ps.toArray assign body D (FA lt t)->I (preL 7 1 l) h' n'->Q .normal (FA lt t) ⟨d,u,hal h' L (LoO .exhausted none fn ps.toArray assign body D (FA lt t)),n'⟩)
(finP:∀c h' n',JP c h' n'->Q (.panic c) (FA lt t) ⟨d,u,h',n'⟩)
(hr:RegsM lo h sv l)(hc:zD h pl 0=some sv):CallB P 8 153 [.func (.yield L) #[] #[],ptr pl 0] h n (rgQ P 8 L fn ps.toArray assign body D cx (FA lt t) d u Q):=by
 refine cal0 (all1_com (lo:=lo) (l:=l) (sv:=sv) (J:=λdone h' n'=>zG h' L=LoO .ready none fn ps.toArray assign body D (FA lt t)/\I done h' n') (JF:=λ_ _=>False) (JP:=JP) (λdone h' n' q=>(hE _ _ _ q.2).1) (λdone h' n' h2 n2 q t=>⟨by rw[t.2 L (hE _ _ _ q.2).2 qL];exact q.1,eX _ _ _ _ _ q.2 t⟩) (λdone h' n' sv l q h0 n0 q0 r=>?_) (λdone e h' n' q hp=>(rou (args:=[.agg ⟨deepC e⟩]) q.1 gP (bd done e h' n' q.2 q.1 hp)).mono ?_) ⟨hL,h0⟩ hr hc) ?_
 . exact RegsM.tch (n:=lo) (n':=lo) ⟨ad _,λb hb _=>by rw[hk _ _ _ q.2 b hb,hk _ _ _ q0.2 b hb]⟩ (ad _) r
 . rintro r h2 n2 ⟨a,⟨b1,b2,b3,b4⟩|⟨c,b1,b2⟩⟩
   . exact⟨a,.inl ⟨b1,⟨b2,b3⟩,b4⟩⟩
   . exact⟨a,.inr (.inr ⟨c,b1,b2⟩)⟩
 . rintro _ h' n' ⟨hn,⟨rfl,⟨q1,q2⟩|q⟩|⟨c,rfl,q⟩⟩
   . exact .inl ⟨q1,fin h' n' q1 q2⟩
   . exact q.elim
   . exact finP c h' n' q
abbrev zPw:Nat:=156+1
theorem places_com{lo n:Nat}{h:zB}{sv:Value}{l:List RegT}(hr:RegsM lo h sv l)(eE:lo<=n):Com P 8 38 [sv] h n λo h' n'=>Tch [] h n h' n'/\((∃e,geoP l = .error e/\o = .ret (.tuple ⟨[.slice none 0 0,.slice none 0 0,I64 e]⟩))\/∃s nsv psv,geoP l = .ok s/\o = .ret (.tuple ⟨[nsv,psv,I64 0]⟩)/\Own n n' h' nsv qI 1 s.ns.length (s.ns.map str)/\Own n n' h' psv ePl 3 s.ps.length (s.ps.flatMap plC)):=by
 refine ent λu=>?_;have fm:=(hr.row 0).one;repeat' first|refine wk ?_|apply cX <;> intro
 refine yG (all_ret fm) ?_
 rintro _ h2 n2 ⟨pl,rfl,p1,p2,p3,ht2⟩
 have hn2:=ht2.le;have g:=gw_init ht2;have c0:Cel h2 n (25+1) 0 [.slice none 0 0]:=zC;have c1:Cel h2 (n+1) (97+1) 0 [.slice none 0 0]:=zC;have c2:Cel h2 (n+2) (40+1) 0 [I64 0]:=zC;have c6:Cel h2 (n+6) zPw 0 [ptr (n+5) 0]:=zC;have tb:Tch [] h n h2 n2:=zA;repeat' first|refine wk ?_|apply cX <;> intro
 clear ht2;refine wc_rg0 (g:=153) (fs:=[]) (cs:=[ptr pl 0]) (by(apply sL;((conv=>lhs;whnf) <;> exact rfl))) ?_;have tl:∀o,Tch [] h2 n2 (hal (hal h2 n2 (.deferred true)) (n2+1) o) (n2+2):=λo=>zA;have hdf:∀o,zG (hal (hal h2 n2 (.deferred true)) (n2+1) o) n2 = .deferred true:=λo=>by rw[zO,if_neg qJ,zO,if_pos rfl]
 refine all_core (lo:=lo) (l:=l) (sv:=sv) (ps:=[15]) (λdone h' n'=>n2+2<=n'/\∃w wm nsv psv wsv roots,done.foldl wStep (.ok w0) = .ok w/\Gw (n+3) h' n' (n+5) (n+3) [nsv,psv,.map (some (n+3)),wsv,I64 roots] nsv psv wsv w.ns w.ns w.ps wm/\WInv w wm roots/\KeepR (n+3) (n+5) (n+3) (hal h2 n2 (.deferred true)) (n2+1) h' n')
  (λc h' n'=>n2+2<=n'/\(∃e,geoP l = .error e/\c=stopG e)/\KeepR (n+3) (n+5) (n+3) (hal h2 n2 (.deferred true)) (n2+1) h' n') rfl vX ⟨ad _,w0,_,_,_,_,_,rfl,g.tch (tl _),WInv.init,(KeepR.refl _ _ _ _ _).stepL (zA:Tch [] (hal h2 n2 (.deferred true)) (n2+1) _ (n2+2)) qL⟩ ?_ ?_ ?_ ?_ ?_ ?_ (RegsM.tch zA eE hr) zJ
 . rintro done h' n' ⟨eP,_⟩;omega
 . rintro done h' n' h3 n3 ⟨eP,w,wm,nsv,psv,wsv,roots,hw,g,hi,kp⟩ t
   have:=t.le;exact⟨by omega,w,wm,nsv,psv,wsv,roots,hw,g.tch t,hi,kp.stepL t qL⟩
 . rintro done h' n' ⟨eP,w,wm,nsv,psv,wsv,roots,hw,g,hi,kp⟩ b hb
   rw[kp.2 b qJ  (.inl qJ),zO,if_neg qJ,zO,if_neg qJ,zO,if_neg qJ]
 . rintro done ⟨x,d⟩ h' n' ⟨eP,w,wm,nsv,psv,wsv,roots,hw,g',hi,kp⟩ hL hpre
   have jy:=pre_pos 7 1 l (x,d) (hpre.subset qL);obtain⟨dn,rfl,ju⟩:∃dn:Nat,d=((dn+1:Nat):Int)/\dn<=6:=⟨(d - 1).toNat,by dsimp only at jy;omega,by dsimp only at jy;omega⟩;obtain⟨top0,fX⟩:=geo_top hpre hw;rw [hi.ways]at fX;obtain⟨v,htop⟩:=wOf_at fX;obtain⟨e1,e2,e3⟩:=hi.el _ _ htop;have hle:=hi.ok.le;have hle:w.ns.length<=200:=hle;have hxo:=pre_one 7 1 l sv (x,((dn+1:Nat):Int)) hr (hpre.subset qL);have c6B:Cel (hal h2 n2 (.deferred true)) (n+6) zPw 0 [ptr (n+5) 0]:=zC;have c6':Cel h' (n+6) zPw 0 [ptr (n+5) 0]:=cel_same c6B (kp.2 (n+6) qJ  (.inr ⟨by omega,by omega,.inr ⟨_,_,by decide,c6B.1⟩⟩));have mg:yC (zG h' (n2+1))=none:=by rw[hL];rfl
   have hmL:∀es c,zG h' (n2+1)≠.map es c:=λes c e=>by rw[hL]at e;cases e
   have hbwL:yC (zG h' (n+5))=some (5,zW,0):=g'.cel.1;clear c6B;repeat' first|refine wk ?_|apply cX <;> intro
   refine cal (one_com (g'.lp (L:=n2+1) (zA) mg hmL) qJ  htop (λh=>by subst h;exact hi.rts _ htop) hxo hi.ok e1 e2 (by dsimp only at e3 ⊢;omega) (by have:=hi.len;omega)) ?_
   rintro _ h3 n3 ⟨k3,⟨e,he,rfl⟩|⟨p,nsv',psv',wsv',v',hp,rfl,g3⟩⟩
   . repeat' first|refine wk ?_|apply cX <;> intro
     have k3n:=k3.1;exact⟨by omega,.inr ⟨_,rfl,by omega,⟨e,geo_bad hpre (by rw[cj,hw];exact hi.bad htop he),rfl⟩,(kp.stepL (S:=[n2+1]) zA qL).mono k3 (ad _)⟩⟩
   . have hL3:=k3.2 (n2+1) qJ  (.inr ⟨by omega,by omega,.inl (by rw[zO,if_pos rfl];rfl)⟩);rw [zO,if_pos rfl]at hL3;have k3n:=k3.1;have k4:=(kp.stepL (S:=[n2+1]) zA qL).mono k3 (ad _)
     have same:∀b,b<n'->yC (zG h' b)=some (4,114+1,0)->zG h3 b=zG h' b:=λb hb hib=>by
      have hbL:b≠n2+1:=λe=>by rw[e,mg]at hib;cases hib
      obtain⟨es,ck,hme,_⟩:=g'.mp;refine(k3.2 b qJ  (.inr ⟨λe=>by rw[e,hbwL]at hib;simp at hib,λe=>(by rw[e,hme]at hib;cases hib),.inr ⟨4,114+1,by decide,?_⟩⟩)).trans ((zA:Tch [n2+1] h' n' _ (n'+1)).2 b hb (by simpa using hbL));exact(congrArg yC ((zA:Tch [n2+1] h' n' _ (n'+1)).2 b hb (by simpa using hbL))).trans hib
     obtain⟨s1,s2⟩:=hi.step (v':=v') (nv:=.slice none 0 0) ju htop hp;repeat' first|refine wk ?_|apply cX <;> intro
     have tz:=λo=>(zA:Tch [n2+1] h3 n3 (hal h3 (n2+1) o) n3);refine⟨by omega,.inl ⟨rfl,xO,⟨by omega,_,_,_,_,_,_,by rw[cj,hw];exact s1,g3.lp (tz _) (by rw[hL3];rfl) (λes c e=>by rw[hL3]at e;cases e),s2,k4.stepL (tz _) qL⟩,λb hb hib=>?_⟩⟩;rw [zO,if_neg λe=>by rw[<- e,mg]at hib;cases hib];exact same b hb hib
 . rintro h' n' hL ⟨eP,w,wm,nsv,psv,wsv,roots,hw,g',hi,kp⟩
   have mg:yC (zG h' (n2+1))=none:=by rw[hL];rfl
   clear hL
   have kc:∀(b z:Nat) vs,Cel h2 b z 0 vs->0<z->b<n2->b≠n+5->b≠n+3->Cel h' b z 0 vs:=λb z vs c hz hb h5 h3=>by
    have c':Cel (hal h2 n2 (.deferred true)) b z 0 vs:=c.hal qJ;exact cel_same c' (kp.2 b qJ  (.inr ⟨h5,h3,.inr ⟨_,_,hz,c'.1⟩⟩))
   have d0:=kc _ _ _ c0 qK qJ qJ qJ;have d1:=kc _ _ _ c1 qK qJ qJ qJ;have d2:=kc _ _ _ c2 qK qJ qJ qJ;have d6:=kc _ _ _ c6 qK qJ qJ qJ;have jL:zG h' n2 = .deferred true:=by rw[kp.2 n2 qJ  (.inr ⟨by omega,by omega,.inl (by rw[zO,if_pos rfl];rfl)⟩),zO,if_pos rfl]
   have gc:=g'.cel;have on:=g'.on;have op:=g'.op;have on1:=on.one;have op1:=op.one;have tt:Tch [] h n h' n':=⟨by omega,λb hb _=>by rw[kp.2 b qJ  (.inl qJ),zO,if_neg qJ];exact tb.2 b hb qL⟩
   obtain⟨s,ways,jb,hgs⟩:∃s ways,(⟨s.ns,s.ps,ways⟩:WSt)=w/\geoP l = .ok s:=by
    rcases geo_walk l with⟨e,h1,_⟩|⟨s,ways,h1,h2⟩
    . rw[h1]at hw;cases hw
    . rw[h1]at hw;exact⟨s,ways,Except.ok.inj hw,h2⟩
   subst jb;clear c0 c1 c2 c6 g kc;repeat' first|refine wk ?_|apply cX <;> intro
   refine lv_none (g:=89) (args:=[]) (cap:=[ptr n 0,ptr (n+1) 0,ptr (n+2) 0]) places1_none ?_
   rintro h3 n3 t3
   have e0:Cel h3 n (25+1) 0 [nsv]:=zC;have e1:Cel h3 (n+1) (97+1) 0 [psv]:=zC;have e2:Cel h3 (n+2) (40+1) 0 [I64 0]:=zC;have tE:Tch [n,n+1,n+2,n2+1,n2] h' n' h3 n3:=zA
   have no:∀{v e sz len vs},Own (n+3) n' h' v e sz len vs->∀b,zH v=some b->b∉[n,n+1,n+2,n2+1,n2]:=λo b hb hx=>by
    rcases o with⟨rfl,_⟩|⟨b2,q1,q2,rfl,p3,_⟩
    . cases hb
    . injection hb with hb
      have hb:b2=b:=hb;subst hb;simp at hx;rcases hx with h|h|h|h|h
      . omega
      . omega
      . omega
      . rw[h,mg]at p3;cases p3
      . rw[h,jL]at p3;cases p3
   have on3:=(on.tch tE (no on)).dnl (lo':=n) qJ;have op3:=(op.tch tE (no op)).dnl (lo':=n) qJ;have tF:Tch [] h n h3 n3:=Tch.tch tE tt λx hx=>.inl (by simp at hx;omega);clear t3 tE;repeat' first|refine wk ?_|apply cX <;> intro
   exact⟨tF,.inr ⟨s,nsv,psv,hgs,rfl,on3,op3⟩⟩
 . rintro c h' n' ⟨eP,⟨e,he,rfl⟩,kp⟩
   have kc:∀(b z:Nat) vs,Cel h2 b z 0 vs->0<z->b<n2->b≠n+5->b≠n+3->Cel h' b z 0 vs:=λb z vs c hz hb h5 h3=>by
    have c':Cel (hal h2 n2 (.deferred true)) b z 0 vs:=c.hal qJ;exact cel_same c' (kp.2 b qJ  (.inr ⟨h5,h3,.inr ⟨_,_,hz,c'.1⟩⟩))
   have d0:=kc _ _ _ c0 qK qJ qJ qJ;have d1:=kc _ _ _ c1 qK qJ qJ qJ;have d2:=kc _ _ _ c2 qK qJ qJ qJ;have jL:zG h' n2 = .deferred true:=by rw[kp.2 n2 qJ  (.inr ⟨by omega,by omega,.inl (by rw[zO,if_pos rfl];rfl)⟩),zO,if_pos rfl]
   have tt:Tch [] h n h' n':=⟨by omega,λb hb _=>by rw[kp.2 b qJ  (.inl qJ),zO,if_neg qJ];exact tb.2 b hb qL⟩;clear c0 c1 c2 c6 g kc;repeat' first|refine wk ?_|apply cX <;> intro
   refine rN (g:=89) (args:=[]) (cap:=[ptr n 0,ptr (n+1) 0,ptr (n+2) 0]) (places1_some qJ qJ qJ qJ qJ qJ  zC zC zC) ?_
   rintro h3 n3 ⟨t3,e0,e1,e2⟩
   have tF:Tch [] h n h3 n3:=Tch.tch (zA:Tch [n,n+1,n+2,n2] h' n' h3 n3) tt λx hx=>.inl (by simp at hx;omega);repeat' first|refine wk ?_|apply cX <;> intro
   exact⟨tF,.inl ⟨e,he,rfl⟩⟩
end
section
attribute [local simp] zY
theorem mach_dn{lo n n':Nat}{h h':zB}{m:MachT}{S:List Nat}(t:Tch S h n h' n')(hl:lo<=n)(hS:∀b∈S,lo<=b)(r:MachM lo h m):MachM lo h' m:=MachM.tch (n:=lo) (n':=lo) ⟨ad _,λb hb _=>t.2 b qJ  λhx=>by have:=hS b hx;omega⟩ (ad _) r
abbrev zCk:Nat:=146+1
theorem sS{lo:Nat}{h:zB}{m:MachT}(mm:MachM lo h m):m.rsv.oneCell'=true/\m.csv.oneCell'=true/\m.osv.oneCell'=true/\m.asv.oneCell'=true/\m.ssv.oneCell'=true:=⟨(mm.regs.row 0).one,(mm.cls 0).one,(mm.ops 0).one,(mm.args 0).one,(mm.saved 0).one⟩
variable {lo bc n:Nat} {h:zB} {m:MachT}
theorem head_com(mm:MachM lo h m)(eE:lo<=bc)(gw:bc<n)(hc:Cel h bc zCk 0 (yR m++[.slice none 0 0,.slice none 0 0])):Com P 8 79 [ptr bc 0] h n λo h' n'=>Tch [bc] h n h' n'/\((named m.name=false/\o = .panic (sR 5))\/named m.name=true/\((∃e,geoP m.regs = .error e/\o = .panic (sR e))\/∃s,geoP m.regs = .ok s/\((s.ns=[]/\o = .panic (sR 1))\/s.ns≠[]/\o = .ret (.tuple #[])/\∃nsv psv,Ck n' h' bc zCk m nsv psv s.ns s.ps))):=by
 obtain⟨o1,o2,o3,o4,o5⟩:=sS mm;refine ent λu=>?_;repeat' first|refine wk ?_|apply cX <;> intro
 . rename_i eO;refine cal (places_com mm.regs qJ) ?_
   rintro _ h2 n2 ⟨ht,⟨e,he,rfl⟩|⟨s,nsv,psv,hs,rfl,on,op⟩⟩
   . have hn2:=ht.le;have lj:=geo_err he;repeat' first|refine wk ?_|apply cX <;> intro
     . exact⟨zA,.inr ⟨eO,.inl ⟨e,he,rfl⟩⟩⟩
   . have hn2:=ht.le;have on1:=on.one;have op1:=op.one;have rn:=on.row qK;have rp:=op.row qK;have gok:=geo_ok hs;have gl:=gok.le;repeat' first|refine wk ?_|apply cX <;> intro
     . rename_i f1;have c2:Cel (hst (hst h2 bc 8 [nsv]) bc 9 [psv]) bc zCk 0 (yR m++[nsv,psv]):=zC;have tE:Tch [bc] h n (hst (hst h2 bc 8 [nsv]) bc 9 [psv]) n2:=zA;have tS:Tch [bc] h2 n2 (hst (hst h2 bc 8 [nsv]) bc 9 [psv]) n2:=zA
       have nb:∀{v e sz len vs},Own n n2 h2 v e sz len vs->∀b,zH v=some b->b∉[bc]:=λo b hb hx=>by
        have:=zQ o b (by rw[hb];simp);simp at hx;omega
       refine⟨tE,.inr ⟨eO,.inr ⟨s,hs,.inr ⟨λe=>by rw[e]at f1;simp at f1,rfl,nsv,psv,⟨(mach_dn tE qJ qM  mm).up qJ,c2,(on.tch tS (nb on)).row qK,(op.tch tS (nb op)).row qK,by omega,gok.len,gl,λp hp=>(gok.pl p hp).ok⟩⟩⟩⟩⟩
     . rename_i f1;exact⟨zA,.inr ⟨eO,.inr ⟨s,hs,.inl ⟨List.eq_nil_of_length_eq_zero qJ,rfl⟩⟩⟩⟩
 . exact⟨zA,.inl ⟨by assumption,rfl⟩⟩
end
section
theorem row_cut{ty e sz lo len k:Nat}{h:zB}{v:Value}{vs:List Value}[s:SlC P ty e sz](r:Row lo h v e sz len vs)(hk:k<=len):∃a c,xS P h ty v none (some (I64 (k:Nat))) none=some (.slice a k c):=by
 obtain⟨hu,ei,hi,hsz⟩:=s.get;rcases r with⟨rfl,rfl,rfl⟩|⟨b,off,cap,m,z,kd,hb,rfl,hl,h3,hm,hr,h7⟩
 . obtain rfl:k=0:=by omega
   refine⟨none,0,?_⟩;unfold xS;rw [hu];dsimp only;rw [hi];rfl
 rcases h7 with⟨g1,g2⟩|⟨rfl,rfl,rfl,g4⟩
 . refine⟨some ⟨b,off,none⟩,cap,?_⟩;unfold xS;rw [hu];dsimp only;rw [hi];dsimp only
   have fz:Nat.beq cap inf=false:=by
    cases e9:Nat.beq cap inf with
    | false=>rfl
    | true=>have:=zT e9;omega
   rw[fz];show wT ⟨b,off,none⟩ len cap ei.size none (some (I64 (k:Nat))) none=_;unfold wT
   show(match zZ len cap (some (I64 (k:Nat))) with
    | none=>none
    | some h=>match zZ 0 h none with
     | none=>none
     | some l=>cond (Nat.blt cap inf && Nat.ble h cap) (some (Value.slice (some (cond (Nat.beq cap l) ⟨b,off,none⟩ (far ⟨b,off,none⟩ (Nat.mul l ei.size)))) (Nat.sub h l) (Nat.sub cap l))) none:Option Value)=_
   rw[bound_at qJ];show cond (Nat.blt cap inf && Nat.ble k cap) (some (Value.slice (some (cond (Nat.beq cap 0) ⟨b,off,none⟩ (far ⟨b,off,none⟩ (Nat.mul 0 ei.size)))) (Nat.sub k 0) (Nat.sub cap 0))) none=_;rw [xV g1,vC qJ];have e0:Nat.mul 0 ei.size=0:=bI _;rw [e0];have e1:far ⟨b,off,none⟩ 0=⟨b,off,none⟩:=rfl;rw [e1];cases Nat.beq cap 0 <;> rfl
 . refine⟨some ⟨b,off,none⟩,inf,?_⟩;unfold xS;rw [hu];dsimp only;rw [hi];dsimp only;have fz:Nat.beq inf inf=true:=aR _;rw [fz];cases hg:zG h b <;> rw[hg]at h3 <;> first|(cases h3;done)|(exact absurd (kd_of h3) qK)|skip
   rename_i c kn z' kd';have q3':some (kn,z',kd')=some (m,zc e sz,1):=h3;simp only[Option.some.injEq,Prod.mk.injEq]at q3';obtain⟨rfl,rfl,rfl⟩:=q3';show cond (Nat.beq (zc e sz) (zc e ei.size) && Nat.ble 1 ei.size) (uP ⟨b,off,none⟩ len ei.size none (some (I64 (k:Nat))) none) none=_;rw [hsz,aR,vC g4];unfold uP;dsimp only[Bool.and_self,cond_true];rw [bound_at hk];show some (Value.slice (some (far ⟨b,off,none⟩ (Nat.mul 0 sz))) (Nat.sub k 0) inf)=_;have e0:Nat.mul 0 sz=0:=bI _;rw [e0];rfl
variable {lo bc z n:Nat} {h:zB} {m:MachT} {nsv psv:Value} {ns:List Tx} {ps:List Pl}
theorem spills_com(k:Ck lo h bc z m nsv psv ns ps)(eE:lo<=n)(hok:∀(i:Nat) c,m.classes[i]? = some c->xM m c.name=(i:Nat)/\∀r∈c.regs,r∈ns)(ho:∀o∈m.ops,OpOK m ns o):Com P 8 83 [ptr bc 0] h n λo h' n'=>∃e,o=outE e/\((e=11/\¬uM m ns ps)\/(e=0/\uM m ns ps))/\Tch [] h n h' n':=by
 have gw:=k.hb;have hcel:=k.cel;have ro:=k.mm.ops 0;have gI:=k.mm.ops.lt;have eX:=k.mm.cls.lt;have eM:inf<4611686018427387904:=by decide
 have bad:¬uM m ns ps->∀h2 n2,Tch [] h n h2 n2->∃e,Out.panic (sR 11)=outE e/\((e=11/\¬uM m ns ps)\/(e=0/\uM m ns ps))/\Tch [] h n h2 n2:=λhb h2 n2 t2=>⟨11,rfl,.inl ⟨rfl,hb⟩,t2⟩;refine ent λu=>?_;repeat' first|refine wk ?_|apply cX <;> intro
 refine lpR (λi:Nat=>[(0,ptr bc 0),(10,m.osv),(11,I64 m.ops.length),(12,I64 i)]) (λi h' n'=>Tch [] h n h' n'/\i<=m.ops.length/\∀(j:Nat) o,j<i->m.ops[j]? = some o->fitsB m ns ps o=true) (λi=>m.ops.length - i) 0 ⟨zA,an _,λj _ hj=>absurd hj (aE _)⟩ ?_
 rintro i t h' n' ⟨ht,hi,eG⟩
 have eP:=ht.le;have k':=k.tch ht eE;have r':=k'.mm.ops 0;have gU:=k'.cel;by_cases eD:i<m.ops.length
 . have c0:m.ops[i]? = some m.ops[i]:=aa eD;generalize m.ops[i]=o at c0
   have c1:=zM r' c0;have ft:=ae c0;have gW:=r'.low qJ;have kZ:=(k'.mm.opsu o ft 0).one;have hu2:=(k'.mm.opsc o ft 0).one;repeat' first|refine wk ?_|refine cX (λ_=>?_) λ_=>?_|refine zS (fits_pur (Ck.tch k' zA qJ) qJ  hok (ho o ft)) ?_|fail
   . rename_i f1
     exact rnd (i+1) ⟨zA,by omega,λj y hj e=>by
      rcases ai.1 hj with h9|rfl
      . exact eG j y h9 e
      . rw[c0]at e;cases e;exact f1⟩
   . rename_i f1;exact bad (λhb=>by have:=hb.1 i o c0;rw [f1]at this;cases this) _ _ zA
 obtain rfl:i=m.ops.length:=by omega
 have iG:∀(j:Nat) o,m.ops[j]? = some o->fitsB m ns ps o=true:=λj o e=>eG j o (ab.1 e).1 e;clear eG hi eD r' hcel ro;have rc':=k'.mm.cls 0;repeat' first|refine wk ?_|apply cX <;> intro
 refine lpR (λi:Nat=>[(0,ptr bc 0),(26,I64 m.classes.length),(27,I64 i)]) (λi h2 n2=>h2=h'/\n2=n'/\i<=m.classes.length/\∀(a b:Nat) ca cb,a<i->b<=a->m.classes[a]? = some ca->m.classes[b]? = some cb->qF m ns ps ⟨ca.name,[]⟩ ⟨cb.name,[]⟩=true) (λi=>m.classes.length - i) 0 ⟨rfl,rfl,an _,λj _ _ _ hj=>absurd hj (aE _)⟩ ?_
 rintro i t h2 n2 ⟨rfl,rfl,hi,eG⟩
 by_cases eD:i<m.classes.length
 . have c0:m.classes[i]? = some m.classes[i]:=aa eD;generalize m.classes[i]=ca at c0
   obtain⟨sa,sc,fB⟩:=row_cut (ty:=23) (k:=i+1) (k'.mm.cls _) qJ;rw [show((i+1:Nat):Int)=(i:Int)+1 from rfl]at fB;repeat' first|refine wk ?_|apply cX <;> intro
   refine lpR (λq:Nat=>[(0,ptr bc 0),(26,I64 m.classes.length),(27,I64 i),(4,I64 i),(38,I64 ((i+1:Nat):Int)),(39,I64 q)]) (λq h3 n3=>h3=h2/\n3=n2/\q<=i+1/\∀(b:Nat) cb,b<q->m.classes[b]? = some cb->qF m ns ps ⟨ca.name,[]⟩ ⟨cb.name,[]⟩=true) (λq=>i+1 - q) 0 ⟨rfl,rfl,an _,λj _ hj=>absurd hj (aE _)⟩ ?_
   rintro q t h3 n3 ⟨rfl,rfl,hq,hno2⟩
   by_cases eK:q<i+1
   . have d0:m.classes[q]? = some m.classes[q]:=aa qJ;generalize m.classes[q]=cb at d0
     repeat' first|refine wk ?_|refine cX (λ_=>?_) λ_=>?_|refine zS (pair_pur k' qJ  hok c0 d0) ?_|fail
     . rename_i q1
       exact rnd (q+1) ⟨rfl,rfl,by omega,λb cb' h9 e=>by
        rcases ai.1 h9 with h9|rfl
        . exact hno2 b cb' h9 e
        . rw[d0]at e;cases e;exact q1⟩
     . rename_i q1;refine bad (λhb=>?_) _ _ ht;have:=hb.2 i q ca cb qJ  c0 d0;rw [show qF m ns ps ⟨ca.name,[]⟩ ⟨cb.name,[]⟩=qF m ns ps (opA ca) (opA cb) from rfl,q1]at this;cases this
   . obtain rfl:q=i+1:=by omega
     repeat' first|refine wk ?_|apply cX <;> intro
     exact rnd (i+1) ⟨rfl,rfl,by omega,λa b ca' cb h7 h8 e1 e2=>by
      rcases ai.1 h7 with h7|rfl
      . exact eG a b ca' cb h7 h8 e1 e2
      . rw[c0]at e1;cases e1;exact hno2 b cb qJ  e2⟩
 . obtain rfl:i=m.classes.length:=by omega
   repeat' first|refine wk ?_|apply cX <;> intro
   exact⟨0,rfl,.inr ⟨rfl,iG,λa b ca cb hba e1 e2=>eG a b ca cb (ab.1 e1).1 hba e1 e2⟩,ht⟩
end
section
variable {n:Nat} {h:zB}
theorem asked1_none{b z:Nat}{e0:Int}(hb:b<n)(hc:Cel h b z 0 [I64 e0]):Def P 8 138 [ptr b 0] none h n λu' h' n'=>u'=none/\Tch [] h n h' n':=by
 refine entD ?_;repeat' first|refine wk ?_|apply cX <;> intro
 exact⟨_,rfl,rfl,zA⟩
theorem asked1_some{b z:Nat}{e0 e:Int}(hb:b<n)(hc:Cel h b z 0 [I64 e0]):Def P 8 138 [ptr b 0] (some (sR e)) h n λu' h' n'=>u'=some [⟨.iface 205 (.agg ⟨[I64 e]⟩),true,false⟩]/\Tch [b] h n h' n'/\Cel h' b z 0 [I64 e]:=by
 refine entD ?_;repeat' first|refine wk ?_|apply cX <;> intro
 exact⟨_,rfl,rfl,zA,zC⟩
theorem asked_com{bc:Nat}{g:FuncId}{fs cs:List Value}{R:Int->zB->Nat->Prop}(hb:bc<n)(hd:∀h' n',Tch [] h n h' n'->n<n'->Com P 8 g (fs++([]++cs)) h' n' λo h2 n2=>∃e,o=outE e/\Tch [bc] h' n' h2 n2/\R e h2 n2)
(hR:∀e h2 n2 h3 n3,R e h2 n2->n2<=n3->(∀b,b<n2->b≠n->zG h3 b=zG h2 b)->R e h3 n3):Com P 8 77 [.func (.func g) ⟨fs⟩ ⟨cs⟩] h n λo h' n'=>∃e,o = .ret (I64 e)/\R e h' n'/\Tch [bc] h n h' n':=by
 refine ent λu=>?_;repeat' first|refine wk ?_|apply cX <;> intro
 refine cal (hd _ _ zA qJ) ?_
 rintro _ h2 n2 ⟨e,rfl,ht,hr⟩
 have hn2:=ht.le;have hc:Cel h2 n (40+1) 0 [I64 0]:=zC;have fl:Tch [bc] h n h2 n2:=zA;by_cases e0:e=0
 . subst e0;rw [show outE 0 = .ret (.tuple #[]) from rfl];repeat' first|refine wk ?_|apply cX <;> intro
   have hc2:Cel (hst h2 n 0 [I64 0]) n (40+1) 0 [I64 0]:=zC;refine lv_none (g:=138) (args:=[]) (cap:=[ptr n 0]) (asked1_none qJ  hc2) ?_
   rintro h3 n3 ht3
   have hc3:Cel h3 n (40+1) 0 [I64 0]:=hc2.tch ht3 qJ qL;have kY:Tch [bc] h n h3 n3:=zA;have mE:R 0 h3 n3:=hR 0 _ _ _ _ hr ht3.le λb hb eJ=>by rw[ht3.2 b hb qL,zX,if_neg λe=>eJ e.symm]
   clear ht3;repeat' first|refine wk ?_|apply cX <;> intro
   exact⟨0,rfl,mE,kY⟩
 . rw[show outE e = .panic (sR e) from if_neg e0];repeat' first|refine wk ?_|apply cX <;> intro
   refine rN (g:=138) (args:=[]) (cap:=[ptr n 0]) (asked1_some qJ  hc) ?_
   rintro h3 n3 ⟨ht3,hc3⟩
   have kY:Tch [bc] h n h3 n3:=Tch.tch ht3 fl λx hx=>.inl (by simp at hx;omega);have mE:R e h3 n3:=hR e _ _ _ _ hr ht3.le λb hb eJ=>ht3.2 b hb (by simpa using eJ);repeat' first|refine wk ?_|apply cX <;> intro
   exact⟨e,rfl,mE,kY⟩
end
section
attribute [local simp] zY
variable {lo bc n:Nat} {h:zB} {m:MachT}
theorem ar_geG(s:Tx):0<=arity s/\arity s<=2:=by unfold arity;split <;> (first|omega|(split <;> omega))
theorem opr_cls{ns:List Tx}{x:OperT}(cs:CsOK m ns)(h:uB m x=true):ClsOK m ns x.cls:=by
 unfold uB at h;rcases vD (m:=m) (x:=x.cls) with⟨h1,h2⟩|⟨i,c,h1,h2,h3,h4,h5⟩
 . rw[h1]at h;cases h
 . exact⟨c,i,h1,h2,h3,cs.mem i c h2⟩
theorem op_ok{ns:List Tx}{ps:List Pl}(hc:ClsErr m ns ps 0)(iN:qE m ns ps 0):∀o∈m.ops,OpOK m ns o:=λo ho=>by
 obtain⟨i,hi⟩:=aj.1 ho;have cs:=CsOK.of hc
 have oo:tI m ns ps o/\(o.uses.length=1\/o.uses.length=2):=by
  rcases iN with⟨h9,_⟩|⟨_,⟨_,h9⟩|⟨_,_,_,_,h9,_⟩⟩
  . omega
  . rcases h9 i o hi with⟨_,h8,h7⟩|⟨h8,_⟩|⟨h8,_⟩
    . have:=h7.1;have h6:=h8.1;have:=ar_geG o.name;exact⟨h7,by omega⟩
    . omega
    . omega
  . omega
 obtain⟨⟨g1,g2,g3,g4,g5,g6,g7,g8⟩,glen⟩:=oo
 exact⟨ho,λu hu=>by
  obtain⟨j,hj⟩:=aj.1 hu;exact opr_cls cs (g3 j u hj).1,opr_cls cs g2,λr hr=>by
  obtain⟨j,hj⟩:=aj.1 hr;exact(g8 j r hj).1,g5,glen⟩
theorem Ck.upL{lo' z:Nat}{nsv psv:Value}{ns:List Tx}{ps:List Pl}(k:Ck lo h bc z m nsv psv ns ps)(hl:lo<=lo'):Ck lo' h bc z m nsv psv ns ps:=⟨k.mm.up hl,k.cel,k.rn.up hl,k.rp.up hl,aG k.hb hl,k.hl,k.hn,k.ok⟩
abbrev mFn(g bc:Nat):Value:=.func (.func g) ⟨[ptr bc 0]⟩ ⟨[]⟩
abbrev mFs(bc:Nat):List Value:=[mFn 79 bc,mFn 80 bc,mFn 81 bc,mFn 82 bc,mFn 83 bc]
def Part(m:MachT)(bc:Nat)(i:Nat)(h:zB)(n:Nat):Prop:=∃s nsv psv,named m.name=true/\geoP m.regs = .ok s/\s.ns≠[]/\Ck n h bc zCk m nsv psv s.ns s.ps/\(2<=i->ClsErr m s.ns s.ps 0)/\(3<=i->qE m s.ns s.ps 0)/\(4<=i->rH m s.ns s.ps (wS s.ns s.ps))/\(5<=i->uM m s.ns s.ps)
theorem check1_com{pc:Nat}(mm:MachM lo h m)(eE:lo<=bc)(gw:bc<n)(hc:Cel h bc zCk 0 (yR m++[.slice none 0 0,.slice none 0 0]))(hp:zD h pc 0=some (ptr bc 0))(hpc:pc<n)(eJ:pc≠bc):Com P 8 78 [ptr pc 0] h n λo h' n'=>∃e,o=outE e/\Tch [bc] h n h' n'/\MakeE m e:=by
 refine ent λu=>?_;repeat' first|refine wk ?_|apply cX <;> intro
 have t0:Tch [] h n (hal h n (mkC (mFs bc) 0 0)) (n+1):=zA;refine lpR (λi:Nat=>[(13,.slice (some ⟨n,0,none⟩) 5 5),(14,I64 (5:Nat)),(15,I64 i)]) (λi h' n'=>Tch [bc] h n h' n'/\n<n'/\Cel h' n 0 0 (mFs bc)/\i<=5/\(i=0->MachM lo h' m/\Cel h' bc zCk 0 (yR m++[.slice none 0 0,.slice none 0 0]))/\(1<=i->Part m bc i h' n')) (λi=>5 - i) 0 ⟨zA,by omega,zC,an _,λ_=>⟨mm.tch t0 qJ,zC⟩,λh=>by omega⟩ ?_;clear t0
 rintro i t h' n' ⟨ht,eP,hF,hi,hz,hs⟩
 have tn:Tch [] h' n' h' n':=Tch.refl _ _ _;rcases(show i=0\/i=1\/i=2\/i=3\/i=4\/i=5 by omega) with rfl|rfl|rfl|rfl|rfl|rfl
 . obtain⟨mm',fE⟩:=hz rfl;repeat' first|refine wk ?_|apply cX <;> intro
   refine cal (head_com mm' eE qJ  fE) ?_
   rintro _ h2 n2 ⟨ht2,⟨eO,rfl⟩|⟨eO,⟨e,he,rfl⟩|⟨s,hgs,⟨eJ,rfl⟩|⟨eJ,rfl,nsv,psv,k⟩⟩⟩⟩
   . repeat' first|refine wk ?_|apply cX <;> intro
     exact⟨5,rfl,zA,.inl ⟨eO,rfl⟩⟩
   . have lj:=geo_err he;repeat' first|refine wk ?_|apply cX <;> intro
     exact⟨e,(if_neg lj).symm,zA,.inr ⟨eO,.inl ⟨he,lj⟩⟩⟩
   . repeat' first|refine wk ?_|apply cX <;> intro
     exact⟨1,rfl,zA,.inr ⟨eO,.inr ⟨s,hgs,.inl ⟨eJ,rfl⟩⟩⟩⟩
   . have hn2:=ht2.le;repeat' first|refine wk ?_|apply cX <;> intro
     exact rnd 1 ⟨zA,by omega,zE,by omega,λh=>by omega,λ_=>⟨s,nsv,psv,eO,hgs,eJ,k,λh=>by omega,λh=>by omega,λh=>by omega,λh=>by omega⟩⟩
 . obtain⟨s,nsv,psv,eO,hgs,eJ,k,q2,q3,q4,q5⟩:=hs qJ;repeat' first|refine wk ?_|apply cX <;> intro
   refine cal (classes_com k (ad _)) ?_
   rintro _ h2 n2 ⟨e,rfl,he,ht2⟩
   have hn2:=ht2.le;by_cases e0:e=0
   . subst e0;rw [show outE 0 = .ret (.tuple #[]) from rfl];repeat' first|refine wk ?_|apply cX <;> intro
     exact rnd 2 ⟨zA,by omega,zE,by omega,λh=>by omega,λ_=>⟨s,nsv,psv,eO,hgs,eJ,Ck.upL (k.tch ht2 (ad _)) qJ,λ_=>he,λh=>by omega,λh=>by omega,λh=>by omega⟩⟩
   . rw[show outE e = .panic (sR e) from if_neg e0];repeat' first|refine wk ?_|apply cX <;> intro
     exact⟨e,(if_neg e0).symm,zA,.inr ⟨eO,.inr ⟨s,hgs,.inr ⟨eJ,.inl ⟨e0,he⟩⟩⟩⟩⟩
 . obtain⟨s,nsv,psv,eO,hgs,eJ,k,q2,q3,q4,q5⟩:=hs qJ;have q2:=q2 qJ;have cs:=CsOK.of q2;repeat' first|refine wk ?_|apply cX <;> intro
   refine cal (ops_com k (ad _) λc hc=>?_) ?_
   . obtain⟨i,hi⟩:=aj.1 hc;have h1:=cs.ne i c hi;have h2:=cs.mem i c hi
     cases hr:c.regs with
     | nil=>rw [hr]at h1;simp at h1
     | cons r0 rr=>exact⟨r0,rr,rfl,h2 r0 (by rw[hr];simp)⟩
   rintro _ h2 n2 ⟨e,rfl,he,ht2⟩
   have hn2:=ht2.le;by_cases e0:e=0
   . subst e0;rw [show outE 0 = .ret (.tuple #[]) from rfl];repeat' first|refine wk ?_|apply cX <;> intro
     exact rnd 3 ⟨zA,by omega,zE,by omega,λh=>by omega,λ_=>⟨s,nsv,psv,eO,hgs,eJ,Ck.upL (k.tch ht2 (ad _)) qJ,λ_=>q2,λ_=>he,λh=>by omega,λh=>by omega⟩⟩
   . rw[show outE e = .panic (sR e) from if_neg e0];repeat' first|refine wk ?_|apply cX <;> intro
     exact⟨e,(if_neg e0).symm,zA,.inr ⟨eO,.inr ⟨s,hgs,.inr ⟨eJ,.inr ⟨q2,.inl ⟨e0,he⟩⟩⟩⟩⟩⟩
 . obtain⟨s,nsv,psv,eO,hgs,eJ,k,q2,q3,q4,q5⟩:=hs qJ;have q2:=q2 qJ;have q3:=q3 qJ;repeat' first|refine wk ?_|apply cX <;> intro
   refine cal (conv_com k (ad _)) ?_
   rintro _ h2 n2 ⟨e,rfl,⟨rfl,he⟩|⟨rfl,he⟩,ht2⟩
   . have hn2:=ht2.le;rw [show outE 0 = .ret (.tuple #[]) from rfl];repeat' first|refine wk ?_|apply cX <;> intro
     exact rnd 4 ⟨zA,by omega,zE,by omega,λh=>by omega,λ_=>⟨s,nsv,psv,eO,hgs,eJ,Ck.upL (k.tch ht2 (ad _)) qJ,λ_=>q2,λ_=>q3,λ_=>he,λh=>by omega⟩⟩
   . rw[show outE 10 = .panic (sR 10) from rfl];repeat' first|refine wk ?_|apply cX <;> intro
     exact⟨10,rfl,zA,.inr ⟨eO,.inr ⟨s,hgs,.inr ⟨eJ,.inr ⟨q2,.inr ⟨q3,.inl ⟨rfl,he⟩⟩⟩⟩⟩⟩⟩
 . obtain⟨s,nsv,psv,eO,hgs,eJ,k,q2,q3,q4,q5⟩:=hs qJ;have q2:=q2 qJ;have q3:=q3 qJ;have q4:=q4 qJ;have cs:=CsOK.of q2;repeat' first|refine wk ?_|apply cX <;> intro
   refine cal (spills_com k (ad _) (λi c hi=>⟨cs.ix i c hi,cs.mem i c hi⟩) (op_ok q2 q3)) ?_
   rintro _ h2 n2 ⟨e,rfl,⟨rfl,he⟩|⟨rfl,he⟩,ht2⟩
   . rw[show outE 11 = .panic (sR 11) from rfl];repeat' first|refine wk ?_|apply cX <;> intro
     exact⟨11,rfl,zA,.inr ⟨eO,.inr ⟨s,hgs,.inr ⟨eJ,.inr ⟨q2,.inr ⟨q3,.inr ⟨q4,.inl ⟨rfl,he⟩⟩⟩⟩⟩⟩⟩⟩
   . have hn2:=ht2.le;rw [show outE 0 = .ret (.tuple #[]) from rfl];repeat' first|refine wk ?_|apply cX <;> intro
     exact rnd 5 ⟨zA,by omega,zE,by omega,λh=>by omega,λ_=>⟨s,nsv,psv,eO,hgs,eJ,Ck.upL (k.tch ht2 (ad _)) qJ,λ_=>q2,λ_=>q3,λ_=>q4,λ_=>he⟩⟩
 . obtain⟨s,nsv,psv,eO,hgs,eJ,k,q2,q3,q4,q5⟩:=hs qJ;repeat' first|refine wk ?_|apply cX <;> intro
   exact⟨0,rfl,zA,.inr ⟨eO,.inr ⟨s,hgs,.inr ⟨eJ,.inr ⟨q2 qJ,.inr ⟨q3 qJ,.inr ⟨q4 qJ,.inr ⟨rfl,q5 qJ⟩⟩⟩⟩⟩⟩⟩⟩
theorem check_com(mm:MachM lo h m)(eE:lo<=n):Com P 8 36 [.agg ⟨yR m⟩] h n λo h' n'=>∃e,o = .ret (I64 e)/\MakeE m e/\Tch [] h n h' n':=by
 obtain⟨o1,o2,o3,o4,o5⟩:=sS mm;refine ent λu=>?_;repeat' first|refine wk ?_|apply cX <;> intro
 refine cal (asked_com (bc:=n+1) (g:=78) (fs:=[]) (cs:=[ptr (n+2) 0]) (R:=λe _ _=>MakeE m e) qJ  (λh' n' ht eP=>?_) (λe h2 n2 h3 n3 hr _ _=>hr)) ?_
 . exact(check1_com (lo:=lo) (bc:=n+1) (MachM.tch zA eE mm) qJ qJ  zC zJ qJ qJ)
 . rintro _ h2 n2 ⟨e,rfl,he,ht⟩
   repeat' first|refine wk ?_|apply cX <;> intro
   exact⟨e,rfl,he,zA⟩
end
end Go.Proofs.YtdiejolnllipnaaGreatDoor
