/- What the law leans on, part 22 of 24. Conditions: those that each theorem states. -/
import Derived.Test.YtdiejolnllipnaaGreatDoorMachPrintsx21
import Derived.Test.YtdiejolnllipnaaGreatDoorMachPrintsx9
import Derived.Test.YtdiejolnllipnaaGreatDoorMachPrintsx18

set_option linter.unusedVariables false
set_option linter.unusedSimpArgs false
namespace Go.Proofs.YtdiejolnllipnaaGreatDoor
open Go Go.Ex Go.Ex.M
set_option maxRecDepth 100000
set_option maxHeartbeats 8000000
section
attribute [local simp] zY
variable {n n0 bt br bw lq:Nat} {h h0:zB} {m:MachT} {ns:List Tx} {ps:List Pl} {v:TabV} {sv cv:Value} {mx:Int} {A:Tx} {B:Int} {i:InsT}
theorem one_words{res:Tx}(R:InsR ns.length i)(hn:∀x∈ns,xL x=true)(hk:¬(i.kind=1\/i.kind=2\/i.kind=3\/i.kind=4\/i.kind=11\/(i.kind=6/\i.d≠-1))):∃(s:Tx) (q:List Tx),zU ns res i=s::q/\wrd1 (s::q)≠wEq/\
 ((i.kind=5/\s=wStore/\q=[rgN ns i.a,rgN ns i.b])\/((i.kind=6/\i.d = -1)/\s=wCall/\q=[i.name,Lib.itoa i.n])\/(i.kind=7/\s=wBr/\q=[rgN ns i.a,Lib.itoa i.t,Lib.itoa i.f])\/(i.kind=8/\s=wJump/\q=[Lib.itoa i.t])\/(i.kind=10/\s=wSpill/\q=[Lib.itoa i.n,rgN ns i.a])\/(i.kind=9/\s=wRet/\q=[])):=by
 have rg:∀{r:Int},0<=r/\r<(ns.length:Int)->rgN ns r≠wEq:=λh=>by
  obtain⟨j,rfl,hj⟩:=rgN_at h.1 h.2;exact name_ne (hn _ (ae hj))
 have ia:∀{r:Int},0<=r/\r<=99999->Lib.itoa r≠wEq:=λh=>itoa_ne qJ qJ;obtain⟨h1,h2⟩:=R.k;have e:i.kind=5\/(i.kind=6/\i.d = -1)\/i.kind=7\/i.kind=8\/i.kind=10\/i.kind=9:=by omega
 rcases e with h|h|h|h|h|h
 . exact⟨wStore,[rgN ns i.a,rgN ns i.b],by simp[zU,h],rg (R.a qJ),.inl ⟨h,rfl,rfl⟩⟩
 . exact⟨wCall,[i.name,Lib.itoa i.n],by simp[zU,h],name_ne (R.n6 h.1).1,.inr (.inl ⟨h,rfl,rfl⟩)⟩
 . exact⟨wBr,[rgN ns i.a,Lib.itoa i.t,Lib.itoa i.f],by simp[zU,h],rg (R.a qJ),.inr (.inr (.inl ⟨h,rfl,rfl⟩))⟩
 . exact⟨wJump,[Lib.itoa i.t],by simp[zU,h],ia (R.t qJ),.inr (.inr (.inr (.inl ⟨h,rfl,rfl⟩)))⟩
 . exact⟨wSpill,[Lib.itoa i.n,rgN ns i.a],by simp[zU,h],ia (R.n qJ),.inr (.inr (.inr (.inr (.inl ⟨h,rfl,rfl⟩))))⟩
 . exact⟨wRet,[],by simp[zU,h],(by decide:([]:Tx)≠wEq),.inr (.inr (.inr (.inr (.inr ⟨h,rfl,rfl⟩))))⟩
theorem rone_ret(E:EnvT mx lq n0 h0 bt m ns ps v)(t0:Tch [] h0 n0 h n)(ff:n0<=bw)(eJ:br≠bw)(im:br<n)(c:Cel h br zMR 0 (rdC bt A B cv (ptr bw 0))){j:Nat}(hj:ns[j]? = some m.result)(R:InsR ns.length i)(hg:uT i.n)(w:WdM n bw h (zU ns m.result i) sv):Ret P 8 71 [ptr br 0] h n (IOQ bw i h n):=by
 have hb:=w.lt;have gb:=aW E.ng ff;have TT:∀{h' n'},Tch [bw] h n h' n'->Tch [] h0 n0 h' n':=λt=>Tch.tch t t0 λx hx=>.inl (by simp at hx;omega);refine ent λu=>?_;by_cases hk:i.kind=1\/i.kind=2\/i.kind=3\/i.kind=4\/i.kind=11\/(i.kind=6/\i.d≠-1)
 . have e:wrd1 (zU ns m.result i)=wEq:=by
    obtain⟨r,s,q,e,_⟩:=def_words R hj hk;rw [e];rfl
   repeat' first|refine wk ?_|refine cX (λ_=>?_) λf=>absurd e f|refine zS (peek_pur (w.tch (S:=[]) zA qL)) ?_|refine yG (rdef_ret E (TT zA) ff eJ qJ  (c.tch (n:=n) (S:=[]) zA im qL) hj R hg (w.tch (S:=[]) zA qL) hk) ?_|fail
   rintro _ h2 n2 ⟨t2,av,sv2,rfl,o2,w2⟩
   generalize hq:rQ i av=ic at o2 ⊢
   have hn2:=t2.le;have z2:Cel h2 n zI 0 zL:=Cel.tch zE t2 qJ qM;have u2:Tch [bw] h n h2 n2:=zA;clear t2;have o1:ic.av.oneCell'=true:=by subst hq;exact o2.one
   repeat' first|refine wk ?_|refine cX (λ_=>?_) λ_=>?_|refine ob (a:=_) ?_ rM|fail
   exact⟨_,rfl,zA,av,sv2,by rw[hq],by subst hq;exact own_dn (o2.tch (S:=[n]) zA (own_off o2 qJ)) qJ,w2.tch (S:=[n]) zA qM⟩
 . obtain⟨s,q,e,h1,hD⟩:=one_words (res:=m.result) R E.nm hk;rw [e]at w;repeat' first|refine wk ?_|refine cX (λf=>absurd f h1) λ_=>?_|refine zS (peek_pur (w.tch (S:=[]) zA qL)) ?_|refine yG (next_ret (w.tch (S:=[]) zA qL)) ?_|fail
   rintro _ h2 n2 ⟨rfl,t2,sv2,w2⟩
   have hn2:=t2.le;have z2:Cel h2 n zI 0 zL:=Cel.tch zE t2 qJ qM;have c2:Cel h2 (n+1) zI 0 zL:=Cel.tch zC t2 qJ qM;have u2:Tch [bw] h n h2 n2:=zA;have b2:Cel h2 br zMR 0 (rdC bt A B cv (ptr bw 0)):=c.tch u2 qJ qM;clear t2;rcases hD with⟨k,rfl,rfl⟩|⟨⟨k,k9⟩,rfl,rfl⟩|⟨k,rfl,rfl⟩|⟨k,rfl,rfl⟩|⟨k,rfl,rfl⟩|⟨k,rfl,rfl⟩
   . repeat' first|refine wk ?_|refine cX (λ_=>?_) λf=>absurd rfl f|refine cX (λf=>absurd f qK) λ_=>?_|refine yG (rL E (TT zA) ff eJ qJ  (b2.tch (n:=n2) (S:=[n+1]) zA qJ qM) (w2.tch (S:=[n+1]) zA qM) (R.a qJ).1 (R.a qJ).2) ?_|fail
     rintro _ h3 n3 ⟨rfl,t3,sv3,w3⟩
     have eS:=t3.le;have z3:Cel h3 n zI 0 zL:=Cel.tch zE t3 qJ qM;have c3:Cel h3 (n+1) zI 0 zL:=Cel.tch zC t3 qJ qM;have u3:Tch [bw] h n h3 n3:=zA;have b3:Cel h3 br zMR 0 (rdC bt A B cv (ptr bw 0)):=c.tch u3 qJ qM;clear t3;repeat' first|refine wk ?_|refine cX (λ_=>?_) λ_=>?_|refine yG (rL E (TT zA) ff eJ qJ  (b3.tch (n:=n3) (S:=[n+1]) zA qJ qM) (w3.tch (S:=[n+1]) zA qM) (R.b qJ).1 (R.b qJ).2) ?_|fail
     rintro _ h4 n4 ⟨rfl,t4,sv4,w4⟩
     have fi:=t4.le;have z4:Cel h4 n zI 0 zL:=Cel.tch zE t4 qJ qM;have c4:Cel h4 (n+1) zI 0 [I64 5,I64 0,I64 i.a,I64 0,I64 0,str [],.slice none 0 0,I64 0,I64 0]:=Cel.tch zC t4 qJ qM;have u4:Tch [bw] h n h4 n4:=zA;have b4:Cel h4 br zMR 0 (rdC bt A B cv (ptr bw 0)):=c.tch u4 qJ qM;clear t4;repeat' first|refine wk ?_|refine cX (λ_=>?_) λ_=>?_|refine ob (a:=_) ?_ rM|fail
     exact⟨_,rfl,ioq qJ  (by simp[rQ,k]) zA (w4.tch (S:=[n+1,n]) zA qM)⟩
   . repeat' first|refine wk ?_|refine cX (λ_=>?_) λf=>absurd rfl f|refine cX (λf=>absurd f qK) λ_=>?_|refine yG (name_ret (w2.tch (S:=[n+1]) zA qM) (R.n6 qJ).1) ?_|fail
     rintro _ h3 n3 ⟨rfl,t3,sv3,w3⟩
     have eS:=t3.le;have z3:Cel h3 n zI 0 zL:=Cel.tch zE t3 qJ qM;have c3:Cel h3 (n+1) zI 0 zL:=Cel.tch zC t3 qJ qM;have u3:Tch [bw] h n h3 n3:=zA;have b3:Cel h3 br zMR 0 (rdC bt A B cv (ptr bw 0)):=c.tch u3 qJ qM;clear t3;repeat' first|refine wk ?_|refine cX (λ_=>?_) λ_=>?_|refine yG (num_ret (w3.tch (S:=[n+1]) zA qM) (E.tch (TT zA)).tb gb (R.n qJ).1 (R.n qJ).2) ?_|fail
     rintro _ h4 n4 ⟨rfl,t4,sv4,w4⟩
     have fi:=t4.le;have z4:Cel h4 n zI 0 zL:=Cel.tch zE t4 qJ qM;have c4:Cel h4 (n+1) zI 0 [I64 6,I64 (-1),I64 0,I64 0,I64 0,str i.name,.slice none 0 0,I64 0,I64 0]:=Cel.tch zC t4 qJ qM;have u4:Tch [bw] h n h4 n4:=zA;have b4:Cel h4 br zMR 0 (rdC bt A B cv (ptr bw 0)):=c.tch u4 qJ qM;clear t4;repeat' first|refine wk ?_|refine cX (λ_=>?_) λ_=>?_|refine ob (a:=_) ?_ rM|fail
     exact⟨_,rfl,ioq qJ  (by simp[rQ,k,k9]) zA (w4.tch (S:=[n+1,n]) zA qM)⟩
   . repeat' first|refine wk ?_|refine cX (λ_=>?_) λf=>absurd rfl f|refine cX (λf=>absurd f qK) λ_=>?_|refine yG (rL E (TT zA) ff eJ qJ  (b2.tch (n:=n2) (S:=[n+1]) zA qJ qM) (w2.tch (S:=[n+1]) zA qM) (R.a qJ).1 (R.a qJ).2) ?_|fail
     rintro _ h3 n3 ⟨rfl,t3,sv3,w3⟩
     have eS:=t3.le;have z3:Cel h3 n zI 0 zL:=Cel.tch zE t3 qJ qM;have c3:Cel h3 (n+1) zI 0 zL:=Cel.tch zC t3 qJ qM;have u3:Tch [bw] h n h3 n3:=zA;have b3:Cel h3 br zMR 0 (rdC bt A B cv (ptr bw 0)):=c.tch u3 qJ qM;clear t3;repeat' first|refine wk ?_|refine cX (λ_=>?_) λ_=>?_|refine yG (num_ret (w3.tch (S:=[n+1]) zA qM) (E.tch (TT zA)).tb gb (R.t qJ).1 (R.t qJ).2) ?_|fail
     rintro _ h4 n4 ⟨rfl,t4,sv4,w4⟩
     have fi:=t4.le;have z4:Cel h4 n zI 0 zL:=Cel.tch zE t4 qJ qM;have c4:Cel h4 (n+1) zI 0 [I64 7,I64 0,I64 i.a,I64 0,I64 0,str [],.slice none 0 0,I64 0,I64 0]:=Cel.tch zC t4 qJ qM;have u4:Tch [bw] h n h4 n4:=zA;have b4:Cel h4 br zMR 0 (rdC bt A B cv (ptr bw 0)):=c.tch u4 qJ qM;clear t4;repeat' first|refine wk ?_|refine cX (λ_=>?_) λ_=>?_|refine yG (num_ret (w4.tch (S:=[n+1]) zA qM) (E.tch (TT zA)).tb gb (R.f qJ).1 (R.f qJ).2) ?_|fail
     rintro _ h5 n5 ⟨rfl,t5,sv5,w5⟩
     have fA:=t5.le;have z5:Cel h5 n zI 0 zL:=Cel.tch zE t5 qJ qM;have c5:Cel h5 (n+1) zI 0 [I64 7,I64 0,I64 i.a,I64 0,I64 0,str [],.slice none 0 0,I64 i.t,I64 0]:=Cel.tch zC t5 qJ qM;have u5:Tch [bw] h n h5 n5:=zA;have b5:Cel h5 br zMR 0 (rdC bt A B cv (ptr bw 0)):=c.tch u5 qJ qM;clear t5;repeat' first|refine wk ?_|refine cX (λ_=>?_) λ_=>?_|refine ob (a:=_) ?_ rM|fail
     exact⟨_,rfl,ioq qJ  (by simp[rQ,k]) zA (w5.tch (S:=[n+1,n]) zA qM)⟩
   . repeat' first|refine wk ?_|refine cX (λ_=>?_) λf=>absurd rfl f|refine cX (λf=>absurd f qK) λ_=>?_|refine yG (num_ret (w2.tch (S:=[n+1]) zA qM) (E.tch (TT zA)).tb gb (R.t qJ).1 (R.t qJ).2) ?_|fail
     rintro _ h3 n3 ⟨rfl,t3,sv3,w3⟩
     have eS:=t3.le;have z3:Cel h3 n zI 0 zL:=Cel.tch zE t3 qJ qM;have c3:Cel h3 (n+1) zI 0 zL:=Cel.tch zC t3 qJ qM;have u3:Tch [bw] h n h3 n3:=zA;have b3:Cel h3 br zMR 0 (rdC bt A B cv (ptr bw 0)):=c.tch u3 qJ qM;clear t3;repeat' first|refine wk ?_|refine cX (λ_=>?_) λ_=>?_|refine ob (a:=_) ?_ rM|fail
     exact⟨_,rfl,ioq qJ  (by simp[rQ,k]) zA (w3.tch (S:=[n+1,n]) zA qM)⟩
   . repeat' first|refine wk ?_|refine cX (λ_=>?_) λf=>absurd rfl f|refine cX (λf=>absurd f qK) λ_=>?_|refine yG (num_ret (w2.tch (S:=[n+1]) zA qM) (E.tch (TT zA)).tb gb (R.n qJ).1 (R.n qJ).2) ?_|fail
     rintro _ h3 n3 ⟨rfl,t3,sv3,w3⟩
     have eS:=t3.le;have z3:Cel h3 n zI 0 zL:=Cel.tch zE t3 qJ qM;have c3:Cel h3 (n+1) zI 0 zL:=Cel.tch zC t3 qJ qM;have u3:Tch [bw] h n h3 n3:=zA;have b3:Cel h3 br zMR 0 (rdC bt A B cv (ptr bw 0)):=c.tch u3 qJ qM;clear t3;repeat' first|refine wk ?_|refine cX (λ_=>?_) λ_=>?_|refine yG (rL E (TT zA) ff eJ qJ  (b3.tch (n:=n3) (S:=[n+1]) zA qJ qM) (w3.tch (S:=[n+1]) zA qM) (R.a qJ).1 (R.a qJ).2) ?_|fail
     rintro _ h4 n4 ⟨rfl,t4,sv4,w4⟩
     have fi:=t4.le;have z4:Cel h4 n zI 0 zL:=Cel.tch zE t4 qJ qM;have c4:Cel h4 (n+1) zI 0 [I64 10,I64 0,I64 0,I64 0,I64 i.n,str [],.slice none 0 0,I64 0,I64 0]:=Cel.tch zC t4 qJ qM;have u4:Tch [bw] h n h4 n4:=zA;have b4:Cel h4 br zMR 0 (rdC bt A B cv (ptr bw 0)):=c.tch u4 qJ qM;clear t4;repeat' first|refine wk ?_|refine cX (λ_=>?_) λ_=>?_|refine ob (a:=_) ?_ rM|fail
     exact⟨_,rfl,ioq qJ  (by simp[rQ,k]) zA (w4.tch (S:=[n+1,n]) zA qM)⟩
   . repeat' first|refine wk ?_|refine cX (λ_=>?_) λf=>absurd rfl f|refine cX (λf=>absurd f qK) λ_=>?_|refine ob (a:=_) ?_ rM|fail
     exact⟨_,rfl,ioq qJ  (by simp[rQ,k]) zA (w2.tch (S:=[n+1,n]) zA qM)⟩
end
section
attribute [local simp] zY
variable {n n' br bt nb:Nat} {h h':zB} {C:CodeT} {wv:Value}
abbrev tBk:Nat:=52
abbrev tIn:Nat:=51
structure RdK (bt br n:Nat) (h:zB) (wv:Value) (C:CodeT) (nb:Nat):Prop where
 lt:br<nb
 nn:nb<=n
 ce:Cel h br zMR 0 (rdC bt C.name C.slots C.bv wv)
 bv:Own (br+1) nb h C.bv tBk 1 C.blocks.length (C.blocks.map (·.1))
 old:∀x∈C.blocks.dropLast,Own (br+1) nb h x.1 tIn 9 x.2.length (x.2.flatMap wZ)
 las:∀x,C.blocks.getLast? = some x->Own nb n h x.1 tIn 9 x.2.length (x.2.flatMap wZ)
 ar:∀x∈C.blocks,∀i∈x.2,Own (br+1) n h i.av 3 1 i.args.length (i.args.map I64)
theorem own_ne{lo lo' n n':Nat}{h:zB}{v v':Value}{e sz len e' sz' len':Nat}{vs vs':List Value}(o:Own lo n h v e sz len vs)(o':Own lo' n' h v' e' sz' len' vs')(eJ:e≠e'\/sz≠sz'):∀b,zH v=some b->b∉(zH v').toList:=λb hb hx=>by
 rcases o with⟨rfl,_⟩|⟨b1,_,_,rfl,q3,_⟩
 . cases hb
 rcases o' with⟨rfl,_⟩|⟨b2,_,_,rfl,p3,_⟩
 . cases hx
 injection hb with hb
 have hb:b1=b:=hb;have hx:b∈(some b2).toList:=hx;simp at hx;subst hb hx;rw [q3]at p3;injection p3 with p3
 injection p3 with _ p3
 injection p3 with p3 _
 obtain⟨a,b⟩:=zc_inj p3;omega
def KrM(br:Nat)(h:zB)(n:Nat)(h':zB)(n':Nat):Prop:=n<=n'/\∀b,b<n->b≠br->(b<br\/∀m z,yC (zG h b)≠some (m,z,1))->zG h' b=zG h b
theorem own_row{lo e sz len:Nat}{v:Value}{vs:List Value}(o:Own lo n h v e sz len vs){b:Nat}(hb:b∈(zH v).toList):lo<=b/\∃m z,yC (zG h b)=some (m,z,1):=by
 rcases o with⟨rfl,_⟩|⟨b2,hl,_,rfl,q,_⟩
 . cases hb
 . have hx:b∈(some b2).toList:=hb;simp at hx;subst hx;exact⟨hl,_,_,q⟩
theorem RdK.all(R:RdK bt br n h wv C nb):∀x∈C.blocks,Own (br+1) n h x.1 tIn 9 x.2.length (x.2.flatMap wZ):=by
 intro x hx;have eD:=R.lt;rcases dD C.blocks with e|⟨l,y,e⟩
 . rw[e]at hx;cases hx
 . rw[dC]at e;have eV:=hx;rw [e,aA,aq]at eV;rcases eV with eV|rfl
   . exact(R.old x (by rw[e,dq];exact eV)).keep R.nn λ_ _=>rfl
   . exact own_dn (R.las x (by rw[e,dR])) qJ 
theorem RdK.offs{S:List Nat}{nm:Tx}{sl:Int}{w2:Value}(R:RdK bt br n h wv C nb)(t:Tch S h n h' n')(hS:∀x∈S,∀m z,yC (zG h x)≠some (m,z,1))(c:Cel h' br zMR 0 (rdC bt nm sl C.bv w2)):RdK bt br n' h' w2 ⟨nm,sl,C.bv,C.blocks⟩ nb:=by
 have eD:=R.lt;have gH:=R.nn;have tb:Tch S h nb h' nb:=⟨ad _,λb hb hx=>t.2 b (aG hb gH) hx⟩
 have nr:∀{lo n e sz len:Nat} {v:Value} {vs:List Value},Own lo n h v e sz len vs->∀b,zH v=some b->b∉S:=λo b hb hx=>by
  obtain⟨_,m,z,q⟩:=own_row o (b:=b) (by rw[hb];simp);exact hS b hx m z q
 exact⟨eD,aW gH t.1,c,R.bv.tch tb (nr R.bv),λy hy=>(R.old y hy).tch tb (nr (R.old y hy)),λy hy=>(R.las y hy).tch t (nr (R.las y hy)),λy hy i hi=>(R.ar y hy i hi).tch t (nr (R.ar y hy i hi))⟩
theorem RdK.tch(R:RdK bt br n h wv C nb)(t:Tch [] h n h' n'):RdK bt br n' h' wv C nb:=
 R.offs t qL  (R.ce.tch t (aG R.lt R.nn) qL)
theorem RdK.addB{n3:Nat}{h3:zB}{v:Value}(R:RdK bt br n h wv C nb)(ho:Own (br+1) n3 h3 v tBk 1 (C.blocks.length+1) (C.blocks.map (·.1)++[.slice none 0 0]))(t:Tch (zH C.bv).toList h n h3 n3)(ce:Cel (hst h3 br 3 [v]) br zMR 0 (rdC bt C.name C.slots v wv)) :
 KrM br h n (hst h3 br 3 [v]) n3/\RdK bt br n3 (hst h3 br 3 [v]) wv ⟨C.name,C.slots,v,C.blocks++[(.slice none 0 0,[])]⟩ n3:=by
 have eD:=R.lt;have gH:=R.nn;have eS:=t.le;have ob1:Own (br+1) n h C.bv tBk 1 C.blocks.length (C.blocks.map (·.1)):=R.bv.keep gH λ_ _=>rfl;have t4:Tch (br::(zH C.bv).toList) h n (hst h3 br 3 [v]) n3:=⟨by omega,λb hb hx=>by rw[au,not_or]at hx;rw [zX,if_neg λe=>hx.1 e.symm];exact t.2 b hb hx.2⟩
 have kp:∀{lo e sz len:Nat} {w:Value} {vs:List Value},Own lo n h w e sz len vs->br<lo->(e≠tBk\/sz≠1)->Own lo n3 (hst h3 br 3 [v]) w e sz len vs:=λo hl eJ=>o.tch t4 λb hb hx=>by
  rcases au.1 hx with hx|hx
  . have:=(o.blk hb).1;omega
  . exact own_ne o ob1 eJ b hb hx
 refine⟨⟨t4.1,λb hb eJ hi=>t4.2 b hb λhx=>?_⟩,by show br<n3;omega,ad _,ce,?_,?_,?_,?_⟩
 . rcases au.1 hx with hx|hx
   . exact eJ hx
   . obtain⟨q0,m,z,q⟩:=own_row ob1 hx;rcases hi with hi|hi
     . omega
     . exact hi m z q
 . rw[ah,aC];exact own_ta ho (S0:=br) ⟨ad _,λb hb hx=>by rw[zX,if_neg λe=>hx (by simp[e])]⟩ qJ 
 . rw[dq];exact λx hx=>kp (R.all x hx) qJ  (.inr qK)
 . intro x hx;rw [dR]at hx;injection hx with hx
   subst hx;exact Own.nil
 . intro x hx i hi;rcases aA.1 hx with hx|hx
   . exact kp (R.ar x hx i hi) qJ  (.inl qK)
   . rw[aq]at hx;subst hx;cases hi
theorem RdK.addI{n4 bb:Nat}{h4:zB}{v lv:Value}{l:List (Value×List InsT)}{il:List InsT}{i:InsT}(R3:RdK bt br n h wv C nb)(e9:C.blocks=l++[(lv,il)])(hbv:C.bv = .slice (some ⟨bb,0,none⟩) (l.length+1) inf)(ho4:Own nb n4 h4 v tIn 9 (il.length+1) (il.flatMap wZ++wZ i))(t4:Tch (zH lv).toList h n h4 n4)(o3:Own (br+1) n h i.av 3 1 i.args.length (i.args.map I64)) :
 KrM br h n (hst h4 bb l.length [v]) n4/\RdK bt br n4 (hst h4 bb l.length [v]) wv ⟨C.name,C.slots,C.bv,l++[(v,il++[i])]⟩ nb:=by
 have eD:=R3.lt;have gH:=R3.nn;have eN:C.blocks.length=l.length+1:=by rw[e9];simp
 have gX:C.blocks.getLast? = some (lv,il):=by rw[e9];simp
 have ol:=R3.las (lv,il) gX;dsimp only at ol;have obs:=R3.bv;have ecl:(C.blocks.map (·.1)).length=l.length+1:=by rw[aD,eN]
 rw[hbv,eN]at obs;have fk:=(obs.blk (b:=bb) rfl);have fi:=t4.le;have tb4:Tch [] h nb h4 nb:=⟨ad _,λb hb _=>t4.2 b qJ  λhx=>by have:=zQ ol b hx;omega⟩;have ob4:=obs.tch tb4 qL;have hp:=own_put ob4 (i:=l.length) (x:=v) rfl qJ;have t5:Tch (bb::(zH lv).toList) h n (hst h4 bb l.length [v]) n4:=⟨by omega,λb hb hx=>by rw[au,not_or]at hx;rw [zX,if_neg λe=>hx.1 e.symm];exact t4.2 b hb hx.2⟩
 have t6:Tch [bb] h nb (hst h4 bb l.length [v]) nb:=⟨ad _,λb hb hx=>t5.2 b qJ  λhm=>by
  rcases au.1 hm with hm|hm
  . exact hx (by simp[hm])
  . have:=zQ ol b hm;omega⟩
 have cs:Cel (hst h4 bb l.length [v]) br zMR 0 (rdC bt C.name C.slots C.bv wv):=R3.ce.tch t5 qJ  λhm=>by
  rcases au.1 hm with hm|hm
  . omega
  . have:=zQ ol br hm;omega
 have kp:∀{lo e sz len:Nat} {w:Value} {vs:List Value},Own lo n h w e sz len vs->(e≠tBk\/sz≠1)->(e≠tIn\/sz≠9)->Own lo n4 (hst h4 bb l.length [v]) w e sz len vs:=λo h1 h2=>o.tch t5 λb hb hx=>by
  rcases au.1 hx with hx|hx
  . subst hx;exact own_ne o obs h1 b hb (by simp[zH])
  . exact own_ne o ol h2 b hb hx
 refine⟨⟨t5.1,λb hb eJ hi=>t5.2 b hb λhx=>?_⟩,eD,by omega,cs,?_,?_,?_,?_⟩
 . have k:br<b/\∃m z,yC (zG h b)=some (m,z,1):=by
    rcases au.1 hx with hx|hx
    . subst hx;exact own_row obs (by simp[zH])
    . have:=own_row ol hx;exact⟨by omega,this.2⟩
   obtain⟨q0,m,z,q⟩:=k;rcases hi with hi|hi
   . omega
   . exact hi m z q
 . have e5:(l++[(v,il++[i])]).length=l.length+1:=by simp
   have e6:(C.blocks.map (·.1)).set l.length v=(l++[(v,il++[i])]).map (·.1):=by rw[e9];simp
   rw[hbv,e5,<- e6];exact hp
 . rw[dq];intro x hx;have ox:=R3.old x (by rw[e9,dq];exact hx);exact ox.tch t6 λb hb hm=>by simp at hm;subst hm;exact own_ne ox obs (.inr qK) b hb (by simp[zH])
 . intro x hx;rw [dR]at hx;injection hx with hx
   subst hx;dsimp only;rw [ah,aT];have:=own_ta ho4 (h':=hst h4 bb l.length [v]) (n':=n4) (S0:=bb) ⟨ad _,λb hb hx=>by rw[zX,if_neg λe=>hx (by simp[e])]⟩ qJ;simpa using this
 . intro x hx j hj;rcases aA.1 hx with hx|hx
   . exact kp (R3.ar x (by rw[e9];exact cg _ hx) j hj) (.inl qK) (.inl qK)
   . rw[aq]at hx;subst hx;rcases aA.1 hj with hj|hj
     . exact kp (R3.ar (lv,il) (by rw[e9];simp) j hj) (.inl qK) (.inl qK)
     . rw[aq]at hj;subst hj;exact kp o3 (.inl qK) (.inl qK)
end
section
attribute [local simp] zY
variable {n n0 n1 bt br bw lq nb:Nat} {h h0:zB} {m:MachT} {ns:List Tx} {ps:List Pl} {v:TabV} {sv wv:Value} {mx:Int} {C:CodeT} {i:InsT}
theorem rblock_ret(R:RdK bt br n h wv C nb)(gT:C.blocks.length<200):Ret P 8 31 [ptr br 0] h n λo h' n'=>o = .tuple #[]/\KrM br h n h' n'/\∃bv',RdK bt br n' h' wv ⟨C.name,C.slots,bv',C.blocks++[(.slice none 0 0,[])]⟩ n':=by
 have eD:=R.lt;have gH:=R.nn;have c:=R.ce;have o3:=R.bv.one;have ob1':Own (br+1) n h C.bv tBk 1 C.blocks.length (C.blocks.map (·.1)):=R.bv.keep gH λ_ _=>rfl;have rr:=ob1'.row qK;refine ent λu=>?_;repeat' first|refine wk ?_|apply cX <;> intro
 refine appO (ob1'.tch (S:=[]) zA qL) (zF (e:=tBk) (sz:=1) (len:=1) rfl qK) qJ  ⟨rfl,trivial⟩ qJ  ?_
 rintro v h3 n3 ho3 ht3
 have eS:=ht3.le;have o4:=ho3.one;have c3:Cel h3 br zMR 0 (rdC bt C.name C.slots C.bv wv):=Cel.tch zE ht3 qJ  (own_nin ob1' qJ);have t3:Tch (zH C.bv).toList h n h3 n3:=Tch.tch ht3 zA λx hx=>.inr hx;clear ht3;repeat' first|refine wk ?_|apply cX <;> intro
 obtain⟨k,R'⟩:=R.addB ho3 t3 zC;exact⟨_,rfl,rfl,k,v,R'⟩
theorem rname_ret{x:Tx}(R:RdK bt br n1 h wv C nb)(h1:n1<bw)(w:WdM n bw h [[99,111,100,101],x] sv)(hx:xL x=true):Ret P 8 29 [ptr br 0,ptr bw 0] h n λo h' n'=>o = .tuple #[]/\n<=n'/\KrM br h n1 h' n'/\RdK bt br n' h' wv ⟨x,C.slots,C.bv,C.blocks⟩ nb:=by
 have hb:=w.lt;have eD:=R.lt;have gH:=R.nn;have c:=R.ce;have o3:=R.bv.one;refine ent λu=>?_;repeat' first|refine wk ?_|refine cX (λ_=>?_) λ_=>?_|refine yG (want_ret w) ?_|fail
 rintro _ h2 n2 ⟨rfl,t2,sv2,w2⟩
 have hn2:=t2.le;repeat' first|refine wk ?_|refine cX (λ_=>?_) λ_=>?_|refine yG (name_ret w2 hx) ?_|fail
 rintro _ h3 n3 ⟨rfl,t3,sv3,w3⟩
 have eS:=t3.le;have t4:Tch [bw] h n h3 n3:=zA;have c3:Cel h3 br zMR 0 (rdC bt C.name C.slots C.bv wv):=c.tch t4 qJ qM;clear t3 t2;repeat' first|refine wk ?_|refine cX (λ_=>?_) λ_=>?_|refine zS (end_ret (w3.tch (S:=[br]) zA qM)) ?_|fail
 have t5:Tch [br] h n1 (hst h3 br 1 [str x]) n3:=⟨by omega,λb hb hx=>by rw[zX,if_neg λe=>hx (by simp[e])];exact t4.2 b qJ qM⟩;exact⟨_,rfl,rfl,by omega,⟨t5.1,λb hb eJ _=>t5.2 b hb (by simpa using eJ)⟩,R.offs t5 (λy hy=>by rw[aq.1 hy];exact rK c) zC⟩
theorem rslots_ret{a:Int}(E:EnvT mx lq n0 h0 bt m ns ps v)(t0:Tch [] h0 n0 h n)(ff:n0<=bw)(R:RdK bt br n1 h wv C nb)(h1:n1<bw)(w:WdM n bw h [[115,108,111,116,115],Lib.itoa a] sv)(ha:0<=a/\a<=99999):Ret P 8 30 [ptr br 0,ptr bw 0] h n λo h' n'=>o = .tuple #[]/\n<=n'/\KrM br h n1 h' n'/\RdK bt br n' h' wv ⟨C.name,a,C.bv,C.blocks⟩ nb:=by
 have hb:=w.lt;have eD:=R.lt;have gH:=R.nn;have c:=R.ce;have o3:=R.bv.one;refine ent λu=>?_;repeat' first|refine wk ?_|refine cX (λ_=>?_) λ_=>?_|refine yG (want_ret w) ?_|fail
 rintro _ h2 n2 ⟨rfl,t2,sv2,w2⟩
 have hn2:=t2.le;have T2:=(E.tch (Tch.tch t2 t0 λx hx=>.inl (by simp at hx;omega))).tb;repeat' first|refine wk ?_|refine cX (λ_=>?_) λ_=>?_|refine yG (num_ret w2 T2 (aW E.ng ff) ha.1 ha.2) ?_|fail
 rintro _ h3 n3 ⟨rfl,t3,sv3,w3⟩
 have eS:=t3.le;have t4:Tch [bw] h n h3 n3:=zA;have c3:Cel h3 br zMR 0 (rdC bt C.name C.slots C.bv wv):=c.tch t4 qJ qM;clear t3 t2;repeat' first|refine wk ?_|refine cX (λ_=>?_) λ_=>?_|refine zS (end_ret (w3.tch (S:=[br]) zA qM)) ?_|fail
 have t5:Tch [br] h n1 (hst h3 br 2 [I64 a]) n3:=⟨by omega,λb hb hx=>by rw[zX,if_neg λe=>hx (by simp[e])];exact t4.2 b qJ qM⟩;exact⟨_,rfl,rfl,by omega,⟨t5.1,λb hb eJ _=>t5.2 b hb (by simpa using eJ)⟩,R.offs t5 (λy hy=>by rw[aq.1 hy];exact rK c) zC⟩
theorem rins_ret(E:EnvT mx lq n0 h0 bt m ns ps v)(t0:Tch [] h0 n0 h n)(ff:n0<=br)(R:RdK bt br n1 h wv C nb)(h1:n1<bw){l:List (Value×List InsT)}{lv:Value}{il:List InsT}(e9:C.blocks=l++[(lv,il)])(hil:il.length<25600)(gT:C.blocks.length<=200){j:Nat}(hj:ns[j]? = some m.result)(Ri:InsR ns.length i)(hg:uT i.n)(w:WdM n bw h (zU ns m.result i) sv):Ret P 8 32 [ptr br 0,ptr bw 0] h n λo h' n'=>o = .tuple #[]/\n<=n'/\KrM br h n1 h' n'/\∃av v',RdK bt br n' h' (ptr bw 0) ⟨C.name,C.slots,C.bv,l++[(v',il++[rQ i av])]⟩ nb:=by
 have hb:=w.lt;have eD:=R.lt;have gH:=R.nn;have c:=R.ce;have o0:=R.bv.one;refine ent λu=>?_;have tt0:Tch [br] h n (hst h br 4 [ptr bw 0]) n:=⟨ad _,λb hb hx=>by rw[zX,if_neg λe=>hx (by simp[e])]⟩;have tt:Tch [] h0 n0 (hst h br 4 [ptr bw 0]) n:=Tch.tch tt0 t0 λx hx=>.inl (by simp at hx;omega);clear tt0;repeat' first|refine wk ?_|refine cX (λ_=>?_) λ_=>?_|refine yG (rone_ret E tt qJ qJ qJ  (zC (vs:=rdC bt C.name C.slots C.bv (ptr bw 0))) hj Ri hg (w.tch (S:=[br]) zA qM)) ?_|fail
 rintro _ h2 n2 ⟨t2,av,sv2,rfl,o2,w2⟩
 have hn2:=t2.le;have o1:=o2.one
 have u2:Tch [br,bw] h n h2 n2:=⟨hn2,λb hb hx=>by
  rw[t2.2 b hb (by simp at hx ⊢;omega),zX,if_neg (by simp at hx;omega)]⟩
 have R2:RdK bt br n2 h2 (ptr bw 0) C nb:=R.offs (S:=[br]) ⟨by omega,λb hb hx=>u2.2 b qJ  (by simp at hx ⊢;omega)⟩ (λy hy=>by rw[aq.1 hy];exact rK c) (Cel.tch zC t2 qJ qM);clear t2 tt;generalize hq:rQ i av=ic at o2 ⊢
 have o1:ic.av.oneCell'=true:=by subst hq;exact o1
 repeat' first|refine wk ?_|refine cX (λ_=>?_) λ_=>?_|refine cal (end_ret (w2.tch (S:=[]) zA qL)) ?_|fail
 rintro _ h3 n3 ⟨rfl,e3,e4⟩
 have eS:n3=n2+1:=e4;have t3:Tch [] h2 n2 h3 n3:=by rw[e3,e4];exact zA
 have ci:Cel h3 n2 zI 0 (wZ ic):=by rw[e3];exact zC
 clear e3 e4;have R3:=R2.tch t3;have o3:Own n n3 h3 ic.av 3 1 ic.args.length (ic.args.map I64):=by subst hq;exact o2.tch t3 qL 
 have kr3:∀b,b<n1->b≠br->zG h3 b=zG h b:=λb hb eJ=>(t3.2 b qJ qL).trans (u2.2 b qJ qM);clear t3 u2 R2 o2;have c3:=R3.ce;have ol:=R3.las (lv,il) (by rw[e9];simp);dsimp only at ol;have eN:C.blocks.length=l.length+1:=by rw[e9];simp
 have obv:=R3.bv;obtain⟨bb,hbv,fP,fk⟩:=own_head obv qJ 
 have eX:zD h3 bb l.length=some lv:=by
  have:=(obv.row qK).at (i:=l.length) (x:=lv) (by rw[e9];simp);rw [hbv]at this;simpa [sbk,sof] using this
 have iad:Iad 1 (.slice (some ⟨bb,0,none⟩) (l.length+1) inf) (I64 (((l.length+1:Nat):Int) - 1)) (ptr bb l.length):=⟨bb,0,l.length+1,inf,.i64,l.length,rfl,by rw[show(((l.length+1:Nat):Int) - 1)=(l.length:Nat) by omega];rfl,by omega,by simp⟩;have rl:=ol.row qK;have o5:=ol.one;have o6:=o3.one;rw [hbv,eN]at c3;have ecl:(C.blocks.map (·.1)).length=l.length+1:=by rw[aD,eN]
 have obs:=obv;rw [hbv,eN]at obs;repeat' first|refine wk ?_|refine cX (λ_=>?_) λ_=>?_|refine ob (a:=ptr bb l.length) ?_ iad|fail
 refine appO (ol.tch (S:=[]) zA qL) (zF (e:=tIn) (sz:=9) (len:=1) rfl qK) qJ  ⟨rfl,rfl,rfl,rfl,rfl,rfl,o6,rfl,rfl,trivial⟩ qJ  ?_
 rintro v h4 n4 ho4 ht4
 have fi:=ht4.le;have o4:=ho4.one;have t4:Tch (zH lv).toList h3 n3 h4 n4:=Tch.tch ht4 zA λx hx=>.inr hx;have tb4:Tch [] h3 nb h4 nb:=⟨ad _,λb hb _=>t4.2 b (by have:=R3.nn;omega) λhx=>by have:=zQ ol b hx;omega⟩;have ob4:=obs.tch tb4 qL;have st4:=stp_own ob4 rfl (i:=l.length) (x:=v) qJ  o4;clear ht4;repeat' first|refine wk ?_|refine cX (λ_=>?_) λ_=>?_|refine ob (a:=hst h4 bb l.length [v]) ?_ st4|fail
 obtain⟨k5,R5⟩:=R3.addI (i:=ic) e9 (hbv.trans (by rw[eN])) ho4 t4 (own_dn o3 qJ);subst hq;exact⟨_,rfl,rfl,by omega,⟨by omega,λb hb eJ hi=>(k5.2 b qJ  eJ (by rw[kr3 b hb eJ];exact hi)).trans (kr3 b hb eJ)⟩,av,v,R5⟩
end
section
variable {ns:List Tx} {res:Tx} {i:InsT}
theorem spl_no:∀{x:Tx},(∀c∈x,c≠32)->xR 32 x=[x]:=by
 intro x
 induction x with
 | nil=>intro _;rfl
 | cons a r ih=>
  intro h;unfold xR;rw [if_neg (h a (aN ..)),ih λc hc=>h c (aL _ hc)]
theorem spl_app{s:Tx}:∀{x:Tx},(∀c∈x,c≠32)->xR 32 (x++32::s)=x::xR 32 s:=by
 intro x
 induction x with
 | nil=>intro _;show xR 32 (32::s)=_;rw [xR,if_pos rfl]
 | cons a r ih=>
  intro h;rw [cd,xR,if_neg (h a (aN ..)),ih λc hc=>h c (aL _ hc)]
theorem cln_ne{x:Tx}(h:Cln x):∀c∈x,c≠32:=λc hc e=>by have:=h.2 c hc;rw [e]at this;exact absurd this qK 
theorem yY{x y:Tx}{r:List Tx}:Lib.join (x::y::r) [32]=x++32::Lib.join (y::r) [32]:=by
 rw[Lib.join_cons,Lib.join_cons];simp [Lib.joinTail]
theorem spl_join:∀{ws:List Tx},ws≠[]->(∀x∈ws,Cln x)->xR 32 (Lib.join ws [32])=ws:=by
 intro ws
 induction ws with
 | nil=>intro h;exact absurd rfl h
 | cons x r ih=>
  intro _ h;have hx:=cln_ne (h x (aN ..))
  cases r with
  | nil=>rw [Lib.join_one];exact spl_no hx
  | cons y r=>rw [yY,spl_app hx,ih qL  λz hz=>h z (aL _ hz)]
theorem join_no:∀{ws:List Tx},(∀x∈ws,Cln x)->(10:UInt8)∉Lib.join ws [32]:=by
 intro ws
 induction ws with
 | nil=>intro _;simp [Lib.join_nil]
 | cons x r ih =>
  intro h;have hx:(10:UInt8)∉x:=λe=>by have:=(h x (aN ..)).2 _ e;exact absurd this qK 
  cases r with
  | nil=>rw [Lib.join_one];exact hx
  | cons y r=>
   rw[yY,aA,au]
   rintro (e|e|e)
   . exact hx e
   . exact absurd e qK 
   . exact ih (λz hz=>h z (aL _ hz)) e
theorem join_ne{ws:List Tx}(h0:ws≠[])(h:∀x∈ws,Cln x):Lib.join ws [32]≠[]:=by
 cases ws with
 | nil=>exact absurd rfl h0
 | cons x r=>
  rw[Lib.join_cons];have:=(h x (aN ..)).1;simp [this]
theorem cut_ln{r:Tx}:∀{l:Tx},(10:UInt8)∉l->cutB 10 (l++10::r)=(l,r,true):=by
 intro l
 induction l with
 | nil=>intro _;rfl
 | cons a l ih=>
  intro h;rw [au,not_or]at h;rw [cd,cutB,if_neg (λe=>h.1 e.symm),ih h.2]
theorem wL{x:Tx}(h:xL x=true):Cln x/\x.length<=22:=by
 cases x with
 | nil=>cases h
 | cons a r=>
  unfold xL at h;simp only[bu,decide_eq_true_iff]at h;refine⟨⟨by simp,λc hc=>?_⟩,by omega⟩;have:=(aH.1 h.2) c hc;unfold letB digB at this;rw [dV,decide_eq_true_iff,decide_eq_true_iff]at this;omega
def Wd(x:Tx):Prop:=Cln x/\x.length<=22
instance {x:Tx}:Decidable (Wd x):=by unfold Wd Cln;infer_instance
theorem wd_itoa{a:Int}(h:uT a):Wd (Lib.itoa a):=⟨itoa_clean h.1 (dP h.2),dA (Lib.itoa_length_le a h.1 (dP h.2))⟩
theorem wd_num{a:Int}(h:0<=a/\a<=99999):Wd (Lib.itoa a):=wd_itoa ⟨by omega,by omega⟩
theorem wd_rg(hn:∀x∈ns,xL x=true){r:Int}(h:0<=r/\r<(ns.length:Int)):Wd (rgN ns r):=by
 obtain⟨j,rfl⟩:=bC h.1;have hj:ns[j]? = some ns[j]:=aa qJ;rw [rgN_nat hj];exact wL (hn _ (ae hj))
theorem ins_wd(R:InsR ns.length i)(hg:uT i.n)(hn:∀x∈ns,xL x=true)(hr:xL res=true):(∀x∈zU ns res i,Wd x)/\zU ns res i≠[]/\(zU ns res i).length<=5:=by
 have K:∀x:Tx,x∈[wEq,wConst,wMove,wLoad,wStore,wCall,wBr,wJump,wSpill,rP,wRet]->Wd x:=by decide
 have e:i.kind=1\/i.kind=2\/i.kind=3\/i.kind=4\/i.kind=5\/i.kind=6\/i.kind=7\/i.kind=8\/i.kind=9\/i.kind=10\/i.kind=11:=by have:=R.k;omega
 have l2:∀{a b:Tx} {P:Tx->Prop},P a->P b->∀x∈[a,b],P x:=λh1 h2 x hx=>by
  simp only[au,bf,or_false]at hx;rcases hx with rfl|rfl <;> assumption
 have l3:∀{a b c:Tx} {P:Tx->Prop},P a->P b->P c->∀x∈[a,b,c],P x:=λh1 h2 h3 x hx=>by
  simp only[au,bf,or_false]at hx;rcases hx with rfl|rfl|rfl <;> assumption
 have l4:∀{a b c d:Tx} {P:Tx->Prop},P a->P b->P c->P d->∀x∈[a,b,c,d],P x:=λh1 h2 h3 h4 x hx=>by
  simp only[au,bf,or_false]at hx;rcases hx with rfl|rfl|rfl|rfl <;> assumption
 rcases e with h|h|h|h|h|h|h|h|h|h|h
 . rw[show zU ns res i=[rgN ns i.d,wEq,wConst,Lib.itoa i.n] by simp[zU,h]];exact⟨l4 (wd_rg hn (R.d qJ)) (K _ qL) (K _ qL) (wd_itoa hg),by simp,by simp⟩
 . rw[show zU ns res i=[rgN ns i.d,wEq,wMove,rgN ns i.a] by simp[zU,h]];exact⟨l4 (wd_rg hn (R.d qJ)) (K _ qL) (K _ qL) (wd_rg hn (R.a qJ)),by simp,by simp⟩
 . rw[show zU ns res i=[rgN ns i.d,wEq,i.name]++i.args.map (rgN ns) by simp[zU,h]];obtain⟨g1,g2,g3⟩:=R.ag h;refine⟨λx hx=>?_,by simp,by simp;omega⟩;rcases aA.1 hx with hx|hx
   . exact l3 (wd_rg hn (R.d qJ)) (K _ qL) (wL (R.nm h).1) x hx
   . obtain⟨r,hr,rfl⟩:=aB.1 hx;exact wd_rg hn (g1 r hr)
 . rw[show zU ns res i=[rgN ns i.d,wEq,wLoad,rgN ns i.a] by simp[zU,h]];exact⟨l4 (wd_rg hn (R.d qJ)) (K _ qL) (K _ qL) (wd_rg hn (R.a qJ)),by simp,by simp⟩
 . rw[show zU ns res i=[wStore,rgN ns i.a,rgN ns i.b] by simp[zU,h]];exact⟨l3 (K _ qL) (wd_rg hn (R.a qJ)) (wd_rg hn (R.b qJ)),by simp,by simp⟩
 . rw[show zU ns res i=(if i.d = -1 then [] else [res,wEq])++[wCall,i.name,Lib.itoa i.n] by simp[zU,h]];refine⟨λx hx=>?_,by simp,by split <;> simp⟩;rcases aA.1 hx with hx|hx
   . split at hx
     . cases hx
     . exact l2 (wL hr) (K _ qL) x hx
   . exact l3 (K _ qL) (wL (R.n6 h).1) (wd_itoa hg) x hx
 . rw[show zU ns res i=[wBr,rgN ns i.a,Lib.itoa i.t,Lib.itoa i.f] by simp[zU,h]];exact⟨l4 (K _ qL) (wd_rg hn (R.a qJ)) (wd_num (R.t qJ)) (wd_num (R.f qJ)),by simp,by simp⟩
 . rw[show zU ns res i=[wJump,Lib.itoa i.t] by simp[zU,h]];exact⟨l2 (K _ qL) (wd_num (R.t qJ)),by simp,by simp⟩
 . rw[show zU ns res i=[wRet] by simp[zU,h]];exact⟨λx hx=>K x (by simp at hx;simp [hx]),by simp,by simp⟩
 . rw[show zU ns res i=[wSpill,Lib.itoa i.n,rgN ns i.a] by simp[zU,h]];exact⟨l3 (K _ qL) (wd_itoa hg) (wd_rg hn (R.a qJ)),by simp,by simp⟩
 . rw[show zU ns res i=[rgN ns i.d,wEq,rP,Lib.itoa i.n] by simp[zU,h]];exact⟨l4 (wd_rg hn (R.d qJ)) (K _ qL) (K _ qL) (wd_itoa hg),by simp,by simp⟩
end
section
variable {ns:List Tx} {res:Tx}
theorem join_len:∀{ws:List Tx},(∀x∈ws,x.length<=22)->(Lib.join ws [32]).length<=23*ws.length:=by
 intro ws
 induction ws with
 | nil=>intro _;simp [Lib.join_nil]
 | cons x r ih =>
  intro h;have h1:=h x (aN ..)
  cases r with
  | nil=>rw [Lib.join_one];simp;omega
  | cons y r=>
   have:=ih λz hz=>h z (aL _ hz);rw [yY];simp only[ah,ay]at this ⊢;omega
inductive Lk where
 | name (x:Tx)
 | slots (a:Int)
 | blk
 | ins (i:InsT)
 | fin
def lkH:Lk->Tx
 | .ins _=>[32,32]
 | _=>[]
def lkW(ns:List Tx)(res:Tx):Lk->List Tx
 | .name x=>[[99,111,100,101],x]
 | .slots a=>[[115,108,111,116,115],Lib.itoa a]
 | .blk=>[[98,108,111,99,107]]
 | .ins i=>zU ns res i
 | .fin=>[[101,110,100]]
def lkT(ns:List Tx)(res:Tx)(l:Lk):Tx:=lkH l++Lib.join (lkW ns res l) [32]
def txL(ns:List Tx)(res:Tx)(ls:List Lk):Tx:=ls.flatMap λl=>lkT ns res l++[10]
def lks(c:CodeT):List Lk:=.name c.name :: .slots c.slots::(c.blocks.flatMap λb=>.blk::b.2.map .ins)++[.fin]
theorem codeTx_lks(c:CodeT):uA ns res c=txL ns res (lks c):=by
 unfold uA txL lks headTx
 have e:∀l:List (Value×List InsT),l.flatMap (λb=>blkTx ns res b.2)=(l.flatMap λb=>Lk.blk::b.2.map .ins).flatMap λl=>lkT ns res l++[10]:=by
  intro l
  induction l with
  | nil=>rfl
  | cons b l ih=>
   rw[aV,aV,aT,<- ih];congr 1
   unfold blkTx;rw [aV];congr 1
   rw[List.flatMap_map];rfl
 simp only[cd,aV,aT,List.flatMap_nil,bS,e];simp only[lnT,lkT,lkH,lkW,ba,bF]
structure PSt where
 step:Nat
 opn:Bool
 ended:Bool
 name:Tx
 slots:Int
 blks:List (List InsT)
def niS:Value:=.slice none 0 0
def stepL(S:PSt):Lk->PSt
 | .name x=>{ S with step:=1,name:=x }
 | .slots a=>{ S with step:=2,slots:=a }
 | .blk=>{ S with opn:=true,blks:=S.blks++[[]] }
 | .ins i=>{ S with blks:=S.blks.dropLast++[S.blks.getLastD []++[rQ i niS]] }
 | .fin=>{ S with ended:=true }
def LOK(nr:Nat)(S:PSt)(l:Lk):Prop:=S.ended=false/\match l with
 | .name x=>S.step=0/\xL x=true
 | .slots a=>S.step=1/\0<=a/\a<=99999
 | .blk=>S.step=2/\S.blks.length<200
 | .ins i=>S.step=2/\S.opn=true/\S.blks≠[]/\S.blks.length<=200/\(S.blks.getLastD []).length<25600/\InsR nr i/\uT i.n
 | .fin=>S.step=2
def OKs(nr:Nat):PSt->List Lk->Prop
 | _,[]=>True
 | S,l::r=>LOK nr S l/\OKs nr (stepL S l) r
def runL:PSt->List Lk->PSt
 | S,[]=>S
 | S,l::r=>runL (stepL S l) r
variable {nr:Nat}
theorem oks_app:∀(a b:List Lk) (S:PSt),OKs nr S a->OKs nr (runL S a) b->OKs nr S (a++b)
 | [],_,_,_,h=>h
 | _::a,b,_,h1,h2=>⟨h1.1,oks_app a b _ h1.2 h2⟩
theorem run_app:∀(a b:List Lk) (S:PSt),runL S (a++b)=runL (runL S a) b
 | [],_,_=>rfl
 | _::a,b,_=>run_app a b _
theorem ins_run:∀(is:List InsT) (B:List (List InsT)) (d:List InsT) (nm:Tx) (sl:Int),B.length<200->d.length+is.length<=25600->(∀i∈is,InsR nr i/\uT i.n)->OKs nr ⟨2,true,false,nm,sl,B++[d]⟩ (is.map .ins)/\runL ⟨2,true,false,nm,sl,B++[d]⟩ (is.map .ins)=⟨2,true,false,nm,sl,B++[d++is.map (rQ · niS)]⟩:=by
 intro is
 induction is with
 | nil=>intro B d nm sl _ _ _;exact⟨trivial,by simp[runL]⟩
 | cons i is ih=>
  intro B d nm sl hB hd h;rw [ay]at hd;have hi:=h i (aN ..);obtain⟨h1,h2⟩:=ih B (d++[rQ i niS]) nm sl hB qM  λj hj=>h j (aL _ hj);have e:stepL ⟨2,true,false,nm,sl,B++[d]⟩ (.ins i)=⟨2,true,false,nm,sl,B++[d++[rQ i niS]]⟩:=by simp[stepL]
  refine⟨⟨⟨rfl,rfl,rfl,by simp,by simp;omega,by simp;omega,hi.1,hi.2⟩,by rw[e];exact h1⟩,?_⟩;show runL (stepL _ (.ins i)) _=_;rw [e,h2];simp
theorem blk_run:∀(bs:List (Value×List InsT)) (o:Bool) (B:List (List InsT)) (nm:Tx) (sl:Int),B.length+bs.length<=200->(∀b∈bs,b.2.length<=25600/\∀i∈b.2,InsR nr i/\uT i.n)->∃o',OKs nr ⟨2,o,false,nm,sl,B⟩ (bs.flatMap λb=>Lk.blk::b.2.map .ins)/\runL ⟨2,o,false,nm,sl,B⟩ (bs.flatMap λb=>Lk.blk::b.2.map .ins)=⟨2,o',false,nm,sl,B++bs.map λb=>b.2.map (rQ · niS)⟩:=by
 intro bs
 induction bs with
 | nil=>intro o B nm sl _ _;exact⟨o,trivial,by simp[runL]⟩
 | cons b bs ih=>
  intro o B nm sl hB h;rw [ay]at hB;have hb:=h b (aN ..);obtain⟨h1,h2⟩:=ins_run b.2 B [] nm sl qJ  (by simpa using hb.1) hb.2;obtain⟨o',h3,h4⟩:=ih true (B++[b.2.map (rQ · niS)]) nm sl qM  λx hx=>h x (aL _ hx);rw [bF]at h2;refine⟨o',?_,?_⟩
  . rw[aV];refine oks_app _ _ _ ⟨⟨rfl,rfl,by show B.length<200;omega⟩,h1⟩ ?_;show OKs nr (runL _ (b.2.map .ins)) _;have e:runL (stepL ⟨2,o,false,nm,sl,B⟩ .blk) (b.2.map .ins)=_:=h2;rw [e];exact h3
  . rw[aV,run_app];have e:runL ⟨2,o,false,nm,sl,B⟩ (Lk.blk::b.2.map .ins)=_:=h2;rw [e,h4];simp
theorem code_run{c:CodeT}(h1:xL c.name=true)(h2:0<=c.slots/\c.slots<=99999)(h3:c.blocks.length<=200)(h4:∀b∈c.blocks,b.2.length<=25600/\∀i∈b.2,InsR nr i/\uT i.n):∃o',OKs nr ⟨0,false,false,[],0,[]⟩ (lks c)/\runL ⟨0,false,false,[],0,[]⟩ (lks c)=⟨2,o',true,c.name,c.slots,c.blocks.map λb=>b.2.map (rQ · niS)⟩:=by
 obtain⟨o',h5,h6⟩:=blk_run (nr:=nr) c.blocks false [] c.name c.slots (by simpa using h3) h4;rw [bF]at h6;refine⟨o',⟨⟨rfl,rfl,h1⟩,⟨rfl,rfl,h2⟩,oks_app _ _ _ h5 ?_⟩,?_⟩
 . show OKs nr (runL _ _) _;have e:runL (stepL (stepL ⟨0,false,false,[],0,[]⟩ (.name c.name)) (.slots c.slots)) (c.blocks.flatMap λb=>Lk.blk::b.2.map .ins)=_:=h6;rw [e];exact⟨⟨rfl,rfl⟩,trivial⟩
 . unfold lks;rw [run_app];have e:runL ⟨0,false,false,[],0,[]⟩ (Lk.name c.name::Lk.slots c.slots::c.blocks.flatMap λb=>Lk.blk::b.2.map .ins)=_:=h6;rw [e];rfl
end
section
variable {n:Nat} {h:zB} {mx:Int}
theorem cutp{hd r:Tx}:Lib.hasPrefix (hd++r) hd=true/\Lib.trimPrefix (hd++r) hd=r:=by
 have e:Lib.hasPrefix (hd++r) hd=true:=by unfold Lib.hasPrefix;rw [List.isPrefixOf_iff_prefix];exact List.prefix_append ..
 exact⟨e,by unfold Lib.trimPrefix;rw [if_pos e,List.drop_left]⟩
theorem wof_ret{hd:Tx}{ws:List Tx}(hT:TabsH (tb mx) h)(hg:8<=n)(hw:∀x∈ws,Cln x)(h0:ws≠[])(h5:ws.length<=5)(hl:(Lib.join ws [32]).length<100000):Ret P 8 136 [str (hd++Lib.join ws [32]),str hd] h n λo h' n'=>∃bw sv,o=ptr bw 0/\n<bw/\WdM n' bw h' ws sv/\Tch [] h n h' n':=by
 have p:=(cutPrefix_pure (h:=h) n (hd++Lib.join ws [32]) hd).pur;rw [cutp.1,cutp.2]at p;have hz:=join_ne h0 hw;have hs:=spl_join h0 hw;generalize hd++Lib.join ws [32]=line at *
 generalize Lib.join ws [32]=rest at *
 refine ent λu=>?_;repeat' first|refine wk ?_|refine cX (λ_=>?_) (λf=>absurd (by simp[hz]) f)|refine zS p ?_|fail
 refine yG (split_rets n hT rest 32 qJ).ret ?_
 rintro _ h2 n2 ⟨rfl,e2,rfl⟩
 rw[hs]at e2 ⊢;have eM:(1000000:Nat)<=inf:=by decide
 have r2:Row (n+1) h2 (.slice (some ⟨n,0,none⟩) ws.length ws.length) 9 1 ws.length (ws.map str):=by rw[e2];exact zF qL qJ 
 have t2:Tch [] h n h2 (n+1):=by rw[e2];exact⟨by omega,λb hb _=>by rw[zN,if_neg qJ]⟩
 clear e2;have hi:∀b,zH (Value.slice (some ⟨n,0,none⟩) ws.length ws.length)=some b->b+1=n+1:=λb hb=>by injection hb with hb;rw [<- hb]
 have o2:=r2.one;repeat' first|refine wk ?_|refine cX (λ_=>?_) λ_=>?_|refine ob (a:=.agg ⟨[.slice (some ⟨n,0,none⟩) ws.length ws.length]⟩) ?_ qN |fail
 generalize (Value.slice (some ⟨n,0,none⟩) ws.length ws.length)=sv at *
 have w:WdM (n+1+1) (n+1) _ ws sv:=⟨by omega,zE (h:=hal h2 (n+1) (mkC [sv] (195+1) 0)),r2.tch (S:=[]) zA (ad _) qL,by omega,hi⟩;have c:=w.ce;have r:=w.ro;have t0:Tch [] h n (hal h2 (n+1) (mkC [sv] (195+1) 0)) (n+1+1):=zA;refine lpR (λk:Nat=>[(7,ptr (n+1) 0),(29,sv),(30,I64 ws.length),(31,I64 k)]) (λk h' n'=>h'=hal h2 (n+1) (mkC [sv] (195+1) 0)/\n'=n+1+1/\k<=ws.length) (λk=>ws.length - k) 0 ⟨rfl,rfl,an _⟩ ?_
 rintro k t h' n' ⟨rfl,rfl,hk⟩
 by_cases eD:k<ws.length
 . have c0:ws[k]? = some ws[k]:=aa eD;have hx:=(hw _ (ae c0)).1;generalize ws[k]=x at c0 hx
   have c1:=yE r c0;have k7:x≠[]:=hx;repeat' first|refine wk ?_|apply cX <;> intro
   exact rnd (k+1) ⟨rfl,rfl,by omega⟩
 . obtain rfl:k=ws.length:=by omega
   repeat' first|refine wk ?_|apply cX <;> intro
   exact⟨_,rfl,n+1,sv,rfl,by omega,w,t0⟩
end
section
attribute [local simp] zY
variable {n n0 n' bt br pb hb lq nb:Nat} {h h0 h':zB} {m:MachT} {ns:List Tx} {ps:List Pl} {v:TabV} {wv:Value} {mx:Int} {C:CodeT} {S:PSt}
abbrev zPa:Nat:=90+1
abbrev fnV(br k:Nat):Value:=.func (.func k) ⟨[ptr br 0]⟩ ⟨[]⟩
abbrev papC(br hb:Nat)(S:PSt):List Value:=[.slice (some ⟨hb,0,none⟩) 2 2,fnV br 31,fnV br 32,I64 (S.step:Nat),.bool S.opn,.bool S.ended]
abbrev hdC(br:Nat):List Value:=[fnV br 29,fnV br 30]
def nav(i:InsT):InsT:={ i with av:=niS }
structure LnK (n0:Nat) (h0:zB) (bt br pb hb n:Nat) (h:zB) (S:PSt) (C:CodeT) (nb:Nat) (wv:Value):Prop where
 r:RdK bt br n h wv C nb
 p:Cel h pb zPa 0 (papC br hb S)
 hd:Cel h hb 0 0 (hdC br)
 c:C.name=S.name/\C.slots=S.slots/\(C.blocks.map λx=>x.2.map nav)=S.blks
 l:n0<=br/\br<hb/\hb<pb/\pb<n
 t:Tch [] h0 n0 h n
def K2M(br pb:Nat)(h:zB)(n:Nat)(h':zB)(n':Nat):Prop:=n<=n'/\∀b,b<n->b≠br->b≠pb->(b<br\/∀m z,yC (zG h b)≠some (m,z,1))->zG h' b=zG h b
theorem K2M.cel{b z:Nat}{vs:List Value}(k:K2M br pb h n h' n')(c:Cel h b z 0 vs)(hb:b<n)(h1:b≠br)(h2:b≠pb):Cel h' b z 0 vs:=by
 have e:=k.2 b hb h1 h2 (.inr (rK c));exact⟨by rw[e];exact c.1,λi=>by unfold zD;rw [e];exact c.2 i⟩
theorem K2M.trans{h1:zB}{n1:Nat}(a:K2M br pb h n h1 n1)(b:K2M br pb h1 n1 h' n'):K2M br pb h n h' n':=⟨aW a.1 b.1,λx hx h2 h3 h4=>by
 have e:=a.2 x hx h2 h3 h4;rw [<- e]at h4 ⊢;exact b.2 x (aG hx a.1) h2 h3 h4⟩
theorem K2M.low(k:K2M br pb h n h' n')(t:Tch [] h0 n0 h n)(h1:n0<=br)(h2:br<pb):Tch [] h0 n0 h' n':=⟨aW t.1 k.1,λb hb _=>(k.2 b (aG hb t.1) qJ qJ  (.inl qJ)).trans (t.2 b hb qL)⟩
theorem RdK.pap{i:Nat}{x:Value}{cs:List Value}(R:RdK bt br n h wv C nb)(c:Cel h pb zPa 0 cs)(h1:br<pb):RdK bt br n (hst h pb i [x]) wv C nb/\K2M br pb h n (hst h pb i [x]) n:=by
 have t:Tch [pb] h n (hst h pb i [x]) n:=⟨ad _,λb hb hx=>by rw[zX,if_neg λe=>hx (by simp[e])]⟩;have eD:=R.lt;have gH:=R.nn;exact⟨R.offs t (λy hy=>by rw[aq.1 hy];exact rK c) (R.ce.tch t qJ qM),ad _,λb hb h1 h2 _=>t.2 b hb qM⟩
theorem KrM.cel{h1:zB}{n1 b z:Nat}{vs:List Value}(k:KrM br h1 n h' n')(t:Tch [] h n h1 n1)(c:Cel h b z 0 vs)(hb:b<n)(h9:b≠br):Cel h' b z 0 vs:=by
 have c1:=c.tch t hb qL;have e:=k.2 b hb h9 (.inr (rK c1));exact⟨by rw[e];exact c1.1,λi=>by unfold zD;rw [e];exact c1.2 i⟩
theorem KrM.k2{h1:zB}{n1:Nat}(k:KrM br h1 n h' n')(t:Tch [] h n h1 n1):K2M br pb h n h' n':=⟨k.1,λb hb h1 _ h4=>(k.2 b hb h1 (by rw[t.2 b hb qL];exact h4)).trans (t.2 b hb qL)⟩
theorem LnK.go{S':PSt}{C':CodeT}{nb':Nat}{w':Value}(M:LnK n0 h0 bt br pb hb n h S C nb wv)(k:K2M br pb h n h' n')(R:RdK bt br n' h' w' C' nb')(p:Cel h' pb zPa 0 (papC br hb S'))(c:C'.name=S'.name/\C'.slots=S'.slots/\(C'.blocks.map λx=>x.2.map nav)=S'.blks):LnK n0 h0 bt br pb hb n' h' S' C' nb' w':=by
 obtain⟨l0,l1,l2,l3⟩:=M.l;exact⟨R,p,k.cel M.hd qJ qJ qJ,c,⟨l0,l1,l2,aG l3 k.1⟩,k.low M.t l0 qJ⟩
theorem lwords_ret{l:Lk}(hT:TabsH (tb mx) h)(hg:8<=n)(hw:∀x∈lkW ns m.result l,Wd x)(h0:lkW ns m.result l≠[])(h5:(lkW ns m.result l).length<=5):Ret P 8 136 [str (lkT ns m.result l),str (lkH l)] h n (λo h' n'=>∃bw sv,o=ptr bw 0/\n<bw/\WdM n' bw h' (lkW ns m.result l) sv/\Tch [] h n h' n')/\lkT ns m.result l≠[]:=by
 have hc:∀x∈lkW ns m.result l,Cln x:=λx hx=>(hw x hx).1;have hn:=join_ne h0 hc;exact⟨wof_ret hT hg hc h0 h5 (by have:=join_len λx hx=>(hw x hx).2;omega),by unfold lkT;simp [hn]⟩
theorem line_ret{l:Lk}(E:EnvT mx lq n0 h0 bt m ns ps v)(M:LnK n0 h0 bt br pb hb n h S C nb wv)(hL:LOK ns.length S l){j:Nat}(hj:ns[j]? = some m.result):Ret P 8 75 [ptr pb 0,str (lkT ns m.result l)] h n λo h' n'=>o = .tuple #[]/\K2M br pb h n h' n'/\∃C' nb' wv',LnK n0 h0 bt br pb hb n' h' (stepL S l) C' nb' wv':=by
 have R:=M.r;have eD:=R.lt;have gH:=R.nn;obtain⟨l0,l1,l2,l3⟩:=M.l;have c:=M.p;have hd:=M.hd;have E1:=E.tch M.t;have kT:=E.nm _ (ae hj);obtain⟨m1,m2,m3⟩:=M.c;rcases S with⟨step,opn,ended,sn,ss,sb⟩
 obtain⟨(rfl:ended=false),hL⟩:=hL;replace c:Cel h pb zPa 0 [.slice (some ⟨hb,0,none⟩) 2 2,fnV br 31,fnV br 32,I64 (step:Nat),.bool opn,.bool false]:=c;dsimp only at m1 m2 m3;refine ent λu=>?_
 cases l with
 | name x =>
  obtain⟨(rfl:step=0),hx⟩:=hL
  obtain⟨W,hs0⟩:=lwords_ret (n:=n) (l:=.name x) E1.tb E1.ng (λy hy=>by
   rcases au.1 hy with rfl|hy
   . decide
   . rw[aq.1 hy];exact wL hx) (by simp[lkW]) (by simp[lkW])
  generalize lkT ns m.result (.name x)=s at *
  repeat' first|refine wk ?_|refine cX (λ_=>?_) λ_=>?_|refine yG W ?_|fail
  rintro _ h1 n1 ⟨bw,sv,rfl,km,w,t1⟩
  have jO:=t1.le;repeat' first|refine wk ?_|refine cX (λ_=>?_) λ_=>?_|refine yG (rname_ret (R.tch ⟨ad _,t1.2⟩) km w hx) ?_|fail
  rintro _ h2 n2 ⟨rfl,hn2,k2,R2⟩
  have kk:=k2.k2 (pb:=pb) t1;have c2:=k2.cel t1 c l3 qJ;clear t1 k2;repeat' first|refine wk ?_|apply cX <;> intro
  obtain⟨R3,k3⟩:=R2.pap (i:=3) (x:=I64 1) c2 qJ;exact⟨_,rfl,rfl,kk.trans k3,_,nb,_,M.go (kk.trans k3) R3 zC ⟨rfl,m2,m3⟩⟩
 | slots a =>
  obtain⟨(rfl:step=1),ha⟩:=hL
  obtain⟨W,hs0⟩:=lwords_ret (n:=n) (l:=.slots a) E1.tb E1.ng (λy hy=>by
   rcases au.1 hy with rfl|hy
   . decide
   . rw[aq.1 hy];exact wd_num ha) (by simp[lkW]) (by simp[lkW])
  generalize lkT ns m.result (.slots a)=s at *
  repeat' first|refine wk ?_|refine cX (λ_=>?_) λ_=>?_|refine yG W ?_|fail
  rintro _ h1 n1 ⟨bw,sv,rfl,km,w,t1⟩
  have jO:=t1.le;repeat' first|refine wk ?_|refine cX (λ_=>?_) λ_=>?_|refine yG (rslots_ret E (Tch.tch t1 M.t λx hx=>.inr hx) qJ  (R.tch ⟨ad _,t1.2⟩) km w ha) ?_|fail
  rintro _ h2 n2 ⟨rfl,hn2,k2,R2⟩
  have kk:=k2.k2 (pb:=pb) t1;have c2:=k2.cel t1 c l3 qJ;clear t1 k2;repeat' first|refine wk ?_|apply cX <;> intro
  obtain⟨R3,k3⟩:=R2.pap (i:=3) (x:=I64 2) c2 qJ;exact⟨_,rfl,rfl,kk.trans k3,_,nb,_,M.go (kk.trans k3) R3 zC ⟨m1,rfl,m3⟩⟩
 | blk=>
  obtain⟨(rfl:step=2),hl⟩:=hL;have gT:C.blocks.length<200:=by dsimp only at hl;rw [<- m3,aD]at hl;exact hl
  have e:lkT ns m.result .blk=[98,108,111,99,107]:=by simp[lkT,lkH,lkW,Lib.join_one]
  rw[e];repeat' first|refine wk ?_|refine cX (λ_=>?_) λf=>absurd qK  f|refine cX (λf=>absurd f qK) λ_=>?_|refine yG (rblock_ret R gT) ?_|fail
  rintro _ h2 n2 ⟨rfl,k2,bv',R2⟩
  have t1:Tch [] h n h n:=⟨ad _,λ_ _ _=>rfl⟩;have kk:=k2.k2 (pb:=pb) t1;have c2:=k2.cel t1 c l3 qJ;clear t1;have hn2:=kk.1;repeat' first|refine wk ?_|apply cX <;> intro
  obtain⟨R3,k3⟩:=R2.pap (i:=4) (x:=.bool true) c2 qJ;exact⟨_,rfl,rfl,kk.trans k3,_,_,_,M.go (kk.trans k3) R3 zC ⟨m1,m2,by rw[aC,m3];rfl⟩⟩
 | ins i=>
  obtain⟨(rfl:step=2),(rfl:opn=true),h1,h2,h3,Ri,hg⟩:=hL;obtain⟨q1,q2,q3⟩:=ins_wd Ri hg E.nm kT;obtain⟨W,hs0⟩:=lwords_ret (n:=n) (l:=.ins i) E1.tb E1.ng q1 q2 q3;have e1:lkT ns m.result (.ins i)≠[101,110,100]:=λe=>by unfold lkT lkH at e;cases e
  have e2:lkT ns m.result (.ins i)≠[98,108,111,99,107]:=λe=>by unfold lkT lkH at e;cases e
  generalize lkT ns m.result (.ins i)=s at *
  rcases dD C.blocks with e9|⟨l,⟨lv,il⟩,e9⟩
  . exact absurd (by dsimp only;rw [<- m3,e9];rfl) h1
  rw[dC]at e9;have e8:sb=(l.map λx=>x.2.map nav)++[il.map nav]:=by rw[<- m3,e9];simp
  subst e8;dsimp only at h3;rw [List.getLastD_concat,aD]at h3;have gT:C.blocks.length<=200:=by dsimp only at h2;rw [<- m3,aD]at h2;exact h2
  repeat' first|refine wk ?_|refine cX (λ_=>?_) λ_=>?_|refine yG W ?_|fail
  rintro _ h1 n1 ⟨bw,sv,rfl,km,w,t1⟩
  have jO:=t1.le;repeat' first|refine wk ?_|refine cX (λ_=>?_) λ_=>?_|refine yG (rins_ret E (Tch.tch t1 M.t λx hx=>.inr hx) l0 (R.tch ⟨ad _,t1.2⟩) km e9 h3 gT hj Ri hg w) ?_|fail
  rintro _ h2 n2 ⟨rfl,hn2,k2,av,v',R2⟩
  have kk:=k2.k2 (pb:=pb) t1;have c2:=k2.cel t1 c l3 qJ;clear t1 k2;repeat' first|refine wk ?_|apply cX <;> intro
  exact⟨_,rfl,rfl,kk,_,nb,_,M.go kk R2 c2 ⟨m1,m2,by simp[stepL];rfl⟩⟩
 | fin=>
  obtain(rfl:step=2):=hL;have e:lkT ns m.result .fin=[101,110,100]:=by simp[lkT,lkH,lkW,Lib.join_one]
  rw[e];repeat' first|refine wk ?_|refine cX (λ_=>?_) λf=>absurd qK  f|refine cX (λf=>absurd f qK) λ_=>?_|fail
  obtain⟨R3,k3⟩:=R.pap (i:=5) (x:=.bool true) c qJ;exact⟨_,rfl,rfl,k3,_,nb,_,M.go k3 R3 zC ⟨m1,m2,m3⟩⟩
end
section
attribute [local simp] zY
variable {n:Nat} {h:zB} {mx:Int}
def jnL(ls:List Tx):Tx:=ls.flatMap (· ++ [10])
theorem jnL_c{l:Tx}{q:List Tx}:jnL (l::q)=l++10::jnL q:=by unfold jnL;rw [aV,ba];rfl
theorem jnL_len:∀(ls:List Tx),ls.length<=(jnL ls).length
 | []=>ad _
 | _::q=>by
  have:=jnL_len q;rw [jnL_c,ah,ay,ay];omega
theorem lines1_ret{sc z L:Nat}{ls:List Tx}(eG:∀l∈ls,(10:UInt8)∉l)(hs:(jnL ls).length<1000000)(J:Nat->List Tx->zB->Nat->Prop)(h0:J 0 ls h n)(hb:sc<n)(hc:Cel h sc z 0 [str (jnL ls)])
(eX:∀k q h' n' v,J k q h' n'->J k q (hst h' sc 0 v) n')(hE:∀k q h' n',J k q h' n'->TabsH (tb mx) h')
(hy:∀k l q h' n',J k (l::q) h' n'->n<=n'->Rou P 8 L [I64 ((k:Nat)+1),str l] h' n' λr h2 n2=>n'<=n2/\r = .ret (.bool true)/\zG h2 sc=zG h' sc/\J (k+1) q h2 n2) :
 Com P 8 133 [.func (.yield L) #[] #[],ptr sc 0] h n λr h' n'=>r = .ret (.tuple #[])/\n<=n'/\∃k,J k [] h' n':=by
 have gY:=jnL_len ls;refine ent λu=>?_;repeat' first|refine wk ?_|apply cX <;> intro
 refine lpR (λk:Nat×List Tx=>[(0,.func (.yield L) #[] #[]),(1,ptr sc 0),(3,I64 ((k.1:Nat)+1))]) (λk h' n'=>n<=n'/\k.1+k.2.length<=ls.length/\(∀l∈k.2,(10:UInt8)∉l)/\(jnL k.2).length<1000000/\Cel h' sc z 0 [str (jnL k.2)]/\J k.1 k.2 h' n') (λk=>k.2.length) (0,ls) ⟨ad _,by simp,eG,hs,hc,h0⟩ ?_;clear hc eG
 rintro ⟨k,q⟩ t h' n' ⟨hn,hk,eG,hq,hc,hJ⟩
 dsimp only at hk eG hq hc hJ ⊢;have hE':=hE _ _ _ _ hJ
 cases q with
 | nil=>
  rw[show jnL []=[] from rfl]at hc;repeat' first|refine wk ?_|refine cX (λf=>absurd rfl f) λ_=>?_|fail
  exact⟨rfl,hn,k,hJ⟩
 | cons l q=>
  have mR:=hy k l q _ _ hJ;have p:=(cut_pure n' hE' (jnL (l::q)) 10 hq).pur;have eJ:jnL (l::q)≠[]:=by rw[jnL_c];simp
  have eD:(jnL q).length<(jnL (l::q)).length:=by rw[jnL_c,ah,ay];omega
  rw[show cutB 10 (jnL (l::q))=(l,jnL q,true) by rw[jnL_c];exact cut_ln (eG l (aN ..))]at p;rw [ay]at hk;generalize jnL (l::q)=s at *
  repeat' first|refine wk ?_|refine cX (λ_=>?_) λ_=>?_|refine zS p ?_|fail
  refine qA (fs:=[]) (cs:=[]) ((mR hn).mono ?_)
  rintro _ h3 n3 ⟨eS,rfl,hsc,hJ3⟩
  have c3:Cel h3 sc z 0 [str s]:=⟨by rw[hsc];exact hc.1,λi=>by unfold zD;rw [hsc];exact hc.2 i⟩;repeat' first|refine wk ?_|apply cX <;> intro
  exact⟨(k+1,q),(by dsimp only;simp),(by repeat' first|exact trivial|refine⟨rfl,?_⟩),by omega,by dsimp only;omega,λx hx=>eG x (aL _ hx),by dsimp only;omega,zC,eX _ _ _ _ _ hJ3⟩
theorem caught1_none{b z:Nat}{e0:Int}(hb:b<n)(hc:Cel h b z 0 [I64 e0]):Def P 8 135 [ptr b 0] none h n λu' h' n'=>u'=none/\Tch [] h n h' n':=by
 refine entD ?_;repeat' first|refine wk ?_|apply cX <;> intro
 exact⟨_,rfl,rfl,zA⟩
theorem caught_ret{g:FuncId}{fs cs:List Value}{R:zB->Nat->Prop}(hd:∀h' n',Tch [] h n h' n'->n<n'->Cel h' n (40+1) 0 [I64 0]->Ret P 8 g (fs++([]++cs)) h' n' λo h2 n2=>o = .tuple #[]/\n'<=n2/\zG h2 n=zG h' n/\R h2 n2):Ret P 8 73 [.func (.func g) ⟨fs⟩ ⟨cs⟩] h n λo h' n'=>o=I64 0/\∃h2 n2,R h2 n2/\(∀m z,yC (zG h2 n)≠some (m,z,1))/\n2<=n'/\n<n2/\∀b,b<n2->b≠n->zG h' b=zG h2 b:=by
 refine ent λu=>?_;repeat' first|refine wk ?_|apply cX <;> intro
 refine yG (hd _ _ zA qJ  zC) ?_
 rintro _ h2 n2 ⟨rfl,hn2,hsame,hr⟩
 have hc:Cel h2 n (40+1) 0 [I64 0]:=by
  have c0:Cel (hal h n (mkC [I64 0] (40+1) 0)) n (40+1) 0 [I64 0]:=zC;exact⟨by rw[hsame];exact c0.1,λi=>by unfold zD;rw [hsame];exact c0.2 i⟩
 repeat' first|refine wk ?_|apply cX <;> intro
 have hc2:Cel (hst h2 n 0 [I64 0]) n (40+1) 0 [I64 0]:=zC;refine lv_none (g:=135) (args:=[]) (cap:=[ptr n 0]) (caught1_none qJ  hc2) ?_
 rintro h3 n3 ht3
 have eS:=ht3.le;have hc3:Cel h3 n (40+1) 0 [I64 0]:=hc2.tch ht3 qJ qL;have mE:∀b,b<n2->b≠n->zG h3 b=zG h2 b:=λb hb eJ=>by rw[ht3.2 b hb qL,zX,if_neg λe=>eJ e.symm]
 clear ht3;repeat' first|refine wk ?_|apply cX <;> intro
 exact⟨_,rfl,rfl,h2,n2,hr,rK hc,eS,by omega,mE⟩
theorem lines_ret{s:Tx}:Ret P 8 72 [str s] h n λv h' n'=>v = .func (.func 133) ⟨[]⟩ ⟨[ptr n 0]⟩/\n'=n+1/\Cel h' n (9+1) 0 [str s]/\Tch [] h n h' n':=by
 refine ent λu=>?_;repeat' first|refine wk ?_|apply cX <;> intro
 exact⟨_,rfl,rfl,rfl,zC,zA⟩
theorem lines_core{sc z:Nat}{ls:List Tx}{ps:List Tmp}{assign body:Code}{fn:FuncId}{l:List (Nat×Value)}{t:Fr}{cx:Cx}{d:List Deferred}{u:Option zK}{L D:Nat}{Q:QX}
(I:Nat->List Tx->zB->Nat->Prop)(gP:ps.length=2)(eG:∀l∈ls,(10:UInt8)∉l)(hs:(jnL ls).length<1000000)(hc:Cel h sc z 0 [str (jnL ls)])(hb:sc<n)(eJ:sc≠L)
(eX:∀k q h' n' v,I k q h' n'->I k q (hst h' sc 0 v) n')(hE:∀k q h' n',I k q h' n'->TabsH (tb mx) h')
(hL:zG h L=LoO .ready none fn ps.toArray assign body D (FA l t))(h0:I 0 ls h n)
(bd:∀k x q h' n',I k (x::q) h' n'->zG h' L=LoO .ready none fn ps.toArray assign body D (FA l t)->n<=n'->WC P 8 assign ⟨fn,some L,false⟩ (FA (parl ps [I64 ((k:Nat)+1),str x] l) t) ⟨[],none,h',n'⟩ (asQ P 8 L fn ps.toArray assign body D (FA l t) λr h2 n2=>n'<=n2/\r = .ret (.bool true)/\zG h2 sc=zG h' sc/\zG h2 L=LoO .ready none fn ps.toArray assign body D (FA l t)/\I (k+1) q h2 n2))
(fin:∀k h' n',I k [] h' n'->zG h' L=LoO .ready none fn ps.toArray assign body D (FA l t)->n<=n'->Q .normal (FA l t) ⟨d,u,hal h' L (LoO .exhausted none fn ps.toArray assign body D (FA l t)),n'⟩) :
 CallB P 8 133 ([]++(.func (.yield L) #[] #[]::[ptr sc 0])) h n (rgQ P 8 L fn ps.toArray assign body D cx (FA l t) d u Q):=by
 refine cal0 (lines1_ret eG hs (λk q h' n'=>zG h' L=LoO .ready none fn ps.toArray assign body D (FA l t)/\I k q h' n') ⟨hL,h0⟩ hb hc (λk q h' n' v j=>⟨obe_hst (λe=>eJ e.symm) j.1,eX _ _ _ _ _ j.2⟩) (λk q h' n' j=>hE _ _ _ _ j.2) λk x q h' n' j hn=>rou j.1 gP (bd k x q h' n' j.2 j.1 hn)) ?_
 rintro _ h' n' ⟨rfl,hn,k,q1,q2⟩
 exact .inl ⟨q1,fin k h' n' q2 q1 hn⟩
end
section
attribute [local simp] zY
variable {n n0 n' bt br pb hb lq nb:Nat} {h h0 h':zB} {m:MachT} {ns:List Tx} {ps:List Pl} {v:TabV} {wv:Value} {mx:Int} {C:CodeT} {S:PSt}
theorem LnK.tch(M:LnK n0 h0 bt br pb hb n h S C nb wv)(t:Tch [] h n h' n'):LnK n0 h0 bt br pb hb n' h' S C nb wv:=by
 obtain⟨l0,l1,l2,l3⟩:=M.l;exact⟨M.r.tch t,M.p.tch t l3 qL,M.hd.tch t qJ qL,M.c,⟨l0,l1,l2,aG l3 t.1⟩,Tch.tch t M.t λx hx=>.inr hx⟩
theorem LnK.off{x:Nat}(M:LnK n0 h0 bt br pb hb n h S C nb wv)(t:Tch [x] h n h' n')(h1:pb<x)(c:∀m z,yC (zG h x)≠some (m,z,1)):LnK n0 h0 bt br pb hb n' h' S C nb wv:=by
 obtain⟨l0,l1,l2,l3⟩:=M.l;have eD:=M.r.lt;have gH:=M.r.nn;exact⟨M.r.offs t (λy hy=>by rw[aq.1 hy];exact c) (M.r.ce.tch t qJ qM),M.p.tch t l3 qM,M.hd.tch t qJ qM,M.c,⟨l0,l1,l2,aG l3 t.1⟩,Tch.tch t M.t λy hy=>.inl (by simp at hy;omega)⟩
theorem K2M.obe{b:Nat}{o:AObj}(k:K2M br pb h n h' n')(c:zG h b=o)(hi:yC o=none)(hb:b<n)(h1:b≠br)(h2:b≠pb):zG h' b=o:=by
 rw[k.2 b hb h1 h2 (.inr λm z e=>by rw[c,hi]at e;cases e)];exact c
theorem K2M.up{h2:zB}{n2:Nat}{T:List Nat}(k:K2M br pb h n h' n')(t:Tch T h' n' h2 n2)(hS:∀x∈T,n<=x):K2M br pb h n h2 n2:=⟨aW k.1 t.1,λb hb h1 h2 h3=>(t.2 b (aG hb k.1) λhx=>by have:=hS b hx;omega).trans (k.2 b hb h1 h2 h3)⟩
theorem cline_ret{p2 p8 z2 z8:Nat}{l:Lk}(E:EnvT mx lq n0 h0 bt m ns ps v)(M:LnK n0 h0 bt br pb hb n h S C nb wv)(hL:LOK ns.length S l){j:Nat}(hj:ns[j]? = some m.result)(c2:Cel h p2 z2 0 [ptr pb 0])(c8:Cel h p8 z8 0 [str (lkT ns m.result l)])(h2:p2<n)(h8:p8<n):Ret P 8 73 [.func (.func 74) ⟨[]⟩ ⟨[ptr p2 0,ptr p8 0]⟩] h n λo h' n'=>o=I64 0/\K2M br pb h n h' n'/\∃C' nb' wv',LnK n0 h0 bt br pb hb n' h' (stepL S l) C' nb' wv':=by
 obtain⟨l0,l1,l2,l3⟩:=M.l;refine(caught_ret (R:=λh2 n2=>K2M br pb h n h2 n2/\∃C' nb' wv',LnK n0 h0 bt br pb hb n2 h2 (stepL S l) C' nb' wv') ?_).mono ?_
 . intro h' n' t eP ce;have d2:=c2.tch t h2 qL;have d8:=c8.tch t h8 qL;have M':=M.tch t;have k0:K2M br pb h n h' n':=⟨t.1,λb hb _ _ _=>t.2 b hb qL⟩;refine ent λu=>?_;repeat' first|refine wk ?_|refine cX (λ_=>?_) λ_=>?_|refine yG (line_ret E M' hL hj) ?_|fail
   rintro _ h3 n3 ⟨rfl,k3,M3⟩
   have eS:=k3.1;have e3:zG h3 n=zG h' n:=k3.2 n eP qJ qJ  (.inr (rK ce));repeat' first|refine wk ?_|apply cX <;> intro
   exact⟨_,rfl,rfl,eS,e3,k0.trans k3,M3⟩
 . rintro _ h3 n3 ⟨_,rfl,rfl,h2,n2,⟨k,C',nb',wv',M3⟩,hi,hn,eD,hsame⟩
   have t3:Tch [n] h2 n2 h3 n3:=⟨hn,λb hb hx=>hsame b hb (by simpa using hx)⟩;exact⟨_,rfl,rfl,k.up t3 qL,C',nb',wv',M3.off t3 l3 hi⟩
structure RdI (n0:Nat) (h0:zB) (nr:Nat) (tx:Lk->Tx) (fin:PSt) (bt br pb hb n:Nat) (h:zB) (k:Nat) (q:List Tx) (h':zB) (n':Nat):Prop where
 le:n+7<=n'
 ln:∃S C nb wv ls,LnK n0 h0 bt br pb hb n' h' S C nb wv/\q=ls.map tx/\OKs nr S ls/\runL S ls=fin
 c0:Cel h' n (86+1) 0 [ptr pb 0]
 c1:Cel h' (n+1) (3+1) 0 [I64 0]
 c2:Cel h' (n+1+1) (40+1) 0 [I64 0]
 c3:Cel h' (n+1+1+1) (3+1) 0 [I64 (k:Nat)]
 c4:∀m z,yC (zG h' (n+1+1+1+1))≠some (m,z,1)
 c5:zG h' (n+1+1+1+1+1) = .deferred true
 kl:k+q.length<1000000
 fr:K2M br pb h n h' n'
theorem cline2_ret{p2 p8 z2 z8 nA x:Nat}{hA:zB}{l:Lk}(E:EnvT mx lq n0 h0 bt m ns ps v)(tB:Tch [x] hA nA h n)(M:LnK n0 h0 bt br pb hb nA hA S C nb wv)(hL:LOK ns.length S l){j:Nat}(hj:ns[j]? = some m.result)(hx:pb<x)(hxi:yC (zG hA x)=none)(c2:Cel h p2 z2 0 [ptr pb 0])(c8:Cel h p8 z8 0 [str (lkT ns m.result l)])(h2:p2<n)(h8:p8<n)(hxn:x<n):Ret P 8 73 [.func (.func 74) ⟨[]⟩ ⟨[ptr p2 0,ptr p8 0]⟩] h n λo h' n'=>o=I64 0/\n<=n'/\(∀b,b<nA->b≠x->b≠br->b≠pb->(b<br\/∀m z,yC (zG hA b)≠some (m,z,1))->zG h' b=zG hA b)/\(∀o,zG h x=o->yC o=none->zG h' x=o)/\∃C' nb' wv',LnK n0 h0 bt br pb hb n' h' (stepL S l) C' nb' wv':=by
 obtain⟨l0,l1,l2,l3⟩:=M.l;have hle:=tB.le;refine(cline_ret E (M.off tB hx λm z e=>by rw[hxi]at e;cases e) hL hj c2 c8 h2 h8).mono ?_
 rintro _ h' n' ⟨_,rfl,rfl,k,r⟩
 refine⟨_,rfl,rfl,k.1,λb hb h1 h2 h3 h4=>?_,λo ho hi=>k.obe ho hi hxn qJ qJ,r⟩;have e1:=tB.2 b hb (by simpa using h1);rw [<- e1]at h4 ⊢;exact k.2 b qJ  h2 h3 h4
theorem lkT_no{l:Lk}(E:EnvT mx lq n0 h0 bt m ns ps v)(hL:LOK ns.length S l){j:Nat}(hj:ns[j]? = some m.result):(10:UInt8)∉lkT ns m.result l:=by
 have kT:=E.nm _ (ae hj);have K:∀x:Tx,x∈[[99,111,100,101],[115,108,111,116,115],[98,108,111,99,107],[101,110,100]]->Cln x:=by unfold Cln;decide
 have h:∀x∈lkW ns m.result l,Cln x:=by
  intro x hx
  cases l with
  | name y=>
   rcases au.1 hx with rfl|hx
   . exact K _ qL 
   . rw[aq.1 hx];exact(wL hL.2.2).1
  | slots a=>
   rcases au.1 hx with rfl|hx
   . exact K _ qL 
   . rw[aq.1 hx];exact(wd_num hL.2.2).1
  | blk=>rw [aq.1 hx];exact K _ qL 
  | fin=>rw [aq.1 hx];exact K _ qL 
  | ins i=>exact((ins_wd hL.2.2.2.2.2.2.1 hL.2.2.2.2.2.2.2 E.nm kT).1 x hx).1
 have hh:(10:UInt8)∉lkH l:=by cases l <;> simp[lkH]
 unfold lkT;rw [aA]
 rintro (h9|h9)
 . exact hh h9
 . exact join_no h h9
theorem oks_no(E:EnvT mx lq n0 h0 bt m ns ps v){j:Nat}(hj:ns[j]? = some m.result):∀(ls:List Lk) (S:PSt),OKs ns.length S ls->∀x∈ls.map (lkT ns m.result),(10:UInt8)∉x
 | [],_,_,_,hx=>by cases hx
 | l::r,S,h,x,hx=>by
  rcases au.1 hx with rfl|hx
  . exact lkT_no E h.1 hj
  . exact oks_no E hj r _ h.2 x hx
theorem pread_ret{ls:List Lk}(E:EnvT mx lq n0 h0 bt m ns ps v)(M:LnK n0 h0 bt br pb hb n h S C nb wv){j:Nat}(hj:ns[j]? = some m.result)(hok:OKs ns.length S ls)(hfin:(runL S ls).ended=true)(hs:(jnL (ls.map (lkT ns m.result))).length<1000000):Ret P 8 33 [ptr pb 0,str (jnL (ls.map (lkT ns m.result)))] h n λo h' n'=>o = .tuple #[I64 0,I64 0]/\K2M br pb h n h' n'/\∃C' nb' wv',RdK bt br n' h' wv' C' nb'/\C'.name=(runL S ls).name/\C'.slots=(runL S ls).slots/\(C'.blocks.map λx=>x.2.map nav)=(runL S ls).blks:=by
 obtain⟨l0,l1,l2,l3⟩:=M.l;have eG:=oks_no E hj ls S hok;have gY:=jnL_len (ls.map (lkT ns m.result));refine ent λu=>?_;repeat' first|refine wk ?_|refine cX (λ_=>?_) λ_=>?_|refine yG lines_ret ?_|fail
 rintro _ h4 n4 ⟨rfl,rfl,c4,t4⟩
 have u4:Tch [] h n h4 (n+1+1+1+1+1):=zA;have c0:Cel h4 n (86+1) 0 [ptr pb 0]:=Cel.tch zC t4 qJ qL;have c1:Cel h4 (n+1) (3+1) 0 [I64 0]:=Cel.tch zC t4 qJ qL;have c2:Cel h4 (n+1+1) (40+1) 0 [I64 0]:=Cel.tch zC t4 qJ qL;have c3:Cel h4 (n+1+1+1) (3+1) 0 [I64 ((0:Nat):Int)]:=Cel.tch zC t4 qJ qL;have M4:=M.tch u4;have k4:K2M br pb h n h4 (n+1+1+1+1+1):=⟨u4.1,λb hb _ _ _=>u4.2 b hb qL⟩;clear t4 u4 M;repeat' first|refine wk ?_|apply cX <;> intro
 refine wc_rg0 (g:=133) (fs:=[]) (cs:=[ptr (n+1+1+1+1) 0]) (by(apply sL;((conv=>lhs;whnf) <;> exact rfl))) ?_;refine lines_core (mx:=mx) (z:=9+1) (ls:=ls.map (lkT ns m.result)) (ps:=[12,13]) (RdI n0 h0 ns.length (lkT ns m.result) (runL S ls) bt br pb hb n h) rfl eG hs zE qJ qJ  ?_ ?_ vX ?_ ?_ ?_
 . rintro k q h' n' v ⟨hn,⟨S,F',nb',wv',lr,M',hr⟩,d0,d1,d2,d3,d4,d5,hk,fr⟩
   have t:Tch [n+1+1+1+1] h' n' (hst h' (n+1+1+1+1) 0 v) n':=zA;exact⟨hn,⟨S,F',nb',wv',lr,M'.off t qJ  d4,hr⟩,d0.tch t qJ  (by rw[aq];omega),d1.tch t qJ  (by rw[aq];omega),d2.tch t qJ  (by rw[aq];omega),d3.tch t qJ  (by rw[aq];omega),by rw[zX,if_pos rfl,sA];exact d4,obe_hst qJ  d5,hk,fr.up t qM⟩
 . rintro k q h' n' ⟨hn,⟨S,F',nb',wv',lr,M',hr⟩,_,_⟩
   exact(E.tch M'.t).tb
 . exact⟨by omega,⟨S,C,nb,wv,ls,M4.tch zA,rfl,hok,rfl⟩,zE,zE,zE,zE,rK (z:=9+1) (cs:=[str (jnL (ls.map (lkT ns m.result)))]) zE,vX,by simp;rw [aD]at gY;omega,k4.up (T:=[]) zA qL⟩
 . rintro k x q h' n' ⟨hn,⟨S,F',nb',wv',lr,M',hq,hok',fw⟩,d0,d1,d2,d3,d4,d5,hk,fr⟩ hL hle
   have hi:yC (zG h' (n+1+1+1+1+1+1))=none:=by rw[hL];rfl
   cases lr with
   | nil=>cases hq
   | cons lk lr=>
   rw[bJ]at hq;injection hq with hq1 iQ
   subst hq1 iQ;rw [ay]at hk;repeat' first|refine wk ?_|apply cX <;> intro
   refine yG (cline2_ret (p2:=n) (p8:=n') (hA:=h') (nA:=n') (x:=n+1+1+1+1+1+1) E zA M' hok'.1 hj qJ  hi zC zC qJ qJ qJ) ?_
   rintro _ h2 n2 ⟨rfl,hn2,kk,kL,C2,nb2,wv2,M2⟩
   have ck:∀{b z:Nat} {vs:List Value},Cel h' b z 0 vs->n<=b->b<n+4->Cel h2 b z 0 vs:=fun {b z vs} c h3 h4=>by
    have e:=kk b qJ qJ qJ qJ  (.inr (rK c));exact⟨by rw[e];exact c.1,λi=>by unfold zD;rw [e];exact c.2 i⟩
   have g0:=ck d0 qJ qJ;have g1:=ck d1 qJ qJ;have g2:=ck d2 qJ qJ;have g3:=ck d3 qJ qJ;have g4:=kk (n+1+1+1+1) qJ qJ qJ qJ  (.inr d4);have g5:=(kk (n+1+1+1+1+1) qJ qJ qJ qJ  (.inr (by rw[d5];intro m z e;cases e))).trans d5;have gL:=kL _ xO rfl
   have fr2:K2M br pb h n h2 n2:=⟨by omega,λb hb h1 h2 h3=>by
    have e:=fr.2 b hb h1 h2 h3;rw [<- e]at h3 ⊢;exact kk b qJ qJ  h1 h2 h3⟩
   clear kk kL ck d0 d1 d2 d3 d5 hL;repeat' first|refine wk ?_|apply cX <;> intro
   have t3:Tch [n+1+1+1] h2 n2 (hst h2 (n+1+1+1) 0 [I64 ((k:Nat)+1)]) n2:=zA;have M3:=M2.off t3 qJ  (rK g3);have gL3:=obe_hst (a:=n+1+1+1) (off:=0) (ws:=[I64 ((k:Nat)+1)]) qJ  gL;have i3:yC (zG (hst h2 (n+1+1+1) 0 [I64 ((k:Nat)+1)]) (n+1+1+1+1+1+1))=none:=by rw[gL3];rfl
   have M5:=λo=>M3.off (x:=n+1+1+1+1+1+1) (h':=hal (hst h2 (n+1+1+1) 0 [I64 ((k:Nat)+1)]) (n+1+1+1+1+1+1) o) (n':=n2) zA qJ  (λm z e=>by rw[i3]at e;cases e);clear M3 gL3 t3;have q4:∀o,zG (hal (hst h2 (n+1+1+1) 0 [I64 ((k:Nat)+1)]) (n+1+1+1+1+1+1) o) (n+1+1+1+1)=zG h' (n+1+1+1+1):=λo=>by rw[zO,if_neg qJ,zX,if_neg qJ];exact g4
   exact⟨by omega,rfl,q4 _,xO,⟨by omega,⟨_,C2,nb2,wv2,lr,M5 _,rfl,hok'.2,fw⟩,zE,zE,zE,zC,by rw[q4];exact d4,vX,by omega,fr2.up (T:=[n+1+1+1,n+1+1+1+1+1+1]) zA qM⟩⟩
 . rintro k h' n' ⟨hn,⟨S',F',nb',wv',lr,M',hq,hok',fw⟩,d0,d1,d2,d3,d4,d5,hk,fr⟩ hL hle
   have hi:yC (zG h' (n+1+1+1+1+1+1))=none:=by rw[hL];rfl
   have hi5:yC (zG h' (n+1+1+1+1+1))=none:=by rw[d5];rfl
   have cp:=M'.p;have cr:=M'.r.ce;have eD:=M'.r.lt;have gH:=M'.r.nn
   obtain rfl:lr=[]:=by
    cases lr with
    | nil=>rfl
    | cons a b=>cases hq
   replace fw:S'=runL S ls:=fw;dsimp only[papC]at cp;rw [show S'.ended=true by rw[fw];exact hfin]at cp
   have hnr:∀x∈[n+1,n+1+1,n+1+1+1+1+1,n+1+1+1+1+1+1],∀m z,yC (zG h' x)≠some (m,z,1):=by
    intro x hx;simp only[au,bf,or_false]at hx;rcases hx with rfl|rfl|rfl|rfl
    . exact rK d1
    . exact rK d2
    . exact λm z e=>by rw[hi5]at e;cases e
    . exact λm z e=>by rw[hi]at e;cases e
   repeat' first|refine wk ?_|apply cX <;> intro
   exact⟨_,rfl,rfl,fr.up (T:=[n+1,n+1+1,n+1+1+1+1+1,n+1+1+1+1+1+1]) zA qM,F',nb',wv',M'.r.offs (S:=[n+1,n+1+1,n+1+1+1+1+1,n+1+1+1+1+1+1]) zA hnr (cr.tch (n:=n') (n':=n') (S:=[n+1,n+1+1,n+1+1+1+1+1,n+1+1+1+1+1+1]) zA qJ qM),fw ▸ M'.c⟩
end
section
variable {m:MachT} {ns:List Tx} {ps:List Pl} {c d:CodeT} {b k:Int}
structure CodeOK (m:MachT) (ns:List Tx) (ps:List Pl) (c:CodeT):Prop where
 l:c.blocks.length<=200
 nm:xL c.name=true
 sl:0<=c.slots/\c.slots<=m.slots
 p:0<c.blocks.length
 bk:∀(j:Nat) x,c.blocks[j]? = some x->BlkOK m ns ps c x.2
theorem CodeOK.e(k:CodeOK m ns ps c):CodeE m ns ps c 0 0 0:=.inr ⟨k.l,.inr ⟨k.nm,.inr ⟨k.sl,.inr ⟨k.p,.inl ⟨k.bk,rfl,rfl,rfl⟩⟩⟩⟩⟩
theorem codeE_0(h:CodeE m ns ps c b k 0):CodeOK m ns ps c:=by
 rcases h with⟨_,_,_,h⟩|⟨h1,⟨_,_,_,h⟩|⟨h2,⟨_,_,_,h⟩|⟨h3,⟨_,_,_,h⟩|⟨h4,⟨h5,_⟩|⟨j,x,_,_,_,⟨_,_,h⟩|⟨_,q,i,_,_,_,_,h⟩⟩⟩⟩⟩⟩
 . cases h
 . cases h
 . cases h
 . cases h
 . exact⟨h1,h2,h3,h4,h5⟩
 . cases h
 . exact absurd rfl h
def Twin(c d:CodeT):Prop:=d.name=c.name/\d.slots=c.slots/\(d.blocks.map λx=>x.2.map nav)=c.blocks.map λb=>b.2.map (rQ · niS)
theorem Twin.bl(t:Twin c d):d.blocks.length=c.blocks.length:=by
 have:=congrArg List.length t.2.2;simpa using this
theorem Twin.at(t:Twin c d){j:Nat}{x:Value×List InsT}(hx:d.blocks[j]? = some x):∃y,c.blocks[j]? = some y/\x.2.length=y.2.length/\∀(q:Nat) i',x.2[q]? = some i'->∃i,y.2[q]? = some i/\nav i'=rQ i niS:=by
 have hj:=(ab.1 hx).1;rw [t.bl]at hj;have hy:c.blocks[j]? = some c.blocks[j]:=aa hj;generalize c.blocks[j]=y at hy
 have e:=congrArg (·[j]?) t.2.2;simp only[ao,hx,hy,dY]at e;injection e with e
 have el:=congrArg List.length e;simp only[aD]at el;refine⟨y,hy,el,λq i' hi=>?_⟩;have hq:=(ab.1 hi).1;rw [el]at hq;have h2:y.2[q]? = some y.2[q]:=aa hq;generalize y.2[q]=i at h2
 have e2:=congrArg (·[q]?) e;simp only[ao,hi,h2,dY]at e2;injection e2 with e2
 exact⟨i,h2,e2⟩
theorem insE_k{slots:Int}{nb:Nat}{i:InsT}{last:Bool}(h:uC m ns ps slots nb i last=0):1<=i.kind/\i.kind<=11:=by
 unfold uC at h;split at h
 . cases h
 rename_i hk;rw [Bool.not_eq_false]at hk;unfold vH at hk;simp only[bu,decide_eq_true_iff]at hk;exact hk.1.1
theorem Twin.ok(t:Twin c d)(h:CodeOK m ns ps c):CodeOK m ns ps d:=by
 have hb:=t.bl;refine⟨by rw[hb];exact h.l,by rw[t.1];exact h.nm,by rw[t.2.1];exact h.sl,by rw[hb];exact h.p,λj x hx=>?_⟩;obtain⟨y,hy,el,hq⟩:=t.at hx;have hB:=h.bk j y hy;refine⟨by rw[el];exact hB.1,λq i' hi=>?_⟩;obtain⟨i,h2,e⟩:=hq q i' hi;have h3:=hB.2 q i h2;rw [hb,t.2.1,el];have e2:∀last,uC m ns ps c.slots c.blocks.length i' last=uC m ns ps c.slots c.blocks.length (nav i') last:=λ_=>rfl;rw [e2,e,insE_clr _ (insE_k h3)];exact h3
theorem ti{n:Nat}(h:n<wM):n<inf:=aG h qK 
theorem go0:uT 0:=⟨by decide,by decide⟩
theorem Twin.mem{lo n bt br nb:Nat}{h h0:zB}{wv:Value}(t:Twin c d)(cm:CodeM lo h0 c)(hn:xL c.name=true)(R:RdK bt br n h wv d nb):CodeM n h d:=by
 have all:∀x∈d.blocks,∀i'∈x.2,∃y∈c.blocks,∃i∈y.2,nav i'=rQ i niS/\x.2.length=y.2.length:=λx hx i' hi=>by
  obtain⟨j,hj⟩:=aj.1 hx;obtain⟨y,hy,el,hq⟩:=t.at hj;obtain⟨q,kP⟩:=aj.1 hi;obtain⟨i,h2,e⟩:=hq q i' kP;exact⟨y,ae hy,i,ae h2,e,el⟩
 have hb:=t.bl;have bll:=cm.bll;have g9:∀{p:Prop} [Decidable p] {x:Int},uT x->uT (if p then x else 0):=λh=>by split <;> first|exact h|exact go0
 refine⟨?_,⟨by rw[hb];exact ti bll,_,(R.bv.row qK).up R.nn⟩,by rw[hb];exact bll,λx hx=>?_,λx hx i' hi=>?_⟩
 . rw[t.1];have h1:=(wL hn).2;show _<1125899906842624;omega
 . have hl:x.2.length<wM:=by
    obtain⟨j,hj⟩:=aj.1 hx;obtain⟨y,hy,el,hq⟩:=t.at hj;rw [el];exact(cm.el y (ae hy)).2
   exact⟨⟨ti hl,_,(R.all x hx).row qK⟩,hl⟩
 . obtain⟨y,hy,i,fh,e,_⟩:=all x hx i' hi;have I:=cm.ins y hy i fh;have ea:i'.args=if i.kind=3 then i.args else []:=congrArg InsT.args e
   have en:i'.name=if i.kind=3\/i.kind=6 then i.name else []:=congrArg InsT.name e
   have e1:i'.d=(rQ i niS).d:=(congrArg InsT.d e:(nav i').d=_);have e2:i'.a=(rQ i niS).a:=(congrArg InsT.a e:(nav i').a=_);have e3:i'.b=(rQ i niS).b:=(congrArg InsT.b e:(nav i').b=_);have e4:i'.n=(rQ i niS).n:=(congrArg InsT.n e:(nav i').n=_)
   have al:i'.args.length<wM:=by
    rw[ea];split
    . exact I.al
    . decide
   refine⟨⟨ti al,(R.ar x hx i' hi).row qK⟩,al,λz hz=>?_,⟨?_,?_,?_⟩,?_,?_⟩
   . rw[ea]at hz;split at hz
     . exact I.ag z hz
     . cases hz
   . rw[e1];exact g9 I.g.1
   . rw[e2];exact g9 I.g.2.1
   . rw[e3];exact g9 I.g.2.2
   . rw[e4];exact g9 I.gn
   . rw[en];split
     . exact I.nl
     . decide
end
section
attribute [local simp] zY
variable {n bt lq:Nat} {h:zB} {m:MachT} {ns:List Tx} {ps:List Pl} {v:TabV} {mx:Int} {c:CodeT}
abbrev zCd:Nat:=30+1
theorem rs_code{l:List (Nat×Value)}{t:Fr}{h:zB}{i b:Nat}{cs:List Value}{r:List ResultVar}{vs:List Value}(e:lk l t i=ptr b 0:=by apply qB;((conv=>lhs;whnf) <;> exact rfl))(g:Rd h b 0 3 cs:=by repeat' first|exact rd_nil|(apply vF;focus (apply Cel.cell;(focus exact zE);exact rfl)))(f:Rs P l t h r vs:=by repeat' first|exact rs_nil|(apply rs_tmp;(focus (apply qB;((conv=>lhs;whnf) <;> exact rfl))))):Rs P l t h (.cell i 30::r) (.agg ⟨cs⟩::vs):=by
 have s:ShC P 30 (.agg 3):=inferInstance;refine⟨_,vs,rfl,?_,f⟩;rw [e];exact load_agg s.ok g.row.1 qK  g.row.2
theorem jn_tx{res:Tx}(ls:List Lk):jnL (ls.map (lkT ns res))=txL ns res ls:=by unfold jnL txL;rw [List.flatMap_map]
theorem mread_ret{lo:Nat}(E:EnvT mx lq n h bt m ns ps v)(ok:MOK m ns ps)(hon:(oNs m).Nodup){j:Nat}(hj:ns[j]? = some m.result)(hc:CodeOK m ns ps c)(cm:CodeM lo h c)(hs:(uA ns m.result c).length<1000000):Ret P 8 10 [ptr bt 0,str (uA ns m.result c)] h n λo h' n'=>∃d:CodeT,o = .tuple #[.agg ⟨yQ d⟩,I64 0,I64 0]/\CodeM n' h' d/\Twin c d/\Tch [] h n h' n':=by
 have hR:∀b∈c.blocks,b.2.length<=25600/\∀i∈b.2,InsR ns.length i/\uT i.n:=λb hb=>by
  obtain⟨j,hj⟩:=aj.1 hb;have hB:=hc.bk j b hj;refine⟨hB.1.2,λi hi=>?_⟩;obtain⟨q,hq⟩:=aj.1 hi;exact⟨insE_R ok (by have:=hc.sl.2;have:=ok.conv.2.2.2.2.2.1;omega) hc.l (hB.2 q i hq),(cm.ins b hb i hi).gn⟩
 obtain⟨o',k1,k2⟩:=code_run (nr:=ns.length) hc.nm ⟨hc.sl.1,by have:=hc.sl.2;have:=ok.conv.2.2.2.2.2.1;omega⟩ hc.l hR;rw [codeTx_lks,<- jn_tx]at hs ⊢;have p:=fun {h':zB} {n' br pb hb nb:Nat} {C:CodeT} {wv:Value} (M:LnK n h bt br pb hb n' h' ⟨0,false,false,[],0,[]⟩ C nb wv)=>pread_ret E M hj k1 (by rw[k2]) hs;rw [k2]at p;generalize jnL ((lks c).map (lkT ns m.result))=s at *
 refine ent λu=>?_;repeat' first|refine wk ?_|apply cX <;> intro
 refine yG (p (br:=n+1) (pb:=n+1+1+1) (hb:=n+1+1) (C:=⟨[],0,niS,[]⟩) (nb:=n+1+1) (wv:=.pointer none) ?_) ?_
 . exact⟨⟨by omega,by omega,zC,Own.nil,λx hx=>(by cases hx),λx hx=>(by cases hx),λx hx=>(by cases hx)⟩,zC,zC,⟨rfl,rfl,rfl⟩,⟨by omega,by omega,by omega,by omega⟩,zA⟩
 rintro _ h2 n2 ⟨rfl,k2,d,nb',wv',R,e1,e2,e3⟩
 have T:Twin c d:=⟨e1,e2,e3⟩;have t2:Tch [] h n h2 n2:=k2.low (h0:=h) (n0:=n) zA qJ qJ;have c2:Cel h2 n zCd 0 [str [],I64 0,.slice none 0 0]:=k2.cel (n:=n+1+1+1+1) zC qJ qJ qJ;have hn2:n+1+1+1+1<=n2:=k2.1;have cm2:=T.mem cm hc.nm R;have q:=mcheck_ret (E.tch t2).kt ok hon cm2 (ad _);have o2:=R.bv.one;have c3:=R.ce;repeat' first|refine wk ?_|refine cX (λ_=>?_) λ_=>?_|refine yG q ?_|fail
 rintro _ h3 n3 ⟨b,k,e,rfl,hE,t3⟩
 obtain⟨rfl,rfl,rfl⟩:=codeE_fun hE (T.ok hc).e;have eS:=t3.le;have c4:=c2.tch t3 qJ qL;have c5:=c3.tch t3 qJ qL;have R3:=R.tch t3;have u3:Tch [] h n h3 n3:=zA;clear t3 t2 c2 c3;repeat' first|refine wk ?_|refine cX (λ_=>?_) λ_=>?_|refine ob (a:=_) ?_ rs_code|fail
 have R4:=R3.offs (S:=[n]) (h':=hst h3 n 0 (yQ d)) (n':=n3) zA (λy hy=>by rw[aq.1 hy];exact rK c4) (c5.tch (n:=n3) (n':=n3) (S:=[n]) zA (by have:=R.lt;have:=R.nn;omega) qL);exact⟨_,rfl,d,rfl,T.mem cm hc.nm R4,T,zA⟩
end
end Go.Proofs.YtdiejolnllipnaaGreatDoor
