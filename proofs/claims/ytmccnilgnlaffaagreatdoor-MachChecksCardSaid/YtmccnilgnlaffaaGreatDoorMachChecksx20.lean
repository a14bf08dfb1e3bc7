/- What the law leans on, part 20 of 22. Conditions: those that each theorem states. -/
import Derived.Test.YtmccnilgnlaffaaGreatDoorMachChecksx18
import Derived.Test.YtmccnilgnlaffaaGreatDoorMachChecksx19
import Derived.Test.YtmccnilgnlaffaaGreatDoorMachChecksx17

set_option linter.unusedVariables false
set_option linter.unusedSimpArgs false
namespace Go.Proofs.YtmccnilgnlaffaaGreatDoor
open Go Go.Ex Go.Ex.M
set_option maxRecDepth 100000
set_option maxHeartbeats 8000000
section
attribute [local simp] vB
variable {lo n:Nat} {h:zB} {m:MachT}
theorem make_com(mm:MachM lo h m)(dX:lo≤n):Com P 8 13 [.agg ⟨yU m⟩] h n λo h' n'=>∃e,MakeE m e∧Tch [] h n h' n'∧((e≠0∧o = .ret (.tuple ⟨[.pointer none,I64 e]⟩))∨(e=0∧∃bt ns ps v,o = .ret (.tuple ⟨[ptr bt 0,I64 0]⟩)∧MOK m ns ps∧TabM n n' h' bt m ns ps v)):=by
 obtain⟨o1,o2,o3,o4,o5⟩:=sO mm;refine ent λu=>?_;repeat' first|refine wk ?_|refine cX (λ_=>?_) λ_=>?_|fail
 refine cal (check_com (MachM.tch zA dX mm) (by omega)) ?_
 rintro _ h2 n2 ⟨e,rfl,he,ht2⟩
 have hn2:=ht2.le;have cM:Cel h2 n zMc 0 (yU m):=zD;have gW:Tch [] h n h2 n2:=zA;by_cases e0:e=0
 · subst e0;obtain⟨ns,ps,ok⟩:=makeE_ok he;have sm:=MOK.sml ok;have cs:=CsOK.of ok.cls;have gok:=geo_ok ok.geo;clear ht2;repeat' first|refine wk ?_|refine cX (λ_=>?_) λ_=>?_|fail
   refine wY (copied_ret (mm.tch gW dX) (by omega) sm) ?_
   rintro _ h3 n3 ⟨m',rfl,cp,t3⟩
   have eH:=t3.le;have q1:=cp.r1;have q2:=xB cp.cr;have q3:=xB cp.orr;have q4:=xB cp.ar;have q5:=xB cp.sr;have cM3:=cM.tch t3 (by omega) (by simp);repeat' first|refine wk ?_|refine cX (λ_=>?_) λ_=>?_|fail
   refine cal (places_com (RegsM.tch zA dX mm.regs) (by omega)) ?_
   rintro _ h4 n4 ⟨t4,⟨e,he4,rfl⟩|⟨s,nsv,psv,hs4,rfl,on,op⟩⟩
   · rw[ok.geo]at he4;cases he4
   rw[ok.geo]at hs4;cases Except.ok.inj hs4
   dsimp only at on op;have fL:=t4.le;have on1:=on.one;have op1:=op.one;have rn:=on.row (by decide);have rp:=op.row (by decide);have cM4:=(show Cel (hal h3 n3 _) n zMc 0 (yU m) from cM3.hal (by omega)).tch t4 (by omega) (by simp);have cB4:Cel h4 n3 zTb 0 (yU m'++[nlS,nlS,.map none,.map none,.map none,nlS,nlS,nlS,nlS,nlS,nlS,nlS,nlS]):=zD;have cp4:CpM n2 n4 h4 m m':=cpm_tch cp (Tch.tch t4 (zA:Tch [] h3 n3 (hal h3 n3 _) (n3+1)) (by simp));have gN:Tch [] h n h4 n4:=zA;clear t4 t3 cM3 cp;repeat' first|refine wk ?_|refine cX (λ_=>?_) λ_=>?_|fail
   have tS:Tch [n3] h4 n4 (hst (hst h4 n3 (0+8) [nsv]) n3 (0+9) [psv]) n4:=zA;have cT:Cel (hst (hst h4 n3 (0+8) [nsv]) n3 (0+9) [psv]) n3 zTb 0 (yU m'++[nsv,psv,.map none,.map none,.map none,nlS,nlS,nlS,nlS,nlS,nlS,nlS,nlS]):=zD;have t0T:Tch [] h n (hst (hst h4 n3 (0+8) [nsv]) n3 (0+9) [psv]) n4:=zA;have cMT:Cel (hst (hst h4 n3 (0+8) [nsv]) n3 (0+9) [psv]) n zMc 0 (yU m):=zD;have cpT:=cpm_cel cp4 cB4 (by simp) tS;have onT:=on.tch tS (yR (yE cB4 on));have opT:=op.tch tS (yR (yE cB4 op));clear tS cB4 cM4 on op rn rp cp4 gN;generalize hst (hst h4 n3 (0+8) [nsv]) n3 (0+9) [psv]=hT at *
   have iA:=gok.le;have d9:inf<4611686018427387904:=by decide
   have iC:1000000≤inf:=by decide
   refine wY (numbered_ret (onT.row (by decide)) (ae _) (by dsimp only at iA;omega) gok.nd) ?_
   rintro _ h5 n5 ⟨rb,rfl,b1,b2,mp,t5⟩
   have fm:=t5.le;have c5:=cT.tch t5 (by omega) (by simp);have cM5:=cMT.tch t5 (by omega) (by simp);have cp5:=cpm_tch cpT t5;have on5:=onT.tch t5 (by simp);have op5:=opT.tch t5 (by simp);have t05:Tch [] h n h5 n5:=Tch.tch t5 t0T (by simp);clear cT cMT cpT onT opT t5 t0T;have zc:=mm.cls 0;have zo:=mm.ops 0;have za:=mm.args 0;have zs:=mm.saved 0;repeat' first|refine wk ?_|refine cX (λ_=>?_) λ_=>?_|fail
   have tS:Tch [n3] h5 n5 (hst h5 n3 (0+10) [.map (some rb)]) n5:=zA;have c6:Cel (hst h5 n3 (0+10) [.map (some rb)]) n3 zTb 0 (yU m'++[nsv,psv,.map (some rb),.map none,.map none,nlS,nlS,nlS,nlS,nlS,nlS,nlS,nlS]):=zD;have cM6:Cel (hst h5 n3 (0+10) [.map (some rb)]) n zMc 0 (yU m):=zD;have kZ:Tch [] h n (hst h5 n3 (0+10) [.map (some rb)]) n5:=zA;have cp6:=cpm_cel cp5 c5 (by simp) tS;have on6:=on5.tch tS (yR (yE c5 on5));have op6:=op5.tch tS (yR (yE c5 op5));have mp6:=mp.tch tS b2 (by simpa using xC mp c5);clear tS c5 cM5 t05 cp5 on5 op5 mp;generalize hst h5 n3 (0+10) [.map (some rb)]=h6 at *
   have eG:=sm.cls;have hcN:(cNs m).length=m.classes.length:=by unfold cNs;rw [aE]
   refine lpR (α :=Nat×Value) (λa=>[(1,ptr n 0),(5,ptr n3 0),(6,a.2),(7,nlS),(43,m.csv),(44,I64 m.classes.length),(45,I64 a.1)]) (λa h' n'=>Tch [n3] h6 n5 h' n'∧a.1≤m.classes.length∧Own n5 n' h' a.2 eStr 1 a.1 (((cNs m).take a.1).map str)∧∃ofv O inv I,Cel h' n3 zTb 0 (yU m'++[nsv,psv,.map (some rb),.map none,.map none,nlS,ofv,inv,nlS,nlS,nlS,nlS,nlS])∧Ints n5 n' h' ofv O∧Sets n5 n' h' inv I∧O.length=a.1∧I.length=a.1∧∀(j:Nat) c,j<a.1→m.classes[j]? = some c→(∃v,O[j]? = some (v,c.regs.map λr=>((ns.idxOf r:Nat):Int)))∧∃p,I[j]? = some p∧∀r:Nat,uB p.2 r=c.regs.any λx=>decide (ns.idxOf x=r)) (λa=>m.classes.length - a.1) (0,nlS) ⟨Tch.refl _ _ _,am _,Own.nil,_,[],_,[],c6,Lst.nil,Lst.nil,rfl,rfl,λj c hj=>by dsimp only at hj;omega⟩ ?_
   rintro ⟨i,v6⟩ t h' n' ⟨ht,hi,hv,ofv,O,inv,I,hc,hO,hI,hOl,hIl,dZ⟩
   dsimp only at hi hv hOl hIl dZ ⊢;have eu:=ht.le;have t0':Tch [] h n h' n':=Tch.tch ht kZ λx hx=>.inl (by simp at hx;omega);have cM':=cM6.tch ht (by omega) (by simp;omega);have mp':=mp6.tch ht (by omega) (by simpa using xC mp6 c6);have mm':=mm.tch t0' dX;by_cases dV:i<m.classes.length
   · have d0:m.classes[i]? = some m.classes[i]:=aa dV;generalize m.classes[i]=c at d0
     have hcm:=ah d0;have crw:=mm'.cls 0;have d1:=zK crw d0;have fH:=crw.low (by omega);have zr:=mm'.clsr c hcm 0;have hro:=zr.one;have hle:=sm.clr c hcm;have ko:=cs.mem i c d0;have orow:=hO.1.row (by decide);have irow:=hI.1.row (by decide);have oone:=hO.1.one;have ione:=hI.1.one;repeat' first|refine wk ?_|refine cX (λ_=>?_) λ_=>?_|fail
     refine appN (hv.tch (S:=[]) zA (by simp)) (zL (e:=eStr) (sz:=1) (len:=1) rfl (by decide)) (by decide) ⟨rfl,trivial⟩ (by omega) ?_
     rintro v7 h7 n7 w7 t7
     have jd:=t7.le;have tX:Tch [] h' n' (hal (hst (hal h' n' (mkC [str [],nlS] (eCls+1) 0)) n' 0 [str c.name,c.rsv]) (n'+1) (mkC [str c.name] 0 0)) (n'+1+1):=zA;have kG:=hv.tch tX (by simp);have kx7:Kx eStr _ _ h7 n7:=kx_own kG t7;have c7:=Cel.app (hc.tch tX (by omega) (by simp)) kG t7 (by omega);have cM7:=Cel.app (cM'.tch tX (by omega) (by simp)) kG t7 (by omega);have cC7:Cel h7 n' (eCls+1) 0 (clsC c):=Cel.app (show Cel (hal (hst (hal h' n' (mkC [str [],nlS] (eCls+1) 0)) n' 0 [str c.name,c.rsv]) (n'+1) (mkC [str c.name] 0 0)) n' (eCls+1) 0 (clsC c) from zD) kG t7 (by omega);have mp7:=(mp'.tch tX (by omega) (by simp)).tch t7 (by omega) (rH (mp'.tch tX (by omega) (by simp)) kG);have j5:=vC (vC (e:=eSets) hO tX.kx (by decide) (by decide)) kx7 (by decide) (by decide);have kD:=yD (yD (e:=yS) hI tX.kx (by decide) (by decide)) kx7 (by decide) (by decide);have kq:Tch [n3] h6 n5 h7 n7:=Tch.tch t7 (zA:Tch [n3] h6 n5 (hal (hst (hal h' n' (mkC [str [],nlS] (eCls+1) 0)) n' 0 [str c.name,c.rsv]) (n'+1) (mkC [str c.name] 0 0)) (n'+1+1)) λx hx=>.inl (zZ hv x hx)
     have kf:Tch [] h n h7 n7:=Tch.tch kq kZ λx hx=>.inl (by simp at hx;omega);have mm7:=mm.tch kf dX;have zr7:=mm7.clsr c hcm 0;have o7:=w7.one;clear t7 tX kG kx7 hc cM' mp' hO hI ht t0' mm' orow irow crw hv d1 zr;have orow:=j5.1.row (by decide);have irow:=kD.1.row (by decide);repeat' first|refine wk ?_|refine cX (λ_=>?_) λ_=>?_|fail
     refine wY (vJ (br:=rb) (ns:=ns) (show Row n7 h7 c.rsv _ 1 c.regs.length (c.regs.map str) from(mm7.clsr c hcm 0).up (by omega)) (ae _) (by omega) (by omega) (by omega) (c7.cell rfl) mp7 gok.nd ko) ?_
     rintro v8 h8 n8 ⟨w8,t8⟩
     have iV:=t8.le;obtain⟨s1,s2,s3,rfl⟩:=own_slv w8;have c8:=c7.tch t8 (by omega) (by simp);have jE:∀x,Ints n5 (n8+1) (hal h8 n8 x) ofv O:=λx=>vC (e:=eSets) (vC (e:=eSets) j5 t8.kx (by decide) (by decide)) (Tch.kx (zA:Tch [] h8 n8 (hal h8 n8 x) (n8+1))) (by decide) (by decide);repeat' first|refine wk ?_|refine cX (λ_=>?_) λ_=>?_|fail
     refine appN (jE _).1 (zL (e:=yS) (sz:=1) (len:=1) rfl (by decide)) (by decide) ⟨rfl,trivial⟩ (by omega) ?_
     rintro v9 h9 n9 w9 t9
     have kj:=t9.le;have o9:=w9.one;have tX8:Tch [] h8 n8 (hal h8 n8 (mkC [.slice s1 s2 s3] 0 0)) (n8+1):=zA;have kx9:Kx yS _ _ h9 n9:=kx_own (jE _).1 t9;have k79:Kx yS h7 n7 h9 n9:=Kx.trans (Kx.trans t8.kx tX8.kx) kx9;have c9:=Cel.app (c8.tch tX8 (by omega) (by simp)) (jE _).1 t9 (by omega);have cM9:=Cel.app ((cM7.tch t8 (by omega) (by simp)).tch tX8 (by omega) (by simp)) (jE _).1 t9 (by omega);have cC9:=Cel.app ((cC7.tch t8 (by omega) (by simp)).tch tX8 (by omega) (by simp)) (jE _).1 t9 (by omega);have mpX:=(mp7.tch t8 (by omega) (by simp)).tch tX8 (by omega) (by simp);have mp9:=mpX.tch t9 (by omega) (rH mpX (jE _).1)
     have lI:Ints n5 n9 h9 v9 (O++[(.slice s1 s2 s3,c.regs.map λr=>((ns.idxOf r:Nat):Int))]):=Lst.app (jE _) w9 (by omega) (λy s=>IntEl.kx s kx9 (by decide)) (IntEl.kx (n:=n8+1) (h:=(hal h8 n8 (mkC [.slice s1 s2 s3] 0 0))) (show Own n5 (n8+1) (hal h8 n8 (mkC [.slice s1 s2 s3] 0 0)) (.slice s1 s2 s3) vU 1 (c.regs.map λr=>((ns.idxOf r:Nat):Int)).length ((c.regs.map λr=>((ns.idxOf r:Nat):Int)).map I64) from by
      rw[cE,aE];exact Own.dnl (w8.tch tX8 (by simp)) (by omega)) kx9 (by decide))
     have kV:=yD kD k79 (by decide) (by decide);have w79:=w7.kx k79 (.inl (by decide));have t8X:Tch [n3] h6 n5 (hal h8 n8 (mkC [.slice s1 s2 s3] 0 0)) (n8+1):=Tch.tch tX8 (Tch.tch t8 kq (by simp)) (by simp);have kR:Tch [n3] h6 n5 h9 n9:=Tch.tch t9 t8X λx hx=>.inl (zZ j5.1 x hx);clear t8 t9 tX8 kx9 k79 cM7 cC7 mp7 mpX j5 kD w7 kq t8X mm7 zr7 kf jE w8 w9;repeat' first|refine wk ?_|refine cX (λ_=>?_) λ_=>?_|fail
     have tA:Tch [n3] h9 n9 (hst h9 n3 (0+14) [v9]) n9:=zA;have c10:Cel (hst h9 n3 (0+14) [v9]) n3 zTb 0 (yU m'++[nsv,psv,.map (some rb),.map none,.map none,nlS,v9,inv,nlS,nlS,nlS,nlS,nlS]):=zD;have cM10:=cM9.tch tA (by omega) (by simp;omega);have cC10:=cC9.tch tA (by omega) (by simp;omega);have mp10:=mp9.tch tA (by omega) (by simpa using xC mp9 c9);have im:=uS lI c9 tA;have gO:=wK kV c9 tA;have w10:=w79.tch tA (yR (yE c9 w79));have gi:Tch [n3] h6 n5 (hst h9 n3 (0+14) [v9]) n9:=Tch.tch tA kR λx hx=>.inr hx;have lV:Tch [] h n (hst h9 n3 (0+14) [v9]) n9:=Tch.tch gi kZ λx hx=>.inl (by simp at hx;omega);have mm10:=mm.tch lV dX;clear tA c9 cM9 cC9 mp9 lI kV w79 kR c7 c8 orow irow;generalize (hst h9 n3 (0+14) [v9])=ft at *
     have irow:=gO.1.row (by decide);refine wY (vJ (br:=rb) (ns:=ns) (show Row n9 ft c.rsv _ 1 c.regs.length (c.regs.map str) from(mm10.clsr c hcm 0).up (by omega)) (ae _) (by omega) (by omega) (by omega) (c10.cell rfl) mp10 gok.nd ko) ?_
     rintro v11 h11 n11 ⟨w11,t11⟩
     have lR:=t11.le;have o11:=w11.one;have c11:=c10.tch t11 (by omega) (by simp);repeat' first|refine wk ?_|refine cX (λ_=>?_) λ_=>?_|fail
     refine wY (of_ret (l:=c.regs.map λr=>((ns.idxOf r:Nat):Int)) (show Row n11 h11 v11 vU 1 _ _ from by
      have:=w11.row (by decide);rw [cE,aE];exact this) (ae _) (by rw[aE];omega)) ?_
     rintro _ h12 n12 ⟨wv,ws,rfl,hsw,iK,kw,t12⟩
     have hn12:=t12.le;have wone:=kw.one;have c12:=c11.tch t12 (by omega) (by simp);have t1012:Tch [] ft n9 h12 n12:=Tch.tch t12 t11 (by simp);have lZ:∀x,Sets n5 (n12+1) (hal h12 n12 x) inv I:=λx=>yD (e:=yS) (yD (e:=yS) gO t1012.kx (by decide) (by decide)) (Tch.kx (zA:Tch [] h12 n12 (hal h12 n12 x) (n12+1))) (by decide) (by decide);repeat' first|refine wk ?_|refine cX (λ_=>?_) λ_=>?_|fail
     refine appN (lZ _).1 (zL (e:=eSet) (sz:=1) (len:=1) rfl (by decide)) (by decide) ⟨wone,trivial⟩ (by omega) ?_
     rintro v13 h13 n13 w13 t13
     have hn13:=t13.le;have o13:=w13.one;have tX:Tch [] h12 n12 (hal h12 n12 (mkC [wv] 0 0)) (n12+1):=zA;have jl:Kx eSet _ _ h13 n13:=kx_own (lZ _).1 t13;have iL:Kx eSet ft n9 h13 n13:=Kx.trans (Kx.trans t1012.kx tX.kx) jl;have gq:=Cel.app (c12.tch tX (by omega) (by simp)) (lZ _).1 t13 (by omega);have jf:Sets n5 n13 h13 v13 (I++[(wv,ws)]):=Lst.app (lZ _) w13 (by omega) (λy s=>SetEl.kx s jl (by decide)) (SetEl.kx (SetEl.kx (e:=yS) (p:=(wv,ws)) ⟨hsw,kw.dnl (by omega)⟩ tX.kx (by decide)) jl (by decide));have jn:=vC im iL (by decide) (by decide);have w1013:=w10.kx iL (.inl (by decide));have t6X:Tch [n3] h6 n5 (hal h12 n12 (mkC [wv] 0 0)) (n12+1):=Tch.tch tX (Tch.tch t1012 gi (by simp)) (by simp);have t613:Tch [n3] h6 n5 h13 n13:=Tch.tch t13 t6X λx hx=>.inl (zZ gO.1 x hx);clear t13 tX jl iL lZ w13 t6X t1012 t12 t11 w11 kw im w10 gi lV mm10;repeat' first|refine wk ?_|refine cX (λ_=>?_) λ_=>?_|fail
     have tB:Tch [n3] h13 n13 (hst h13 n3 (0+15) [v13]) n13:=zA;have cF:Cel (hst h13 n3 (0+15) [v13]) n3 zTb 0 (yU m'++[nsv,psv,.map (some rb),.map none,.map none,nlS,v9,v13,nlS,nlS,nlS,nlS,nlS]):=zD;have fW:(cNs m)[i]? = some c.name:=by unfold cNs;rw [ap,d0];rfl
     have wF:=(w1013.tch tB (yR (yE gq w1013))).dnl (lo':=n5) (by omega)
     exact rnd (i+1,v7) ⟨Tch.tch tB t613 (λx hx=>.inr hx),by dsimp only;omega,by dsimp only;rw [xS fW,aK];exact wF,v9,_,v13,_,cF,uS jn gq tB,wK jf gq tB,by rw[ak,hOl];rfl,by rw[ak,hIl];rfl,λj c' hj e=>by
      dsimp only at hj;rcases ai.1 hj with h9|rfl
      · obtain⟨⟨v,a1⟩,p,a2,a3⟩:=dZ j c' h9 e;exact⟨⟨v,by rw[ax (by omega)];exact a1⟩,p,by rw[ax (by omega)];exact a2,a3⟩
      · rw[d0]at e;cases e;refine⟨⟨_,by rw[au (by omega),hOl,bA];rfl⟩,_,by rw[au (by omega),hIl,bA];rfl,λr=>?_⟩;refine bC.2 ((iK r).trans ?_);rw [aq];refine⟨λ⟨h9,_⟩=>?_,λ⟨x,h9,h8⟩=>?_⟩
        · obtain⟨x,h8,h7⟩:=ao.1 h9;exact⟨x,h8,decide_eq_true (by omega)⟩
        · have h8:=of_decide_eq_true h8;subst h8;have:=ba.2 (ko x h9);exact⟨ao.2 ⟨x,h9,rfl⟩,by dsimp only at iA;omega⟩⟩
   · obtain rfl:i=m.classes.length:=by omega
     have iQ:((cNs m).take m.classes.length)=cNs m:=cG (by omega);rw [iQ]at hv;have gu:=sm.ops;have ib:∀(j:Nat) c,m.classes[j]? = some c→(∃v,O[j]? = some (v,c.regs.map λr=>((ns.idxOf r:Nat):Int)))∧∃p,I[j]? = some p∧∀r:Nat,uB p.2 r=c.regs.any λx=>decide (ns.idxOf x=r):=λj c e=>dZ j c (ab.1 e).1 e;have eQ:=hv.one;clear dZ dV hi;repeat' first|refine wk ?_|refine cX (λ_=>?_) λ_=>?_|fail
     have hoN:(oNs m).length=m.ops.length:=by unfold oNs;rw [aE]
     refine lpR (α :=Nat×Value) (λa=>[(1,ptr n 0),(5,ptr n3 0),(6,v6),(7,a.2),(83,m.osv),(84,I64 m.ops.length),(85,I64 a.1)]) (λa h2 n2=>Tch [] h' n' h2 n2∧a.1≤m.ops.length∧Own n' n2 h2 a.2 eStr 1 a.1 (((oNs m).take a.1).map str)) (λa=>m.ops.length - a.1) (0,nlS) ⟨Tch.refl _ _ _,am _,Own.nil⟩ ?_
     rintro ⟨i,v7⟩ t h7 n7 ⟨t7,hi,hw⟩
     dsimp only at hi hw ⊢;have jd:=t7.le;have kf:Tch [] h n h7 n7:=Tch.tch t7 t0' (by simp);by_cases dV:i<m.ops.length
     · have d0:m.ops[i]? = some m.ops[i]:=aa dV;generalize m.ops[i]=o at d0
       have eU:=ah d0;have mm7:=mm.tch kf dX;have crw:=mm7.ops 0;have d1:=zK crw d0;have fH:=crw.low (by omega);have hro:=(mm7.opsu o eU 0).one;have hro2:=(mm7.opsc o eU 0).one;have honm:(oNs m)[i]? = some o.name:=by unfold oNs;rw [ap,d0];rfl
       repeat' first|refine wk ?_|refine cX (λ_=>?_) λ_=>?_|fail
       refine appO (hw.tch (S:=[]) zA (by simp)) (zL (e:=eStr) (sz:=1) (len:=1) rfl (by decide)) (by omega) ⟨rfl,trivial⟩ (by omega) ?_
       rintro v8 h8 n8 w8 t8
       have iV:=t8.le;have t9:Tch [] h' n' h8 n8:=Tch.tch t8 zA λx hx=>.inl (zZ hw x hx);repeat' first|refine wk ?_|refine cX (λ_=>?_) λ_=>?_|fail
       exact rnd (i+1,v8) ⟨t9,by dsimp only;omega,by dsimp only;rw [xS honm,aK];exact w8⟩
     · obtain rfl:i=m.ops.length:=by omega
       rw[cG (by omega)]at hw;have hone7:=hw.one;have c7:=hc.tch t7 (by omega) (by simp);have cM7:=cM'.tch t7 (by omega) (by simp);have hv7:=hv.tch t7 (by simp);have mp7:=mp'.tch t7 (by omega) (by simp);have j5:=vC (e:=eSets) hO t7.kx (by decide) (by decide);have kD:=yD (e:=yS) hI t7.kx (by decide) (by decide);have kq:=Tch.tch t7 ht (by simp);clear dV hi;repeat' first|refine wk ?_|refine cX (λ_=>?_) λ_=>?_|fail
       refine wY (numbered_ret (show Row n7 h7 v6 eStr 1 (cNs m).length ((cNs m).map str) from by rw[hcN];exact hv7.row (by decide)) (ae _) (by omega) (MOK.cnd ok)) ?_
       rintro _ h8 n8 ⟨cb,rfl,cb1,cb2,mc8,t8⟩
       have iV:=t8.le;have hw8:=hw.tch t8 (by simp);repeat' first|refine wk ?_|refine cX (λ_=>?_) λ_=>?_|fail
       refine wY (numbered_ret (show Row n8 h8 v7 eStr 1 (oNs m).length ((oNs m).map str) from by rw[hoN];exact hw8.row (by decide)) (ae _) (by omega) (MOK.ond ok)) ?_
       rintro _ h9 n9 ⟨ob9,rfl,hob1,hob2,mo9,t9⟩
       have kj:=t9.le;have t79:Tch [] h7 n7 h9 n9:=Tch.tch t9 t8 (by simp);have c9:=c7.tch t79 (by omega) (by simp);have cM9:=cM7.tch t79 (by omega) (by simp);have mc9:=mc8.tch t9 (by omega) (by simp);have mp9:=mp7.tch t79 (by omega) (by simp);have lI:=vC (e:=eSets) j5 t79.kx (by decide) (by decide);have kV:=yD (e:=yS) kD t79.kx (by decide) (by decide);have kR:Tch [n3] h6 n5 h9 n9:=Tch.tch t79 kq (by simp);clear t8 t9 t79 c7 cM7 mc8 mp7 j5 kD kq t7 hO hI hc cM' hw hw8 hv hv7 ht t0';repeat' first|refine wk ?_|refine cX (λ_=>?_) λ_=>?_|fail
       have tA:Tch [n3] h9 n9 (hst (hst h9 n3 (0+11) [.map (some cb)]) n3 (0+12) [.map (some ob9)]) n9:=zA;have c10:Cel (hst (hst h9 n3 (0+11) [.map (some cb)]) n3 (0+12) [.map (some ob9)]) n3 zTb 0 (yU m'++[nsv,psv,.map (some rb),.map (some cb),.map (some ob9),nlS,ofv,inv,nlS,nlS,nlS,nlS,nlS]):=zD;have cM10:=cM9.tch tA (by omega) (by simp;omega);have mc10:=mc9.tch tA (by omega) (by simpa using xC mc9 c9);have mo10:=mo9.tch tA (by omega) (by simpa using xC mo9 c9);have mp10:=mp9.tch tA (by omega) (by simpa using xC mp9 c9);have im:=uS lI c9 tA;have gO:=wK kV c9 tA;have gi:Tch [n3] h6 n5 (hst (hst h9 n3 (0+11) [.map (some cb)]) n3 (0+12) [.map (some ob9)]) n9:=Tch.tch tA kR λx hx=>.inr hx;have op10:=op6.tch gi (yR (yE c6 op6));have l9:=cpm_cel cp6 c6 (by simp) gi;clear tA c9 cM9 mc9 mo9 mp9 lI kV kR;generalize (hst (hst h9 n3 (0+11) [.map (some cb)]) n3 (0+12) [.map (some ob9)])=ft at *
       have hpl2:=gok.len;refine cal (lapping_com c10 (by omega) op10 (by omega) (by dsimp only at hpl2 iA;omega) gok.pl) ?_
       rintro _ h11 n11 ⟨rfl,t11,lv,L,c11,hL11,ip,hLw⟩
       have lR:=t11.le;have mc11:=mc10.tch t11 (by omega) (by simpa using xC mc10 c10);have mo11:=mo10.tch t11 (by omega) (by simpa using xC mo10 c10);have mp11:=mp10.tch t11 (by omega) (by simpa using xC mp10 c10);have cM11:=cM10.tch t11 (by omega) (by simp;omega);have li:=uS im c10 t11;have mA:=wK gO c10 t11;have op11:=op10.tch t11 (yR (yE c10 op10));have mg:=cpm_cel l9 c10 (by simp) t11;have j8:Tch [n3] h6 n5 h11 n11:=Tch.tch t11 gi λx hx=>.inr hx;clear t11 mc10 mo10 mp10 cM10 im gO op10 l9 gi c10;have iz:Tch [] h n h11 n11:=Tch.tch j8 kZ λx hx=>.inl (by simp at hx;omega);have mm11:=mm.tch iz dX;have jV:=ok.conv
       have hain:∀x∈m.args,x∈ns:=λx hx=>by
        obtain⟨i,hi⟩:=aj.1 hx;exact(jV.1.2 i x hi).1
       have mu:∀x∈m.saved,x∈ns:=λx hx=>by
        obtain⟨i,hi⟩:=aj.1 hx;exact(jV.2.2.1.2 i x hi).1
       have hal:m.args.length≤16:=by have:=jV.1.1;omega
       have hsl:m.saved.length≤64:=by have:=jV.2.2.1.1;omega
       have a11:=(mm11.args 0).one;have s11:=(mm11.saved 0).one;repeat' first|refine wk ?_|refine cX (λ_=>?_) λ_=>?_|fail
       refine wY (vJ (e:=eStr) (br:=rb) (ns:=ns) ((mm11.args eStr).up (by omega)) (ae _) (by omega) (by omega) (by omega) (c11.cell rfl) mp11 gok.nd hain) ?_
       rintro v12 h12 n12 ⟨w12,t12⟩
       have hn12:=t12.le;have o12:=w12.one;have c12:=c11.tch t12 (by omega) (by simp);have cM12:=cM11.tch t12 (by omega) (by simp);have mp12:=mp11.tch t12 (by omega) (by simp);have mm12:=mm.tch (Tch.tch t12 iz (by simp):Tch [] h n h12 n12) dX;clear mm11;repeat' first|refine wk ?_|refine cX (λ_=>?_) λ_=>?_|fail
       refine wY (vJ (e:=eStr) (br:=rb) (ns:=ns) ((mm12.saved eStr).up (by omega)) (ae _) (by omega) (by omega) (by omega) (c12.cell rfl) mp12 gok.nd mu) ?_
       rintro v13 h13 n13 ⟨w13,t13⟩
       have hn13:=t13.le;have o13:=w13.one;have t1113:Tch [] h11 n11 h13 n13:=Tch.tch t13 t12 (by simp);have gq:=c12.tch t13 (by omega) (by simp);have cM13:=cM12.tch t13 (by omega) (by simp);have w12':=w12.tch t13 (by simp);have mc13:=mc11.tch t1113 (by omega) (by simp);have mo13:=mo11.tch t1113 (by omega) (by simp);have mp13:=mp12.tch t13 (by omega) (by simp);have jn:=vC (e:=eSets) li t1113.kx (by decide) (by decide);have jf:=yD (e:=yS) mA t1113.kx (by decide) (by decide);have lP:=yD (e:=yS) hL11 t1113.kx (by decide) (by decide);have on13:=(on6.tch j8 (yR (yE c6 on6))).tch t1113 (by simp);have op13:=op11.tch t1113 (by simp);have mb:=cpm_tch mg t1113;have lE:Tch [] h n h13 n13:=Tch.tch t1113 iz (by simp);clear t12 t13 t1113 w12 mc11 mo11 mp11 mp12 li mA hL11 on6 op11 op6 mg cp6 mm12 j8 c6 mp6 cM6;repeat' first|refine wk ?_|refine cX (λ_=>?_) λ_=>?_|fail
       have tA:Tch [n3] h13 n13 (hst (hst h13 n3 (0+19) [v12]) n3 (0+18) [v13]) n13:=zA;have gI:Cel (hst (hst h13 n3 (0+19) [v12]) n3 (0+18) [v13]) n3 zTb 0 (yU m'++[nsv,psv,.map (some rb),.map (some cb),.map (some ob9),lv,ofv,inv,nlS,nlS,v13,v12,nlS]):=zD;have w12:=w12'.tch tA (yR (yE gq w12'));have w13':=w13.tch tA (yR (yE gq w13));have mc14:=mc13.tch tA (by omega) (by simpa using xC mc13 gq);have mo14:=mo13.tch tA (by omega) (by simpa using xC mo13 gq);have mp14:=mp13.tch tA (by omega) (by simpa using xC mp13 gq);have mq:=uS jn gq tA;have kg:=wK jf gq tA;have j9:=wK lP gq tA;have on14:=on13.tch tA (yR (yE gq on13));have op14:=op13.tch tA (yR (yE gq op13));have cp14:=cpm_cel mb gq (by simp) tA;have ld:Tch [] h n (hst (hst h13 n3 (0+19) [v12]) n3 (0+18) [v13]) n13:=Tch.tch tA lE λx hx=>.inl (by simp at hx;omega);have cM14:=cM13.tch tA (by omega) (by simp;omega);clear tA gq c11 c12 cM11 cM12 w12' w13 mc13 mo13 mp13 jn jf lP on13 op13 mb lE cM13
       generalize (hst (hst h13 n3 (0+19) [v12]) n3 (0+18) [v13])=h14 at *
       have hK:Opd n2 n13 h14 rb cb m'.osv lv inv m'.ops ns (cNs m) L I:=⟨by rw[cp14.ol];exact cp14.orr,λo ho=>by
        obtain⟨i,hi⟩:=aj.1 ho;have hil:=(ab.1 hi).1;have e1:=cp14.ol;obtain⟨o',e2,e3⟩:=cp14.oe i _ (aa (by omega));rw [hi]at e2;cases e2;have:=e3.ru;rw [← e3.us]at this;exact this,λo ho=>by
        obtain⟨i,hi⟩:=aj.1 ho;have hil:=(ab.1 hi).1;have e1:=cp14.ol;obtain⟨o',e2,e3⟩:=cp14.oe i _ (aa (by omega));rw [hi]at e2;cases e2;have:=e3.rc;rw [← e3.cb]at this;exact this,mp14,mc14,⟨by omega,by omega⟩,sets_dn j9 (by omega),sets_dn kg (by omega)⟩
       have hoO:∀o∈m'.ops,OpdOK ns (cNs m) o:=λo ho=>by
        obtain⟨i,hi⟩:=aj.1 ho;have hil:=(ab.1 hi).1;have e1:=cp14.ol;have e9:m.ops[i]? = some m.ops[i]:=aa (by omega);obtain⟨o',e2,e3⟩:=cp14.oe i _ e9;rw [hi]at e2;cases e2;exact MOK.opd ok (ah e9) e3.d e3.us e3.cb
       have gu:=sm.ops;have gQ:ps.length=ns.length:=gok.len;refine cal (operands_com hK gI (by omega) (by omega) gok.nd (MOK.cnd ok) (by omega) (by omega) (by dsimp only at iA;omega) (by rw[cp14.ol];omega) hoO) ?_
       rintro _ h15 n15 ⟨rfl,t15,mv,M,cv,C,c15,hM15,hC15,hMl,hCl,d7⟩
       have hn15:=t15.le;have iE:=w12.tch t15 (yR (yE gI w12));have jw:=w13'.tch t15 (yR (yE gI w13'));have mc15:=mc14.tch t15 (by omega) (by simpa using xC mc14 gI);have mo15:=mo14.tch t15 (by omega) (by simpa using xC mo14 gI);have mp15:=mp14.tch t15 (by omega) (by simpa using xC mp14 gI);have k7:=uS mq gI t15;have lO:=wK kg gI t15;have mB:=wK j9 gI t15;have on15:=on14.tch t15 (yR (yE gI on14));have op15:=op14.tch t15 (yR (yE gI op14));have cp15:=cpm_cel cp14 gI (by simp) t15;have mz:Tch [] h n h15 n15:=Tch.tch t15 ld λx hx=>.inl (by simp at hx;omega);clear t15 w12 w13' mc14 mo14 mp14 mq kg j9 on14 op14 ld cM14 gI hK;repeat' first|refine wk ?_|refine cX (λ_=>?_) λ_=>?_|fail
       have w13i:=ixs_row jw
       refine cal (surviving_com (lo:=n2) c15 (by omega) (op15.dnl (by omega)) (w13i.dnl (by omega)) (by omega) (by dsimp only at iA;omega) (by unfold ixs;rw [aE];omega) gok.pl λs hs=>by
        unfold ixs at hs;obtain⟨x,hx,rfl⟩:=ao.1 hs;exact⟨_,rfl,by have:=ba.2 (mu x hx);omega⟩) ?_
       rintro _ h16 n16 ⟨rfl,t16,kv,ws,c16,hk16,hkw⟩
       have hn16:=t16.le;have t016:Tch [] h n h16 n16:=Tch.tch t16 mz λx hx=>.inl (by simp at hx;omega);have lD:=mc15.tch t16 (by omega) (by simpa using xC mc15 c15);have lU:=mo15.tch t16 (by omega) (by simpa using xC mo15 c15);have kU:=mp15.tch t16 (by omega) (by simpa using xC mp15 c15)
       have tM:TabM n n16 h16 n3 m ns ps ⟨m',nsv,psv,rb,cb,ob9,lv,ofv,inv,mv,cv,v13,v12,kv,L,O,I,M,C,ws⟩:=⟨⟨by omega,by omega⟩,⟨by dsimp only;omega,by dsimp only;omega,by dsimp only;omega⟩,c16,cpm_dn (cpm_cel cp15 c15 (by simp) t16) (by omega),
        (on15.tch t16 (yR (yE c15 on15))).dnl (by omega),(op15.tch t16 (yR (yE c15 op15))).dnl (by omega),kU,lD,lU,sets_dn (wK mB c15 t16) (by omega),ip,hLw,ints_dn (uS k7 c15 t16) (by omega),hOl,λj c e=>(ib j c e).1,sets_dn (wK lO c15 t16) (by omega),hIl,λj c e=>(ib j c e).2,
        mays_dn (mays_cel hM15 c15 t16) (by omega),by have:=cp15.ol;dsimp only;omega,ints_dn (uS hC15 c15 t16) (by omega),by have:=cp15.ol;dsimp only;omega,λj o e=>by
         obtain⟨o',e2,e3⟩:=cp15.oe j o e;have e4:=d7 j o' e2;rw [e3.cb,e3.d,e3.us]at e4;obtain⟨e5,sv,S,e6,e7,e8⟩:=e4;refine⟨e5,sv,S,e6,e7,λk x p g1 g2 r=>?_⟩;rw [e8 k x p g1 g2 r];unfold mayF;rw [e3.cb],
        (w13i.tch t16 (yR (yE c15 w13i))).dnl (by omega),((ixs_row iE).tch t16 (yR (yE c15 iE))).dnl (by omega),⟨hk16.1,hk16.2.dnl (by omega)⟩,hkw⟩
       clear cp15 mc15 mo15 mp15 lD lU kU k7 lO mB on15 op15 iE jw w13i c15 c16 t16 mz hM15 hC15 d7 ib;repeat' first|refine wk ?_|refine cX (λ_=>?_) λ_=>?_|fail
       exact⟨0,he,t016,.inr ⟨rfl,n3,ns,ps,_,rfl,ok,tM⟩⟩
 · repeat' first|refine wk ?_|refine cX (λ_=>?_) λ_=>?_|fail
   exact⟨e,he,gW,.inl ⟨e0,rfl⟩⟩
end
section
variable {lo n:Nat} {h:zB} {m:MachT}
theorem TabM.dn{lo lo' n bt:Nat}{h:zB}{m:MachT}{ns:List Tx}{ps:List Pl}{v:TabV}(k:TabM lo n h bt m ns ps v)(hl:lo'≤lo):TabM lo' n h bt m ns ps v:=⟨⟨by have:=k.hb;omega,k.hb.2⟩,k.hr,k.cel,cpm_dn k.cp hl,k.on.dnl hl,k.op.dnl hl,k.mr,k.mc,k.mo,sets_dn k.lap hl,k.lapl,k.lapw,ints_dn k.ofs hl,k.ofl,k.ofe,sets_dn k.ins hl,k.inl,k.ine,mays_dn k.may hl,k.mayl,ints_dn k.clob hl,k.clol,k.ope,k.sv.dnl hl,k.av.dnl hl,⟨k.ks.1,k.ks.2.dnl hl⟩,k.ksw⟩
theorem lmake_com(mm:MachM lo h m)(dX:lo≤n):Com P 8 8 [.agg ⟨yU m⟩] h n λo h' n'=>Tch [] h n h' n'∧(o = .ret (.tuple ⟨[.pointer none,.pointer none,.bool true]⟩)∨∃bt bt2 v nsv psv kv kvs ns ps,o = .ret (.tuple ⟨[ptr bt 0,ptr bt2 0,.bool true]⟩)∧MOK m ns ps∧TabM n n' h' bt m ns ps v∧Tc n' h' bt2 zTab m nsv psv kv ns ps kvs):=by
 obtain⟨o1,o2,o3,o4,o5⟩:=sO mm;refine ent λu=>?_;repeat' first|refine wk ?_|refine cX (λ_=>?_) λ_=>?_|fail
 refine cal (make_com (MachM.tch zA dX mm) (by omega)) ?_
 rintro _ h2 n2 ⟨e,he,t2,hr⟩
 have hn2:=t2.le;have cM:Cel h2 n zMc 0 (yU m):=zD;have gW:Tch [] h n h2 n2:=zA;clear t2;rcases hr with⟨e0,rfl⟩|⟨rfl,bt,ns,ps,v,rfl,ok,tm⟩
 · repeat' first|refine wk ?_|refine cX (λ_=>?_) λ_=>?_|fail
   refine cal (rmake_com (MachM.tch zA dX mm) (by omega)) ?_
   rintro _ h3 n3 ⟨e',fK,t3,hr'⟩
   obtain rfl:=makeE_fun he fK;have eH:=t3.le;have fz:Tch [] h n h3 n3:=zA;rcases hr' with⟨_,rfl⟩|⟨h9,_⟩
   · repeat' first|refine wk ?_|refine cX (λ_=>?_) λ_=>?_|fail
     · rename_i f1;exact absurd f1 (by decide)
     · exact⟨fz,.inl rfl⟩
   · exact absurd h9 e0
 · repeat' first|refine wk ?_|refine cX (λ_=>?_) λ_=>?_|fail
   refine cal (rmake_com (MachM.tch zA dX mm) (by omega)) ?_
   rintro _ h3 n3 ⟨e',fK,t3,hr'⟩
   obtain rfl:=makeE_fun he fK;have eH:=t3.le;have fz:Tch [] h n h3 n3:=zA;rcases hr' with⟨h9,_⟩|⟨_,bt2,nsv,psv,kv,kvs,s,rfl,hbt2,hg,hgo,tc,ok2⟩
   · exact absurd rfl h9
   · have hgg:=ok.geo;rw [hg]at hgg;obtain rfl:=Except.ok.inj hgg;have tm3:=tm.tch t3;repeat' first|refine wk ?_|refine cX (λ_=>?_) λ_=>?_|fail
     · rename_i f1;exact absurd f1 (by decide)
     · exact⟨fz,.inr ⟨bt,bt2,v,nsv,psv,kv,kvs,ns,ps,rfl,ok,tm3.dn (by omega),tc⟩⟩
end
end Go.Proofs.YtmccnilgnlaffaaGreatDoor
