/- What the law leans on, part 19 of 24. Conditions: those that each theorem states. -/
import Derived.Test.YtdiejolnllipnaaGreatDoorMachPrintsx17
import Derived.Test.YtdiejolnllipnaaGreatDoorMachPrintsx16
import Derived.Test.YtdiejolnllipnaaGreatDoorMachPrintsx10

set_option linter.unusedVariables false
set_option linter.unusedSimpArgs false
namespace Go.Proofs.YtdiejolnllipnaaGreatDoor
open Go Go.Ex Go.Ex.M
set_option maxRecDepth 100000
set_option maxHeartbeats 8000000
section
attribute [local simp] zY
variable {lo n:Nat} {h:zB} {m:MachT}
theorem make_com(mm:MachM lo h m)(eE:lo<=n):Com P 8 13 [.agg ⟨yR m⟩] h n λo h' n'=>∃e,MakeE m e/\Tch [] h n h' n'/\((e≠0/\o = .ret (.tuple ⟨[.pointer none,I64 e]⟩))\/(e=0/\∃bt ns ps v,o = .ret (.tuple ⟨[ptr bt 0,I64 0]⟩)/\MOK m ns ps/\TabM n n' h' bt m ns ps v)):=by
 obtain⟨o1,o2,o3,o4,o5⟩:=sS mm;refine ent λu=>?_;repeat' first|refine wk ?_|apply cX <;> intro
 refine cal (check_com (MachM.tch zA eE mm) qJ) ?_
 rintro _ h2 n2 ⟨e,rfl,he,ht2⟩
 have hn2:=ht2.le;have cM:Cel h2 n zMc 0 (yR m):=zC;have gu:Tch [] h n h2 n2:=zA;by_cases e0:e=0
 . subst e0;obtain⟨ns,ps,ok⟩:=makeE_ok he;have sm:=MOK.sml ok;have cs:=CsOK.of ok.cls;have gok:=geo_ok ok.geo;clear ht2;repeat' first|refine wk ?_|apply cX <;> intro
   refine yG (copied_ret (mm.tch gu eE) qJ  sm) ?_
   rintro _ h3 n3 ⟨m',rfl,cp,t3⟩
   have eS:=t3.le;have q1:=cp.r1;have q2:=xF cp.cr;have q3:=xF cp.orr;have q4:=xF cp.ar;have q5:=xF cp.sr;have cM3:=cM.tch t3 qJ qL;repeat' first|refine wk ?_|apply cX <;> intro
   refine cal (places_com (RegsM.tch zA eE mm.regs) qJ) ?_
   rintro _ h4 n4 ⟨t4,⟨e,he4,rfl⟩|⟨s,nsv,psv,hs4,rfl,on,op⟩⟩
   . rw[ok.geo]at he4;cases he4
   rw[ok.geo]at hs4;cases Except.ok.inj hs4
   dsimp only at on op;have fi:=t4.le;have on1:=on.one;have op1:=op.one;have rn:=on.row qK;have rp:=op.row qK;have cM4:=(show Cel (hal h3 n3 _) n zMc 0 (yR m) from cM3.hal qJ).tch t4 qJ qL;have cB4:Cel h4 n3 zTb 0 (yR m'++[nlS,nlS,.map none,.map none,.map none,nlS,nlS,nlS,nlS,nlS,nlS,nlS,nlS]):=zC;have cp4:CpM n2 n4 h4 m m':=cpm_tch cp (Tch.tch t4 (zA:Tch [] h3 n3 (hal h3 n3 _) (n3+1)) qL);have fY:Tch [] h n h4 n4:=zA;clear t4 t3 cM3 cp;repeat' first|refine wk ?_|apply cX <;> intro
   have tS:Tch [n3] h4 n4 (hst (hst h4 n3 (0+8) [nsv]) n3 (0+9) [psv]) n4:=zA;have cT:Cel (hst (hst h4 n3 (0+8) [nsv]) n3 (0+9) [psv]) n3 zTb 0 (yR m'++[nsv,psv,.map none,.map none,.map none,nlS,nlS,nlS,nlS,nlS,nlS,nlS,nlS]):=zC;have t0T:Tch [] h n (hst (hst h4 n3 (0+8) [nsv]) n3 (0+9) [psv]) n4:=zA;have cMT:Cel (hst (hst h4 n3 (0+8) [nsv]) n3 (0+9) [psv]) n zMc 0 (yR m):=zC;have cpT:=cpm_cel cp4 cB4 qL  tS;have onT:=on.tch tS (yW (yK cB4 on));have opT:=op.tch tS (yW (yK cB4 op));clear tS cB4 cM4 on op rn rp cp4 fY;generalize hst (hst h4 n3 (0+8) [nsv]) n3 (0+9) [psv]=hT at *
   have iM:=gok.le;have eM:inf<4611686018427387904:=by decide
   have iH:1000000<=inf:=by decide
   refine yG (numbered_ret (onT.row qK) (ad _) (by dsimp only at iM;omega) gok.nd) ?_
   rintro _ h5 n5 ⟨rb,rfl,b1,b2,mp,t5⟩
   have fA:=t5.le;have c5:=cT.tch t5 qJ qL;have cM5:=cMT.tch t5 qJ qL;have cp5:=cpm_tch cpT t5;have on5:=onT.tch t5 qL;have op5:=opT.tch t5 qL;have t05:Tch [] h n h5 n5:=Tch.tch t5 t0T qL;clear cT cMT cpT onT opT t5 t0T;have zc:=mm.cls 0;have zo:=mm.ops 0;have za:=mm.args 0;have zs:=mm.saved 0;repeat' first|refine wk ?_|apply cX <;> intro
   have tS:Tch [n3] h5 n5 (hst h5 n3 (0+10) [.map (some rb)]) n5:=zA;have c6:Cel (hst h5 n3 (0+10) [.map (some rb)]) n3 zTb 0 (yR m'++[nsv,psv,.map (some rb),.map none,.map none,nlS,nlS,nlS,nlS,nlS,nlS,nlS,nlS]):=zC;have cM6:Cel (hst h5 n3 (0+10) [.map (some rb)]) n zMc 0 (yR m):=zC;have jW:Tch [] h n (hst h5 n3 (0+10) [.map (some rb)]) n5:=zA;have cp6:=cpm_cel cp5 c5 qL  tS;have on6:=on5.tch tS (yW (yK c5 on5));have op6:=op5.tch tS (yW (yK c5 op5));have mp6:=mp.tch tS b2 (by simpa using xH mp c5);clear tS c5 cM5 t05 cp5 on5 op5 mp;generalize hst h5 n3 (0+10) [.map (some rb)]=h6 at *
   have eX:=sm.cls;have hcN:(cNs m).length=m.classes.length:=by unfold cNs;rw [aD]
   refine lpR (α :=Nat×Value) (λa=>[(1,ptr n 0),(5,ptr n3 0),(6,a.2),(7,nlS),(43,m.csv),(44,I64 m.classes.length),(45,I64 a.1)]) (λa h' n'=>Tch [n3] h6 n5 h' n'/\a.1<=m.classes.length/\Own n5 n' h' a.2 qI 1 a.1 (((cNs m).take a.1).map str)/\∃ofv O inv I,Cel h' n3 zTb 0 (yR m'++[nsv,psv,.map (some rb),.map none,.map none,nlS,ofv,inv,nlS,nlS,nlS,nlS,nlS])/\Ints n5 n' h' ofv O/\Sets n5 n' h' inv I/\O.length=a.1/\I.length=a.1/\∀(j:Nat) c,j<a.1->m.classes[j]? = some c->(∃v,O[j]? = some (v,c.regs.map λr=>((ns.idxOf r:Nat):Int)))/\∃p,I[j]? = some p/\∀r:Nat,vY p.2 r=c.regs.any λx=>decide (ns.idxOf x=r)) (λa=>m.classes.length - a.1) (0,nlS) ⟨Tch.refl _ _ _,an _,Own.nil,_,[],_,[],c6,Lst.nil,Lst.nil,rfl,rfl,λj c hj=>by dsimp only at hj;omega⟩ ?_
   rintro ⟨i,v6⟩ t h' n' ⟨ht,hi,hv,ofv,O,inv,I,hc,hO,hI,hOl,hIl,eH⟩
   dsimp only at hi hv hOl hIl eH ⊢;have eP:=ht.le;have t0':Tch [] h n h' n':=Tch.tch ht jW λx hx=>.inl (by simp at hx;omega);have cM':=cM6.tch ht qJ qM;have mp':=mp6.tch ht qJ  (by simpa using xH mp6 c6);have mm':=mm.tch t0' eE;by_cases eD:i<m.classes.length
   . have d0:m.classes[i]? = some m.classes[i]:=aa eD;generalize m.classes[i]=c at d0
     have hcm:=ae d0;have crw:=mm'.cls 0;have d1:=zM crw d0;have gA:=crw.low qJ;have zr:=mm'.clsr c hcm 0;have hro:=zr.one;have hle:=sm.clr c hcm;have kR:=cs.mem i c d0;have orow:=hO.1.row qK;have irow:=hI.1.row qK;have oone:=hO.1.one;have ione:=hI.1.one;repeat' first|refine wk ?_|apply cX <;> intro
     refine appN (hv.tch (S:=[]) zA qL) (zF (e:=qI) (sz:=1) (len:=1) rfl qK) qK  ⟨rfl,trivial⟩ qJ  ?_
     rintro v7 h7 n7 w7 t7
     have ir:=t7.le;have tX:Tch [] h' n' (hal (hst (hal h' n' (mkC [str [],nlS] (eCls+1) 0)) n' 0 [str c.name,c.rsv]) (n'+1) (mkC [str c.name] 0 0)) (n'+1+1):=zA;have lC:=hv.tch tX qL;have kx7:Kx qI _ _ h7 n7:=kx_own lC t7;have c7:=Cel.app (hc.tch tX qJ qL) lC t7 qJ;have cM7:=Cel.app (cM'.tch tX qJ qL) lC t7 qJ;have cC7:Cel h7 n' (eCls+1) 0 (clsC c):=Cel.app (show Cel (hal (hst (hal h' n' (mkC [str [],nlS] (eCls+1) 0)) n' 0 [str c.name,c.rsv]) (n'+1) (mkC [str c.name] 0 0)) n' (eCls+1) 0 (clsC c) from zC) lC t7 qJ;have mp7:=(mp'.tch tX qJ qL).tch t7 qJ  (rO (mp'.tch tX qJ qL) lC);have kg:=vB (vB (e:=eSets) hO tX.kx qK qK) kx7 qK qK;have li:=yH (yH (e:=yX) hI tX.kx qK qK) kx7 qK qK;have lH:Tch [n3] h6 n5 h7 n7:=Tch.tch t7 (zA:Tch [n3] h6 n5 (hal (hst (hal h' n' (mkC [str [],nlS] (eCls+1) 0)) n' 0 [str c.name,c.rsv]) (n'+1) (mkC [str c.name] 0 0)) (n'+1+1)) λx hx=>.inl (zQ hv x hx)
     have jX:Tch [] h n h7 n7:=Tch.tch lH jW λx hx=>.inl (by simp at hx;omega);have mm7:=mm.tch jX eE;have zr7:=mm7.clsr c hcm 0;have o7:=w7.one;clear t7 tX lC kx7 hc cM' mp' hO hI ht t0' mm' orow irow crw hv d1 zr;have orow:=kg.1.row qK;have irow:=li.1.row qK;repeat' first|refine wk ?_|apply cX <;> intro
     refine yG (vJ (br:=rb) (ns:=ns) (show Row n7 h7 c.rsv _ 1 c.regs.length (c.regs.map str) from(mm7.clsr c hcm 0).up qJ) (ad _) qJ qJ qJ  (c7.cell rfl) mp7 gok.nd kR) ?_
     rintro v8 h8 n8 ⟨w8,t8⟩
     have jj:=t8.le;obtain⟨s1,s2,s3,rfl⟩:=own_slv w8;have c8:=c7.tch t8 qJ qL;have jK:∀x,Ints n5 (n8+1) (hal h8 n8 x) ofv O:=λx=>vB (e:=eSets) (vB (e:=eSets) kg t8.kx qK qK) (Tch.kx (zA:Tch [] h8 n8 (hal h8 n8 x) (n8+1))) qK qK;repeat' first|refine wk ?_|apply cX <;> intro
     refine appN (jK _).1 (zF (e:=yX) (sz:=1) (len:=1) rfl qK) qK  ⟨rfl,trivial⟩ qJ  ?_
     rintro v9 h9 n9 w9 t9
     have kM:=t9.le;have o9:=w9.one;have tX8:Tch [] h8 n8 (hal h8 n8 (mkC [.slice s1 s2 s3] 0 0)) (n8+1):=zA;have kx9:Kx yX _ _ h9 n9:=kx_own (jK _).1 t9;have k79:Kx yX h7 n7 h9 n9:=Kx.trans (Kx.trans t8.kx tX8.kx) kx9;have c9:=Cel.app (c8.tch tX8 qJ qL) (jK _).1 t9 qJ;have cM9:=Cel.app ((cM7.tch t8 qJ qL).tch tX8 qJ qL) (jK _).1 t9 qJ;have cC9:=Cel.app ((cC7.tch t8 qJ qL).tch tX8 qJ qL) (jK _).1 t9 qJ;have mpX:=(mp7.tch t8 qJ qL).tch tX8 qJ qL;have mp9:=mpX.tch t9 qJ  (rO mpX (jK _).1)
     have lY:Ints n5 n9 h9 v9 (O++[(.slice s1 s2 s3,c.regs.map λr=>((ns.idxOf r:Nat):Int))]):=Lst.app (jK _) w9 qJ  (λy s=>IntEl.kx s kx9 qK) (IntEl.kx (n:=n8+1) (h:=(hal h8 n8 (mkC [.slice s1 s2 s3] 0 0))) (show Own n5 (n8+1) (hal h8 n8 (mkC [.slice s1 s2 s3] 0 0)) (.slice s1 s2 s3) vR 1 (c.regs.map λr=>((ns.idxOf r:Nat):Int)).length ((c.regs.map λr=>((ns.idxOf r:Nat):Int)).map I64) from by
      rw[cV,aD];exact Own.dnl (w8.tch tX8 qL) qJ) kx9 qK)
     have lR:=yH li k79 qK qK;have w79:=w7.kx k79 (.inl qK);have t8X:Tch [n3] h6 n5 (hal h8 n8 (mkC [.slice s1 s2 s3] 0 0)) (n8+1):=Tch.tch tX8 (Tch.tch t8 lH qL) qL;have m9:Tch [n3] h6 n5 h9 n9:=Tch.tch t9 t8X λx hx=>.inl (zQ kg.1 x hx);clear t8 t9 tX8 kx9 k79 cM7 cC7 mp7 mpX kg li w7 lH t8X mm7 zr7 jX jK w8 w9;repeat' first|refine wk ?_|apply cX <;> intro
     have tA:Tch [n3] h9 n9 (hst h9 n3 (0+14) [v9]) n9:=zA;have c10:Cel (hst h9 n3 (0+14) [v9]) n3 zTb 0 (yR m'++[nsv,psv,.map (some rb),.map none,.map none,nlS,v9,inv,nlS,nlS,nlS,nlS,nlS]):=zC;have cM10:=cM9.tch tA qJ qM;have cC10:=cC9.tch tA qJ qM;have mp10:=mp9.tch tA qJ  (by simpa using xH mp9 c9);have iz:=uR lY c9 tA;have hU:=wJ lR c9 tA;have w10:=w79.tch tA (yW (yK c9 w79));have gE:Tch [n3] h6 n5 (hst h9 n3 (0+14) [v9]) n9:=Tch.tch tA m9 λx hx=>.inr hx;have m5:Tch [] h n (hst h9 n3 (0+14) [v9]) n9:=Tch.tch gE jW λx hx=>.inl (by simp at hx;omega);have mm10:=mm.tch m5 eE;clear tA c9 cM9 cC9 mp9 lY lR w79 m9 c7 c8 orow irow;generalize (hst h9 n3 (0+14) [v9])=fM at *
     have irow:=hU.1.row qK;refine yG (vJ (br:=rb) (ns:=ns) (show Row n9 fM c.rsv _ 1 c.regs.length (c.regs.map str) from(mm10.clsr c hcm 0).up qJ) (ad _) qJ qJ qJ  (c10.cell rfl) mp10 gok.nd kR) ?_
     rintro v11 h11 n11 ⟨w11,t11⟩
     have mu:=t11.le;have o11:=w11.one;have c11:=c10.tch t11 qJ qL;repeat' first|refine wk ?_|apply cX <;> intro
     refine yG (of_ret (l:=c.regs.map λr=>((ns.idxOf r:Nat):Int)) (show Row n11 h11 v11 vR 1 _ _ from by
      have:=w11.row qK;rw [cV,aD];exact this) (ad _) (by rw[aD];omega)) ?_
     rintro _ h12 n12 ⟨wv,ws,rfl,hsw,jb,kw,t12⟩
     have hn12:=t12.le;have wone:=kw.one;have c12:=c11.tch t12 qJ qL;have t1012:Tch [] fM n9 h12 n12:=Tch.tch t12 t11 qL;have lS:∀x,Sets n5 (n12+1) (hal h12 n12 x) inv I:=λx=>yH (e:=yX) (yH (e:=yX) hU t1012.kx qK qK) (Tch.kx (zA:Tch [] h12 n12 (hal h12 n12 x) (n12+1))) qK qK;repeat' first|refine wk ?_|apply cX <;> intro
     refine appN (lS _).1 (zF (e:=eSet) (sz:=1) (len:=1) rfl qK) qK  ⟨wone,trivial⟩ qJ  ?_
     rintro v13 h13 n13 w13 t13
     have hn13:=t13.le;have o13:=w13.one;have tX:Tch [] h12 n12 (hal h12 n12 (mkC [wv] 0 0)) (n12+1):=zA;have jF:Kx eSet _ _ h13 n13:=kx_own (lS _).1 t13;have jd:Kx eSet fM n9 h13 n13:=Kx.trans (Kx.trans t1012.kx tX.kx) jF;have gF:=Cel.app (c12.tch tX qJ qL) (lS _).1 t13 qJ;have jq:Sets n5 n13 h13 v13 (I++[(wv,ws)]):=Lst.app (lS _) w13 qJ  (λy s=>SetEl.kx s jF qK) (SetEl.kx (SetEl.kx (e:=yX) (p:=(wv,ws)) ⟨hsw,kw.dnl qJ⟩ tX.kx qK) jF qK);have js:=vB iz jd qK qK;have w1013:=w10.kx jd (.inl qK);have t6X:Tch [n3] h6 n5 (hal h12 n12 (mkC [wv] 0 0)) (n12+1):=Tch.tch tX (Tch.tch t1012 gE qL) qL;have t613:Tch [n3] h6 n5 h13 n13:=Tch.tch t13 t6X λx hx=>.inl (zQ hU.1 x hx);clear t13 tX jF jd lS w13 t6X t1012 t12 t11 w11 kw iz w10 gE m5 mm10;repeat' first|refine wk ?_|apply cX <;> intro
     have tB:Tch [n3] h13 n13 (hst h13 n3 (0+15) [v13]) n13:=zA;have cF:Cel (hst h13 n3 (0+15) [v13]) n3 zTb 0 (yR m'++[nsv,psv,.map (some rb),.map none,.map none,nlS,v9,v13,nlS,nlS,nlS,nlS,nlS]):=zC;have ku:(cNs m)[i]? = some c.name:=by unfold cNs;rw [ao,d0];rfl
     have wF:=(w1013.tch tB (yW (yK gF w1013))).dnl (lo':=n5) qJ 
     exact rnd (i+1,v7) ⟨Tch.tch tB t613 (λx hx=>.inr hx),by dsimp only;omega,by dsimp only;rw [yV ku,aC];exact wF,v9,_,v13,_,cF,uR js gF tB,wJ jq gF tB,by rw[ah,hOl];rfl,by rw[ah,hIl];rfl,λj c' hj e=>by
      dsimp only at hj;rcases ai.1 hj with h9|rfl
      . obtain⟨⟨v,a1⟩,p,a2,a3⟩:=eH j c' h9 e;exact⟨⟨v,by rw[az qJ];exact a1⟩,p,by rw[az qJ];exact a2,a3⟩
      . rw[d0]at e;cases e;refine⟨⟨_,by rw[ax qJ,hOl,bB];rfl⟩,_,by rw[ax qJ,hIl,bB];rfl,λr=>?_⟩;refine bL.2 ((jb r).trans ?_);rw [ap];refine⟨λ⟨h9,_⟩=>?_,λ⟨x,h9,h8⟩=>?_⟩
        . obtain⟨x,h8,h7⟩:=aB.1 h9;exact⟨x,h8,decide_eq_true qJ⟩
        . have h8:=of_decide_eq_true h8;subst h8;have:=bj.2 (kR x h9);exact⟨aB.2 ⟨x,h9,rfl⟩,by dsimp only at iM;omega⟩⟩
   . obtain rfl:i=m.classes.length:=by omega
     have jm:((cNs m).take m.classes.length)=cNs m:=cW qJ;rw [jm]at hv;have gI:=sm.ops;have iA:∀(j:Nat) c,m.classes[j]? = some c->(∃v,O[j]? = some (v,c.regs.map λr=>((ns.idxOf r:Nat):Int)))/\∃p,I[j]? = some p/\∀r:Nat,vY p.2 r=c.regs.any λx=>decide (ns.idxOf x=r):=λj c e=>eH j c (ab.1 e).1 e;have fm:=hv.one;clear eH eD hi;repeat' first|refine wk ?_|apply cX <;> intro
     have hoN:(oNs m).length=m.ops.length:=by unfold oNs;rw [aD]
     refine lpR (α :=Nat×Value) (λa=>[(1,ptr n 0),(5,ptr n3 0),(6,v6),(7,a.2),(83,m.osv),(84,I64 m.ops.length),(85,I64 a.1)]) (λa h2 n2=>Tch [] h' n' h2 n2/\a.1<=m.ops.length/\Own n' n2 h2 a.2 qI 1 a.1 (((oNs m).take a.1).map str)) (λa=>m.ops.length - a.1) (0,nlS) ⟨Tch.refl _ _ _,an _,Own.nil⟩ ?_
     rintro ⟨i,v7⟩ t h7 n7 ⟨t7,hi,hw⟩
     dsimp only at hi hw ⊢;have ir:=t7.le;have jX:Tch [] h n h7 n7:=Tch.tch t7 t0' qL;by_cases eD:i<m.ops.length
     . have d0:m.ops[i]? = some m.ops[i]:=aa eD;generalize m.ops[i]=o at d0
       have ft:=ae d0;have mm7:=mm.tch jX eE;have crw:=mm7.ops 0;have d1:=zM crw d0;have gA:=crw.low qJ;have hro:=(mm7.opsu o ft 0).one;have hro2:=(mm7.opsc o ft 0).one;have honm:(oNs m)[i]? = some o.name:=by unfold oNs;rw [ao,d0];rfl
       repeat' first|refine wk ?_|apply cX <;> intro
       refine appO (hw.tch (S:=[]) zA qL) (zF (e:=qI) (sz:=1) (len:=1) rfl qK) qJ  ⟨rfl,trivial⟩ qJ  ?_
       rintro v8 h8 n8 w8 t8
       have jj:=t8.le;have t9:Tch [] h' n' h8 n8:=Tch.tch t8 zA λx hx=>.inl (zQ hw x hx);repeat' first|refine wk ?_|apply cX <;> intro
       exact rnd (i+1,v8) ⟨t9,by dsimp only;omega,by dsimp only;rw [yV honm,aC];exact w8⟩
     . obtain rfl:i=m.ops.length:=by omega
       rw[cW qJ]at hw;have hone7:=hw.one;have c7:=hc.tch t7 qJ qL;have cM7:=cM'.tch t7 qJ qL;have hv7:=hv.tch t7 qL;have mp7:=mp'.tch t7 qJ qL;have kg:=vB (e:=eSets) hO t7.kx qK qK;have li:=yH (e:=yX) hI t7.kx qK qK;have lH:=Tch.tch t7 ht qL;clear eD hi;repeat' first|refine wk ?_|apply cX <;> intro
       refine yG (numbered_ret (show Row n7 h7 v6 qI 1 (cNs m).length ((cNs m).map str) from by rw[hcN];exact hv7.row qK) (ad _) qJ  (MOK.cnd ok)) ?_
       rintro _ h8 n8 ⟨cb,rfl,cb1,cb2,mc8,t8⟩
       have jj:=t8.le;have hw8:=hw.tch t8 qL;repeat' first|refine wk ?_|apply cX <;> intro
       refine yG (numbered_ret (show Row n8 h8 v7 qI 1 (oNs m).length ((oNs m).map str) from by rw[hoN];exact hw8.row qK) (ad _) qJ  (MOK.ond ok)) ?_
       rintro _ h9 n9 ⟨ob9,rfl,hob1,hob2,mo9,t9⟩
       have kM:=t9.le;have t79:Tch [] h7 n7 h9 n9:=Tch.tch t9 t8 qL;have c9:=c7.tch t79 qJ qL;have cM9:=cM7.tch t79 qJ qL;have mc9:=mc8.tch t9 qJ qL;have mp9:=mp7.tch t79 qJ qL;have lY:=vB (e:=eSets) kg t79.kx qK qK;have lR:=yH (e:=yX) li t79.kx qK qK;have m9:Tch [n3] h6 n5 h9 n9:=Tch.tch t79 lH qL;clear t8 t9 t79 c7 cM7 mc8 mp7 kg li lH t7 hO hI hc cM' hw hw8 hv hv7 ht t0';repeat' first|refine wk ?_|apply cX <;> intro
       have tA:Tch [n3] h9 n9 (hst (hst h9 n3 (0+11) [.map (some cb)]) n3 (0+12) [.map (some ob9)]) n9:=zA;have c10:Cel (hst (hst h9 n3 (0+11) [.map (some cb)]) n3 (0+12) [.map (some ob9)]) n3 zTb 0 (yR m'++[nsv,psv,.map (some rb),.map (some cb),.map (some ob9),nlS,ofv,inv,nlS,nlS,nlS,nlS,nlS]):=zC;have cM10:=cM9.tch tA qJ qM;have mc10:=mc9.tch tA qJ  (by simpa using xH mc9 c9);have mo10:=mo9.tch tA qJ  (by simpa using xH mo9 c9);have mp10:=mp9.tch tA qJ  (by simpa using xH mp9 c9);have iz:=uR lY c9 tA;have hU:=wJ lR c9 tA;have gE:Tch [n3] h6 n5 (hst (hst h9 n3 (0+11) [.map (some cb)]) n3 (0+12) [.map (some ob9)]) n9:=Tch.tch tA m9 λx hx=>.inr hx;have op10:=op6.tch gE (yW (yK c6 op6));have lJ:=cpm_cel cp6 c6 qL  gE;clear tA c9 cM9 mc9 mo9 mp9 lY lR m9;generalize (hst (hst h9 n3 (0+11) [.map (some cb)]) n3 (0+12) [.map (some ob9)])=fM at *
       have hpl2:=gok.len;refine cal (lapping_com c10 qJ  op10 qJ  (by dsimp only at hpl2 iM;omega) gok.pl) ?_
       rintro _ h11 n11 ⟨rfl,t11,lv,L,c11,hL11,iy,hLw⟩
       have mu:=t11.le;have mc11:=mc10.tch t11 qJ  (by simpa using xH mc10 c10);have mo11:=mo10.tch t11 qJ  (by simpa using xH mo10 c10);have mp11:=mp10.tch t11 qJ  (by simpa using xH mp10 c10);have cM11:=cM10.tch t11 qJ qM;have lV:=uR iz c10 t11;have lP:=wJ hU c10 t11;have op11:=op10.tch t11 (yW (yK c10 op10));have lK:=cpm_cel lJ c10 qL  t11;have lh:Tch [n3] h6 n5 h11 n11:=Tch.tch t11 gE λx hx=>.inr hx;clear t11 mc10 mo10 mp10 cM10 iz hU op10 lJ gE c10;have jg:Tch [] h n h11 n11:=Tch.tch lh jW λx hx=>.inl (by simp at hx;omega);have mm11:=mm.tch jg eE;have kz:=ok.conv
       have hain:∀x∈m.args,x∈ns:=λx hx=>by
        obtain⟨i,hi⟩:=aj.1 hx;exact(kz.1.2 i x hi).1
       have mG:∀x∈m.saved,x∈ns:=λx hx=>by
        obtain⟨i,hi⟩:=aj.1 hx;exact(kz.2.2.1.2 i x hi).1
       have hal:m.args.length<=16:=by have:=kz.1.1;omega
       have fB:m.saved.length<=64:=by have:=kz.2.2.1.1;omega
       have a11:=(mm11.args 0).one;have s11:=(mm11.saved 0).one;repeat' first|refine wk ?_|apply cX <;> intro
       refine yG (vJ (e:=qI) (br:=rb) (ns:=ns) ((mm11.args qI).up qJ) (ad _) qJ qJ qJ  (c11.cell rfl) mp11 gok.nd hain) ?_
       rintro v12 h12 n12 ⟨w12,t12⟩
       have hn12:=t12.le;have o12:=w12.one;have c12:=c11.tch t12 qJ qL;have cM12:=cM11.tch t12 qJ qL;have mp12:=mp11.tch t12 qJ qL;have mm12:=mm.tch (Tch.tch t12 jg qL:Tch [] h n h12 n12) eE;clear mm11;repeat' first|refine wk ?_|apply cX <;> intro
       refine yG (vJ (e:=qI) (br:=rb) (ns:=ns) ((mm12.saved qI).up qJ) (ad _) qJ qJ qJ  (c12.cell rfl) mp12 gok.nd mG) ?_
       rintro v13 h13 n13 ⟨w13,t13⟩
       have hn13:=t13.le;have o13:=w13.one;have t1113:Tch [] h11 n11 h13 n13:=Tch.tch t13 t12 qL;have gF:=c12.tch t13 qJ qL;have cM13:=cM12.tch t13 qJ qL;have w12':=w12.tch t13 qL;have mc13:=mc11.tch t1113 qJ qL;have mo13:=mo11.tch t1113 qJ qL;have mp13:=mp12.tch t13 qJ qL;have js:=vB (e:=eSets) lV t1113.kx qK qK;have jq:=yH (e:=yX) lP t1113.kx qK qK;have lT:=yH (e:=yX) hL11 t1113.kx qK qK;have on13:=(on6.tch lh (yW (yK c6 on6))).tch t1113 qL;have op13:=op11.tch t1113 qL;have lL:=cpm_tch lK t1113;have m6:Tch [] h n h13 n13:=Tch.tch t1113 jg qL;clear t12 t13 t1113 w12 mc11 mo11 mp11 mp12 lV lP hL11 on6 op11 op6 lK cp6 mm12 lh c6 mp6 cM6;repeat' first|refine wk ?_|apply cX <;> intro
       have tA:Tch [n3] h13 n13 (hst (hst h13 n3 (0+19) [v12]) n3 (0+18) [v13]) n13:=zA;have gZ:Cel (hst (hst h13 n3 (0+19) [v12]) n3 (0+18) [v13]) n3 zTb 0 (yR m'++[nsv,psv,.map (some rb),.map (some cb),.map (some ob9),lv,ofv,inv,nlS,nlS,v13,v12,nlS]):=zC;have w12:=w12'.tch tA (yW (yK gF w12'));have w13':=w13.tch tA (yW (yK gF w13));have mc14:=mc13.tch tA qJ  (by simpa using xH mc13 gF);have mo14:=mo13.tch tA qJ  (by simpa using xH mo13 gF);have mp14:=mp13.tch tA qJ  (by simpa using xH mp13 gF);have lW:=uR js gF tA;have j9:=wJ jq gF tA;have kb:=wJ lT gF tA;have on14:=on13.tch tA (yW (yK gF on13));have op14:=op13.tch tA (yW (yK gF op13));have cp14:=cpm_cel lL gF qL  tA;have m7:Tch [] h n (hst (hst h13 n3 (0+19) [v12]) n3 (0+18) [v13]) n13:=Tch.tch tA m6 λx hx=>.inl (by simp at hx;omega);have cM14:=cM13.tch tA qJ qM;clear tA gF c11 c12 cM11 cM12 w12' w13 mc13 mo13 mp13 js jq lT on13 op13 lL m6 cM13
       generalize (hst (hst h13 n3 (0+19) [v12]) n3 (0+18) [v13])=h14 at *
       have hK:Opd n2 n13 h14 rb cb m'.osv lv inv m'.ops ns (cNs m) L I:=⟨by rw[cp14.ol];exact cp14.orr,λo ho=>by
        obtain⟨i,hi⟩:=aj.1 ho;have hil:=(ab.1 hi).1;have e1:=cp14.ol;obtain⟨o',e2,e3⟩:=cp14.oe i _ (aa qJ);rw [hi]at e2;cases e2;have:=e3.ru;rw [<- e3.us]at this;exact this,λo ho=>by
        obtain⟨i,hi⟩:=aj.1 ho;have hil:=(ab.1 hi).1;have e1:=cp14.ol;obtain⟨o',e2,e3⟩:=cp14.oe i _ (aa qJ);rw [hi]at e2;cases e2;have:=e3.rc;rw [<- e3.cb]at this;exact this,mp14,mc14,⟨by omega,by omega⟩,sets_dn kb qJ,sets_dn j9 qJ⟩
       have hoO:∀o∈m'.ops,OpdOK ns (cNs m) o:=λo ho=>by
        obtain⟨i,hi⟩:=aj.1 ho;have hil:=(ab.1 hi).1;have e1:=cp14.ol;have e9:m.ops[i]? = some m.ops[i]:=aa qJ;obtain⟨o',e2,e3⟩:=cp14.oe i _ e9;rw [hi]at e2;cases e2;exact MOK.opd ok (ae e9) e3.d e3.us e3.cb
       have gI:=sm.ops;have gP:ps.length=ns.length:=gok.len;refine cal (operands_com hK gZ qJ qJ  gok.nd (MOK.cnd ok) qJ qJ  (by dsimp only at iM;omega) (by rw[cp14.ol];omega) hoO) ?_
       rintro _ h15 n15 ⟨rfl,t15,mv,M,cv,C,c15,hM15,hC15,hMl,hCl,eT⟩
       have hn15:=t15.le;have jh:=w12.tch t15 (yW (yK gZ w12));have jZ:=w13'.tch t15 (yW (yK gZ w13'));have mc15:=mc14.tch t15 qJ  (by simpa using xH mc14 gZ);have mo15:=mo14.tch t15 qJ  (by simpa using xH mo14 gZ);have mp15:=mp14.tch t15 qJ  (by simpa using xH mp14 gZ);have lX:=uR lW gZ t15;have lQ:=wJ j9 gZ t15;have lU:=wJ kb gZ t15;have on15:=on14.tch t15 (yW (yK gZ on14));have op15:=op14.tch t15 (yW (yK gZ op14));have cp15:=cpm_cel cp14 gZ qL  t15;have m8:Tch [] h n h15 n15:=Tch.tch t15 m7 λx hx=>.inl (by simp at hx;omega);clear t15 w12 w13' mc14 mo14 mp14 lW j9 kb on14 op14 m7 cM14 gZ hK;repeat' first|refine wk ?_|apply cX <;> intro
       have w13i:=ixs_row jZ
       refine cal (surviving_com (lo:=n2) c15 qJ  (op15.dnl qJ) (w13i.dnl qJ) qJ  (by dsimp only at iM;omega) (by unfold ixs;rw [aD];omega) gok.pl λs hs=>by
        unfold ixs at hs;obtain⟨x,hx,rfl⟩:=aB.1 hs;exact⟨_,rfl,by have:=bj.2 (mG x hx);omega⟩) ?_
       rintro _ h16 n16 ⟨rfl,t16,kv,ws,c16,hk16,hkw⟩
       have hn16:=t16.le;have t016:Tch [] h n h16 n16:=Tch.tch t16 m8 λx hx=>.inl (by simp at hx;omega);have mT:=mc15.tch t16 qJ  (by simpa using xH mc15 c15);have mU:=mo15.tch t16 qJ  (by simpa using xH mo15 c15);have mV:=mp15.tch t16 qJ  (by simpa using xH mp15 c15)
       have tM:TabM n n16 h16 n3 m ns ps ⟨m',nsv,psv,rb,cb,ob9,lv,ofv,inv,mv,cv,v13,v12,kv,L,O,I,M,C,ws⟩:=⟨⟨by omega,by omega⟩,⟨by dsimp only;omega,by dsimp only;omega,by dsimp only;omega⟩,c16,cpm_dn (cpm_cel cp15 c15 qL  t16) qJ,
        (on15.tch t16 (yW (yK c15 on15))).dnl qJ,(op15.tch t16 (yW (yK c15 op15))).dnl qJ,mV,mT,mU,sets_dn (wJ lU c15 t16) qJ,iy,hLw,ints_dn (uR lX c15 t16) qJ,hOl,λj c e=>(iA j c e).1,sets_dn (wJ lQ c15 t16) qJ,hIl,λj c e=>(iA j c e).2,
        mays_dn (mays_cel hM15 c15 t16) qJ,by have:=cp15.ol;dsimp only;omega,ints_dn (uR hC15 c15 t16) qJ,by have:=cp15.ol;dsimp only;omega,λj o e=>by
         obtain⟨o',e2,e3⟩:=cp15.oe j o e;have e4:=eT j o' e2;rw [e3.cb,e3.d,e3.us]at e4;obtain⟨e5,sv,S,e6,e7,e8⟩:=e4;refine⟨e5,sv,S,e6,e7,λk x p g1 g2 r=>?_⟩;rw [e8 k x p g1 g2 r];unfold mayF;rw [e3.cb],
        (w13i.tch t16 (yW (yK c15 w13i))).dnl qJ,((ixs_row jh).tch t16 (yW (yK c15 jh))).dnl qJ,⟨hk16.1,hk16.2.dnl qJ⟩,hkw⟩
       clear cp15 mc15 mo15 mp15 mT mU mV lX lQ lU on15 op15 jh jZ w13i c15 c16 t16 m8 hM15 hC15 eT iA;repeat' first|refine wk ?_|apply cX <;> intro
       exact⟨0,he,t016,.inr ⟨rfl,n3,ns,ps,_,rfl,ok,tM⟩⟩
 . repeat' first|refine wk ?_|apply cX <;> intro
   exact⟨e,he,gu,.inl ⟨e0,rfl⟩⟩
end
section
theorem long_com{lo e n:Nat}{h:zB}{sv:Value}{l:List Tx}(r:Row lo h sv e 1 l.length (l.map str))(hl:l.length<wM)(ht:∀x∈l,x.length<wM):Com P 8 16 [sv] h n λo h' n'=>∃k:Nat,o = .ret (I64 (k:Nat))/\k<2*wM/\h'=h/\n'=n:=by
 have eM:wM=1125899906842624:=rfl;refine ent λu=>?_;repeat' first|refine wk ?_|apply cX <;> intro
 refine lpR (α :=Nat×Nat) (λa=>[(0,sv),(3,I64 a.2),(4,I64 a.1)]) (λa h' n'=>h'=h/\n'=n/\a.1<=l.length/\a.2<2*wM) (λa=>l.length - a.1) (0,l.length) ⟨rfl,rfl,an _,by dsimp only;omega⟩ ?_
 rintro ⟨i,k⟩ t h' n' ⟨rfl,rfl,hi,hk⟩
 dsimp only at hi hk ⊢;by_cases eD:i<l.length
 . have c0:l[i]? = some l[i]:=aa eD;have hx:=ht _ (aM eD);generalize l[i]=x at c0 hx
   have c1:=yE r c0;by_cases hg:k<=5000
   . repeat' first|refine wk ?_|apply cX <;> intro
     exact rnd (i+1,k+x.length / 8) ⟨rfl,rfl,by omega,by dsimp only;omega⟩
   . repeat' first|refine wk ?_|apply cX <;> intro
     exact⟨k,rfl,by omega,rfl,rfl⟩
 . obtain rfl:i=l.length:=by omega
   repeat' first|refine wk ?_|apply cX <;> intro
   exact⟨k,rfl,by omega,rfl,rfl⟩
theorem size_com:∀(d:Nat) {l:List RegT} {x:Int} {sv:Value} {lo n:Nat} {h:zB},d<=30->x=(d:Nat)->RegsM lo h sv l->lo<=n->TxtR l->Com P 8 15 [sv,I64 x] h n λo h' n'=>∃k:Nat,o = .ret (I64 (k:Nat))/\k<(d+1)*9007199254740992/\h'=h/\n'=n:=by
 intro d
 induction d with
 | zero=>
  rintro l x sv lo n h - rfl hr eE ht
  have r:=hr.row 0;have hl:=ht.len;have mh:wM=1125899906842624:=rfl;refine ent λu=>?_;repeat' first|refine wk ?_|apply cX <;> intro
  refine lpR (λ_:Nat=>[(0,sv),(1,I64 ((0:Nat):Int)),(5,I64 l.length),(6,I64 0)]) (λ_ h' n'=>h'=h/\n'=n) (λ_=>0) 0 ⟨rfl,rfl⟩ ?_
  rintro i t h' n' ⟨rfl,rfl⟩
  by_cases eD:0<l.length
  . repeat' first|refine wk ?_|apply cX <;> intro
    . exact⟨5001,rfl,by omega,rfl,rfl⟩
    . exact⟨l.length,rfl,by omega,rfl,rfl⟩
  . repeat' first|refine wk ?_|apply cX <;> intro
    exact⟨l.length,rfl,by omega,rfl,rfl⟩
 | succ d ih=>
  rintro l x sv lo n h hd rfl hr eE ht
  have eM:wM=1125899906842624:=rfl;have r:=hr.row 0;have hl:=ht.len;have mh:wM=1125899906842624:=rfl;refine ent λu=>?_;repeat' first|refine wk ?_|apply cX <;> intro
  refine lpR (α :=Nat×Nat) (λa=>[(0,sv),(1,I64 ((d+1:Nat):Int)),(5,I64 a.2),(6,I64 a.1)]) (λa h' n'=>h'=h/\n'=n/\a.1<=l.length/\a.2<(d+1+1)*9007199254740992) (λa=>l.length - a.1) (0,l.length) ⟨rfl,rfl,an _,by dsimp only;omega⟩ ?_
  rintro ⟨i,k⟩ t h' n' ⟨rfl,rfl,hi,hk⟩
  dsimp only at hi hk ⊢;by_cases eD:i<l.length
  . have c0:l[i]? = some l[i]:=aa eD;generalize l[i]=x at c0
    have hm:=ae c0;obtain⟨hx,hs⟩:=ht.at hm;have c1:=yT (zM r c0) (j:=0) rfl;have low:=r.low qJ;have c3:=yT (zM r c0) (j:=3) rfl;by_cases hg:k<=5000
    . repeat' first|refine wk ?_|apply cX <;> intro
      refine cal (ih qJ qJ  (hr.sub hm) eE hs) ?_
      rintro _ _ _ ⟨k2,rfl,hk2,rfl,rfl⟩
      repeat' first|refine wk ?_|apply cX <;> intro
      exact rnd (i+1,k+x.name.length / 8+k2) ⟨rfl,rfl,by omega,by dsimp only;omega⟩
    . repeat' first|refine wk ?_|apply cX <;> intro
      exact⟨k,rfl,by omega,rfl,rfl⟩
  . obtain rfl:i=l.length:=by omega
    repeat' first|refine wk ?_|apply cX <;> intro
    exact⟨k,rfl,by omega,rfl,rfl⟩
end
section
variable {lo n:Nat} {h:zB} {m:MachT}
theorem bn_quo8s{P:Program}{ty:Nat}{ox oy:Operand}{a b:Nat}(h:((a+b:Nat):Int)<9223372036854775808):Bn P .quo ty ox oy (I64 ((a:Nat)+(b:Nat))) (I64 8) (I64 (((a+b) / 8:Nat):Int)):=by
 rw[<- Int.natCast_add];exact bn_quo8 h
theorem big_com(mm:MachM lo h m)(eE:lo<=n)(tx:TxtM m):Com P 8 5 [.agg ⟨yR m⟩] h n λo h' n'=>∃b,o = .ret (.bool b)/\Tch [] h n h' n':=by
 obtain⟨o1,o2,o3,o4,o5⟩:=sS mm;have ht:wM=1125899906842624:=rfl;have g0:=tx.nm;have g5:=tx.re;have g2:=tx.cll;have g3:=tx.opl;refine ent λu=>?_;repeat' first|refine wk ?_|apply cX <;> intro
 have t1:Tch [] h n (hal h n (mkC (yR m) zMc 0)) (n+1):=zA;have c1:Cel (hal h n (mkC (yR m) zMc 0)) n zMc 0 (yR m):=cel_hal _ _ _ _ _;have m1:=mm.tch t1 eE;have za:=m1.args 0;have zs:=m1.saved 0;have zr:=m1.regs.row 0;have zc:=m1.cls 0;have zo:=m1.ops 0;generalize hal h n (mkC (yR m) zMc 0)=h1 at *
 refine cal (size_com 30 (ad _) rfl m1.regs qJ  tx.rg) ?_
 rintro _ _ _ ⟨k1,rfl,hk1,rfl,rfl⟩
 repeat' first|refine wk ?_|apply cX <;> intro
 refine cal (long_com (m1.args 0) tx.ar.1 tx.ar.2) ?_
 rintro _ _ _ ⟨k2,rfl,hk2,rfl,rfl⟩
 repeat' first|refine wk ?_|apply cX <;> intro
 refine cal (long_com (m1.saved 0) tx.sv.1 tx.sv.2) ?_
 rintro _ _ _ ⟨k3,rfl,jw,rfl,rfl⟩
 repeat' first|refine wk ?_|apply cX <;> intro
 refine lpR (α :=Nat×Nat) (λa=>[(1,ptr n 0),(3,I64 a.2),(4,I64 a.1)]) (λa h' n'=>h'=_/\n'=n+1/\a.1<=m.classes.length/\a.2<33*9007199254740992) (λa=>m.classes.length - a.1) (0,k1+k2+k3+m.name.length / 8+m.result.length / 8) ⟨rfl,rfl,an _,by dsimp only;omega⟩ ?_
 rintro ⟨i,k⟩ t h' n' ⟨rfl,rfl,hi,hk⟩
 dsimp only at hi hk ⊢;by_cases eD:i<m.classes.length/\k<=5000
 . obtain⟨eD,hg⟩:=eD;have d0:m.classes[i]? = some m.classes[i]:=aa eD;generalize m.classes[i]=c at d0
   have hcm:=ae d0;obtain⟨x1,x2⟩:=tx.cl c hcm;have d1:=yT (zM zc d0) (j:=0) rfl;have d2:=yT (zM zc d0) (j:=1) rfl;have low:=zc.low qJ;have zr2:=m1.clsr c hcm 0;repeat' first|refine wk ?_|apply cX <;> intro
   refine cal (long_com zr2 x2.1 x2.2) ?_
   rintro _ _ _ ⟨q,rfl,hq,rfl,rfl⟩
   repeat' first|refine wk ?_|apply cX <;> intro
   exact rnd (i+1,k+1+q+c.name.length / 8) ⟨rfl,rfl,by omega,by dsimp only;omega⟩
 . by_cases eK:i<m.classes.length
   . have hg:¬k<=5000:=λh9=>eD ⟨eK,h9⟩;repeat' first|refine wk ?_|apply cX <;> intro
     have cM:=c1;have tM:=t1;refine lpR (α :=Nat×Nat) (λa=>[(1,ptr n 0),(3,I64 a.2),(5,I64 a.1)]) (λa h2 n2=>Tch [] h n h2 n2/\n+1<=n2/\Cel h2 n zMc 0 (yR m)/\a.1<=m.ops.length/\a.2<64*9007199254740992) (λa=>m.ops.length - a.1) (0,k) ⟨t1,ad _,c1,an _,by dsimp only;omega⟩ ?_
     rintro ⟨i2,k4⟩ t h2 n2 ⟨t2,hn2,c2,fh,hk4⟩
     dsimp only at fh hk4 ⊢;have m2:=mm.tch t2 eE;have zo2:=m2.ops 0;by_cases hlt3:i2<m.ops.length
     . by_cases hg3:k4<=5000
       . have d0:m.ops[i2]? = some m.ops[i2]:=aa hlt3;generalize m.ops[i2]=o at d0
         have ft:=ae d0;obtain⟨x1,x2,x3,x4,x5,x6⟩:=tx.op o ft;have d1:=zM zo2 d0;have low:=zo2.low qJ;have zu:=m2.opsu o ft 0;have zv:=m2.opsc o ft 0;have ou1:=zu.one;have oc1:=zv.one;repeat' first|refine wk ?_|refine cX (λ_=>?_) λ_=>?_|refine ob (a:=_) ?_ (bn_quo8s qJ)|fail
         have t3:Tch [] h n (hst (hal h2 n2 (mkC [str [],str [],str [],.slice none 0 0,I64 0,.slice none 0 0] (eOp+1) 0)) n2 0 (opC o)) (n2+1):=zA;have cO:Cel (hst (hal h2 n2 (mkC [str [],str [],str [],.slice none 0 0,I64 0,.slice none 0 0] (eOp+1) 0)) n2 0 (opC o)) n2 (eOp+1) 0 (opC o):=zC;have cM3:Cel (hst (hal h2 n2 (mkC [str [],str [],str [],.slice none 0 0,I64 0,.slice none 0 0] (eOp+1) 0)) n2 0 (opC o)) n zMc 0 (yR m):=zC;have m3:=mm.tch t3 eE;generalize (hst (hal h2 n2 (mkC [str [],str [],str [],.slice none 0 0,I64 0,.slice none 0 0] (eOp+1) 0)) n2 0 (opC o))=h3 at *
         have zu3:=m3.opsu o ft 0;have zv3:=m3.opsc o ft 0;refine cal (long_com zv3 x6.1 x6.2) ?_
         rintro _ _ _ ⟨q5,rfl,hq5,rfl,rfl⟩
         repeat' first|refine wk ?_|refine cX (λ_=>?_) λ_=>?_|refine ob (a:=_) ?_ (bn_quo8s qJ)|fail
         refine lpR (α :=Nat×Nat) (λa=>[(1,ptr n 0),(3,I64 a.2),(5,I64 i2),(6,ptr n2 0),(7,I64 a.1)]) (λa h5 n5=>h5=_/\n5=n2+1/\a.1<=o.uses.length/\a.2<63*9007199254740992) (λa=>o.uses.length - a.1) (0,k4+2+q5+o.name.length / 8+(o.d.cls.length+o.d.fix.length) / 8+o.uses.length) ⟨rfl,rfl,an _,by dsimp only;omega⟩ ?_
         rintro ⟨e,k6⟩ t h5 n5 ⟨rfl,rfl,he,hk6⟩
         dsimp only at he hk6 ⊢;by_cases hlt4:e<o.uses.length
         . by_cases hg4:k6<=5000
           . have e0:o.uses[e]? = some o.uses[e]:=aa hlt4;generalize o.uses[e]=x at e0
             obtain⟨y1,y2⟩:=x5 x (ae e0);have e1:=yT (zM zu3 e0) (j:=0) rfl;have e2:=yT (zM zu3 e0) (j:=1) rfl;have jf:=zu3.low qJ;repeat' first|refine wk ?_|refine cX (λ_=>?_) λ_=>?_|refine ob (a:=_) ?_ (bn_quo8s qJ)|fail
             exact rnd (e+1,k6+(x.cls.length+x.fix.length) / 8) ⟨rfl,rfl,by omega,by dsimp only;omega⟩
           . repeat' first|refine wk ?_|apply cX <;> intro
             exact rnd (i2+1,k6) ⟨t3,by omega,cM3,by dsimp only;omega,by dsimp only;omega⟩
         . obtain rfl:e=o.uses.length:=by omega
           repeat' first|refine wk ?_|apply cX <;> intro
           exact rnd (i2+1,k6) ⟨t3,by omega,cM3,by dsimp only;omega,by dsimp only;omega⟩
       . repeat' first|refine wk ?_|apply cX <;> intro
         exact⟨_,rfl,t2⟩
     . obtain rfl:i2=m.ops.length:=by omega
       repeat' first|refine wk ?_|apply cX <;> intro
       exact⟨_,rfl,t2⟩
   . obtain rfl:i=m.classes.length:=by omega
     repeat' first|refine wk ?_|apply cX <;> intro
     have cM:=c1;have tM:=t1;refine lpR (α :=Nat×Nat) (λa=>[(1,ptr n 0),(3,I64 a.2),(5,I64 a.1)]) (λa h2 n2=>Tch [] h n h2 n2/\n+1<=n2/\Cel h2 n zMc 0 (yR m)/\a.1<=m.ops.length/\a.2<64*9007199254740992) (λa=>m.ops.length - a.1) (0,k) ⟨t1,ad _,c1,an _,by dsimp only;omega⟩ ?_
     rintro ⟨i2,k4⟩ t h2 n2 ⟨t2,hn2,c2,fh,hk4⟩
     dsimp only at fh hk4 ⊢;have m2:=mm.tch t2 eE;have zo2:=m2.ops 0;by_cases hlt3:i2<m.ops.length
     . by_cases hg3:k4<=5000
       . have d0:m.ops[i2]? = some m.ops[i2]:=aa hlt3;generalize m.ops[i2]=o at d0
         have ft:=ae d0;obtain⟨x1,x2,x3,x4,x5,x6⟩:=tx.op o ft;have d1:=zM zo2 d0;have low:=zo2.low qJ;have zu:=m2.opsu o ft 0;have zv:=m2.opsc o ft 0;have ou1:=zu.one;have oc1:=zv.one;repeat' first|refine wk ?_|refine cX (λ_=>?_) λ_=>?_|refine ob (a:=_) ?_ (bn_quo8s qJ)|fail
         have t3:Tch [] h n (hst (hal h2 n2 (mkC [str [],str [],str [],.slice none 0 0,I64 0,.slice none 0 0] (eOp+1) 0)) n2 0 (opC o)) (n2+1):=zA;have cO:Cel (hst (hal h2 n2 (mkC [str [],str [],str [],.slice none 0 0,I64 0,.slice none 0 0] (eOp+1) 0)) n2 0 (opC o)) n2 (eOp+1) 0 (opC o):=zC;have cM3:Cel (hst (hal h2 n2 (mkC [str [],str [],str [],.slice none 0 0,I64 0,.slice none 0 0] (eOp+1) 0)) n2 0 (opC o)) n zMc 0 (yR m):=zC;have m3:=mm.tch t3 eE;generalize (hst (hal h2 n2 (mkC [str [],str [],str [],.slice none 0 0,I64 0,.slice none 0 0] (eOp+1) 0)) n2 0 (opC o))=h3 at *
         have zu3:=m3.opsu o ft 0;have zv3:=m3.opsc o ft 0;refine cal (long_com zv3 x6.1 x6.2) ?_
         rintro _ _ _ ⟨q5,rfl,hq5,rfl,rfl⟩
         repeat' first|refine wk ?_|refine cX (λ_=>?_) λ_=>?_|refine ob (a:=_) ?_ (bn_quo8s qJ)|fail
         refine lpR (α :=Nat×Nat) (λa=>[(1,ptr n 0),(3,I64 a.2),(5,I64 i2),(6,ptr n2 0),(7,I64 a.1)]) (λa h5 n5=>h5=_/\n5=n2+1/\a.1<=o.uses.length/\a.2<63*9007199254740992) (λa=>o.uses.length - a.1) (0,k4+2+q5+o.name.length / 8+(o.d.cls.length+o.d.fix.length) / 8+o.uses.length) ⟨rfl,rfl,an _,by dsimp only;omega⟩ ?_
         rintro ⟨e,k6⟩ t h5 n5 ⟨rfl,rfl,he,hk6⟩
         dsimp only at he hk6 ⊢;by_cases hlt4:e<o.uses.length
         . by_cases hg4:k6<=5000
           . have e0:o.uses[e]? = some o.uses[e]:=aa hlt4;generalize o.uses[e]=x at e0
             obtain⟨y1,y2⟩:=x5 x (ae e0);have e1:=yT (zM zu3 e0) (j:=0) rfl;have e2:=yT (zM zu3 e0) (j:=1) rfl;have jf:=zu3.low qJ;repeat' first|refine wk ?_|refine cX (λ_=>?_) λ_=>?_|refine ob (a:=_) ?_ (bn_quo8s qJ)|fail
             exact rnd (e+1,k6+(x.cls.length+x.fix.length) / 8) ⟨rfl,rfl,by omega,by dsimp only;omega⟩
           . repeat' first|refine wk ?_|apply cX <;> intro
             exact rnd (i2+1,k6) ⟨t3,by omega,cM3,by dsimp only;omega,by dsimp only;omega⟩
         . obtain rfl:e=o.uses.length:=by omega
           repeat' first|refine wk ?_|apply cX <;> intro
           exact rnd (i2+1,k6) ⟨t3,by omega,cM3,by dsimp only;omega,by dsimp only;omega⟩
       . repeat' first|refine wk ?_|apply cX <;> intro
         exact⟨_,rfl,t2⟩
     . obtain rfl:i2=m.ops.length:=by omega
       repeat' first|refine wk ?_|apply cX <;> intro
       exact⟨_,rfl,t2⟩
end
section
variable {lo n:Nat} {h:zB} {m:MachT}
theorem TabM.dn{lo lo' n bt:Nat}{h:zB}{m:MachT}{ns:List Tx}{ps:List Pl}{v:TabV}(k:TabM lo n h bt m ns ps v)(hl:lo'<=lo):TabM lo' n h bt m ns ps v:=⟨⟨by have:=k.hb;omega,k.hb.2⟩,k.hr,k.cel,cpm_dn k.cp hl,k.on.dnl hl,k.op.dnl hl,k.mr,k.mc,k.mo,sets_dn k.lap hl,k.lapl,k.lapw,ints_dn k.ofs hl,k.ofl,k.ofe,sets_dn k.ins hl,k.inl,k.ine,mays_dn k.may hl,k.mayl,ints_dn k.clob hl,k.clol,k.ope,k.sv.dnl hl,k.av.dnl hl,⟨k.ks.1,k.ks.2.dnl hl⟩,k.ksw⟩
theorem lmake_com(mm:MachM lo h m)(eE:lo<=n):Com P 8 7 [.agg ⟨yR m⟩] h n λo h' n'=>Tch [] h n h' n'/\(o = .ret (.tuple ⟨[.pointer none,.pointer none,.bool true]⟩)\/∃bt bt2 v nsv psv kv kvs ns ps,o = .ret (.tuple ⟨[ptr bt 0,ptr bt2 0,.bool true]⟩)/\MOK m ns ps/\TabM n n' h' bt m ns ps v/\Tc n' h' bt2 zTab m nsv psv kv ns ps kvs):=by
 obtain⟨o1,o2,o3,o4,o5⟩:=sS mm;refine ent λu=>?_;repeat' first|refine wk ?_|apply cX <;> intro
 refine cal (make_com (MachM.tch zA eE mm) qJ) ?_
 rintro _ h2 n2 ⟨e,he,t2,hr⟩
 have hn2:=t2.le;have cM:Cel h2 n zMc 0 (yR m):=zC;have gu:Tch [] h n h2 n2:=zA;clear t2;rcases hr with⟨e0,rfl⟩|⟨rfl,bt,ns,ps,v,rfl,ok,tm⟩
 . repeat' first|refine wk ?_|apply cX <;> intro
   refine cal (rmake_com (MachM.tch zA eE mm) qJ) ?_
   rintro _ h3 n3 ⟨e',ip,t3,hr'⟩
   obtain rfl:=makeE_fun he ip;have eS:=t3.le;have fo:Tch [] h n h3 n3:=zA;rcases hr' with⟨_,rfl⟩|⟨h9,_⟩
   . repeat' first|refine wk ?_|apply cX <;> intro
     . rename_i f1;exact absurd f1 qK 
     . exact⟨fo,.inl rfl⟩
   . exact absurd h9 e0
 . repeat' first|refine wk ?_|apply cX <;> intro
   refine cal (rmake_com (MachM.tch zA eE mm) qJ) ?_
   rintro _ h3 n3 ⟨e',ip,t3,hr'⟩
   obtain rfl:=makeE_fun he ip;have eS:=t3.le;have fo:Tch [] h n h3 n3:=zA;rcases hr' with⟨h9,_⟩|⟨_,bt2,nsv,psv,kv,kvs,s,rfl,hbt2,hg,hgo,tc,ok2⟩
   . exact absurd rfl h9
   . have hgg:=ok.geo;rw [hg]at hgg;obtain rfl:=Except.ok.inj hgg;have tm3:=tm.tch t3;repeat' first|refine wk ?_|apply cX <;> intro
     . rename_i f1;exact absurd f1 qK 
     . exact⟨fo,.inr ⟨bt,bt2,v,nsv,psv,kv,kvs,ns,ps,rfl,ok,tm3.dn qJ,tc⟩⟩
end
end Go.Proofs.YtdiejolnllipnaaGreatDoor
