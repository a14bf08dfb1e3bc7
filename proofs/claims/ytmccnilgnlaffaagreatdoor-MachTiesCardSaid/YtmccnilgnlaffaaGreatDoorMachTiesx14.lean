/- What the law leans on: an executor of the model that is sound, deduction over it, and the walks through the code (part 14 of 18). Conditions: those that each theorem states. -/
import Derived.Test.YtmccnilgnlaffaaGreatDoorMachTiesx13

set_option linter.unusedVariables false
set_option linter.unusedSimpArgs false
namespace Go.Proofs.YtmccnilgnlaffaaGreatDoor
open Go Go.Ex Go.Ex.M
set_option maxRecDepth 100000
set_option maxHeartbeats 8000000
attribute [local simp] xV
variable {n0 n bw br:Nat} {h:zB} {nsv psv wsv:Value} {ns:List Tx} {ps:List Pl} {wm:List WayM} {roots:Int}
theorem one_com0{x:RegT}{dn:Nat}{top:WayM}(g:Gw n0 h n bw br [nsv,psv,.map (some br),wsv,I64 roots] nsv psv wsv ns ns ps wm)(hd7:dn≤7)(hd0:dn=0)(htop:wm[dn]? = some top)(hroots:dn=0→roots=(top.2.2.length:Nat))(hx:x.sv.oneCell'=true)(hok:GOK ⟨ns,ps⟩)(hpg:0<dn→PlG top.1)(hsib:∀q∈top.2.2,PlG q)(hlim:top.2.2.length≤200)(hwl:wm.length≤10):Com P 8 85 [ptr bw 0,.agg ⟨deepC (x,((dn+1:Nat):Int))⟩] h n fun o h' n'=>KeepR n0 bw br h n h' n'∧
    ((∃e,tK ((dn+1:Nat):Int) top.1 top.2.2 ⟨ns,ps⟩ x = .error e∧o = .panic (stopG e))∨
     ∃p nsv' psv' wsv' v',tK ((dn+1:Nat):Int) top.1 top.2.2 ⟨ns,ps⟩ x = .ok p∧o = .ret (.tuple #[])∧Gw n0 h' n' bw br [nsv',psv',.map (some br),wsv',I64 (if dn=0 then roots+1 else roots)] nsv' psv' wsv' (ns++[x.name]) (ns++[x.name]) (ps++[p]) ((wm.take (dn+1)).set dn (top.1,v',top.2.2++[p])++[(p,.slice none 0 0,[])])):=by
  have hdl:=(List.getElem?_eq_some_iff.1 htop).1;obtain⟨b1,b2,b3,b4⟩:=g.hb;have hcw0:=g.cel;have on1:=g.on.one;have op1:=g.op.one;have rn0:=g.on.row (by decide);have hnl:=hok.le;have hnl:ns.length≤200:=hnl
  have bad:∀e:Int,tK ((dn+1:Nat):Int) top.1 top.2.2 ⟨ns,ps⟩ x = .error e→∀h2 n2,Tch [bw] h n h2 n2→KeepR n0 bw br h n h2 n2∧((∃e',tK ((dn+1:Nat):Int) top.1 top.2.2 ⟨ns,ps⟩ x = .error e'∧Out.panic (stopG e) = .panic (stopG e'))∨
     ∃p nsv' psv' wsv' v',tK ((dn+1:Nat):Int) top.1 top.2.2 ⟨ns,ps⟩ x = .ok p∧Out.panic (stopG e) = .ret (.tuple #[])∧Gw n0 h2 n2 bw br [nsv',psv',.map (some br),wsv',I64 (if dn=0 then roots+1 else roots)] nsv' psv' wsv' (ns++[x.name]) (ns++[x.name]) (ps++[p]) ((wm.take (dn+1)).set dn (top.1,v',top.2.2++[p])++[(p,.slice none 0 0,[])])):=fun e he h2 n2 t2=>
    ⟨(KeepR.refl n0 bw br h n).step t2 fun b hb=>by simp at hb;subst hb;exact kp_bw b1,.inl ⟨e,he,rfl⟩⟩
  have g0:=g.tch (h':=hal h n (mkC (deepC (x,((dn+1:Nat):Int))) zDp 0)) (n':=n+1) zA;refine ent fun u=>?_;by_cases hin:x.name∈ns
  · obtain⟨A,B,e1,e2⟩:=sJ (idx_at hin) hok.nd;have mp:=g0.mp;rw [e1]at mp;have lk2:yQ P (hal h n (mkC (deepC (x,((dn+1:Nat):Int))) zDp 0)) tMap (.map (some br)) (str x.name) true=some (.tuple ⟨[I64 (ns.idxOf x.name:Nat),.bool true]⟩):=lku_at (P:=P) (ty:=tMap) (ok:=true) mp e2;repeat' first|refine wk ?_|refine cX (fun _=>?_) fun _=>?_|fail
    · rename_i f1 f2 f3;exact bad 5 (gOne5 (by omega) (by show ¬200≤ns.length;omega) (.inr hin)) _ _ zA
    · rename_i f1 f2 f3;exact bad 5 (gOne5 (by omega) (by show ¬200≤ns.length;omega) (.inr hin)) _ _ zA
    · exact bad 2 (gOne2 (by omega) (by show 200≤ns.length;omega)) _ _ zA
  have lk2:yQ P (hal h n (mkC (deepC (x,((dn+1:Nat):Int))) zDp 0)) tMap (.map (some br)) (str x.name) true=some (.tuple ⟨[I64 0,.bool false]⟩):=lku_no (P:=P) (ty:=tMap) g0.mp fun p hp e=>hin (e ▸ numL_key hp);obtain⟨wsv1,hsl,hcut0,hblk⟩:=way_cut (P:=P) (ty:=158) (k:=dn+1) g0.ow (by omega) (by decide);obtain⟨bb,cap,rfl,hbb1,hbb2⟩:=way_sl hcut0;have hbw:bb≠bw:=fun e=>way_cel hcut0 g0.cel (by decide) (by rw[← e];rfl);have hbn:bb<n:=(g.ow.blk (b:=bb) (by rw[← hblk];rfl)).2
  have hcut:WayR n0 n h (.slice (some ⟨bb,0,none⟩) (dn+1) cap) eAr 4 (dn+1) ((wm.flatMap wayC).take ((dn+1)*4)):=way_back hcut0 fun b hb=>by
    injection hb with hb
    have hb:bb=b:=hb;subst hb;exact⟨hbn,by rw[zM,if_neg (by omega)]⟩
  have htk:(wm.take (dn+1))[dn]? = some top:=by rw[List.getElem?_take_of_lt (Nat.lt_succ_self _)];exact htop
  have ycell:∀(j:Nat) v,(wayC top)[j]? = some v→zC h bb (dn*4+j)=some v:=fun j v hj=>way_cell hcut (by
    rw[List.getElem?_take_of_lt (by have:=(List.getElem?_eq_some_iff.1 hj).1;simp at this;omega)];exact uA (f:=wayC) (sz:=4) (fun _=>rfl) htop hj)
  have y0:zC h bb (dn*4+0+0)=some (I64 top.1.root):=ycell 0 _ rfl;have y1:zC h bb (dn*4+0+1)=some (I64 top.1.at_):=ycell 1 _ rfl;have y2:zC h bb (dn*4+0+2)=some (I64 top.1.width):=ycell 2 _ rfl;have y3:zC h bb (dn*4+3)=some top.2.1:=ycell 3 _ rfl;have qr:=(g.oi dn top htop).row (by decide);clear ycell;have h2e:∀{G:Prop},(¬200≤(⟨ns,ps⟩:GSt).ns.length→G)→ns.length<200→G:=fun k h9=>k (by show ¬200≤ns.length;omega);have hrt:=hroots hd0;repeat' first|refine wk ?_|refine cX (fun _=>?_) fun _=>?_|refine ob (a:=ptr bb (dn*4)) ?_ (iadw (by omega))|fail
  all_goals dsimp only at *
  · rename_i f1 hnm f2 f3 f4 f5;have hni:x.name∉ns:=hin;have hwd:¬(x.w<1∨64<x.w∨x.a<0∨(((dn+1:Nat):Int)=1∧x.a≠0)∨(((dn+1:Nat):Int)≠1∧top.1.width - x.w<x.a)):=by omega
    have hw:gPl ((dn+1:Nat):Int) top.1 top.2.2 x=⟨roots,x.a,x.w⟩:=by unfold gPl;rw [if_pos (by omega),hrt]
    have hpG:PlG ⟨roots,x.a,x.w⟩:=by unfold PlG;dsimp only;omega
    have hif:(if dn=0 then roots+1 else roots)=roots+1:=if_pos hd0;refine lpR (fun q:Nat=>[(0,ptr bw 0),(3,ptr n 0),(6,ptr bb (dn*4)),(7,ptr (n+1) 0),(135,top.2.1),(136,I64 (top.2.2.length:Nat)),(137,I64 q)]) (fun q h2 n2=>Tch [bw] h n h2 n2∧n+2≤n2∧Cel h2 n zDp 0 (deepC (x,((dn+1:Nat):Int)))∧Cel h2 (n+1) (ePl+1) 0 (plC (⟨roots,x.a,x.w⟩:Pl))∧Cel h2 bw zW 0 [nsv,psv,.map (some br),.slice (some ⟨bb,0,none⟩) (dn+1) cap,I64 (roots+1)]∧q≤top.2.2.length∧∀(j:Nat) y,j<q→top.2.2[j]? = some y→lapB (⟨roots,x.a,x.w⟩:Pl) y=false) (fun q=>top.2.2.length - q) 0 ⟨zA,by omega,zD,zD,zD,Nat.zero_le _,fun j _ hj=>absurd hj (Nat.not_lt_zero _)⟩ ?_;generalize (⟨roots,x.a,x.w⟩:Pl)=p at *
    generalize hrf:(roots+1)=roots' at *
    rintro q t h2 n2 ⟨ht2,hn2,hcr,hcp,hcw,hq,hno⟩
    have ro2:=(g.oi dn top htop).tch ht2 (yJ (zZ g.cel (g.oi dn top htop)));have rw2:=ro2.row (by decide);by_cases hlt2:q<top.2.2.length
    · have d0:top.2.2[q]? = some top.2.2[q]:=List.getElem?_eq_getElem hlt2;generalize top.2.2[q]=y at d0
      have d1:=yE rw2 d0;have hly:=rw2.low (by omega);repeat' first|refine wk ?_|refine cX (fun _=>?_) fun _=>?_|refine wM (lap_pur _ _ hpG.ok (hsib y (List.mem_of_getElem? d0)).ok _ _) ?_|fail
      · rename_i f1
        exact rnd (q+1) ⟨zA,by omega,zG,zG,zG,by omega,fun j w hj e=>by
          rcases Nat.lt_succ_iff_lt_or_eq.1 hj with h9|rfl
          · exact hno j w h9 e
          · rw[d0]at e;cases e;exact f1⟩
      · rename_i f1;exact bad 7 (gOne7 (by omega) (by show ¬200≤ns.length;omega) hnm hni hwd (List.any_eq_true.2 ⟨y,List.mem_of_getElem? d0,by rw[hw];exact f1⟩)) _ _ zA
    · obtain rfl:q=top.2.2.length:=by omega
      have hgo:tK ((dn+1:Nat):Int) top.1 top.2.2 ⟨ns,ps⟩ x = .ok p:=by
        rw[← hw];exact gOneK (by omega) (by show ¬200≤ns.length;omega) hnm hni hwd (by rw[hw];exact any_no fun j y e=>hno j y (List.getElem?_eq_some_iff.1 e).1 e)
      have G2:=(g.cut hcut (by omega)).own ht2 hcw;have htop2:(wm.take (dn+1))[dn]? = some top:=by rw[List.getElem?_take_of_lt (Nat.lt_succ_self _)];exact htop
      have hl2:(wm.take (dn+1)).length=dn+1:=by rw[List.length_take];omega
      have K2:KeepR n0 bw br h n h2 n2:=(KeepR.refl n0 bw br h n).step ht2 fun b hb=>by simp at hb;subst hb;exact kp_bw g.hb.1
      have tA:Tch [] h2 n2 (hal h2 n2 (mkC (plC p) 0 0)) (n2+1):=zA;have GA:=G2.tch tA
      have yA:zC h2 bb (dn*4+3)=some top.2.1:=by
        have:=(G2.ow.row (by decide)).at (uA (f:=wayC) (sz:=4) (fun _=>rfl) htop2 (j:=3) rfl)
        rwa [show sof (.slice (some ⟨bb,0,none⟩) (dn+1) cap)+(dn*4+3)=dn*4+3 from Nat.zero_add _]at this
      have hof:=GA.oi dn top htop2;have hown:=hof.one;clear ht2 ro2 rw2 hno;repeat' first|refine wk ?_|refine cX (fun _=>?_) fun _=>?_|fail
      refine appN hof (zR (e:=ePl) (sz:=3) (len:=1) rfl (by decide)) (by decide) ⟨rfl,rfl,rfl,trivial⟩ (by omega) ?_
      rintro v3 h3 n3 o3 ht3
      have hn3:=ht3.le;have w3:=GA.ow.tch ht3 (way_own GA.ow hof (.inl (by decide))).no;rw [hl2]at w3;have hcr3:=(hcr.tch tA (by omega) (by simp)).app hof ht3 (by omega);have hcp3:=(hcp.tch tA (by omega) (by simp)).app hof ht3 (by omega);have hcw3:=GA.cel.app hof ht3 (by have:=GA.hb;omega)
      have yB:zC h3 bb (dn*4+3)=some top.2.1:=by
        have:=(w3.row (by decide)).at (uA (f:=wayC) (sz:=4) (fun _=>rfl) htop2 (j:=3) rfl)
        rwa [show sof (.slice (some ⟨bb,0,none⟩) (dn+1) cap)+(dn*4+3)=dn*4+3 from Nat.zero_add _]at this
      have hfl:((wm.take (dn+1)).flatMap wayC).length=(dn+1)*4:=by rw[flat_len (f:=wayC) (sz:=4) (fun _=>rfl),hl2]
      have ho3:=o3.one;have G3:=GA.win htop2 (by rw[hl2]) o3 ht3;have K3:=(K2.step tA (by simp)).step ht3 (own_info hof);have w3i:=way_info (bw:=bw) (br:=br) w3;have hbr:=G2.hb;have hbb2:bb≠n∧bb≠n+1:=by omega
      repeat' first|refine wk ?_|refine cX (fun _=>?_) fun _=>?_|refine ob (a:=hst _ bb (dn*4+3) [v3]) ?_ (stp_way w3 rfl (by omega) ho3)|fail
      have tH:Tch [bb] h3 n3 (hst h3 bb (dn*4+3) [v3]) n3:=zA;have K4:=K3.step tH fun b hb=>by simp at hb;subst hb;exact w3i b (by simp[zO])
      have hcr4:=hcr3.tch tH (by omega) (by simp;omega);have hcp4:=hcp3.tch tH (by omega) (by simp;omega);clear yA yB hcr hcp hcw hcr3 hcp3 hcw3 w3 w3i tA tH GA G2 K2 K3 ht3 o3 hof;generalize hst h3 bb (dn*4+3) [v3]=h4 at *
      have hno':∀p∈numL ns,p.1≠x.name:=fun p hp e=>hni (e ▸ numL_key hp);obtain⟨om,ms,hm2⟩:=mset_new (P:=P) (ty:=tMap) (v:=I64 (ns.length:Nat)) (x:=x.name) G3.mp hno';rw [← numL_app]at hm2;have rn4:=G3.on.row (by decide);have hc4:=G3.cel;have G4:=G3.map hm2;have tM:Tch [br] h4 n3 (hal h4 br om) n3:=(Tch.refl _ _ _).upd (.inr (by simp))
      have K5:=K4.step tM fun b hb=>by
        simp at hb;subst hb;exact kp_br g.hb.2.2.1
      have hcr5:=hcr4.tch tM (by omega) (by simp;omega);have hcp5:=hcp4.tch tM (by omega) (by simp;omega);have hc5:=G4.cel;clear K4 tM G3 hm2;generalize hal h4 br om=h5 at *
      have tB:Tch [] h5 n3 (hal h5 n3 (mkC [str x.name] 0 0)) (n3+1):=zA;have GB:=G4.tch tB;repeat' first|refine wk ?_|refine cX (fun _=>?_) fun _=>?_|fail
      refine appN GB.on (zR (e:=sK) (sz:=1) (len:=1) rfl (by decide)) (by decide) ⟨rfl,trivial⟩ (by omega) ?_
      rintro v6 h6 n6 o6 ht6
      have hn6:=ht6.le;have hcr6:=(hcr5.tch tB (by omega) (by simp)).app GB.on ht6 (by omega);have hcp6:=(hcp5.tch tB (by omega) (by simp)).app GB.on ht6 (by omega);have K6:=(K5.step tB (by simp)).step ht6 (own_info GB.on);have G5:=GB.nm o6 ht6;have hc6:=G5.cel;have hps:=G5.op;have tC:Tch [] h6 n6 (hal h6 n6 (mkC (plC p) 0 0)) (n6+1):=zA;have GC:=G5.tch tC;clear ht6 o6 K5;repeat' first|refine wk ?_|refine cX (fun _=>?_) fun _=>?_|fail
      refine appN GC.op (zR (e:=ePl) (sz:=3) (len:=1) rfl (by decide)) (by decide) ⟨rfl,rfl,rfl,trivial⟩ (by have:=hok.len;have h9:ps.length=ns.length:=this;omega) ?_
      rintro v7 h7 n7 o7 ht7
      have hn7:=ht7.le;have hcr7:=(hcr6.tch tC (by omega) (by simp)).app GC.op ht7 (by omega);have hcp7:=(hcp6.tch tC (by omega) (by simp)).app GC.op ht7 (by omega);have K7:=(K6.step tC (by simp)).step ht7 (own_info GC.op);have G6:=GC.pl o7 ht7;have hc7:=G6.cel;have ho6:=G6.on.one;have ho7:=G6.op.one;clear ht7 o7 K6;repeat' first|refine wk ?_|refine cX (fun _=>?_) fun _=>?_|fail
      have tD:Tch [bw] h7 n7 (hal (hst (hst h7 bw 0 [v6]) bw (0+1) [v7]) n7 (mkC (plC p++[.slice none 0 0]) 0 0)) (n7+1):=zA;have GD:=G6.own (cs':=[v6,v7,.map (some br),.slice (some ⟨bb,0,none⟩) (dn+1) cap,I64 roots']) tD zD;have K8:=K7.step tD fun b hb=>by simp at hb;subst hb;exact kp_bw b1
      have hwl3:((wm.take (dn+1)).set dn (top.1,v3,top.2.2++[p])).length=dn+1:=by rw[List.length_set];exact hl2
      have wD:=GD.ow;rw [hwl3]at wD;refine way_app wD (fun y hy=>?_) (by omega) (zR (e:=eAr) (sz:=4) (len:=1) rfl (by decide)) (by decide) (fun y hy=>by simp at hy;rcases hy with rfl|rfl|rfl|rfl <;> rfl) (by omega) ?_
      · obtain⟨a,ha,hy⟩:=List.mem_flatMap.1 hy;obtain⟨i,hi⟩:=List.mem_iff_getElem?.1 ha;have:=(GD.oi i a hi).one;simp at hy;rcases hy with rfl|rfl|rfl|rfl
        · rfl
        · rfl
        · rfl
        · exact this
      rintro v8 h8 n8 w8 _ ht8
      have hn8:=ht8.le;have hw8:v8.oneCell'=true:=by obtain⟨_,_,rfl,_⟩:=way_sl w8;rfl
      have G8:=GD.way (by rw[hwl3];exact w8) ht8;have K9:=K8.step ht8 (way_info GD.ow);have hc8:=G8.cel;clear ht8 K7 K8;repeat' first|refine wk ?_|refine cX (fun _=>?_) fun _=>?_|fail
      have G9:=G8.own (cs':=[v6,v7,.map (some br),v8,I64 roots']) (zA:Tch [bw] h8 n8 (hst h8 bw (0+3) [v8]) n8) zD;exact⟨K9.step (zA:Tch [bw] h8 n8 (hst h8 bw (0+3) [v8]) n8) fun b hb=>by simp at hb;subst hb;exact kp_bw b1,.inr ⟨p,v6,v7,v8,v3,hgo,rfl,by rw[hif];exact G9⟩⟩
  iterate 4
    · exact bad 6 (gOne6 (by omega) (by show ¬200≤ns.length;omega) (by assumption) hin (by omega)) _ _ zA
  · exact bad 5 (gOne5 (by omega) (by show ¬200≤ns.length;omega) (.inl (by assumption))) _ _ zA
  · exact bad 2 (gOne2 (by omega) (by show 200≤ns.length;omega)) _ _ zA
end Go.Proofs.YtmccnilgnlaffaaGreatDoor
namespace Go.Proofs.YtmccnilgnlaffaaGreatDoor
open Go Go.Ex Go.Ex.M
set_option maxRecDepth 100000
set_option maxHeartbeats 8000000
attribute [local simp] xV
variable {n0 n bw br:Nat} {h:zB} {nsv psv wsv:Value} {ns:List Tx} {ps:List Pl} {wm:List WayM} {roots:Int}
theorem one_comS{x:RegT}{dn:Nat}{top:WayM}(g:Gw n0 h n bw br [nsv,psv,.map (some br),wsv,I64 roots] nsv psv wsv ns ns ps wm)(hd7:dn≤7)(hd0:0<dn)(htop:wm[dn]? = some top)(hroots:dn=0→roots=(top.2.2.length:Nat))(hx:x.sv.oneCell'=true)(hok:GOK ⟨ns,ps⟩)(hpg:0<dn→PlG top.1)(hsib:∀q∈top.2.2,PlG q)(hlim:top.2.2.length≤200)(hwl:wm.length≤10):Com P 8 85 [ptr bw 0,.agg ⟨deepC (x,((dn+1:Nat):Int))⟩] h n fun o h' n'=>KeepR n0 bw br h n h' n'∧
    ((∃e,tK ((dn+1:Nat):Int) top.1 top.2.2 ⟨ns,ps⟩ x = .error e∧o = .panic (stopG e))∨
     ∃p nsv' psv' wsv' v',tK ((dn+1:Nat):Int) top.1 top.2.2 ⟨ns,ps⟩ x = .ok p∧o = .ret (.tuple #[])∧Gw n0 h' n' bw br [nsv',psv',.map (some br),wsv',I64 (if dn=0 then roots+1 else roots)] nsv' psv' wsv' (ns++[x.name]) (ns++[x.name]) (ps++[p]) ((wm.take (dn+1)).set dn (top.1,v',top.2.2++[p])++[(p,.slice none 0 0,[])])):=by
  have hdl:=(List.getElem?_eq_some_iff.1 htop).1;obtain⟨b1,b2,b3,b4⟩:=g.hb;have hcw0:=g.cel;have on1:=g.on.one;have op1:=g.op.one;have rn0:=g.on.row (by decide);have hnl:=hok.le;have hnl:ns.length≤200:=hnl
  have bad:∀e:Int,tK ((dn+1:Nat):Int) top.1 top.2.2 ⟨ns,ps⟩ x = .error e→∀h2 n2,Tch [bw] h n h2 n2→KeepR n0 bw br h n h2 n2∧((∃e',tK ((dn+1:Nat):Int) top.1 top.2.2 ⟨ns,ps⟩ x = .error e'∧Out.panic (stopG e) = .panic (stopG e'))∨
     ∃p nsv' psv' wsv' v',tK ((dn+1:Nat):Int) top.1 top.2.2 ⟨ns,ps⟩ x = .ok p∧Out.panic (stopG e) = .ret (.tuple #[])∧Gw n0 h2 n2 bw br [nsv',psv',.map (some br),wsv',I64 (if dn=0 then roots+1 else roots)] nsv' psv' wsv' (ns++[x.name]) (ns++[x.name]) (ps++[p]) ((wm.take (dn+1)).set dn (top.1,v',top.2.2++[p])++[(p,.slice none 0 0,[])])):=fun e he h2 n2 t2=>
    ⟨(KeepR.refl n0 bw br h n).step t2 fun b hb=>by simp at hb;subst hb;exact kp_bw b1,.inl ⟨e,he,rfl⟩⟩
  have g0:=g.tch (h':=hal h n (mkC (deepC (x,((dn+1:Nat):Int))) zDp 0)) (n':=n+1) zA;refine ent fun u=>?_;by_cases hin:x.name∈ns
  · obtain⟨A,B,e1,e2⟩:=sJ (idx_at hin) hok.nd;have mp:=g0.mp;rw [e1]at mp;have lk2:yQ P (hal h n (mkC (deepC (x,((dn+1:Nat):Int))) zDp 0)) tMap (.map (some br)) (str x.name) true=some (.tuple ⟨[I64 (ns.idxOf x.name:Nat),.bool true]⟩):=lku_at (P:=P) (ty:=tMap) (ok:=true) mp e2;repeat' first|refine wk ?_|refine cX (fun _=>?_) fun _=>?_|fail
    · rename_i f1 f2 f3;exact bad 5 (gOne5 (by omega) (by show ¬200≤ns.length;omega) (.inr hin)) _ _ zA
    · rename_i f1 f2 f3;exact bad 5 (gOne5 (by omega) (by show ¬200≤ns.length;omega) (.inr hin)) _ _ zA
    · exact bad 2 (gOne2 (by omega) (by show 200≤ns.length;omega)) _ _ zA
    · exact bad 4 (gOne4 (by omega)) _ _ zA
  have lk2:yQ P (hal h n (mkC (deepC (x,((dn+1:Nat):Int))) zDp 0)) tMap (.map (some br)) (str x.name) true=some (.tuple ⟨[I64 0,.bool false]⟩):=lku_no (P:=P) (ty:=tMap) g0.mp fun p hp e=>hin (e ▸ numL_key hp);obtain⟨wsv1,hsl,hcut0,hblk⟩:=way_cut (P:=P) (ty:=158) (k:=dn+1) g0.ow (by omega) (by decide);obtain⟨bb,cap,rfl,hbb1,hbb2⟩:=way_sl hcut0;have hbw:bb≠bw:=fun e=>way_cel hcut0 g0.cel (by decide) (by rw[← e];rfl);have hbn:bb<n:=(g.ow.blk (b:=bb) (by rw[← hblk];rfl)).2
  have hcut:WayR n0 n h (.slice (some ⟨bb,0,none⟩) (dn+1) cap) eAr 4 (dn+1) ((wm.flatMap wayC).take ((dn+1)*4)):=way_back hcut0 fun b hb=>by
    injection hb with hb
    have hb:bb=b:=hb;subst hb;exact⟨hbn,by rw[zM,if_neg (by omega)]⟩
  have htk:(wm.take (dn+1))[dn]? = some top:=by rw[List.getElem?_take_of_lt (Nat.lt_succ_self _)];exact htop
  have ycell:∀(j:Nat) v,(wayC top)[j]? = some v→zC h bb (dn*4+j)=some v:=fun j v hj=>way_cell hcut (by
    rw[List.getElem?_take_of_lt (by have:=(List.getElem?_eq_some_iff.1 hj).1;simp at this;omega)];exact uA (f:=wayC) (sz:=4) (fun _=>rfl) htop hj)
  have y0:zC h bb (dn*4+0+0)=some (I64 top.1.root):=ycell 0 _ rfl;have y1:zC h bb (dn*4+0+1)=some (I64 top.1.at_):=ycell 1 _ rfl;have y2:zC h bb (dn*4+0+2)=some (I64 top.1.width):=ycell 2 _ rfl;have y3:zC h bb (dn*4+3)=some top.2.1:=ycell 3 _ rfl;have qr:=(g.oi dn top htop).row (by decide);clear ycell;have h2e:∀{G:Prop},(¬200≤(⟨ns,ps⟩:GSt).ns.length→G)→ns.length<200→G:=fun k h9=>k (by show ¬200≤ns.length;omega);obtain⟨q1,q2,q3⟩:=hpg hd0;repeat' first|refine wk ?_|refine cX (fun _=>?_) fun _=>?_|refine ob (a:=ptr bb (dn*4)) ?_ (iadw (by omega))|fail
  all_goals dsimp only at *
  · rename_i f0 f1 hnm f2 f3 f4 f5;have hni:x.name∉ns:=hin;have hwd:¬(x.w<1∨64<x.w∨x.a<0∨(((dn+1:Nat):Int)=1∧x.a≠0)∨(((dn+1:Nat):Int)≠1∧top.1.width - x.w<x.a)):=by omega
    have hw:gPl ((dn+1:Nat):Int) top.1 top.2.2 x=⟨top.1.root,top.1.at_+x.a,x.w⟩:=by unfold gPl;rw [if_neg (by omega)]
    have hpG:PlG ⟨top.1.root,top.1.at_+x.a,x.w⟩:=by unfold PlG;dsimp only;omega
    have hif:(if dn=0 then roots+1 else roots)=roots:=if_neg (by omega);refine lpR (fun q:Nat=>[(0,ptr bw 0),(3,ptr n 0),(6,ptr bb (dn*4)),(7,ptr (n+1) 0),(135,top.2.1),(136,I64 (top.2.2.length:Nat)),(137,I64 q)]) (fun q h2 n2=>Tch [bw] h n h2 n2∧n+2≤n2∧Cel h2 n zDp 0 (deepC (x,((dn+1:Nat):Int)))∧Cel h2 (n+1) (ePl+1) 0 (plC (⟨top.1.root,top.1.at_+x.a,x.w⟩:Pl))∧Cel h2 bw zW 0 [nsv,psv,.map (some br),.slice (some ⟨bb,0,none⟩) (dn+1) cap,I64 roots]∧q≤top.2.2.length∧∀(j:Nat) y,j<q→top.2.2[j]? = some y→lapB (⟨top.1.root,top.1.at_+x.a,x.w⟩:Pl) y=false) (fun q=>top.2.2.length - q) 0 ⟨zA,by omega,zD,zD,zD,Nat.zero_le _,fun j _ hj=>absurd hj (Nat.not_lt_zero _)⟩ ?_;generalize (⟨top.1.root,top.1.at_+x.a,x.w⟩:Pl)=p at *
    generalize hrf:roots=roots' at *
    rintro q t h2 n2 ⟨ht2,hn2,hcr,hcp,hcw,hq,hno⟩
    have ro2:=(g.oi dn top htop).tch ht2 (yJ (zZ g.cel (g.oi dn top htop)));have rw2:=ro2.row (by decide);by_cases hlt2:q<top.2.2.length
    · have d0:top.2.2[q]? = some top.2.2[q]:=List.getElem?_eq_getElem hlt2;generalize top.2.2[q]=y at d0
      have d1:=yE rw2 d0;have hly:=rw2.low (by omega);repeat' first|refine wk ?_|refine cX (fun _=>?_) fun _=>?_|refine wM (lap_pur _ _ hpG.ok (hsib y (List.mem_of_getElem? d0)).ok _ _) ?_|fail
      · rename_i f1
        exact rnd (q+1) ⟨zA,by omega,zG,zG,zG,by omega,fun j w hj e=>by
          rcases Nat.lt_succ_iff_lt_or_eq.1 hj with h9|rfl
          · exact hno j w h9 e
          · rw[d0]at e;cases e;exact f1⟩
      · rename_i f1;exact bad 7 (gOne7 (by omega) (by show ¬200≤ns.length;omega) hnm hni hwd (List.any_eq_true.2 ⟨y,List.mem_of_getElem? d0,by rw[hw];exact f1⟩)) _ _ zA
    · obtain rfl:q=top.2.2.length:=by omega
      have hgo:tK ((dn+1:Nat):Int) top.1 top.2.2 ⟨ns,ps⟩ x = .ok p:=by
        rw[← hw];exact gOneK (by omega) (by show ¬200≤ns.length;omega) hnm hni hwd (by rw[hw];exact any_no fun j y e=>hno j y (List.getElem?_eq_some_iff.1 e).1 e)
      have G2:=(g.cut hcut (by omega)).own ht2 hcw;have htop2:(wm.take (dn+1))[dn]? = some top:=by rw[List.getElem?_take_of_lt (Nat.lt_succ_self _)];exact htop
      have hl2:(wm.take (dn+1)).length=dn+1:=by rw[List.length_take];omega
      have K2:KeepR n0 bw br h n h2 n2:=(KeepR.refl n0 bw br h n).step ht2 fun b hb=>by simp at hb;subst hb;exact kp_bw g.hb.1
      have tA:Tch [] h2 n2 (hal h2 n2 (mkC (plC p) 0 0)) (n2+1):=zA;have GA:=G2.tch tA
      have yA:zC h2 bb (dn*4+3)=some top.2.1:=by
        have:=(G2.ow.row (by decide)).at (uA (f:=wayC) (sz:=4) (fun _=>rfl) htop2 (j:=3) rfl)
        rwa [show sof (.slice (some ⟨bb,0,none⟩) (dn+1) cap)+(dn*4+3)=dn*4+3 from Nat.zero_add _]at this
      have hof:=GA.oi dn top htop2;have hown:=hof.one;clear ht2 ro2 rw2 hno;repeat' first|refine wk ?_|refine cX (fun _=>?_) fun _=>?_|fail
      refine appN hof (zR (e:=ePl) (sz:=3) (len:=1) rfl (by decide)) (by decide) ⟨rfl,rfl,rfl,trivial⟩ (by omega) ?_
      rintro v3 h3 n3 o3 ht3
      have hn3:=ht3.le;have w3:=GA.ow.tch ht3 (way_own GA.ow hof (.inl (by decide))).no;rw [hl2]at w3;have hcr3:=(hcr.tch tA (by omega) (by simp)).app hof ht3 (by omega);have hcp3:=(hcp.tch tA (by omega) (by simp)).app hof ht3 (by omega);have hcw3:=GA.cel.app hof ht3 (by have:=GA.hb;omega)
      have yB:zC h3 bb (dn*4+3)=some top.2.1:=by
        have:=(w3.row (by decide)).at (uA (f:=wayC) (sz:=4) (fun _=>rfl) htop2 (j:=3) rfl)
        rwa [show sof (.slice (some ⟨bb,0,none⟩) (dn+1) cap)+(dn*4+3)=dn*4+3 from Nat.zero_add _]at this
      have hfl:((wm.take (dn+1)).flatMap wayC).length=(dn+1)*4:=by rw[flat_len (f:=wayC) (sz:=4) (fun _=>rfl),hl2]
      have ho3:=o3.one;have G3:=GA.win htop2 (by rw[hl2]) o3 ht3;have K3:=(K2.step tA (by simp)).step ht3 (own_info hof);have w3i:=way_info (bw:=bw) (br:=br) w3;have hbr:=G2.hb;have hbb2:bb≠n∧bb≠n+1:=by omega
      repeat' first|refine wk ?_|refine cX (fun _=>?_) fun _=>?_|refine ob (a:=hst _ bb (dn*4+3) [v3]) ?_ (stp_way w3 rfl (by omega) ho3)|fail
      have tH:Tch [bb] h3 n3 (hst h3 bb (dn*4+3) [v3]) n3:=zA;have K4:=K3.step tH fun b hb=>by simp at hb;subst hb;exact w3i b (by simp[zO])
      have hcr4:=hcr3.tch tH (by omega) (by simp;omega);have hcp4:=hcp3.tch tH (by omega) (by simp;omega);clear yA yB hcr hcp hcw hcr3 hcp3 hcw3 w3 w3i tA tH GA G2 K2 K3 ht3 o3 hof;generalize hst h3 bb (dn*4+3) [v3]=h4 at *
      have hno':∀p∈numL ns,p.1≠x.name:=fun p hp e=>hni (e ▸ numL_key hp);obtain⟨om,ms,hm2⟩:=mset_new (P:=P) (ty:=tMap) (v:=I64 (ns.length:Nat)) (x:=x.name) G3.mp hno';rw [← numL_app]at hm2;have rn4:=G3.on.row (by decide);have hc4:=G3.cel;have G4:=G3.map hm2;have tM:Tch [br] h4 n3 (hal h4 br om) n3:=(Tch.refl _ _ _).upd (.inr (by simp))
      have K5:=K4.step tM fun b hb=>by
        simp at hb;subst hb;exact kp_br g.hb.2.2.1
      have hcr5:=hcr4.tch tM (by omega) (by simp;omega);have hcp5:=hcp4.tch tM (by omega) (by simp;omega);have hc5:=G4.cel;clear K4 tM G3 hm2;generalize hal h4 br om=h5 at *
      have tB:Tch [] h5 n3 (hal h5 n3 (mkC [str x.name] 0 0)) (n3+1):=zA;have GB:=G4.tch tB;repeat' first|refine wk ?_|refine cX (fun _=>?_) fun _=>?_|fail
      refine appN GB.on (zR (e:=sK) (sz:=1) (len:=1) rfl (by decide)) (by decide) ⟨rfl,trivial⟩ (by omega) ?_
      rintro v6 h6 n6 o6 ht6
      have hn6:=ht6.le;have hcr6:=(hcr5.tch tB (by omega) (by simp)).app GB.on ht6 (by omega);have hcp6:=(hcp5.tch tB (by omega) (by simp)).app GB.on ht6 (by omega);have K6:=(K5.step tB (by simp)).step ht6 (own_info GB.on);have G5:=GB.nm o6 ht6;have hc6:=G5.cel;have hps:=G5.op;have tC:Tch [] h6 n6 (hal h6 n6 (mkC (plC p) 0 0)) (n6+1):=zA;have GC:=G5.tch tC;clear ht6 o6 K5;repeat' first|refine wk ?_|refine cX (fun _=>?_) fun _=>?_|fail
      refine appN GC.op (zR (e:=ePl) (sz:=3) (len:=1) rfl (by decide)) (by decide) ⟨rfl,rfl,rfl,trivial⟩ (by have:=hok.len;have h9:ps.length=ns.length:=this;omega) ?_
      rintro v7 h7 n7 o7 ht7
      have hn7:=ht7.le;have hcr7:=(hcr6.tch tC (by omega) (by simp)).app GC.op ht7 (by omega);have hcp7:=(hcp6.tch tC (by omega) (by simp)).app GC.op ht7 (by omega);have K7:=(K6.step tC (by simp)).step ht7 (own_info GC.op);have G6:=GC.pl o7 ht7;have hc7:=G6.cel;have ho6:=G6.on.one;have ho7:=G6.op.one;clear ht7 o7 K6;repeat' first|refine wk ?_|refine cX (fun _=>?_) fun _=>?_|fail
      have tD:Tch [bw] h7 n7 (hal (hst (hst h7 bw 0 [v6]) bw (0+1) [v7]) n7 (mkC (plC p++[.slice none 0 0]) 0 0)) (n7+1):=zA;have GD:=G6.own (cs':=[v6,v7,.map (some br),.slice (some ⟨bb,0,none⟩) (dn+1) cap,I64 roots']) tD zD;have K8:=K7.step tD fun b hb=>by simp at hb;subst hb;exact kp_bw b1
      have hwl3:((wm.take (dn+1)).set dn (top.1,v3,top.2.2++[p])).length=dn+1:=by rw[List.length_set];exact hl2
      have wD:=GD.ow;rw [hwl3]at wD;refine way_app wD (fun y hy=>?_) (by omega) (zR (e:=eAr) (sz:=4) (len:=1) rfl (by decide)) (by decide) (fun y hy=>by simp at hy;rcases hy with rfl|rfl|rfl|rfl <;> rfl) (by omega) ?_
      · obtain⟨a,ha,hy⟩:=List.mem_flatMap.1 hy;obtain⟨i,hi⟩:=List.mem_iff_getElem?.1 ha;have:=(GD.oi i a hi).one;simp at hy;rcases hy with rfl|rfl|rfl|rfl
        · rfl
        · rfl
        · rfl
        · exact this
      rintro v8 h8 n8 w8 _ ht8
      have hn8:=ht8.le;have hw8:v8.oneCell'=true:=by obtain⟨_,_,rfl,_⟩:=way_sl w8;rfl
      have G8:=GD.way (by rw[hwl3];exact w8) ht8;have K9:=K8.step ht8 (way_info GD.ow);have hc8:=G8.cel;clear ht8 K7 K8;repeat' first|refine wk ?_|refine cX (fun _=>?_) fun _=>?_|fail
      have G9:=G8.own (cs':=[v6,v7,.map (some br),v8,I64 roots']) (zA:Tch [bw] h8 n8 (hst h8 bw (0+3) [v8]) n8) zD;exact⟨K9.step (zA:Tch [bw] h8 n8 (hst h8 bw (0+3) [v8]) n8) fun b hb=>by simp at hb;subst hb;exact kp_bw b1,.inr ⟨p,v6,v7,v8,v3,hgo,rfl,by rw[hif];exact G9⟩⟩
  iterate 4
    · exact bad 6 (gOne6 (by omega) (by show ¬200≤ns.length;omega) (by assumption) hin (by omega)) _ _ zA
  · exact bad 5 (gOne5 (by omega) (by show ¬200≤ns.length;omega) (.inl (by assumption))) _ _ zA
  · exact bad 2 (gOne2 (by omega) (by show 200≤ns.length;omega)) _ _ zA
  · exact bad 4 (gOne4 (by omega)) _ _ zA
end Go.Proofs.YtmccnilgnlaffaaGreatDoor
namespace Go.Ex.M
theorem pre_pos:∀(k:Nat) (d:Int) (l:List RegT) (e:RegT×Int),e∈preL k d l→d≤e.2∧e.2<d+k:=by
 intro k
 induction k with
 | zero=>intro d l e he;cases he
 | succ k ih=>
  intro d l e he;obtain⟨r,_,he⟩:=List.mem_flatMap.1 he;rcases List.mem_cons.1 he with rfl|he
  · exact⟨Int.le_refl _,by show d<d+((k+1:Nat):Int);omega⟩
  · have:=ih _ _ _ he;omega
def wOf(wm:List (Pl×Value×List Pl)):List (Pl×List Pl):=wm.map fun x=>(x.1,x.2.2)
theorem wOf_at{wm:List (Pl×Value×List Pl)}{i:Nat}{y:Pl×List Pl}(h:(wOf wm)[i]? = some y):∃v,wm[i]? = some (y.1,v,y.2):=by
 unfold wOf at h;rw [List.getElem?_map]at h
 cases e:wm[i]? with
 | none=>rw [e]at h;cases h
 | some x=>rw [e]at h;cases h;exact⟨x.2.1,rfl⟩
theorem wOf_step{wm:List (Pl×Value×List Pl)}{dn:Nat}{top:Pl×Value×List Pl}{v' nv:Value}{p:Pl}(h:wm[dn]? = some top):wOf ((wm.take (dn+1)).set dn (top.1,v',top.2.2++[p])++[(p,nv,[])])=(wOf wm).take dn++[(top.1,top.2.2++[p]),(p,[])]:=by
 have hl:=(List.getElem?_eq_some_iff.1 h).1
 have e1:(wm.take (dn+1)).set dn (top.1,v',top.2.2++[p])=wm.take dn++[(top.1,v',top.2.2++[p])]:=by
  rw[wQ h,List.set_append_right _ _ (by rw[List.length_take];omega),List.length_take,Nat.min_eq_left (by omega),Nat.sub_self];rfl
 unfold wOf;rw [e1,List.map_append,List.map_append,← List.map_take];simp
structure WInv (w:WSt) (wm:List (Pl×Value×List Pl)) (roots:Int):Prop where
 ways:w.ways=wOf wm
 len:wm.length≤8
 rts:∀top,wm[0]? = some top→roots=(top.2.2.length:Nat)
 el:∀(i:Nat) x,wm[i]? = some x→(0<i→PlG x.1)∧(∀q∈x.2.2,PlG q)∧x.2.2.length≤w.ns.length
 ok:GOK ⟨w.ns,w.ps⟩
theorem WInv.init{v:Value}:WInv ⟨[],[],[(⟨0,0,0⟩,[])]⟩ [(⟨0,0,0⟩,v,[])] 0:=⟨rfl,by simp,fun top h=>by cases h;rfl,fun i x h=>(by
 cases i with
 | zero=>cases h;exact⟨fun h=>absurd h (Nat.lt_irrefl 0),fun q hq=>(by cases hq),Nat.le_refl _⟩
 | succ i=>cases h),⟨List.nodup_nil,rfl,Nat.zero_le _,fun p hp=>(by cases hp),fun x hx=>(by cases hx)⟩⟩
theorem WInv.step{w:WSt}{wm:List (Pl×Value×List Pl)}{roots:Int}(g:WInv w wm roots){x:RegT}{dn:Nat}{top:Pl×Value×List Pl}{p:Pl}{v' nv:Value}(hd:dn≤6)(ht:wm[dn]? = some top)(h:tK ((dn+1:Nat):Int) top.1 top.2.2 ⟨w.ns,w.ps⟩ x = .ok p) :
 wStep (.ok w) (x,((dn+1:Nat):Int)) = .ok ⟨w.ns++[x.name],w.ps++[p],(wOf wm).take dn++[(top.1,top.2.2++[p]),(p,[])]⟩∧WInv ⟨w.ns++[x.name],w.ps++[p],(wOf wm).take dn++[(top.1,top.2.2++[p]),(p,[])]⟩ ((wm.take (dn+1)).set dn (top.1,v',top.2.2++[p])++[(p,nv,[])]) (if dn=0 then roots+1 else roots):=by
 have hl:=(List.getElem?_eq_some_iff.1 ht).1
 have e1:(wm.take (dn+1)).set dn (top.1,v',top.2.2++[p])=wm.take dn++[(top.1,v',top.2.2++[p])]:=by
  rw[wQ ht,List.set_append_right _ _ (by rw[List.length_take];omega),List.length_take,Nat.min_eq_left (by omega),Nat.sub_self];rfl
 obtain⟨g1,g2,g3⟩:=g.el dn top ht
 obtain⟨h1,h2,h3⟩:=gOne_ok h g.ok (by
  rcases Nat.eq_zero_or_pos dn with h9|h9
  · exact .inl (by omega)
  · exact .inr (g1 h9))
 refine⟨?_,(wOf_step ht).symm,?_,fun t e=>?_,fun i y e=>?_,h3⟩
 · unfold wStep;have e2:(((dn+1:Nat):Int) - 1).toNat=dn:=by omega
   dsimp only;rw [e2,g.ways,show(wOf wm)[dn]? = some (top.1,top.2.2) by unfold wOf;rw [List.getElem?_map,ht];rfl];dsimp only;rw [h]
 · rw[e1];simp;omega
 · rw[e1]at e;rcases Nat.eq_zero_or_pos dn with h9|h9
   · subst h9;cases e
     rw[if_pos rfl,g.rts top ht];simp
   · rw[if_neg (by omega)];rw [List.append_assoc,List.getElem?_append_left (by rw[List.length_take];omega),List.getElem?_take_of_lt h9]at e;exact g.rts t e
 · rw[e1,List.append_assoc]at e;have hns:(w.ns++[x.name]).length=w.ns.length+1:=by simp
   show(0<i→PlG y.1)∧(∀q∈y.2.2,PlG q)∧y.2.2.length≤(w.ns++[x.name]).length;rw [hns];rcases Nat.lt_trichotomy i dn with h9|h9|h9
   · rw[List.getElem?_append_left (by rw[List.length_take];omega),List.getElem?_take_of_lt h9]at e;obtain⟨k1,k2,k3⟩:=g.el i y e;exact⟨k1,k2,by omega⟩
   · subst h9;rw [List.getElem?_append_right (by rw[List.length_take];omega),List.length_take,Nat.min_eq_left (by omega),Nat.sub_self]at e;cases e
     refine⟨g1,fun q hq=>?_,by show(top.2.2++[p]).length≤_;simp;omega⟩;rcases List.mem_append.1 hq with hq|hq
     · exact g2 q hq
     · simp at hq;subst hq;exact h2
   · rw[List.getElem?_append_right (by rw[List.length_take];omega),List.length_take,Nat.min_eq_left (by omega)]at e;rcases(show i - dn=1∨2≤i - dn by omega) with h8|h8
     · rw[h8]at e;cases e
       exact⟨fun _=>h2,fun q hq=>(by cases hq),Nat.zero_le _⟩
     · rw[List.getElem?_eq_none (by simp;omega)]at e;cases e
theorem WInv.bad{w:WSt}{wm:List (Pl×Value×List Pl)}{roots:Int}(g:WInv w wm roots){x:RegT}{dn:Nat}{top:Pl×Value×List Pl}{e:Int}(ht:wm[dn]? = some top)(h:tK ((dn+1:Nat):Int) top.1 top.2.2 ⟨w.ns,w.ps⟩ x = .error e):wStep (.ok w) (x,((dn+1:Nat):Int)) = .error e:=by
 unfold wStep;have e2:(((dn+1:Nat):Int) - 1).toNat=dn:=by omega
 dsimp only;rw [e2,g.ways,show(wOf wm)[dn]? = some (top.1,top.2.2) by unfold wOf;rw [List.getElem?_map,ht];rfl];dsimp only;rw [h]
theorem geo_bad{l:List RegT}{done:List (RegT×Int)}{x:Int}(hp:done <+: preL 7 1 l)(h:done.foldl wStep (.ok ⟨[],[],[(⟨0,0,0⟩,[])]⟩) = .error x):geoP l = .error x:=by
 obtain⟨t,ht⟩:=hp;have e:(preL 7 1 l).foldl wStep (.ok ⟨[],[],[(⟨0,0,0⟩,[])]⟩) = .error x:=by rw[← ht,List.foldl_append,h,wStep_err]
 rcases geo_walk l with⟨y,h1,h2⟩|⟨s,ways,h1,_⟩
 · rw[h1]at e;cases e;exact h2
 · rw[h1]at e;cases e
theorem geo_top{l:List RegT}{done:List (RegT×Int)}{w:WSt}{x:RegT}{dn:Nat}(hp:(done++[(x,((dn+1:Nat):Int))]) <+: preL 7 1 l)(h:done.foldl wStep (.ok ⟨[],[],[(⟨0,0,0⟩,[])]⟩) = .ok w):∃top,w.ways[dn]? = some top:=by
 cases e:w.ways[dn]? with
 | some top=>exact⟨top,rfl⟩
 | none =>
  exfalso
  have e2:(((dn+1:Nat):Int) - 1).toNat=dn:=by omega
  have:=geo_bad (x:=0) hp (by
   rw[List.foldl_append,h];show wStep (.ok w) (x,((dn+1:Nat):Int))=_;unfold wStep;dsimp only;rw [e2,e])
  exact geo_err this rfl
end Go.Ex.M
namespace Go.Proofs.YtmccnilgnlaffaaGreatDoor
open Go Go.Ex Go.Ex.M
set_option maxRecDepth 100000
set_option maxHeartbeats 8000000
attribute [local simp] xV
theorem one_com{n0 n bw br dn:Nat}{h:zB}{nsv psv wsv:Value}{ns:List Tx}{ps:List Pl}{wm:List WayM}{roots:Int}{x:RegT}{top:WayM}(g:Gw n0 h n bw br [nsv,psv,.map (some br),wsv,I64 roots] nsv psv wsv ns ns ps wm)(hd7:dn≤7)(htop:wm[dn]? = some top)(hroots:dn=0→roots=(top.2.2.length:Nat))(hx:x.sv.oneCell'=true)(hok:GOK ⟨ns,ps⟩)(hpg:0<dn→PlG top.1)(hsib:∀q∈top.2.2,PlG q)(hlim:top.2.2.length≤200)(hwl:wm.length≤10):Com P 8 85 [ptr bw 0,.agg ⟨deepC (x,((dn+1:Nat):Int))⟩] h n fun o h' n'=>KeepR n0 bw br h n h' n'∧
    ((∃e,tK ((dn+1:Nat):Int) top.1 top.2.2 ⟨ns,ps⟩ x = .error e∧o = .panic (stopG e))∨
     ∃p nsv' psv' wsv' v',tK ((dn+1:Nat):Int) top.1 top.2.2 ⟨ns,ps⟩ x = .ok p∧o = .ret (.tuple #[])∧Gw n0 h' n' bw br [nsv',psv',.map (some br),wsv',I64 (if dn=0 then roots+1 else roots)] nsv' psv' wsv' (ns++[x.name]) (ns++[x.name]) (ps++[p]) ((wm.take (dn+1)).set dn (top.1,v',top.2.2++[p])++[(p,.slice none 0 0,[])])):=by
  rcases Nat.eq_zero_or_pos dn with h0|h0
  · exact one_com0 g hd7 h0 htop hroots hx hok hpg hsib hlim hwl
  · exact one_comS g hd7 h0 htop hroots hx hok hpg hsib hlim hwl
theorem pre_one{lo:Nat}{h:zB}:∀(k:Nat) (d:Int) (l:List RegT) (sv:Value) (e:RegT×Int),RegsM lo h sv l→e∈preL k d l→e.1.sv.oneCell'=true:=by
 intro k
 induction k with
 | zero=>intro d l sv e _ he;cases he
 | succ k ih=>
  intro d l sv e hr he;obtain⟨r,hm,he⟩:=List.mem_flatMap.1 he;rcases List.mem_cons.1 he with rfl|he
  · exact((hr.sub hm).row 0).one
  · exact ih _ _ _ _ (hr.sub hm) he
theorem Gw.lp{n0 n n' bw br L:Nat}{h h':zB}{cs:List Value}{nsv psv wsv:Value}{ns ms:List Tx}{ps:List Pl}{wm:List WayM}(g:Gw n0 h n bw br cs nsv psv wsv ns ms ps wm)(t:Tch [L] h n h' n')(hi:xI (zF h L)=none)(hm:∀es c,zF h L≠.map es c):Gw n0 h' n' bw br cs nsv psv wsv ns ms ps wm:=by
 obtain⟨b1,b2,b3,b4⟩:=g.hb;have:=t.le
 have ow:∀{lo v e sz len vs},Own lo n h v e sz len vs→∀b,zO v=some b→b∉[L]:=fun o b hb hx=>by
  simp at hx;subst hx;rcases o with⟨rfl,_⟩|⟨b2,_,_,rfl,p3,_⟩
  · cases hb
  · injection hb with hb
    have hb:b2=b:=hb;subst hb;rw [hi]at p3;cases p3
 refine⟨g.cel.tch t b2 (by simp;rintro rfl;have:=g.cel.1;rw [hi]at this;cases this),⟨b1,by omega,b3,by omega⟩,g.on.tch t (ow g.on),g.op.tch t (ow g.op),g.mp.tch t b4 (by simp;rintro rfl;obtain⟨es,c,e,_⟩:=g.mp;exact hm _ _ e),g.ow.tch t (fun b hb hx=>?_),fun i x hx=>(g.oi i x hx).tch t (ow (g.oi i x hx)),g.dj,g.dd⟩;simp at hx;subst hx;obtain⟨b2,m,z,kd,cap,h1,h2,e,h3,_⟩:=g.ow;rw [e]at hb;injection hb with hb
 have hb:b2=b:=hb;subst hb;rw [hi]at h3;cases h3
abbrev w0:WSt:=⟨[],[],[(⟨0,0,0⟩,[])]⟩
theorem KeepR.stepL{S:List Nat}{n0 bw br n n1 n2:Nat}{h h1 h2:zB}(k:KeepR n0 bw br h n h1 n1)(t:Tch S h1 n1 h2 n2)(hS:∀b∈S,n≤b):KeepR n0 bw br h n h2 n2:=⟨Nat.le_trans k.1 t.1,fun b hb hc=>by
 have e:=k.2 b hb hc;rw [t.2 b (by have:=k.1;omega) fun hx=>by have:=hS b hx;omega,e]⟩
theorem KeepR.mono{N n0 bw br n n1 n2:Nat}{h h1 h2:zB}(k:KeepR n0 bw br h N h1 n1)(t:KeepR n0 bw br h1 n h2 n2)(hn:n1≤n):KeepR n0 bw br h N h2 n2:=⟨by have:=k.1;have:=t.1;omega,fun b hb hc=>by
 have e:=k.2 b hb hc;rw [t.2 b (by have:=k.1;omega) (by unfold Kp at hc ⊢;rw [e];exact hc),e]⟩
theorem gw_init{n n2:Nat}{X h2:zB}{z6:Nat}{v6:List Value}(t:Tch [] (hst (hal (hal (hal (hal X (n+3) (.map [] 0)) (n+4) (mkC [I64 0,I64 0,I64 0,.slice none 0 0] 0 0)) (n+5) (mkC [.slice none 0 0,.slice none 0 0,.map (some (n+3)),.slice (some ⟨n+4,0,none⟩) 1 1,I64 0] zW 0)) (n+6) (mkC v6 z6 0)) (n+6) 0 [ptr (n+5) 0]) (n+7) h2 n2):Gw (n+3) h2 n2 (n+5) (n+3) [.slice none 0 0,.slice none 0 0,.map (some (n+3)),.slice (some ⟨n+4,0,none⟩) 1 1,I64 0] (.slice none 0 0) (.slice none 0 0) (.slice (some ⟨n+4,0,none⟩) 1 1) [] [] [] [(⟨0,0,0⟩,.slice none 0 0,[])]:=by
 have hn:=t.le;refine⟨zD,by omega,Own.nil,Own.nil,?_,?_,fun i x hx=>?_,fun i x hx=>?_,fun i j x y hij hx hy=>?_⟩
 · exact(mps_new (h:=X) (n:=n+3)).tch (zA:Tch [] (hal X (n+3) (.map [] 0)) (n+4) h2 n2) (by omega) (by simp)
 · exact(way_new (h:=hal X (n+3) (.map [] 0)) (n:=n+4) (e:=eAr) (sz:=4) (len:=1) (lo:=n+3) (cs:=[I64 0,I64 0,I64 0,.slice none 0 0]) (by omega) rfl (by decide)).tch (zA:Tch [] (hal (hal X (n+3) (.map [] 0)) (n+4) (mkC [I64 0,I64 0,I64 0,.slice none 0 0] 0 0)) (n+5) h2 n2) (by simp)
 all_goals have hi:i=0∧x=(⟨0,0,0⟩,.slice none 0 0,[]):=by(cases i with
  | zero=>exact⟨rfl,(Option.some.inj hx).symm⟩
  | succ i=>cases hx)
 · rw[hi.2];exact Own.nil
 · rw[hi.2];exact Dj.nil _
 · rw[hi.2];exact Dj.nil _
theorem all_core{lo L pl D:Nat}{l:List RegT}{sv:Value}{ps:List Tmp}{assign body:Code}{fn:FuncId}{lt:List (Nat×Value)}{t:Fr}{cx:Cx}{d:List Deferred}{u:Option zH}{h:zB}{n:Nat}{Q:QX}
(I:List (RegT×Int)→zB→Nat→Prop)(JP:zH→zB→Nat→Prop)(hps:ps.length=1)(hL:zF h L=LoO .ready none fn ps.toArray assign body D (FA lt t))(h0:I [] h n)
(hE:∀done h' n',I done h' n'→lo≤n'∧L<n')(hcl:∀done h' n' h2 n2,I done h' n'→Tch [] h' n' h2 n2→I done h2 n2)(hk:∀done h' n',I done h' n'→∀b,b<lo→zF h' b=zF h b)
(bd:∀done e h' n',I done h' n'→zF h' L=LoO .ready none fn ps.toArray assign body D (FA lt t)→(done++[e]) <+: preL 7 1 l→WC P 8 assign ⟨fn,some L,false⟩ (FA (parl ps [.agg ⟨deepC e⟩] lt) t) ⟨[],none,h',n'⟩ (asQ P 8 L fn ps.toArray assign body D (FA lt t) fun r h2 n2=>n'≤n2∧((r = .ret (.bool true)∧zF h2 L=LoO .ready none fn ps.toArray assign body D (FA lt t)∧I (done++[e]) h2 n2∧∀b,b<n'→xI (zF h' b)=some (4,52+1,0)→zF h2 b=zF h' b)∨∃c,r = .panic c∧JP c h2 n2)))
(fin:∀h' n',zF h' L=LoO .ready none fn ps.toArray assign body D (FA lt t)→I (preL 7 1 l) h' n'→Q .normal (FA lt t) ⟨d,u,hal h' L (LoO .exhausted none fn ps.toArray assign body D (FA lt t)),n'⟩)
(finP:∀c h' n',JP c h' n'→Q (.panic c) (FA lt t) ⟨d,u,h',n'⟩)
(hr:RegsM lo h sv l)(hc:zC h pl 0=some sv):CallB P 8 139 [.func (.yield L) #[] #[],ptr pl 0] h n (rgQ P 8 L fn ps.toArray assign body D cx (FA lt t) d u Q):=by
 refine cal0 (all1_com (lo:=lo) (l:=l) (sv:=sv) (J:=fun done h' n'=>zF h' L=LoO .ready none fn ps.toArray assign body D (FA lt t)∧I done h' n') (JF:=fun _ _=>False) (JP:=JP) (fun done h' n' q=>(hE _ _ _ q.2).1) (fun done h' n' h2 n2 q t=>⟨by rw[t.2 L (hE _ _ _ q.2).2 (by simp)];exact q.1,hcl _ _ _ _ _ q.2 t⟩) (fun done h' n' sv l q h0 n0 q0 r=>?_) (fun done e h' n' q hp=>(rou (args:=[.agg ⟨deepC e⟩]) q.1 hps (bd done e h' n' q.2 q.1 hp)).mono ?_) ⟨hL,h0⟩ hr hc) ?_
 · exact RegsM.tch (n:=lo) (n':=lo) ⟨Nat.le_refl _,fun b hb _=>by rw[hk _ _ _ q.2 b hb,hk _ _ _ q0.2 b hb]⟩ (Nat.le_refl _) r
 · rintro r h2 n2 ⟨a,⟨b1,b2,b3,b4⟩|⟨c,b1,b2⟩⟩
   · exact⟨a,.inl ⟨b1,⟨b2,b3⟩,b4⟩⟩
   · exact⟨a,.inr (.inr ⟨c,b1,b2⟩)⟩
 · rintro _ h' n' ⟨hn,⟨rfl,⟨q1,q2⟩|q⟩|⟨c,rfl,q⟩⟩
   · exact .inl ⟨q1,fin h' n' q1 q2⟩
   · exact q.elim
   · exact finP c h' n' q
abbrev zPw:Nat:=155+1
theorem places_com{lo n:Nat}{h:zB}{sv:Value}{l:List RegT}(hr:RegsM lo h sv l)(hlo:lo≤n):Com P 8 29 [sv] h n fun o h' n'=>Tch [] h n h' n'∧((∃e,geoP l = .error e∧o = .ret (.tuple ⟨[.slice none 0 0,.slice none 0 0,I64 e]⟩))∨∃s nsv psv,geoP l = .ok s∧o = .ret (.tuple ⟨[nsv,psv,I64 0]⟩)∧Own n n' h' nsv sK 1 s.ns.length (s.ns.map str)∧Own n n' h' psv ePl 3 s.ps.length (s.ps.flatMap plC)):=by
 refine ent fun u=>?_;have hone:=(hr.row 0).one;repeat' first|refine wk ?_|refine cX (fun _=>?_) fun _=>?_|fail
 refine uB (all_ret hone) ?_
 rintro _ h2 n2 ⟨pl,rfl,p1,p2,p3,ht2⟩
 have hn2:=ht2.le;have g:=gw_init ht2;have c0:Cel h2 n (25+1) 0 [.slice none 0 0]:=zD;have c1:Cel h2 (n+1) (79+1) 0 [.slice none 0 0]:=zD;have c2:Cel h2 (n+2) (38+1) 0 [I64 0]:=zD;have c6:Cel h2 (n+6) zPw 0 [ptr (n+5) 0]:=zD;have tb:Tch [] h n h2 n2:=zA;repeat' first|refine wk ?_|refine cX (fun _=>?_) fun _=>?_|fail
 clear ht2;refine wc_rg0 (g:=139) (fs:=[]) (cs:=[ptr pl 0]) (by(apply uX;((conv=>lhs;whnf) <;> exact rfl))) ?_;have tl:∀o,Tch [] h2 n2 (hal (hal h2 n2 (.deferred true)) (n2+1) o) (n2+2):=fun o=>zA;have hdf:∀o,zF (hal (hal h2 n2 (.deferred true)) (n2+1) o) n2 = .deferred true:=fun o=>by rw[zM,if_neg (by omega),zM,if_pos rfl]
 refine all_core (lo:=lo) (l:=l) (sv:=sv) (ps:=[15]) (fun done h' n'=>n2+2≤n'∧∃w wm nsv psv wsv roots,done.foldl wStep (.ok w0) = .ok w∧Gw (n+3) h' n' (n+5) (n+3) [nsv,psv,.map (some (n+3)),wsv,I64 roots] nsv psv wsv w.ns w.ns w.ps wm∧WInv w wm roots∧KeepR (n+3) (n+5) (n+3) (hal h2 n2 (.deferred true)) (n2+1) h' n')
  (fun c h' n'=>n2+2≤n'∧(∃e,geoP l = .error e∧c=stopG e)∧KeepR (n+3) (n+5) (n+3) (hal h2 n2 (.deferred true)) (n2+1) h' n') rfl tI ⟨Nat.le_refl _,w0,_,_,_,_,_,rfl,g.tch (tl _),WInv.init,(KeepR.refl _ _ _ _ _).stepL (zA:Tch [] (hal h2 n2 (.deferred true)) (n2+1) _ (n2+2)) (by simp)⟩ ?_ ?_ ?_ ?_ ?_ ?_ (RegsM.tch zA hlo hr) zJ
 · rintro done h' n' ⟨hn',_⟩;omega
 · rintro done h' n' h3 n3 ⟨hn',w,wm,nsv,psv,wsv,roots,hw,g,hi,kp⟩ t
   have:=t.le;exact⟨by omega,w,wm,nsv,psv,wsv,roots,hw,g.tch t,hi,kp.stepL t (by simp)⟩
 · rintro done h' n' ⟨hn',w,wm,nsv,psv,wsv,roots,hw,g,hi,kp⟩ b hb
   rw[kp.2 b (by omega) (.inl (by omega)),zM,if_neg (by omega),zM,if_neg (by omega),zM,if_neg (by omega)]
 · rintro done ⟨x,d⟩ h' n' ⟨hn',w,wm,nsv,psv,wsv,roots,hw,g',hi,kp⟩ hL hpre
   have hpos:=pre_pos 7 1 l (x,d) (hpre.subset (by simp));obtain⟨dn,rfl,hd6⟩:∃dn:Nat,d=((dn+1:Nat):Int)∧dn≤6:=⟨(d - 1).toNat,by dsimp only at hpos;omega,by dsimp only at hpos;omega⟩;obtain⟨top0,ht0⟩:=geo_top hpre hw;rw [hi.ways]at ht0;obtain⟨v,htop⟩:=wOf_at ht0;obtain⟨e1,e2,e3⟩:=hi.el _ _ htop;have hle:=hi.ok.le;have hle:w.ns.length≤200:=hle;have hxo:=pre_one 7 1 l sv (x,((dn+1:Nat):Int)) hr (hpre.subset (by simp));have c6B:Cel (hal h2 n2 (.deferred true)) (n+6) zPw 0 [ptr (n+5) 0]:=zD;have c6':Cel h' (n+6) zPw 0 [ptr (n+5) 0]:=cel_same c6B (kp.2 (n+6) (by omega) (.inr ⟨by omega,by omega,.inr ⟨_,_,by decide,c6B.1⟩⟩));have hiL:xI (zF h' (n2+1))=none:=by rw[hL];rfl
   have hmL:∀es c,zF h' (n2+1)≠.map es c:=fun es c e=>by rw[hL]at e;cases e
   have hbwL:xI (zF h' (n+5))=some (5,zW,0):=g'.cel.1;clear c6B;repeat' first|refine wk ?_|refine cX (fun _=>?_) fun _=>?_|fail
   refine cal (one_com (g'.lp (L:=n2+1) (zA) hiL hmL) (by omega) htop (fun h=>by subst h;exact hi.rts _ htop) hxo hi.ok e1 e2 (by dsimp only at e3 ⊢;omega) (by have:=hi.len;omega)) ?_
   rintro _ h3 n3 ⟨k3,⟨e,he,rfl⟩|⟨p,nsv',psv',wsv',v',hp,rfl,g3⟩⟩
   · repeat' first|refine wk ?_|refine cX (fun _=>?_) fun _=>?_|fail
     have k3n:=k3.1;exact⟨by omega,.inr ⟨_,rfl,by omega,⟨e,geo_bad hpre (by rw[List.foldl_append,hw];exact hi.bad htop he),rfl⟩,(kp.stepL (S:=[n2+1]) zA (by simp)).mono k3 (Nat.le_refl _)⟩⟩
   · have hL3:=k3.2 (n2+1) (by omega) (.inr ⟨by omega,by omega,.inl (by rw[zM,if_pos rfl];rfl)⟩);rw [zM,if_pos rfl]at hL3;have k3n:=k3.1;have k4:=(kp.stepL (S:=[n2+1]) zA (by simp)).mono k3 (Nat.le_refl _)
     have same:∀b,b<n'→xI (zF h' b)=some (4,52+1,0)→zF h3 b=zF h' b:=fun b hb hib=>by
      have hbL:b≠n2+1:=fun e=>by rw[e,hiL]at hib;cases hib
      obtain⟨es,ck,hme,_⟩:=g'.mp;refine(k3.2 b (by omega) (.inr ⟨fun e=>by rw[e,hbwL]at hib;simp at hib,fun e=>(by rw[e,hme]at hib;cases hib),.inr ⟨4,52+1,by decide,?_⟩⟩)).trans ((zA:Tch [n2+1] h' n' _ (n'+1)).2 b hb (by simpa using hbL));exact(congrArg xI ((zA:Tch [n2+1] h' n' _ (n'+1)).2 b hb (by simpa using hbL))).trans hib
     obtain⟨s1,s2⟩:=hi.step (v':=v') (nv:=.slice none 0 0) hd6 htop hp;repeat' first|refine wk ?_|refine cX (fun _=>?_) fun _=>?_|fail
     have tz:=fun o=>(zA:Tch [n2+1] h3 n3 (hal h3 (n2+1) o) n3);refine⟨by omega,.inl ⟨rfl,xN,⟨by omega,_,_,_,_,_,_,by rw[List.foldl_append,hw];exact s1,g3.lp (tz _) (by rw[hL3];rfl) (fun es c e=>by rw[hL3]at e;cases e),s2,k4.stepL (tz _) (by simp)⟩,fun b hb hib=>?_⟩⟩;rw [zM,if_neg fun e=>by rw[← e,hiL]at hib;cases hib];exact same b hb hib
 · rintro h' n' hL ⟨hn',w,wm,nsv,psv,wsv,roots,hw,g',hi,kp⟩
   have hiL:xI (zF h' (n2+1))=none:=by rw[hL];rfl
   clear hL
   have kc:∀(b z:Nat) vs,Cel h2 b z 0 vs→0<z→b<n2→b≠n+5→b≠n+3→Cel h' b z 0 vs:=fun b z vs c hz hb h5 h3=>by
    have c':Cel (hal h2 n2 (.deferred true)) b z 0 vs:=c.hal (by omega);exact cel_same c' (kp.2 b (by omega) (.inr ⟨h5,h3,.inr ⟨_,_,hz,c'.1⟩⟩))
   have d0:=kc _ _ _ c0 (by decide) (by omega) (by omega) (by omega);have d1:=kc _ _ _ c1 (by decide) (by omega) (by omega) (by omega);have d2:=kc _ _ _ c2 (by decide) (by omega) (by omega) (by omega);have d6:=kc _ _ _ c6 (by decide) (by omega) (by omega) (by omega);have hdr:zF h' n2 = .deferred true:=by rw[kp.2 n2 (by omega) (.inr ⟨by omega,by omega,.inl (by rw[zM,if_pos rfl];rfl)⟩),zM,if_pos rfl]
   have gc:=g'.cel;have on:=g'.on;have op:=g'.op;have on1:=on.one;have op1:=op.one;have tt:Tch [] h n h' n':=⟨by omega,fun b hb _=>by rw[kp.2 b (by omega) (.inl (by omega)),zM,if_neg (by omega)];exact tb.2 b hb (by simp)⟩
   obtain⟨s,ways,hws,hgs⟩:∃s ways,(⟨s.ns,s.ps,ways⟩:WSt)=w∧geoP l = .ok s:=by
    rcases geo_walk l with⟨e,h1,_⟩|⟨s,ways,h1,h2⟩
    · rw[h1]at hw;cases hw
    · rw[h1]at hw;exact⟨s,ways,Except.ok.inj hw,h2⟩
   subst hws;clear c0 c1 c2 c6 g kc;repeat' first|refine wk ?_|refine cX (fun _=>?_) fun _=>?_|fail
   refine lv_none (g:=83) (args:=[]) (cap:=[ptr n 0,ptr (n+1) 0,ptr (n+2) 0]) places1_none ?_
   rintro h3 n3 t3
   have e0:Cel h3 n (25+1) 0 [nsv]:=zD;have e1:Cel h3 (n+1) (79+1) 0 [psv]:=zD;have e2:Cel h3 (n+2) (38+1) 0 [I64 0]:=zD;have tE:Tch [n,n+1,n+2,n2+1,n2] h' n' h3 n3:=zA
   have no:∀{v e sz len vs},Own (n+3) n' h' v e sz len vs→∀b,zO v=some b→b∉[n,n+1,n+2,n2+1,n2]:=fun o b hb hx=>by
    rcases o with⟨rfl,_⟩|⟨b2,q1,q2,rfl,p3,_⟩
    · cases hb
    · injection hb with hb
      have hb:b2=b:=hb;subst hb;simp at hx;rcases hx with h|h|h|h|h
      · omega
      · omega
      · omega
      · rw[h,hiL]at p3;cases p3
      · rw[h,hdr]at p3;cases p3
   have on3:=(on.tch tE (no on)).dnl (lo':=n) (by omega);have op3:=(op.tch tE (no op)).dnl (lo':=n) (by omega);have tF:Tch [] h n h3 n3:=Tch.tch tE tt fun x hx=>.inl (by simp at hx;omega);clear t3 tE;repeat' first|refine wk ?_|refine cX (fun _=>?_) fun _=>?_|fail
   exact⟨tF,.inr ⟨s,nsv,psv,hgs,rfl,on3,op3⟩⟩
 · rintro c h' n' ⟨hn',⟨e,he,rfl⟩,kp⟩
   have kc:∀(b z:Nat) vs,Cel h2 b z 0 vs→0<z→b<n2→b≠n+5→b≠n+3→Cel h' b z 0 vs:=fun b z vs c hz hb h5 h3=>by
    have c':Cel (hal h2 n2 (.deferred true)) b z 0 vs:=c.hal (by omega);exact cel_same c' (kp.2 b (by omega) (.inr ⟨h5,h3,.inr ⟨_,_,hz,c'.1⟩⟩))
   have d0:=kc _ _ _ c0 (by decide) (by omega) (by omega) (by omega);have d1:=kc _ _ _ c1 (by decide) (by omega) (by omega) (by omega);have d2:=kc _ _ _ c2 (by decide) (by omega) (by omega) (by omega);have hdr:zF h' n2 = .deferred true:=by rw[kp.2 n2 (by omega) (.inr ⟨by omega,by omega,.inl (by rw[zM,if_pos rfl];rfl)⟩),zM,if_pos rfl]
   have tt:Tch [] h n h' n':=⟨by omega,fun b hb _=>by rw[kp.2 b (by omega) (.inl (by omega)),zM,if_neg (by omega)];exact tb.2 b hb (by simp)⟩;clear c0 c1 c2 c6 g kc;repeat' first|refine wk ?_|refine cX (fun _=>?_) fun _=>?_|fail
   refine uZ (g:=83) (args:=[]) (cap:=[ptr n 0,ptr (n+1) 0,ptr (n+2) 0]) (places1_some (by omega) (by omega) (by omega) (by omega) (by omega) (by omega) zD zD zD) ?_
   rintro h3 n3 ⟨t3,e0,e1,e2⟩
   have tF:Tch [] h n h3 n3:=Tch.tch (zA:Tch [n,n+1,n+2,n2] h' n' h3 n3) tt fun x hx=>.inl (by simp at hx;omega);repeat' first|refine wk ?_|refine cX (fun _=>?_) fun _=>?_|fail
   exact⟨tF,.inl ⟨e,he,rfl⟩⟩
end Go.Proofs.YtmccnilgnlaffaaGreatDoor
namespace Go.Proofs.YtmccnilgnlaffaaGreatDoor
open Go Go.Ex Go.Ex.M
set_option maxRecDepth 100000
set_option maxHeartbeats 8000000
attribute [local simp] xV
theorem mach_dn{lo n n':Nat}{h h':zB}{m:MachT}{S:List Nat}(t:Tch S h n h' n')(hl:lo≤n)(hS:∀b∈S,lo≤b)(r:MachM lo h m):MachM lo h' m:=MachM.tch (n:=lo) (n':=lo) ⟨Nat.le_refl _,fun b hb _=>t.2 b (by omega) fun hx=>by have:=hS b hx;omega⟩ (Nat.le_refl _) r
abbrev zCk:Nat:=144+1
theorem mach_oneG{lo:Nat}{h:zB}{m:MachT}(mm:MachM lo h m):m.rsv.oneCell'=true∧m.csv.oneCell'=true∧m.osv.oneCell'=true∧m.asv.oneCell'=true∧m.ssv.oneCell'=true:=⟨(mm.regs.row 0).one,(mm.cls 0).one,(mm.ops 0).one,(mm.args 0).one,(mm.saved 0).one⟩
variable {lo bc n:Nat} {h:zB} {m:MachT}
theorem head_com(mm:MachM lo h m)(hlo:lo≤bc)(hbc:bc<n)(hc:Cel h bc zCk 0 (vT m++[.slice none 0 0,.slice none 0 0])):Com P 8 73 [ptr bc 0] h n fun o h' n'=>Tch [bc] h n h' n'∧((named m.name=false∧o = .panic (uQ 5))∨named m.name=true∧((∃e,geoP m.regs = .error e∧o = .panic (uQ e))∨∃s,geoP m.regs = .ok s∧((s.ns=[]∧o = .panic (uQ 1))∨s.ns≠[]∧o = .ret (.tuple #[])∧∃nsv psv,Ck n' h' bc zCk m nsv psv s.ns s.ps))):=by
 obtain⟨o1,o2,o3,o4,o5⟩:=mach_oneG mm;refine ent fun u=>?_;repeat' first|refine wk ?_|refine cX (fun _=>?_) fun _=>?_|fail
 · rename_i hnm;refine cal (places_com mm.regs (by omega)) ?_
   rintro _ h2 n2 ⟨ht,⟨e,he,rfl⟩|⟨s,nsv,psv,hs,rfl,on,op⟩⟩
   · have hn2:=ht.le;have he0:=geo_err he;repeat' first|refine wk ?_|refine cX (fun _=>?_) fun _=>?_|fail
     · exact⟨zA,.inr ⟨hnm,.inl ⟨e,he,rfl⟩⟩⟩
   · have hn2:=ht.le;have on1:=on.one;have op1:=op.one;have rn:=on.row (by decide);have rp:=op.row (by decide);have gok:=geo_ok hs;have gl:=gok.le;repeat' first|refine wk ?_|refine cX (fun _=>?_) fun _=>?_|fail
     · rename_i f1;have c2:Cel (hst (hst h2 bc 8 [nsv]) bc 9 [psv]) bc zCk 0 (vT m++[nsv,psv]):=zD;have tE:Tch [bc] h n (hst (hst h2 bc 8 [nsv]) bc 9 [psv]) n2:=zA;have tS:Tch [bc] h2 n2 (hst (hst h2 bc 8 [nsv]) bc 9 [psv]) n2:=zA
       have nb:∀{v e sz len vs},Own n n2 h2 v e sz len vs→∀b,zO v=some b→b∉[bc]:=fun o b hb hx=>by
        have:=yN o b (by rw[hb];simp);simp at hx;omega
       refine⟨tE,.inr ⟨hnm,.inr ⟨s,hs,.inr ⟨fun e=>by rw[e]at f1;simp at f1,rfl,nsv,psv,⟨(mach_dn tE (by omega) (by simp;omega) mm).up (by omega),c2,(on.tch tS (nb on)).row (by decide),(op.tch tS (nb op)).row (by decide),by omega,gok.len,gl,fun p hp=>(gok.pl p hp).ok⟩⟩⟩⟩⟩
     · rename_i f1;exact⟨zA,.inr ⟨hnm,.inr ⟨s,hs,.inl ⟨List.eq_nil_of_length_eq_zero (by omega),rfl⟩⟩⟩⟩
 · exact⟨zA,.inl ⟨by assumption,rfl⟩⟩
end Go.Proofs.YtmccnilgnlaffaaGreatDoor
namespace Go.Proofs.YtmccnilgnlaffaaGreatDoor
open Go Go.Ex Go.Ex.M
set_option maxRecDepth 100000
set_option maxHeartbeats 8000000
attribute [local simp] xV
abbrev eCls:Nat:=66
abbrev eOp:Nat:=50
abbrev eOpr:Nat:=47
abbrev zMc:Nat:=27+1
theorem uG{lo lo' n n':Nat}{h:zB}{v v':Value}{e sz len e' sz' len':Nat}{vs vs':List Value}(o:OwnE lo n h v e sz len vs)(o':Own lo' n' h v' e' sz' len' vs')(hne:e≠e'∨sz≠sz')(hs:1≤sz'):Dj v v':=fun b hb e2=>by
 rcases o with o|⟨⟨b1,z,kd,_,_,rfl,q3,_⟩,_,_⟩
 · exact own_dj o o' hne b hb e2
 · rcases o' with⟨rfl,_⟩|⟨b2,_,_,rfl,p3,p4,p5,_⟩
   · cases e2
   · injection hb with hb
     injection e2 with e2
     have hb:b1=b:=hb;have e2:b2=b:=e2;subst hb e2;rw [q3]at p3;injection p3 with p3
     injection p3 with p3 _
     have:0<len'*sz':=Nat.mul_pos p5 hs;omega
theorem ownE_lt{lo n b0:Nat}{h:zB}{v:Value}{e sz len:Nat}{vs:List Value}(o:OwnE lo n h v e sz len vs)(hb:b0<lo):∀b,zO v=some b→b∉[b0]:=fun b hb2 hx=>by
 have:=o.low b (by rw[hb2];simp);simp at hx;omega
theorem xO{lo lo' n:Nat}{h:zB}{v:Value}{e sz len:Nat}{vs:List Value}(o:OwnE lo n h v e sz len vs)(hl:lo'≤lo):OwnE lo' n h v e sz len vs:=by
 rcases o with o|⟨⟨b,z,kd,h1,h2⟩,h3⟩
 · exact .inl (o.dnl hl)
 · exact .inr ⟨⟨b,z,kd,by omega,h2⟩,h3⟩
structure CpC (lo n:Nat) (h:zB) (c c':ClassT):Prop where
 nm:c'.name=c.name
 rg:c'.regs=c.regs
 row:OwnE lo n h c'.rsv sK 1 c.regs.length (c.regs.map str)
structure CpO (lo n:Nat) (h:zB) (o o':OpT):Prop where
 nm:o'.name=o.name
 d:o'.d=o.d
 tie:o'.tie=o.tie
 us:o'.uses=o.uses
 cb:o'.clob=o.clob
 ru:OwnE lo n h o'.usv eOpr 2 o.uses.length (o.uses.flatMap oprC)
 rc:OwnE lo n h o'.csv sK 1 o.clob.length (o.clob.map str)
structure CpM (lo n:Nat) (h:zB) (m m':MachT):Prop where
 nm:m'.name=m.name
 res:m'.result=m.result
 slots:m'.slots=m.slots
 ag:m'.args=m.args
 sd:m'.saved=m.saved
 r1:m'.rsv.oneCell'=true
 cl:m'.classes.length=m.classes.length
 cr:OwnE lo n h m'.csv eCls 2 m.classes.length (m'.classes.flatMap clsC)
 ce:∀(i:Nat) c,m.classes[i]? = some c→∃c',m'.classes[i]? = some c'∧CpC lo n h c c'
 ol:m'.ops.length=m.ops.length
 orr:OwnE lo n h m'.osv eOp 6 m.ops.length (m'.ops.flatMap opC)
 oe:∀(i:Nat) o,m.ops[i]? = some o→∃o',m'.ops[i]? = some o'∧CpO lo n h o o'
 ar:OwnE lo n h m'.asv sK 1 m.args.length (m.args.map str)
 sr:OwnE lo n h m'.ssv sK 1 m.saved.length (m.saved.map str)
theorem CpC.tchS{S:List Nat}{lo n n':Nat}{h h':zB}{c c':ClassT}(k:CpC lo n h c c')(t:Tch S h n h' n')(hS:∀b,zO c'.rsv=some b→b∉S):CpC lo n' h' c c':=⟨k.nm,k.rg,k.row.tch t hS⟩
theorem CpO.tchS{S:List Nat}{lo n n':Nat}{h h':zB}{o o':OpT}(k:CpO lo n h o o')(t:Tch S h n h' n')(hS:∀b,zO o'.usv=some b→b∉S)(hS2:∀b,zO o'.csv=some b→b∉S):CpO lo n' h' o o':=⟨k.nm,k.d,k.tie,k.us,k.cb,k.ru.tch t hS,k.rc.tch t hS2⟩
structure SmlM (m:MachT):Prop where
 rg:Sml 6 m.regs
 cls:m.classes.length≤64
 clr:∀c∈m.classes,c.regs.length≤64
 ops:m.ops.length≤64
 opu:∀o∈m.ops,o.uses.length≤2
 opc:∀o∈m.ops,o.clob.length≤200
 args:m.args.length≤200
 saved:m.saved.length≤200
theorem clsC_one{lo:Nat}{h:zB}{m:MachT}(mm:MachM lo h m):∀y∈m.classes.flatMap clsC,y.oneCell'=true:=fun y hy=>by
 obtain⟨c,hm,hy⟩:=List.mem_flatMap.1 hy;have:=(mm.clsr c hm 0).one;simp at hy;rcases hy with rfl|rfl
 · rfl
 · exact this
theorem opC_one{lo:Nat}{h:zB}{m:MachT}(mm:MachM lo h m):∀y∈m.ops.flatMap opC,y.oneCell'=true:=fun y hy=>by
 obtain⟨c,hm,hy⟩:=List.mem_flatMap.1 hy;have h1:=(mm.opsu c hm 0).one;have h2:=(mm.opsc c hm 0).one;simp at hy;rcases hy with rfl|rfl|rfl|rfl|rfl|rfl
 · rfl
 · rfl
 · rfl
 · exact h1
 · rfl
 · exact h2
theorem oprC_one(l:List OperT):∀y∈l.flatMap oprC,y.oneCell'=true:=fun y hy=>by
 obtain⟨c,hm,hy⟩:=List.mem_flatMap.1 hy;simp at hy;rcases hy with rfl|rfl <;> rfl
abbrev mc0:List Value:=[str [],.slice none 0 0,.slice none 0 0,.slice none 0 0,.slice none 0 0,str [],.slice none 0 0,I64 0]
theorem rs_agg{l:List (Nat×Value)}{t:Fr}{h:zB}{i ty sz b off:Nat}{vs:List Value}[s:ShC P ty (.agg sz)](e:lk l t i = .pointer (some ⟨b,off,none⟩))(hl:vs.length=sz)(h0:0<sz)(hr:∀(j:Nat) x,vs[j]? = some x→zC h b (off+j)=some x):Rs P l t h [.cell i ty] [.agg ⟨vs⟩]:=⟨_,_,rfl,by rw[e];exact load_agg s.ok hl h0 hr,rfl⟩
variable {lo n:Nat} {h:zB} {m:MachT}
theorem copied_ret(mm:MachM lo h m)(hlo:lo≤n)(sm:SmlM m):Ret P 8 28 [.agg ⟨vT m⟩] h n fun v h' n'=>∃m',v = .agg ⟨vT m'⟩∧CpM n n' h' m m'∧Tch [] h n h' n':=by
 obtain⟨o1,o2,o3,o4,o5⟩:=mach_oneG mm;have hinf:inf<4611686018427387904:=by decide
 have s1:=sm.cls;have s2:=sm.ops;refine ent fun u=>?_;repeat' first|refine wk ?_|refine cX (fun _=>?_) fun _=>?_|fail
 refine uB (regs_ret 6 sm.rg (RegsM.tch zA hlo mm.regs) (by omega)) ?_
 rintro v1 h2 n2 ⟨ov1,ht2⟩
 have hn2:=ht2.le;repeat' first|refine wk ?_|refine cX (fun _=>?_) fun _=>?_|fail
 have t2:Tch [] h n (hst h2 n (0+1) [v1]) n2:=zA;have hc0:Cel (hst h2 n (0+1) [v1]) n zMc 0 [str m.name,v1,m.csv,m.osv,m.asv,str m.result,m.ssv,I64 m.slots]:=zD;have hc1:Cel (hst h2 n (0+1) [v1]) (n+1) zMc 0 mc0:=zD;generalize hst h2 n (0+1) [v1]=h3 at *
 have m3:=mm.tch t2 hlo;have zc:=mm.cls 0;have zo:=mm.ops 0;have za:=mm.args 0;have zs:=mm.saved 0;clear ht2;refine uB (clone_cls (m3.cls _) (by omega) (clsC_one mm) (by omega)) ?_
 rintro v4 h4 n4 ⟨w4,t4⟩
 have hn4:=t4.le;have ov4:=yT w4;repeat' first|refine wk ?_|refine cX (fun _=>?_) fun _=>?_|fail
 refine uB (clone_op (MachM.tch t4 (by omega) m3 |>.ops _) (by omega) (opC_one mm) (by omega)) ?_
 rintro v5 h5 n5 ⟨w5,t5⟩
 have hn5:=t5.le;have ov5:=yT w5;have w4r:=w4.row (by decide);have w5r:=w5.row (by decide);repeat' first|refine wk ?_|refine cX (fun _=>?_) fun _=>?_|fail
 have t6:Tch [] h n (hst (hst h5 n (0+2) [v4]) n (0+3) [v5]) n5:=zA;have d0:Cel (hst (hst h5 n (0+2) [v4]) n (0+3) [v5]) n zMc 0 [str m.name,v1,v4,v5,m.asv,str m.result,m.ssv,I64 m.slots]:=zD;have d1:Cel (hst (hst h5 n (0+2) [v4]) n (0+3) [v5]) (n+1) zMc 0 mc0:=zD;have tS:Tch [n] h5 n5 (hst (hst h5 n (0+2) [v4]) n (0+3) [v5]) n5:=zA;have w4:=xO (lo':=n+2) ((w4.tch t5 (by simp)).tch tS (ownE_lt w4 (by omega))) (by omega);have w5:=xO (lo':=n+2) (w5.tch tS (ownE_lt w5 (by omega))) (by omega);generalize hst (hst h5 n (0+2) [v4]) n (0+3) [v5]=h6 at *
 clear tS t5 t4 w4r w5r hc0 hc1 m3 t2;refine lpR (fun i:Nat=>[(1,ptr n 0),(2,ptr (n+1) 0),(19,I64 m.classes.length),(20,I64 i)]) (fun i h' n'=>Tch [] h n h' n'∧n+2≤n'∧Cel h' n zMc 0 [str m.name,v1,v4,v5,m.asv,str m.result,m.ssv,I64 m.slots]∧Cel h' (n+1) zMc 0 mc0∧i≤m.classes.length∧OwnE (n+2) n' h' v5 eOp 6 m.ops.length (m.ops.flatMap opC)∧∃cs:List ClassT,cs.length=m.classes.length∧OwnE (n+2) n' h' v4 eCls 2 m.classes.length (cs.flatMap clsC)∧(∀(j:Nat) c,j<i→m.classes[j]? = some c→∃c',cs[j]? = some c'∧CpC (n+2) n' h' c c')∧∀j,i≤j→cs[j]? = m.classes[j]?) (fun i=>m.classes.length - i) 0 ⟨t6,by omega,d0,d1,Nat.zero_le _,w5,m.classes,rfl,w4,fun j c hj=>by omega,fun _ _=>rfl⟩ ?_;clear w4 w5 d0 d1 t6
 rintro i t h' n' ⟨ht,hn',d0,d1,hi,wo,cs,hcl,wc,hdone,hsame⟩
 have hn9:=ht.le;by_cases hlt:i<m.classes.length
 · have c0:m.classes[i]? = some m.classes[i]:=List.getElem?_eq_getElem hlt;generalize m.classes[i]=c at c0
   have c0':cs[i]? = some c:=by rw[hsame i (Nat.le_refl _)];exact c0
   have hx:=List.mem_of_getElem? c0;have ho:=ownE_pos wc (by omega);obtain⟨bb,rfl,hb1,hb2⟩:=own_head ho (by omega);have hor:=ho.row (by decide);have y1:zC h' bb (i*2+1)=some c.rsv:=own_at ho (by decide) (uA (f:=clsC) (sz:=2) (fun _=>rfl) c0' (j:=1) rfl);have iad:=iadO (sz:=2) (b:=bb) (cap:=inf) hlt;have zr:=mm.clsr c hx 0;have hxo:=zr.one;have hle:=sm.clr c hx;repeat' first|refine ob (a:=ptr bb (i*2)) ?_ iad|refine wk ?_|refine cX (fun _=>?_) fun _=>?_|fail
   refine uB (clone_str ((mm.tch ht hlo).clsr c hx 0) (by omega) (str_one _) (by omega)) ?_
   rintro v7 h7 n7 ⟨w7,t7⟩
   have hn7:=t7.le;have ov7:=yT w7;have ho7:=ho.tch t7 (by simp);have wo7:=wo.tch t7 (by simp);have w7r:=w7.row (by decide);have hvl:i*2+1<(cs.flatMap clsC).length:=by rw[flat_len (f:=clsC) (sz:=2) (fun _=>rfl)];omega
   repeat' first|refine ob (a:=ptr bb (i*2)) ?_ iad|refine ob (a:=hst _ bb (i*2+1) [v7]) ?_ (stp_own ho7 rfl hvl ov7)|refine wk ?_|refine cX (fun _=>?_) fun _=>?_|fail
   have hp:=own_put (x:=v7) ho7 rfl hvl;rw [flat_set (f:=clsC) (sz:=2) (y:=⟨c.name,v7,c.regs⟩) (fun _=>rfl) (by decide) rfl c0']at hp;have tB:Tch [bb] h7 n7 (hst h7 bb (i*2+1) [v7]) n7:=zA
   exact rnd (i+1) ⟨zA,by omega,zD,zD,by omega,wo7.tch tB (uG wo7 ho7 (.inl (by decide)) (by decide)).no,_,by rw[List.length_set];exact hcl,.inl hp,fun j c1 hj e=>by
    rcases Nat.lt_succ_iff_lt_or_eq.1 hj with h9|rfl
    · obtain⟨c',e1,e2⟩:=hdone j c1 h9 e;have e2:=CpC.tchS e2 t7 (by simp);exact⟨c',by rw[List.getElem?_set_ne (by omega)];exact e1,CpC.tchS e2 tB (uG e2.row ho7 (.inl (by decide)) (by decide)).no⟩
    · rw[c0]at e;cases e;exact⟨_,List.getElem?_set_self (by omega),rfl,rfl,xO (w7.tch tB (ownE_lt w7 (by omega))) (by omega)⟩,fun j hj=>by rw[List.getElem?_set_ne (by omega)];exact hsame j (by omega)⟩
 obtain rfl:i=m.classes.length:=by omega
 clear hsame hlt hi;have wor:=wo.row (by decide);repeat' first|refine wk ?_|refine cX (fun _=>?_) fun _=>?_|fail
 clear wor;refine lpR (fun i:Nat=>[(1,ptr n 0),(2,ptr (n+1) 0),(38,I64 m.ops.length),(39,I64 i)]) (fun i h' n'=>Tch [] h n h' n'∧n+2≤n'∧Cel h' n zMc 0 [str m.name,v1,v4,v5,m.asv,str m.result,m.ssv,I64 m.slots]∧Cel h' (n+1) zMc 0 mc0∧i≤m.ops.length∧OwnE (n+2) n' h' v4 eCls 2 m.classes.length (cs.flatMap clsC)∧(∀(j:Nat) c,m.classes[j]? = some c→∃c',cs[j]? = some c'∧CpC (n+2) n' h' c c')∧∃os:List OpT,os.length=m.ops.length∧OwnE (n+2) n' h' v5 eOp 6 m.ops.length (os.flatMap opC)∧(∀(j:Nat) o,j<i→m.ops[j]? = some o→∃o',os[j]? = some o'∧CpO (n+2) n' h' o o')∧∀j,i≤j→os[j]? = m.ops[j]?) (fun i=>m.ops.length - i) 0 ⟨ht,by omega,d0,d1,Nat.zero_le _,wc,fun j c e=>hdone j c (List.getElem?_eq_some_iff.1 e).1 e,m.ops,rfl,wo,fun j c hj=>by omega,fun _ _=>rfl⟩ ?_;clear wo wc hdone d0 d1 ht
 rintro i t h' n' ⟨ht,hn',d0,d1,hi,wc,hcd,os,hol,wo,hdone,hsame⟩
 have hn9:=ht.le;by_cases hlt:i<m.ops.length
 · have c0:m.ops[i]? = some m.ops[i]:=List.getElem?_eq_getElem hlt;generalize m.ops[i]=o at c0
   have c0':os[i]? = some o:=by rw[hsame i (Nat.le_refl _)];exact c0
   have hx:=List.mem_of_getElem? c0;have ho:=ownE_pos wo (by omega);obtain⟨bb,rfl,hb1,hb2⟩:=own_head ho (by omega);have hor:=ho.row (by decide);have y3:zC h' bb (i*6+3)=some o.usv:=own_at ho (by decide) (uA (f:=opC) (sz:=6) (fun _=>rfl) c0' (j:=3) rfl);have y5:zC h' bb (i*6+5)=some o.csv:=own_at ho (by decide) (uA (f:=opC) (sz:=6) (fun _=>rfl) c0' (j:=5) rfl);have iad:=iadO (sz:=6) (b:=bb) (cap:=inf) hlt;have zu:=mm.opsu o hx 0;have zv:=mm.opsc o hx 0;have hxo:=zu.one;have hxv:=zv.one;have hle:=sm.opu o hx;have hle2:=sm.opc o hx;repeat' first|refine ob (a:=ptr bb (i*6)) ?_ iad|refine wk ?_|refine cX (fun _=>?_) fun _=>?_|fail
   refine uB (clone_opr ((mm.tch ht hlo).opsu o hx _) (by omega) (oprC_one _) (by omega)) ?_
   rintro v7 h7 n7 ⟨w7,t7⟩
   have hn7:=t7.le;have ov7:=yT w7;have w7r:=w7.row (by decide);have ho7:=ho.tch t7 (by simp);have z5:zC h7 bb (i*6+5)=some o.csv:=own_at ho7 (by decide) (uA (f:=opC) (sz:=6) (fun _=>rfl) c0' (j:=5) rfl);repeat' first|refine ob (a:=ptr bb (i*6)) ?_ iad|refine wk ?_|refine cX (fun _=>?_) fun _=>?_|fail
   refine uB (clone_str (((mm.tch ht hlo).tch t7 (by omega)).opsc o hx _) (by omega) (str_one _) (by omega)) ?_
   rintro v8 h8 n8 ⟨w8,t8⟩
   have hn8:=t8.le;have ov8:=yT w8;have w8r:=w8.row (by decide);have ho8:=ho7.tch t8 (by simp);have wc8:=(wc.tch t7 (by simp)).tch t8 (by simp);have hfl:(os.flatMap opC).length=os.length*6:=flat_len (f:=opC) (sz:=6) (fun _=>rfl) os;have hvl:i*6+3<(os.flatMap opC).length:=by omega
   have hp:=own_put (x:=v7) ho8 rfl hvl;rw [flat_set (f:=opC) (sz:=6) (y:=⟨o.name,o.d,v7,o.uses,o.tie,o.csv,o.clob⟩) (fun _=>rfl) (by decide) rfl c0']at hp;have c0s:(os.set i ⟨o.name,o.d,v7,o.uses,o.tie,o.csv,o.clob⟩)[i]? = some ⟨o.name,o.d,v7,o.uses,o.tie,o.csv,o.clob⟩:=List.getElem?_set_self (by omega);have hvl2:i*6+5<((os.set i ⟨o.name,o.d,v7,o.uses,o.tie,o.csv,o.clob⟩).flatMap opC).length:=by rw[flat_len (f:=opC) (sz:=6) (fun _=>rfl),List.length_set];omega
   repeat' first|refine ob (a:=ptr bb (i*6)) ?_ iad|refine ob (a:=hst (hst _ bb (i*6+3) [v7]) bb (i*6+5) [v8]) ?_ (stp_own hp rfl hvl2 ov8)|refine ob (a:=hst _ bb (i*6+3) [v7]) ?_ (stp_own ho8 rfl hvl ov7)|refine wk ?_|refine cX (fun _=>?_) fun _=>?_|fail
   have hp2:=own_put (x:=v8) hp rfl hvl2;rw [flat_set (f:=opC) (sz:=6) (y:=⟨o.name,o.d,v7,o.uses,o.tie,v8,o.clob⟩) (fun _=>rfl) (by decide) rfl c0s]at hp2;have tB:Tch [bb] h8 n8 (hst (hst h8 bb (i*6+3) [v7]) bb (i*6+5) [v8]) n8:=zA
   exact rnd (i+1) ⟨zA,by omega,zD,zD,by omega,wc8.tch tB (uG wc8 ho8 (.inl (by decide)) (by decide)).no,fun j c e=>by
    obtain⟨c',e1,e2⟩:=hcd j c e;have e2:=CpC.tchS (CpC.tchS e2 t7 (by simp)) t8 (by simp);exact⟨c',e1,CpC.tchS e2 tB (uG e2.row ho8 (.inl (by decide)) (by decide)).no⟩,_,by rw[List.length_set,List.length_set];exact hol,.inl hp2,fun j c1 hj e=>by
    rcases Nat.lt_succ_iff_lt_or_eq.1 hj with h9|rfl
    · obtain⟨c',e1,e2⟩:=hdone j c1 h9 e;have e2:=CpO.tchS (CpO.tchS e2 t7 (by simp) (by simp)) t8 (by simp) (by simp);exact⟨c',by rw[List.getElem?_set_ne (by omega),List.getElem?_set_ne (by omega)];exact e1,CpO.tchS e2 tB (uG e2.ru ho8 (.inl (by decide)) (by decide)).no (uG e2.rc ho8 (.inl (by decide)) (by decide)).no⟩
    · rw[c0]at e;cases e;have w7':=w7.tch t8 (by simp);exact⟨_,List.getElem?_set_self (by rw[List.length_set];omega),rfl,rfl,rfl,rfl,rfl,xO (w7'.tch tB (ownE_lt w7' (by omega))) (by omega),xO (w8.tch tB (ownE_lt w8 (by omega))) (by omega)⟩,fun j hj=>by rw[List.getElem?_set_ne (by omega),List.getElem?_set_ne (by omega)];exact hsame j (by omega)⟩
 obtain rfl:i=m.ops.length:=by omega
 clear hsame hlt hi;have s3:=sm.args;have s4:=sm.saved;repeat' first|refine wk ?_|refine cX (fun _=>?_) fun _=>?_|fail
 refine uB (clone_str ((mm.tch ht hlo).args _) (by omega) (str_one _) (by omega)) ?_
 rintro v7 h7 n7 ⟨w7,t7⟩
 have hn7:=t7.le;have ov7:=yT w7;have w7r:=w7.row (by decide);repeat' first|refine wk ?_|refine cX (fun _=>?_) fun _=>?_|fail
 refine uB (clone_str (((mm.tch ht hlo).tch t7 (by omega)).saved _) (by omega) (str_one _) (by omega)) ?_
 rintro v8 h8 n8 ⟨w8,t8⟩
 have hn8:=t8.le;have ov8:=yT w8;have w8r:=w8.row (by decide);have wcr:=yT wc;have wor:=yT wo;repeat' first|refine wk ?_|refine cX (fun _=>?_) fun _=>?_|fail
 have q1:Cel (hst (hst (hst h8 n (0+4) [v7]) n (0+6) [v8]) (n+1) 0 [str m.name,v1,v4,v5,v7,str m.result,v8,I64 m.slots]) (n+1) zMc 0 [str m.name,v1,v4,v5,v7,str m.result,v8,I64 m.slots]:=zD;have tE:Tch [n,n+1] h8 n8 (hst (hst (hst h8 n (0+4) [v7]) n (0+6) [v8]) (n+1) 0 [str m.name,v1,v4,v5,v7,str m.result,v8,I64 m.slots]) n8:=zA;have tF:Tch [n,n+1] h' n' (hst (hst (hst h8 n (0+4) [v7]) n (0+6) [v8]) (n+1) 0 [str m.name,v1,v4,v5,v7,str m.result,v8,I64 m.slots]) n8:=zA;have tG:Tch [n,n+1] h7 n7 (hst (hst (hst h8 n (0+4) [v7]) n (0+6) [v8]) (n+1) 0 [str m.name,v1,v4,v5,v7,str m.result,v8,I64 m.slots]) n8:=zA;have tZ:Tch [] h n (hst (hst (hst h8 n (0+4) [v7]) n (0+6) [v8]) (n+1) 0 [str m.name,v1,v4,v5,v7,str m.result,v8,I64 m.slots]) n8:=zA;refine ob (a:=[.agg ⟨[str m.name,v1,v4,v5,v7,str m.result,v8,I64 m.slots]⟩]) ?_ (rs_agg (b:=n+1) (off:=0) (by(apply lk_box;((conv=>lhs;whnf) <;> exact rfl))) rfl (by simp) fun j x hj=>(congrArg (zC _ _) (Nat.zero_add j)).trans ((q1.2 j).trans hj))
 repeat' first|refine wk ?_|refine cX (fun _=>?_) fun _=>?_|fail
 have no:∀{lo' n1 h1 v e sz len vs},OwnE lo' n1 h1 v e sz len vs→n+2≤lo'→∀b,zO v=some b→b∉[n,n+1]:=fun o hl b hb hx=>by
  have:=o.low b (by rw[hb];simp);simp at hx;omega
 exact⟨_,rfl,⟨m.name,v1,m.regs,v4,cs,v5,os,v7,m.args,m.result,v8,m.saved,m.slots⟩,rfl,⟨rfl,rfl,rfl,rfl,rfl,ov1,hcl,xO (wc.tch tF (no wc (Nat.le_refl _))) (by omega),fun j c e=>by
  obtain⟨c',e1,e2⟩:=hcd j c e;have e3:=CpC.tchS e2 tF (no e2.row (Nat.le_refl _));exact⟨c',e1,e3.nm,e3.rg,xO e3.row (by omega)⟩,hol,xO (wo.tch tF (no wo (Nat.le_refl _))) (by omega),fun j o e=>by
  obtain⟨o',e1,e2⟩:=hdone j o (List.getElem?_eq_some_iff.1 e).1 e;have e3:=CpO.tchS e2 tF (no e2.ru (Nat.le_refl _)) (no e2.rc (Nat.le_refl _));exact⟨o',e1,e3.nm,e3.d,e3.tie,e3.us,e3.cb,xO e3.ru (by omega),xO e3.rc (by omega)⟩,xO (w7.tch tG (no w7 (by omega))) (by omega),xO (w8.tch tE (no w8 (by omega))) (by omega)⟩,tZ⟩
end Go.Proofs.YtmccnilgnlaffaaGreatDoor
namespace Go.Proofs.YtmccnilgnlaffaaGreatDoor
open Go Go.Ex Go.Ex.M
set_option maxRecDepth 100000
set_option maxHeartbeats 8000000
attribute [local simp] xV
abbrev tU:Nat:=167
abbrev tSet:Nat:=92
theorem rs1A{ty i b o:Nat}[s:ShC P ty (.agg 1)]{l:List (Nat×Value)}{t:Fr}{h:zB}{x:Value}(e:lk l t i=ptr b o)(c:zC h b o=some x):Rs P l t h [.cell i ty] [.agg ⟨[x]⟩]:=⟨_,_,rfl,by rw[e];exact load_agg s.ok rfl (by decide) (rowAt.cons c (rowAt.nil _ _ _)),rfl⟩
theorem kep_full{ty e sz lo n len k:Nat}{h:zB}{v:Value}{vs:List Value}[s:SlC P ty e sz](o:Own lo n h v e sz len vs)(hk:k≤len)(hl:len<1000000)(hs:1≤sz):∃v',wB P h ty v none (some (I64 (k:Nat))) (some (I64 (k:Nat)))=some v'∧Kep lo n h v' e sz k (vs.take (k*sz))∧zO v'=zO v:=by
 obtain⟨v',h1,h2,h3,h4⟩:=slice_full (P:=P) (ty:=ty) o hk hl hs;refine⟨v',h1,?_,h3⟩;rcases o with⟨rfl,rfl,rfl⟩|⟨b,q1,q2,rfl,q3,q4,q5,q6⟩
 · have:k=0:=by omega
   subst this;rcases h4 with rfl|⟨b,rfl⟩
   · exact .inl ⟨rfl,rfl,by simp⟩
   · cases h3
 · rcases h4 with rfl|⟨b',rfl⟩
   · cases h3
   · injection h3 with h3
     have h3:b'=b:=h3;subst h3;have hkl:k*sz≤len*sz:=Nat.mul_le_mul_right _ hk;have hinf:(1000000:Nat)≤inf:=by decide
     refine .inr ⟨b',k,vs.length,q1,q2,rfl,q3,by rw[List.length_take];omega,by rw[List.length_take];omega,fun i hi=>?_,.inl ⟨by omega,Nat.le_refl _⟩⟩;rw [List.length_take]at hi;rw [q6 i,List.getElem?_take_of_lt (by omega)]
theorem trimmed_ret{lo n:Nat}{h:zB}{v:Value}{ws:List Nat}(o:Own lo n h v tU 1 ws.length (ws.map U64))(hw:∀w∈ws,w<18446744073709551616)(hl:ws.length≤1024):Ret P 8 86 [v] h n fun r h' n'=>∃sv xs,r = .agg ⟨[sv]⟩∧SetW xs∧(∀k,vE xs k=vE ws k)∧Kep lo n' h' sv tU 1 xs.length (xs.map U64)∧zO sv=zO v∧Tch [] h n h' n':=by
 refine ent fun u=>?_;have r0:=o.row (by decide);repeat' first|refine wk ?_|refine cX (fun _=>?_) fun _=>?_|fail
 refine lpR (fun k:Nat=>[(0,v),(2,ptr n 0),(3,I64 k)]) (fun k h' n'=>Tch [] h n h' n'∧n<n'∧Cel h' n (tSet+1) 0 [.slice none 0 0]∧k≤ws.length∧uR ws k=uR ws ws.length) (fun k=>k) ws.length ⟨zA,by omega,zD,Nat.le_refl _,rfl⟩ ?_
 rintro k t h' n' ⟨ht,hn',hc,hk,htr⟩
 have o':=o.tch ht (by simp);have r':=o'.row (by decide)
 cases k with
 | zero=>
  have e0:uR ws ws.length=0:=by rw[← htr];rfl
  obtain⟨sv,hs,hkr,hb⟩:=kep_full (ty:=90) (k:=0) o' (Nat.zero_le _) (by omega) (by decide);have hs1:=hkr.one;obtain⟨sp,sc,rfl⟩:=(hkr.row (by decide)).sl;repeat' first|refine wk ?_|refine cX (fun _=>?_) fun _=>?_|refine ob (a:=[.agg ⟨[_]⟩]) ?_ (rs1A (by(apply lk_box;((conv=>lhs;whnf) <;> exact rfl))) zJ)|fail
  exact⟨_,rfl,_,ws.take (uR ws ws.length),rfl,trim_set hw hl,trim_has ws,by rw[e0];exact hkr.tch (S:=[n]) zA (fun b hb2 hx=>by simp at hx;have:=(o.blk (hb ▸ hb2)).2;omega),hb,zA⟩
 | succ k=>
  have c0:ws[k]? = some ws[k]:=List.getElem?_eq_getElem (by omega);generalize ws[k]=w at c0
  have c1:zC h' (sbk v) (sof v+k*1)=some (U64 w):=by rw[Nat.mul_one];exact r'.at (by rw[List.getElem?_map,c0];rfl)
  have ek:((k+1:Nat):Int) - 1=(k:Nat):=by omega
  have bn:∀ty ox oy,Bn P .sub ty ox oy (I64 ((k+1:Nat):Int)) (I64 1) (I64 (k:Nat)):=fun ty ox oy=>by rw[← ek];exact bn_sub (by omega)
  by_cases hw0:w=0
  · subst hw0;have hz:uR ws (k+1)=uR ws k:=by rw[show uR ws (k+1)=if ws[k]? = some 0 then uR ws k else k+1 from rfl,if_pos c0]
    repeat' first|refine ob (a:=I64 (k:Nat)) ?_ (bn _ _ _)|refine wk ?_|refine cX (fun _=>?_) fun _=>?_|fail
    exact rnd k ⟨ht,hn',hc,by omega,by rw[← hz];exact htr⟩
  · have hz:uR ws ws.length=k+1:=by rw[← htr,show uR ws (k+1)=if ws[k]? = some 0 then uR ws k else k+1 from rfl,if_neg (by rw[c0];simpa using hw0)]
    obtain⟨sv,hs,hkr,hb⟩:=kep_full (ty:=90) (k:=k+1) o' hk (by omega) (by decide);have hs1:=hkr.one;obtain⟨sp,sc,rfl⟩:=(hkr.row (by decide)).sl;repeat' first|refine ob (a:=I64 (k:Nat)) ?_ (bn _ _ _)|refine ob (a:=[.agg ⟨[_]⟩]) ?_ (rs1A (by(apply lk_box;((conv=>lhs;whnf) <;> exact rfl))) zJ)|refine wk ?_|refine cX (fun _=>?_) fun _=>?_|fail
    exact⟨_,rfl,_,ws.take (uR ws ws.length),rfl,trim_set hw hl,trim_has ws,by
     rw[hz,List.length_take,Nat.min_eq_left hk,List.map_take];rw [Nat.mul_one]at hkr;exact hkr.tch (S:=[n]) zA (fun b hb2 hx=>by simp at hx;have:=(o.blk (hb ▸ hb2)).2;omega),hb,zA⟩
theorem max_q{a b:Nat}{tys:List Nat}{h:zB}:Qb P .max tys [I64 (a:Nat),I64 (b:Nat)] h (some (I64 ((max a b:Nat):Int))):=by
 show aMax true (I64 (a:Nat)) [I64 (b:Nat)]=_;unfold aMax;show some (Value.int .i64 (cond (iltB (a:Nat) (b:Nat)) ((b:Nat):Int) ((a:Nat):Int)))=_;rw [iltB_eq];by_cases h9:a<b
 · rw[decide_eq_true (by omega),Nat.max_eq_right (by omega)];rfl
 · rw[decide_eq_false (by omega),Nat.max_eq_left (by omega)];rfl
theorem u_at{ws:List Nat}{i w:Nat}(h:ws[i]? = some w):(ws.map U64)[i]? = some (U64 w):=by rw[List.getElem?_map,h];rfl
theorem of_ret{lo e n:Nat}{h:zB}{sv:Value}{l:List Int}(r:Row lo h sv e 1 l.length (l.map I64))(hlo:lo≤n)(hl:l.length<inf):Ret P 8 32 [sv] h n fun v h' n'=>∃wv ws,v = .agg ⟨[wv]⟩∧SetW ws∧(∀k:Nat,vE ws k=true↔((k:Nat):Int)∈l∧k≤65535)∧Kep n n' h' wv tU 1 ws.length (ws.map U64)∧Tch [] h n h' n':=by
 have hinf:inf<4611686018427387904:=by decide
 have rl:=r.low;refine ent fun u=>?_;repeat' first|refine wk ?_|refine cX (fun _=>?_) fun _=>?_|fail
 refine lpR (α :=Nat×Value×List Nat) (fun a=>[(2,ptr n 0),(3,a.2.1),(6,sv),(7,I64 l.length),(8,I64 a.1)]) (fun a h' n'=>Tch [] h n h' n'∧n<n'∧Cel h' n (tSet+1) 0 [.slice none 0 0]∧a.1≤l.length∧Own (n+1) n' h' a.2.1 tU 1 a.2.2.length (a.2.2.map U64)∧(∀w∈a.2.2,w<18446744073709551616)∧a.2.2.length≤1024∧∀k:Nat,vE a.2.2 k=true↔((k:Nat):Int)∈l.take a.1∧k≤65535) (fun a=>l.length - a.1) (0,.slice none 0 0,[]) ⟨zA,by omega,zD,Nat.zero_le _,Own.nil,fun w hw=>(by cases hw),Nat.zero_le _,fun k=>⟨fun h9=>(by simp[vE]at h9),fun h9=>(by simp at h9)⟩⟩ ?_
 rintro ⟨i,wv,ws⟩ t h' n' ⟨ht,hn',hc,hi,ho,hw,hwl,hh⟩
 dsimp only at hi ho hw hwl hh ⊢;have r':=r.tch ht hlo fun _ _ hx=>(by cases hx);by_cases hlt:i<l.length
 · have c0:l[i]? = some l[i]:=List.getElem?_eq_getElem hlt;generalize l[i]=x at c0
   have c1:=row_e1 r' c0;have nxt:∀k:Nat,((k:Nat):Int)∈l.take (i+1)↔((k:Nat):Int)∈l.take i∨((k:Nat):Int)=x:=fun k=>by rw[wQ c0,List.mem_append];simp
   by_cases hx:x<0∨65535<x
   · have done:∀k:Nat,vE ws k=true↔((k:Nat):Int)∈l.take (i+1)∧k≤65535:=fun k=>by
      rw[hh k,nxt k];constructor
      · rintro ⟨h1,h2⟩;exact⟨.inl h1,h2⟩
      · rintro ⟨h1|h1,h2⟩
        · exact⟨h1,h2⟩
        · omega
     rcases hx with hx|hx
     · repeat' first|refine wk ?_|refine cX (fun _=>?_) fun _=>?_|fail
       exact rnd (i+1,wv,ws) ⟨ht,hn',hc,by omega,ho,hw,hwl,done⟩
     · repeat' first|refine wk ?_|refine cX (fun _=>?_) fun _=>?_|fail
       exact rnd (i+1,wv,ws) ⟨ht,hn',hc,by omega,ho,hw,hwl,done⟩
   · obtain⟨a,rfl⟩:=Int.eq_ofNat_of_zero_le (show 0≤x by omega);have ha:a≤65535:=by omega
     repeat' first|refine wk ?_|refine cX (fun _=>?_) fun _=>?_|fail
     refine lpR (α :=Value×List Nat) (fun b=>[(2,ptr n 0),(3,b.1),(5,I64 (a:Nat)),(6,sv),(7,I64 l.length),(8,I64 i)]) (fun b h2 n2=>Tch [] h n h2 n2∧n<n2∧Cel h2 n (tSet+1) 0 [.slice none 0 0]∧Own (n+1) n2 h2 b.1 tU 1 b.2.length (b.2.map U64)∧(∀w∈b.2,w<18446744073709551616)∧b.2.length≤1024∧∀k:Nat,vE b.2 k=vE ws k) (fun b=>1025 - b.2.length) (wv,ws) ⟨ht,hn',hc,ho,hw,hwl,fun _=>rfl⟩ ?_;clear c1 r' ho hw hwl hc ht hn'
     rintro ⟨v2,w2⟩ t h2 n2 ⟨ht,hn',hc,ho,hw,hwl,he⟩
     dsimp only at ho hw hwl he ⊢;have ro:=ho.row (by decide);by_cases hgo:w2.length≤a / 64
     · repeat' first|refine wk ?_|refine cX (fun _=>?_) fun _=>?_|fail
       refine appN (ho.tch (S:=[]) zA (by simp)) (zR (e:=tU) (sz:=1) (len:=1) rfl (by decide)) (by decide) ⟨rfl,trivial⟩ (by omega) ?_
       rintro v3 h3 n3 ho3 ht3
       have hn3:=ht3.le;have ht4:Tch [] h n h3 n3:=Tch.tch ht3 zA fun b hb=>.inl (by have:=yN ho b hb;omega);have hc3:Cel h3 n (tSet+1) 0 [.slice none 0 0]:=(hc.hal (by omega)).tch ht3 (by omega) (fun hx=>by have:=yN ho _ hx;omega);repeat' first|refine wk ?_|refine cX (fun _=>?_) fun _=>?_|fail
       exact⟨(v3,w2++[0]),by dsimp only;rw [List.length_append];simp;omega,(by repeat' first|exact trivial|refine⟨rfl,?_⟩),ht4,by omega,hc3,by rw[List.length_append,List.map_append];exact ho3.dnl (by omega),fun w hw9=>by
        rcases List.mem_append.1 hw9 with h9|h9
        · exact hw w h9
        · simp at h9;subst h9;decide,by rw[List.length_append];simp;omega,fun k=>by rw[has_grow];exact he k⟩
     · have hq:a / 64<w2.length:=by omega
       obtain⟨bb,rfl,hb1,hb2⟩:=own_head ho (by omega);have d0:w2[a / 64]? = some w2[a / 64]:=List.getElem?_eq_getElem hq;have hwl2:w2[a / 64]<18446744073709551616:=hw _ (List.getElem_mem hq);have hgd:(w2[a / 64]?).getD 0=w2[a / 64]:=by rw[d0];rfl
       have hput:=fun k=>has_put (k:=k) hq;rw [hgd]at hput;generalize w2[a / 64]=w at *
       have hlm:(w2.map U64).length=w2.length:=List.length_map _
       have d1:zC h2 bb (a / 64)=some (U64 w):=by
        have:=ro.at (u_at d0)
        rwa [show sof (.slice (some ⟨bb,0,none⟩) w2.length inf)+a / 64=a / 64 from Nat.zero_add _]at this
       have hpm:2 ^ (a % 64)<18446744073709551616:=Nat.pow_lt_pow_right (by decide) (Nat.mod_lt _ (by decide));have hor:=or_lt hwl2 (Nat.mod_lt a (show 0<64 by decide));have hnb:n≠bb:=by omega
       have iad:Iad 1 (.slice (some ⟨bb,0,none⟩) w2.length inf) (I64 ((a / 64:Nat):Int)) (ptr bb (a / 64)):=⟨bb,0,w2.length,inf,.i64,a / 64,rfl,rfl,hq,by rw[Nat.zero_add,Nat.mul_one]⟩;repeat' first|refine ob (a:=ptr bb (a / 64)) ?_ iad|refine ob (a:=hst _ bb (a / 64) [U64 (w ||| 2 ^ (a % 64))]) ?_ (stp_own ho rfl (by omega) rfl)|refine wk ?_|refine cX (fun _=>?_) fun _=>?_|fail
       have hp:=own_put ho (i:=a / 64) (x:=U64 (w ||| 2 ^ (a % 64))) rfl (by omega);refine⟨(i+1,.slice (some ⟨bb,0,none⟩) w2.length inf,w2.set (a / 64) (w ||| 2 ^ (a % 64))),(by dsimp only;omega),by simpa only[List.length_set] using (by repeat' first|exact trivial|refine⟨rfl,?_⟩),zA,by omega,zG,by omega,by rw[List.length_set,List.map_set];exact hp,fun y hy=>?_,by rw[List.length_set];exact hwl,fun k=>?_⟩
       · rcases List.mem_or_eq_of_mem_set hy with h9|h9
         · exact hw y h9
         · subst h9;exact hor
       · rw[hput k,Bool.or_eq_true,he k,hh k,nxt k,decide_eq_true_eq];constructor
         · rintro (⟨h1,h2⟩|rfl)
           · exact⟨.inl h1,h2⟩
           · exact⟨.inr rfl,ha⟩
         · rintro ⟨h1|h1,h2⟩
           · exact .inl ⟨h1,h2⟩
           · exact .inr (by omega)
 · obtain rfl:i=l.length:=by omega
   repeat' first|refine wk ?_|refine cX (fun _=>?_) fun _=>?_|fail
   refine uB (trimmed_ret ho hw hwl) ?_
   rintro _ h3 n3 ⟨wv2,xs,rfl,s1,s2,s3,s4,ht3⟩
   have hw1:=s3.one;have hn3:=ht3.le;repeat' first|refine wk ?_|refine cX (fun _=>?_) fun _=>?_|refine ob (a:=[.agg ⟨[_]⟩]) ?_ (rs1A (by(apply lk_box;((conv=>lhs;whnf) <;> exact rfl))) zJ)|fail
   exact⟨_,rfl,_,xs,rfl,s1,fun k=>by rw[s2 k,hh k,List.take_length],(s3.tch (S:=[n]) zA (fun b hb2 hx=>by simp at hx;have:=(s3.blk hb2).1;omega)).dnl (by omega),zA⟩
end Go.Proofs.YtmccnilgnlaffaaGreatDoor
