/- What the law leans on: an executor of the model that is sound, deduction over it, and the walks through the code (part 18 of 24). Conditions: those that each theorem states. -/
import Derived.Test.YtdipdkkpgjdnkaaGreatDoorVirLinesx15
import Derived.Test.YtdipdkkpgjdnkaaGreatDoorVirLinesx16
import Derived.Test.YtdipdkkpgjdnkaaGreatDoorVirLinesx17

set_option linter.unusedVariables false
set_option linter.unusedSimpArgs false
namespace Go.Proofs.YtdipdkkpgjdnkaaGreatDoor
open Go Go.Ex Go.Ex.M
set_option maxRecDepth 100000
set_option maxHeartbeats 8000000
attribute [local simp] yG
variable {n lo:Nat} {h:zB}
theorem vO{e:Nat}{sv:Value}{l:List Int}(r:Row lo h sv e 1 l.length (l.map I64))(hl:l.length<4611686018427387904)(hall:∀x∈l,Vir.small x=true):Pur P 8 41 [sv] h n (.bool true):=by
 refine ent fun u=>?_;repeat' first|refine wk ?_|refine cX (fun _=>?_) fun _=>?_|fail
 refine lpR (fun k:Nat=>[(5,sv),(6,I64 l.length),(7,I64 (k:Nat))]) (fun k h' n'=>h'=h∧n'=n∧k≤l.length) (fun k=>l.length - k) 0 ⟨rfl,rfl,Nat.zero_le _⟩ ?_
 rintro k t h' n' ⟨rfl,rfl,hk⟩
 by_cases hlt:k<l.length
 · have c0:l[k]? = some l[k]:=List.getElem?_eq_getElem hlt;have hs:=of_decide_eq_true (hall _ (List.getElem_mem hlt));generalize l[k]=x at c0 hs
   have c1:zD h' (sbk sv) (sof sv+k*1)=some (I64 x):=by rw[Nat.mul_one];exact r.at (by rw[List.getElem?_map,c0];rfl)
   obtain⟨s1,s2⟩:=hs;repeat' first|refine wk ?_|refine cX (fun _=>?_) fun _=>?_|fail
   exact rnd (k+1) ⟨rfl,rfl,hlt⟩
 · obtain rfl:k=l.length:=by omega
   repeat' first|refine wk ?_|refine cX (fun _=>?_) fun _=>?_|fail
   exact fin rfl
theorem word_pur{s:Tx}(hw:Vir.wordB s=false):Pur P 8 65 [str s] h n (.bool false):=by
 refine Com.pure (ent fun u=>?_) (.inl rfl);repeat' first|refine wk ?_|refine cX (fun _=>?_) fun _=>?_|fail
 refine yV (contains_pur (lo:=n+1) (ss:=[[99,111,110,115,116],[99,111,112,121],[108,111,97,100],[99,97,108,108]]) (e:=9) (yA rfl (by decide)) (by decide)) ?_;repeat' first|refine wk ?_|refine cX (fun _=>?_) fun _=>?_|fail
 refine finT ?_ zA;rw [decide_eq_false];intro hm;unfold Vir.wordB at hw;rw [List.any_eq_false]at hw;exact hw s hm (by simp)
def rstT(i:InsT):InsT:=
 if i.kind=1 then⟨0,0,i.a,i.b,0,i.name,i.av,i.args,i.t,i.f⟩
 else if i.kind=2∨i.kind=4 then⟨0,0,0,i.b,i.n,i.name,i.av,i.args,i.t,i.f⟩
 else if i.kind=3∨i.kind=6 then⟨0,0,i.a,i.b,i.n,[],.slice none 0 0,[],i.t,i.f⟩
 else if i.kind=5 then⟨0,i.d,0,0,i.n,i.name,i.av,i.args,i.t,i.f⟩
 else if i.kind=7 then⟨0,i.d,0,i.b,i.n,i.name,i.av,i.args,0,0⟩
 else if i.kind=8 then⟨0,i.d,i.a,i.b,i.n,i.name,i.av,i.args,0,i.f⟩
 else if i.kind=9 then⟨0,i.d,0,i.b,i.n,i.name,i.av,i.args,i.t,i.f⟩
 else⟨0,i.d,i.a,i.b,i.n,i.name,i.av,i.args,i.t,i.f⟩
theorem restT_is(i:InsT):toI (rstT i)=Vir.restI (toI i):=by
 unfold rstT Vir.restI;repeat' split
 all_goals first|rfl|(exfalso;simp_all;done)
theorem rest_ret{i:InsT}(o:i.av.oneCell'=true):Ret P 8 64 [.agg ⟨uE i⟩] h n fun v h' n'=>v = .agg ⟨uE (rstT i)⟩∧Tch [] h n h' n':=by
 refine ent fun u=>?_;repeat' first|refine wk ?_|refine cX (fun _=>?_) fun _=>?_|refine ob (a:=_) ?_ (zQ (by apply zE;((conv=>lhs;whnf) <;> exact rfl)) (by decide) (by repeat' first|exact zT|(apply zN;focus (apply Cel.cell;(focus exact zC);exact rfl))) (by repeat' first|exact yB|(apply yC;(focus (apply zE;((conv=>lhs;whnf) <;> exact rfl))))))|fail
 all_goals exact⟨_,rfl,by simp only[*,rstT];rfl,zA⟩
theorem zero_pur{i:InsT}{e:Nat}(r:Row lo h i.av e 1 i.args.length (i.args.map I64))(hlo:lo≤n)(hz:Vir.zeroI (toI i)=true):Pur P 8 63 [.agg ⟨uE i⟩] h n (.bool true):=by
 obtain⟨h1,h2,h3,h4,h5,h6,h7,h8,h9⟩:=of_decide_eq_true hz;have o:=r.one;try dsimp only at h1 h2 h3 h4 h5 h6 h7 h8 h9
 refine Com.pure (ent fun u=>?_) (.inl rfl);have h7':((i.args.length:Nat):Int)=0:=by omega
 repeat' first|refine wk ?_|refine cX (fun _=>?_) fun _=>?_|fail
 exact finT (by rw[decide_eq_true h9]) zA
theorem rest_row{i:InsT}(r:Row lo h i.av 3 1 i.args.length (i.args.map I64)):Row lo h (rstT i).av 3 1 (rstT i).args.length ((rstT i).args.map I64):=by
 have z:Row lo h (.slice none 0 0) 3 1 ([]:List Int).length (([]:List Int).map I64):=.inl ⟨rfl,rfl,rfl⟩;unfold rstT;repeat' split
 all_goals first|exact r|exact z
theorem plain_out{i:InsT}(hp:Vir.plainI (toI i)=true):(1≤i.kind∧i.kind≤9)∧Vir.zeroI (Vir.restI (toI i))=true∧(∀x∈[i.a,i.b,i.t,i.f],Vir.small x=true)∧(∀x∈i.args,Vir.small x=true)∧i.args.length≤16∧
 (i.kind=3→nameB i.name=true∧Vir.wordB i.name=false∧1≤i.args.length∧i.args.length≤2)∧(i.kind=6→nameB i.name=true∧(i.d = -1∨Vir.small i.d=true))∧(i.kind≠6→Vir.small i.d=true):=by
 unfold Vir.plainI at hp;simp only[Bool.and_eq_true,decide_eq_true_eq]at hp;obtain⟨⟨⟨⟨⟨⟨h1,h2⟩,h3⟩,h4⟩,h5⟩,h6⟩,h7⟩:=hp;refine⟨⟨h1,h2⟩,h3,List.all_eq_true.1 h4,List.all_eq_true.1 h5,h6,fun e=>?_,fun e=>?_,fun e=>?_⟩
 · rw[if_pos e]at h7;simp only[Bool.and_eq_true,decide_eq_true_eq,Bool.not_eq_true']at h7;exact⟨h7.1.1.1.1,h7.1.1.1.2,h7.1.1.2,h7.1.2⟩
 · have e3:¬(toI i).kind=3:=fun h=>by have h:i.kind=3:=h;omega
   rw[if_neg e3,if_pos e]at h7;simp only[Bool.and_eq_true,Bool.or_eq_true,decide_eq_true_eq]at h7;exact h7
 · by_cases e3:i.kind=3
   · rw[if_pos e3]at h7;simp only[Bool.and_eq_true]at h7;exact h7.2
   · rw[if_neg e3,if_neg e]at h7;exact h7
theorem qmax{x:Int}(hx:0≤x)(tys:List TypeId)(h:zB):Qb P .max tys [I64 0,I64 x] h (some (I64 x)):=by
 show cond (xH .i64 .i64) (aMax true (.int .i64 (cond (cond true (iltB 0 x) (iltB x 0)) x 0)) []) none=_;show some (Value.int .i64 (cond (iltB 0 x) x 0))=_;rw [iltB_eq];by_cases h0:0<x
 · rw[decide_eq_true h0];rfl
 · rw[decide_eq_false h0,show x=0 by omega];rfl
theorem gplainIns_pur{i:InsT}(r:Row lo h i.av 3 1 i.args.length (i.args.map I64))(hlo:lo≤n)(hp:Vir.plainI (toI i)=true):Pur P 8 42 [.agg ⟨uE i⟩] h n (.bool true):=by
 obtain⟨⟨h1,h9⟩,hz,hs,ha,hl,h3,h6,hd⟩:=plain_out hp;have o:=r.one;refine Com.pure (ent fun u=>?_) (.inl rfl);repeat' first|refine wk ?_|refine cX (fun _=>?_) fun _=>?_|refine uW (rest_ret o) ?_|fail
 rintro _ h2 n2 ⟨rfl,t2⟩
 have hn2:=t2.le;have u2:Tch [] h n h2 n2:=zA;have r2:=r.tch u2 hlo (by simp);have c2:Cel h2 n (41+1) 0 (uE i):=Cel.tch zH t2 (by omega) (by simp);clear t2;have or2:=(rest_row r2).one;have pz:=zero_pur (n:=n2) (rest_row r2) (by omega) (by rw[restT_is];exact hz);repeat' first|refine wk ?_|refine cX (fun _=>?_) fun _=>?_|refine yV pz ?_|fail
 refine yV (vO (lo:=n2+1) (e:=3) (l:=[i.a,i.b,i.t,i.f]) (yA rfl (show 4<inf by decide)) (show 4<4611686018427387904 by decide) hs) ?_;repeat' first|refine wk ?_|refine cX (fun _=>?_) fun _=>?_|fail
 refine yV (vO (l:=i.args) (r2.tch (S:=[]) zA (by omega) (by simp)) (by omega) ha) ?_;have r3:Row lo (hal h2 n2 (mkC [I64 i.a,I64 i.b,I64 i.t,I64 i.f] 0 0)) i.av 3 1 i.args.length (i.args.map I64):=r2.tch (S:=[]) zA (by omega) (by simp);by_cases e3:i.kind=3
 · obtain⟨g1,g2,g3,g4⟩:=h3 e3;have e6:i.kind≠6:=by omega
   repeat' first|refine wk ?_|refine cX (fun _=>?_) fun _=>?_|refine yV (word_pur g2) ?_|fail
   refine yV (vO (lo:=_+1) (e:=3) (l:=[i.d]) (yA rfl (show 1<inf by decide)) (show 1<4611686018427387904 by decide) (by simpa using hd e6)) ?_;repeat' first|refine wk ?_|refine cX (fun _=>?_) fun _=>?_|fail
   exact finT rfl zA
 by_cases e6:i.kind=6
 · obtain⟨g1,g2⟩:=h6 e6
   have hd2: -1≤i.d∧i.d≤99999:=by
    rcases g2 with e|e
    · omega
    · have:=of_decide_eq_true e;omega
   by_cases ed:i.d = -1
   · repeat' first|refine wk ?_|refine cX (fun _=>?_) fun _=>?_|refine ob ?_ (qmax (x:=i.d+1) (by omega) _ _)|fail
     exact finT rfl zA
   · have hd3:Vir.small (i.d+1 - 1)=true:=by
      rw[show i.d+1 - 1=i.d by omega];rcases g2 with e|e
      · exact absurd e ed
      · exact e
     repeat' first|refine wk ?_|refine cX (fun _=>?_) fun _=>?_|refine ob ?_ (qmax (x:=i.d+1) (by omega) _ _)|fail
     refine yV (vO (lo:=_+1) (e:=3) (l:=[i.d+1 - 1]) (yA rfl (show 1<inf by decide)) (show 1<4611686018427387904 by decide) (by simpa using hd3)) ?_;repeat' first|refine wk ?_|refine cX (fun _=>?_) fun _=>?_|fail
     exact finT rfl zA
 · repeat' first|refine wk ?_|refine cX (fun _=>?_) fun _=>?_|fail
   refine yV (vO (lo:=_+1) (e:=3) (l:=[i.d]) (yA rfl (show 1<inf by decide)) (show 1<4611686018427387904 by decide) (by simpa using hd e6)) ?_;repeat' first|refine wk ?_|refine cX (fun _=>?_) fun _=>?_|fail
   exact finT rfl zA
end Go.Proofs.YtdipdkkpgjdnkaaGreatDoor
namespace Go.Proofs.YtdipdkkpgjdnkaaGreatDoor
open Go Go.Ex Go.Ex.M
set_option maxRecDepth 100000
set_option maxHeartbeats 8000000
attribute [local simp] yG
variable {n lo:Nat} {h:zB} {F:FunT}
theorem plainF_out(hp:Vir.plainF (toF F)=true):nameB F.name=true∧nameB F.result=true∧F.vregs.length≤500∧F.params.length≤16∧F.blocks.length≤200∧(∀x∈F.params,Vir.small x=true)∧(∀x∈F.vregs,nameB x=true)∧∀x∈F.blocks,x.2.length≤400∧∀i∈x.2,Vir.plainI (toI i)=true:=by
 unfold Vir.plainF at hp;simp only[Bool.and_eq_true,decide_eq_true_eq]at hp;obtain⟨⟨⟨⟨⟨⟨⟨h1,h2⟩,h3⟩,h4⟩,h5⟩,h6⟩,h7⟩,h8⟩:=hp;refine⟨h1,h2,h3,h4,by simpa using h5,List.all_eq_true.1 h6,List.all_eq_true.1 h7,fun x hx=>?_⟩;have:=List.all_eq_true.1 h8 (x.2.map toI) (List.mem_map.2 ⟨x,hx,rfl⟩);simp only[Bool.and_eq_true,decide_eq_true_eq,List.length_map]at this;exact⟨this.1,fun i hi=>List.all_eq_true.1 this.2 (toI i) (List.mem_map.2 ⟨i,hi,rfl⟩)⟩
theorem gnamed{s:Tx}(hs:nameB s=true)(h:zB)(n:Nat):Pur P 8 40 [str s] h n (.bool true):=by
 have:=(named_c s h n).ok;rw [hs]at this;exact this
theorem gval_at{lo e len:Nat}{v:Value}{l:List (Value×List InsT)}{k:Nat}{x:Value×List InsT}(r:Row lo h v e 1 len (l.map (·.1)))(hx:l[k]? = some x):zD h (sbk v) (sof v+k*1)=some x.1:=by
 rw[Nat.mul_one];exact r.at (by rw[List.getElem?_map,hx];rfl)
theorem gplain_pur(q:FunQ lo h F)(hlo:lo≤n)(hp:Vir.plainF (toF F)=true):Pur P 8 16 [.agg ⟨funC F⟩] h n (.bool true):=by
 obtain⟨h1,h2,h3,h4,h5,h6,h7,h8⟩:=plainF_out hp;have o1:=q.vr.one;have o2:=q.pr.one;have o3:=q.bv.one;have rv:=q.vr;have rp:=q.pr;have rb:=q.bv;refine Com.pure (ent fun u=>?_) (.inl rfl);repeat' first|refine yV (gnamed h1 _ _) ?_|refine yV (gnamed h2 _ _) ?_|refine yV (vO (rp.tch (S:=[]) zA hlo (by simp)) (by omega) h6) ?_|refine wk ?_|refine cX (fun _=>?_) fun _=>?_|fail
 refine lpR (fun k:Nat=>[(1,ptr n 0),(3,.bool true),(42,F.vv),(43,I64 F.vregs.length),(44,I64 (k:Nat))]) (fun k h' n'=>Tch [] h n h' n'∧n+1≤n'∧Cel h' n (26+1) 0 (funC F)∧k≤F.vregs.length) (fun k=>F.vregs.length - k) 0 ⟨zA,by omega,zH,Nat.zero_le _⟩ ?_
 rintro k t h' n' ⟨t1,hn,c1,hk⟩
 have rv1:=rv.tch t1 hlo (by simp);by_cases hlt:k<F.vregs.length
 · have c0:F.vregs[k]? = some F.vregs[k]:=List.getElem?_eq_getElem hlt;have hx:=h7 _ (List.getElem_mem hlt);generalize F.vregs[k]=x at c0 hx
   have c2:zD h' (sbk F.vv) (sof F.vv+k*1)=some (str x):=by rw[Nat.mul_one];exact rv1.at (by rw[List.getElem?_map,c0];rfl)
   repeat' first|refine yV (gnamed hx _ _) ?_|refine wk ?_|refine cX (fun _=>?_) fun _=>?_|fail
   exact rnd (k+1) ⟨t1,hn,c1,hlt⟩
 obtain rfl:k=F.vregs.length:=by omega
 repeat' first|refine wk ?_|refine cX (fun _=>?_) fun _=>?_|fail
 refine lpR (fun k:Nat=>[(1,ptr n 0),(3,.bool true),(55,F.bv),(56,I64 F.blocks.length),(57,I64 (k:Nat))]) (fun k h' n'=>Tch [] h n h' n'∧n+1≤n'∧Cel h' n (26+1) 0 (funC F)∧k≤F.blocks.length) (fun k=>F.blocks.length - k) 0 ⟨t1,hn,c1,Nat.zero_le _⟩ ?_;clear t1 hn c1 rv1 hk hlt
 rintro k t h' n' ⟨t1,hn,c1,hk⟩
 have rb1:=rb.tch t1 hlo (by simp);by_cases hlt:k<F.blocks.length
 rotate_left
 · obtain rfl:k=F.blocks.length:=by omega
   repeat' first|refine wk ?_|refine cX (fun _=>?_) fun _=>?_|fail
   exact finT rfl t1
 have c0:F.blocks[k]? = some F.blocks[k]:=List.getElem?_eq_getElem hlt;have mx:=List.getElem_mem hlt;generalize F.blocks[k]=x at c0 mx
 have c2:=gval_at rb1 c0;obtain⟨hx4,hxi⟩:=h8 x mx;obtain⟨xv,xl⟩:=x;dsimp only at c2 hx4 hxi;have rx:=q.el _ mx;have hgx:=q.ar _ mx;dsimp only at rx hgx;have ox:=rx.one;have rx1:=rx.tch t1 hlo (by simp);repeat' first|refine wk ?_|refine cX (fun _=>?_) fun _=>?_|fail
 refine lpR (α :=Nat×Bool) (fun a=>[(1,ptr n 0),(3,.bool a.2),(55,F.bv),(56,I64 F.blocks.length),(57,I64 (k:Nat)),(67,xv),(68,I64 xl.length),(69,I64 (a.1:Nat))]) (fun a h' n'=>a.2=true∧Tch [] h n h' n'∧n+1≤n'∧Cel h' n (26+1) 0 (funC F)∧a.1≤xl.length) (fun a=>xl.length - a.1) (0,decide (((xl.length:Nat):Int)≤400)) ⟨decide_eq_true (by omega),t1,hn,c1,Nat.zero_le _⟩ ?_;clear t1 hn c1 rb1 c2 rx1
 rintro ⟨p,z⟩ t h' n' ⟨hz,t1,hn,c1,hp2⟩
 dsimp only at hz hp2 ⊢;subst hz;have rx1:=rx.tch t1 hlo (by simp);by_cases hlt2:p<xl.length
 · have i0:xl[p]? = some xl[p]:=List.getElem?_eq_getElem hlt2;have mi:=List.getElem_mem hlt2;generalize xl[p]=i at i0 mi
   have ri:Rd h' (sbk xv) (sof xv+p*9) 9 (uE i):=row_el rx1 i0;have gi:=(hgx i mi).tch t1 hlo (by simp);have oi:=gi.one;have low:=rx1.low (by omega);repeat' first|refine wk ?_|refine cX (fun _=>?_) fun _=>?_|refine yV (gplainIns_pur (gi.tch (S:=[]) zA (by omega) (by simp)) (by omega) (hxi i mi)) ?_|fail
   exact rnd (p+1,true) ⟨rfl,zA,by omega,zC,hlt2⟩
 · obtain rfl:p=xl.length:=by omega
   repeat' first|refine wk ?_|refine cX (fun _=>?_) fun _=>?_|fail
   exact rnd (k+1) ⟨t1,hn,c1,hlt⟩
end Go.Proofs.YtdipdkkpgjdnkaaGreatDoor
namespace Go.Proofs.YtdipdkkpgjdnkaaGreatDoor
open Go Go.Ex Go.Ex.M
set_option maxRecDepth 100000
set_option maxHeartbeats 8000000
attribute [local simp] yG
variable {n lo:Nat} {h:zB} {m:Int}
theorem itoa_len{a:Int}(h0: -9223372036854775808≤a)(h1:a≤9223372036854775807):(Lib.itoa a).length≤22:=by
  by_cases ha:0≤a
  · obtain⟨u,rfl⟩:=Int.eq_ofNat_of_zero_le ha;rw [Vir.itoa_pos]
    have := Vir.dec_length 19 u (by have : (10 : Nat) ^ 20 = 100000000000000000000 := by decide
                                    show u<10 ^ 20;omega)
    omega
  · obtain⟨u,hu⟩:=Int.eq_ofNat_of_zero_le (show 0≤-a by omega);obtain rfl:a = -(u:Int):=by omega
    rw[Vir.itoa_neg (by omega)]
    have := Vir.dec_length 19 u (by have : (10 : Nat) ^ 20 = 100000000000000000000 := by decide
                                    show u<10 ^ 20;omega)
    rw[List.length_cons];omega
theorem name_len{s:Tx}(h:nameB s=true):s.length≤20:=by
 cases s with
 | nil=>simp
 | cons c r=>
  have hn:nameB (c::r)=(decide ((c::r).length≤20) && letB c.toNat && tailB (c::r)):=rfl;rw [hn]at h;simp only[Bool.and_eq_true,decide_eq_true_eq]at h;exact h.1.1
theorem xP(ss:List Tx):∀y∈ss.map str,y.oneCell'=true:=fun y hy=>by obtain⟨x,_,rfl⟩:=List.mem_map.1 hy;rfl
theorem texts_ret{e:Nat}{sv:Value}{l:List Int}(hE:Env m h)(hg:8≤n)(r:Row lo h sv e 1 l.length (l.map I64))(hlo:lo≤n)(hl:l.length≤1000)(hall:∀x∈l,Vir.small x=true):Ret P 8 20 [sv] h n fun v h' n'=>∃ss:List Tx,Own n n' h' v 9 1 ss.length (ss.map str)∧ss.length=l.length∧(∀x∈ss,x.length≤22)∧Tch [] h n h' n':=by
 have os:=r.one;refine ent fun u=>?_;repeat' first|refine wk ?_|refine cX (fun _=>?_) fun _=>?_|fail
 refine lpR (α :=Nat×Value×List Tx) (fun a=>[(3,a.2.1),(6,sv),(7,I64 l.length),(8,I64 (a.1:Nat))]) (fun a h' n'=>Tch [] h n h' n'∧a.1≤l.length∧Own n n' h' a.2.1 9 1 a.2.2.length (a.2.2.map str)∧a.2.2.length=a.1∧∀x∈a.2.2,x.length≤22) (fun a=>l.length - a.1) (0,.slice none 0 0,[]) ⟨zA,Nat.zero_le _,Own.nil,rfl,fun x hx=>by cases hx⟩ ?_
 rintro ⟨i,v,done⟩ t h' n' ⟨ht,hi,ho,hd,hs⟩
 dsimp only at ht hi ho hd hs ⊢;have o1:=ho.one;have hn':=ht.le;have r':=r.tch ht hlo (by simp);have hE':=hE.tch ht hg (by simp);by_cases hlt:i<l.length
 · have c0:l[i]? = some l[i]:=List.getElem?_eq_getElem hlt;have hx:=of_decide_eq_true (hall _ (List.getElem_mem hlt));have low:=r'.low (by omega);generalize l[i]=x at c0 hx
   have c1:zD h' (sbk sv) (sof sv+i*1)=some (I64 x):=by rw[Nat.mul_one];exact r'.at (by rw[List.getElem?_map,c0];rfl)
   have p:=(zZ n' hE'.tabs x (by omega) (by omega)).pur;have hlen:=itoa_len (a:=x) (by omega) (by omega);repeat' first|refine wk ?_|refine cX (fun _=>?_) fun _=>?_|refine yV p ?_|fail
   refine appO (ho.tch (S:=[]) zA (by simp)) (yA (e:=9) (sz:=1) (len:=1) rfl (by decide)) (by omega) ⟨rfl,trivial⟩ (by omega) ?_
   rintro v' h3 n3 ho3 ht3
   have ht4:Tch [] h n h3 n3:=Tch.tch ht3 zA fun y hy=>.inl (xY ho y hy);have o3:=ho3.one;repeat' first|refine wk ?_|refine cX (fun _=>?_) fun _=>?_|fail
   exact rnd (i+1,v',done++[Lib.itoa x]) ⟨ht4,hlt,by rw[List.length_append,List.map_append];exact ho3,by dsimp only;rw [List.length_append,hd];rfl,fun y hy=>by
    rcases List.mem_append.1 hy with hy|hy
    · exact hs y hy
    · rw[List.mem_singleton]at hy;rw [hy];exact hlen⟩
 · obtain rfl:i=l.length:=by omega
   repeat' first|refine wk ?_|refine cX (fun _=>?_) fun _=>?_|fail
   exact⟨_,rfl,done,ho,hd,hs,ht⟩
theorem one_strsG:∀r:List Tx,One (r.map str):=by
 intro r
 induction r with
 | nil=>trivial
 | cons a r ih=>exact⟨rfl,ih⟩
def SH(k:Nat)(h:zB)(n:Nat)(v:Value)(h':zB)(n':Nat):Prop:=∃ss:List Tx,Row n' h' v 9 1 ss.length (ss.map str)∧ss.length≤5+k∧(∀x∈ss,x.length≤22)∧Tch [] h n h' n'
theorem show_ret{i:InsT}(hE:Env m h)(hg:8≤n)(r:Row lo h i.av 3 1 i.args.length (i.args.map I64))(hlo:lo≤n)(hp:Vir.plainI (toI i)=true)(hn:Go64 i.n):Ret P 8 21 [.agg ⟨uE i⟩] h n (SH i.args.length h n):=by
 obtain⟨⟨h1,h9⟩,hz,hs,ha,hl,h3,h6,hd⟩:=plain_out hp;have o:=r.one
 have hd1: -1≤i.d∧i.d≤99999:=by
  by_cases e6:i.kind=6
  · rcases(h6 e6).2 with e|e
    · omega
    · have:=of_decide_eq_true e;omega
  · have:=of_decide_eq_true (hd e6);omega
 have sm:∀x∈[i.a,i.b,i.t,i.f],0≤x∧x≤99999:=fun x hx=>of_decide_eq_true (hs x hx);have s1:=sm i.a (by simp);have s2:=sm i.b (by simp);have s3:=sm i.t (by simp);have s4:=sm i.f (by simp);obtain⟨g1,g2⟩:=hn;refine ent fun u=>?_;have wd:WayR (n+1) (n+1+1) (hal (hal h n (mkC (uE i) (41+1) 0)) (n+1) (mkC [str (Lib.itoa i.d),str [61]] 0 0)) (.slice (some ⟨n+1,0,none⟩) 2 2) 9 1 2 [str (Lib.itoa i.d),str [61]]:=way_new (Nat.le_refl _) rfl (by decide);have l1:=itoa_len (a:=i.d) (by omega) (by omega);have l2:=itoa_len (a:=i.a) (by omega) (by omega);have l3:=itoa_len (a:=i.b) (by omega) (by omega);have l4:=itoa_len (a:=i.t) (by omega) (by omega);have l5:=itoa_len (a:=i.f) (by omega) (by omega);have l6:=itoa_len (a:=i.n) (by omega) (by omega);rcases(by omega:i.kind=1∨i.kind=2∨i.kind=3∨i.kind=4∨i.kind=5∨i.kind=6∨i.kind=7∨i.kind=8∨i.kind=9) with ek|ek|ek|ek|ek|ek|ek|ek|ek
 · repeat' first|refine wk ?_|refine cX (fun _=>?_) fun _=>?_|refine yV (zZ _ (hE.tch (S:=[]) zA hg (by simp)).tabs (i.d) (by omega) (by omega)).pur ?_|refine yV (zZ _ (hE.tch (S:=[]) zA hg (by simp)).tabs (i.n) (by omega) (by omega)).pur ?_|fail
   refine uI (wd.tch (S:=[]) zA (by simp)) (by decide) (xP [Lib.itoa i.d,[61]]) (by omega) (yA (e:=9) (sz:=1) (len:=2) rfl (by decide)) (xP [[99,111,110,115,116],Lib.itoa i.n]) (by decide) ?_
   rintro v3 h3 n3 w3 t3
   have o3:=(w3.row (by decide)).one;have u3:Tch [] h n h3 n3:=Tch.tch t3 zA (by simp[yE]);clear t3;repeat' first|refine wk ?_|refine cX (fun _=>?_) fun _=>?_|fail
   exact⟨_,rfl,[Lib.itoa i.d,[61],[99,111,110,115,116],Lib.itoa i.n],w3.row (by decide),by simp;omega,by simp;omega,u3⟩
 · repeat' first|refine wk ?_|refine cX (fun _=>?_) fun _=>?_|refine yV (zZ _ (hE.tch (S:=[]) zA hg (by simp)).tabs (i.d) (by omega) (by omega)).pur ?_|refine yV (zZ _ (hE.tch (S:=[]) zA hg (by simp)).tabs (i.a) (by omega) (by omega)).pur ?_|fail
   refine uI (wd.tch (S:=[]) zA (by simp)) (by decide) (xP [Lib.itoa i.d,[61]]) (by omega) (yA (e:=9) (sz:=1) (len:=2) rfl (by decide)) (xP [[99,111,112,121],Lib.itoa i.a]) (by decide) ?_
   rintro v3 h3 n3 w3 t3
   have o3:=(w3.row (by decide)).one;have u3:Tch [] h n h3 n3:=Tch.tch t3 zA (by simp[yE]);clear t3;repeat' first|refine wk ?_|refine cX (fun _=>?_) fun _=>?_|fail
   exact⟨_,rfl,[Lib.itoa i.d,[61],[99,111,112,121],Lib.itoa i.a],w3.row (by decide),by simp;omega,by simp;omega,u3⟩
 · obtain⟨gn,_,_,_⟩:=h3 ek;have hnm:=name_len gn;repeat' first|refine wk ?_|refine cX (fun _=>?_) fun _=>?_|refine yV (zZ _ (hE.tch (S:=[]) zA hg (by simp)).tabs (i.d) (by omega) (by omega)).pur ?_|fail
   refine uI (wd.tch (S:=[]) zA (by simp)) (by decide) (xP [Lib.itoa i.d,[61]]) (by omega) (yA (e:=9) (sz:=1) (len:=1) rfl (by decide)) (xP [i.name]) (by decide) ?_
   rintro v3 h3 n3 w3 t3
   have hn3:=t3.le;have o3:=(w3.row (by decide)).one;have u3:Tch [] h n h3 n3:=Tch.tch t3 zA (by simp[yE]);have c3:Cel h3 n (41+1) 0 (uE i):=Cel.tch zC t3 (by omega) (by simp[yE]);clear t3;repeat' first|refine wk ?_|refine cX (fun _=>?_) fun _=>?_|refine uW (texts_ret (hE.tch u3 hg (by simp)) (by omega) (r.tch u3 hlo (by simp)) (by omega) (by omega) ha) ?_|fail
   rintro _ h4 n4 ⟨ss,ow,hl4,hs4,t4⟩
   have hn4:=t4.le;have o4:=ow.one;have u4:Tch [] h n h4 n4:=zA;have w4:=w3.tch t4 (by simp);have c4:=c3.tch t4 (by omega) (by simp);clear t4;repeat' first|refine wk ?_|refine cX (fun _=>?_) fun _=>?_|fail
   refine uI w4 (by decide) (xP [Lib.itoa i.d,[61],i.name]) (by omega) (ow.row (by decide)) (xP ss) (by omega) ?_
   rintro v5 h5 n5 w5 t5
   have o5:=(w5.row (by decide)).one;have low5:=fun b hb=>(w4.blk (b:=b) hb).1;have u5:Tch [] h n h5 n5:=Tch.tch t5 u4 (fun x hx=>.inl (by have:=low5 x (by simpa using hx);omega));have hn5:=t5.le;have c5:Cel h5 n (41+1) 0 (uE i):=c4.tch t5 (by omega) (fun hx=>by have:=low5 n (by simpa using hx);omega);clear t5;repeat' first|refine wk ?_|refine cX (fun _=>?_) fun _=>?_|fail
   refine⟨_,rfl,[Lib.itoa i.d,[61],i.name]++ss,?_,by simp;omega,fun x hx=>?_,u5⟩
   · have e1:3+ss.length=([Lib.itoa i.d,[61],i.name]++ss).length:=by simp;omega
     have e2:[str (Lib.itoa i.d),str [61],str i.name]++ss.map str=([Lib.itoa i.d,[61],i.name]++ss).map str:=by simp
     rw[← e1,← e2];exact w5.row (by decide)
   · rcases List.mem_append.1 hx with hx|hx
     · simp at hx;rcases hx with rfl|rfl|hx
       all_goals first|exact l1|(simp;done)|(have:=hnm;rcases hx with rfl|rfl <;> first|omega|(simp;done))|(rw [hx];omega)
     · exact hs4 x hx
 · repeat' first|refine wk ?_|refine cX (fun _=>?_) fun _=>?_|refine yV (zZ _ (hE.tch (S:=[]) zA hg (by simp)).tabs (i.d) (by omega) (by omega)).pur ?_|refine yV (zZ _ (hE.tch (S:=[]) zA hg (by simp)).tabs (i.a) (by omega) (by omega)).pur ?_|fail
   refine uI (wd.tch (S:=[]) zA (by simp)) (by decide) (xP [Lib.itoa i.d,[61]]) (by omega) (yA (e:=9) (sz:=1) (len:=2) rfl (by decide)) (xP [[108,111,97,100],Lib.itoa i.a]) (by decide) ?_
   rintro v3 h3 n3 w3 t3
   have o3:=(w3.row (by decide)).one;have u3:Tch [] h n h3 n3:=Tch.tch t3 zA (by simp[yE]);clear t3;repeat' first|refine wk ?_|refine cX (fun _=>?_) fun _=>?_|fail
   exact⟨_,rfl,[Lib.itoa i.d,[61],[108,111,97,100],Lib.itoa i.a],w3.row (by decide),by simp;omega,by simp;omega,u3⟩
 · repeat' first|refine wk ?_|refine cX (fun _=>?_) fun _=>?_|refine yV (zZ _ (hE.tch (S:=[]) zA hg (by simp)).tabs (i.d) (by omega) (by omega)).pur ?_|refine yV (zZ _ (hE.tch (S:=[]) zA hg (by simp)).tabs (i.a) (by omega) (by omega)).pur ?_|refine yV (zZ _ (hE.tch (S:=[]) zA hg (by simp)).tabs (i.b) (by omega) (by omega)).pur ?_|fail
   exact⟨_,rfl,[[115,116,111,114,101],Lib.itoa i.a,Lib.itoa i.b],yA (e:=9) (sz:=1) (len:=3) rfl (by decide),by simp;omega,by simp;omega,zA⟩
 · obtain⟨gn,gd⟩:=h6 ek;have hnm:=name_len gn;by_cases ed:i.d = -1
   · repeat' first|refine wk ?_|refine cX (fun _=>?_) fun _=>?_|refine yV (zZ _ (hE.tch (S:=[]) zA hg (by simp)).tabs (i.d) (by omega) (by omega)).pur ?_|fail
     refine appO (lo:=n+1+1+1) Own.nil (yA (e:=9) (sz:=1) (len:=2) rfl (by decide)) (by omega) ⟨rfl,rfl,trivial⟩ (by omega) ?_
     rintro v3 h3 n3 w3 t3
     have hn3:=t3.le;have o3:=w3.one;have u3:Tch [] h n h3 n3:=Tch.tch t3 zA (fun x hx=>by cases hx);have c3:Cel h3 n (41+1) 0 (uE i):=Cel.tch zC t3 (by omega) (by simp[yE]);clear t3;repeat' first|refine wk ?_|refine cX (fun _=>?_) fun _=>?_|refine uW (texts_ret (hE.tch u3 hg (by simp)) (by omega) (r.tch u3 hlo (by simp)) (by omega) (by omega) ha) ?_|fail
     rintro _ h4 n4 ⟨ss,ow,hl4,hs4,t4⟩
     have hn4:=t4.le;have o4:=ow.one;have u4:Tch [] h n h4 n4:=zA;have w4:=w3.tch t4 (by simp);have c4:=c3.tch t4 (by omega) (by simp);clear t4;repeat' first|refine wk ?_|refine cX (fun _=>?_) fun _=>?_|fail
     refine appO w4 (ow.row (by decide)) (by omega) (one_strsG ss) (by omega) ?_
     rintro v5 h5 n5 w5 t5
     have o5:=w5.one;have hn5:=t5.le;have low5:=xY w4;have u5:Tch [] h n h5 n5:=Tch.tch t5 u4 (fun x hx=>.inl (by have:=low5 x hx;omega));have c5:Cel h5 n (41+1) 0 (uE i):=c4.tch t5 (by omega) (fun hx=>by have:=low5 n hx;omega);clear t5;repeat' first|refine wk ?_|refine cX (fun _=>?_) fun _=>?_|fail
     refine⟨_,rfl,[[99,97,108,108],i.name]++ss,?_,by simp;omega,fun x hx=>?_,u5⟩
     · have e1:0+2+ss.length=([[99,97,108,108],i.name]++ss).length:=by simp;omega
       have e2:[]++[str [99,97,108,108],str (i.name)]++ss.map str=([[99,97,108,108],i.name]++ss).map str:=by simp
       rw[← e1,← e2];exact w5.row (by decide)
     · rcases List.mem_append.1 hx with hx|hx
       · simp at hx;rcases hx with rfl|rfl
         · simp
         · omega
       · exact hs4 x hx
   repeat' first|refine wk ?_|refine cX (fun _=>?_) fun _=>?_|refine yV (zZ _ (hE.tch (S:=[]) zA hg (by simp)).tabs (i.d) (by omega) (by omega)).pur ?_|fail
   refine uI (wd.tch (S:=[]) zA (by simp)) (by decide) (xP [Lib.itoa i.d,[61]]) (by omega) (yA (e:=9) (sz:=1) (len:=2) rfl (by decide)) (xP [[99,97,108,108],i.name]) (by decide) ?_
   rintro v3 h3 n3 w3 t3
   have hn3:=t3.le;have o3:=(w3.row (by decide)).one;have u3:Tch [] h n h3 n3:=Tch.tch t3 zA (by simp[yE]);have c3:Cel h3 n (41+1) 0 (uE i):=Cel.tch zC t3 (by omega) (by simp[yE]);clear t3;repeat' first|refine wk ?_|refine cX (fun _=>?_) fun _=>?_|refine uW (texts_ret (hE.tch u3 hg (by simp)) (by omega) (r.tch u3 hlo (by simp)) (by omega) (by omega) ha) ?_|fail
   rintro _ h4 n4 ⟨ss,ow,hl4,hs4,t4⟩
   have hn4:=t4.le;have o4:=ow.one;have u4:Tch [] h n h4 n4:=zA;have w4:=w3.tch t4 (by simp);have c4:=c3.tch t4 (by omega) (by simp);clear t4;repeat' first|refine wk ?_|refine cX (fun _=>?_) fun _=>?_|fail
   refine uI w4 (by decide) (xP [Lib.itoa i.d,[61],[99,97,108,108],i.name]) (by omega) (ow.row (by decide)) (xP ss) (by omega) ?_
   rintro v5 h5 n5 w5 t5
   have o5:=(w5.row (by decide)).one;have low5:=fun b hb=>(w4.blk (b:=b) hb).1;have u5:Tch [] h n h5 n5:=Tch.tch t5 u4 (fun x hx=>.inl (by have:=low5 x (by simpa using hx);omega));have hn5:=t5.le;have c5:Cel h5 n (41+1) 0 (uE i):=c4.tch t5 (by omega) (fun hx=>by have:=low5 n (by simpa using hx);omega);clear t5;repeat' first|refine wk ?_|refine cX (fun _=>?_) fun _=>?_|fail
   refine⟨_,rfl,[Lib.itoa i.d,[61],[99,97,108,108],i.name]++ss,?_,by simp;omega,fun x hx=>?_,u5⟩
   · have e1:4+ss.length=([Lib.itoa i.d,[61],[99,97,108,108],i.name]++ss).length:=by simp;omega
     have e2:[str (Lib.itoa i.d),str [61],str ([99,97,108,108]),str i.name]++ss.map str=([Lib.itoa i.d,[61],[99,97,108,108],i.name]++ss).map str:=by simp
     rw[← e1,← e2];exact w5.row (by decide)
   · rcases List.mem_append.1 hx with hx|hx
     · simp at hx;rcases hx with rfl|rfl|hx
       all_goals first|exact l1|(simp;done)|(have:=hnm;rcases hx with rfl|rfl <;> first|omega|(simp;done))|(rw [hx];omega)
     · exact hs4 x hx
 · repeat' first|refine wk ?_|refine cX (fun _=>?_) fun _=>?_|refine yV (zZ _ (hE.tch (S:=[]) zA hg (by simp)).tabs (i.d) (by omega) (by omega)).pur ?_|refine yV (zZ _ (hE.tch (S:=[]) zA hg (by simp)).tabs (i.a) (by omega) (by omega)).pur ?_|refine yV (zZ _ (hE.tch (S:=[]) zA hg (by simp)).tabs (i.t) (by omega) (by omega)).pur ?_|refine yV (zZ _ (hE.tch (S:=[]) zA hg (by simp)).tabs (i.f) (by omega) (by omega)).pur ?_|fail
   exact⟨_,rfl,[[98,114],Lib.itoa i.a,Lib.itoa i.t,Lib.itoa i.f],yA (e:=9) (sz:=1) (len:=4) rfl (by decide),by simp;omega,by simp;omega,zA⟩
 · repeat' first|refine wk ?_|refine cX (fun _=>?_) fun _=>?_|refine yV (zZ _ (hE.tch (S:=[]) zA hg (by simp)).tabs (i.d) (by omega) (by omega)).pur ?_|refine yV (zZ _ (hE.tch (S:=[]) zA hg (by simp)).tabs (i.t) (by omega) (by omega)).pur ?_|fail
   exact⟨_,rfl,[[106,117,109,112],Lib.itoa i.t],yA (e:=9) (sz:=1) (len:=2) rfl (by decide),by simp;omega,by simp;omega,zA⟩
 · repeat' first|refine wk ?_|refine cX (fun _=>?_) fun _=>?_|refine yV (zZ _ (hE.tch (S:=[]) zA hg (by simp)).tabs (i.d) (by omega) (by omega)).pur ?_|refine yV (zZ _ (hE.tch (S:=[]) zA hg (by simp)).tabs (i.a) (by omega) (by omega)).pur ?_|fail
   exact⟨_,rfl,[[114,101,116],Lib.itoa i.a],yA (e:=9) (sz:=1) (len:=2) rfl (by decide),by simp;omega,by simp;omega,zA⟩
end Go.Proofs.YtdipdkkpgjdnkaaGreatDoor
namespace Go.Proofs.YtdipdkkpgjdnkaaGreatDoor
open Go Go.Ex Go.Ex.M
set_option maxRecDepth 100000
set_option maxHeartbeats 8000000
attribute [local simp] yG
variable {n b:Nat} {h:zB} {l s:Tx}
theorem apT:apTB P 47 9 5 1=true:=by kernel_rfl
theorem appT{lo n len:Nat}{h:zB}{v:Value}{vs:List Value}{cx:Cx}{d:List Deferred}{u:Option zJ}{K:W→Value→Prop}(ho:Own lo n h v 5 1 len vs)(hlo:lo≤n)(hlim:len+l.length<1000000)
(k:∀v' h' n',Own lo n' h' v' 5 1 (len+l.length) (vs++uD l)→Tch (yE v).toList h n h' n'→K ⟨d,u,h',n'⟩ v'):BuB P cx .append [47,9] [v,str l] d u h n K:=by
 have:=append_text (l:=l) (K:=fun h' n' v'=>xE (K ⟨d,u,h',n'⟩ v')) apT ho hlo hlim fun v' h' n' o a b=>isSo_iff.2 (k v' h' n' o ⟨a,fun b' hb hS=>b b' hb fun e=>hS (by rw[e];simp)⟩);exact this
abbrev zBu:Nat:=49+1
def BldT(b n:Nat)(h:zB)(l:Tx):Prop:=b<n∧∃p sv,Cel h b zBu 0 [p,sv]∧(p = .pointer none∨p=ptr b 0)∧Own (b+1) n h sv 5 1 l.length (uD l)
def Und(b:Nat)(h:zB)(n:Nat)(h':zB)(n':Nat):Prop:=n≤n'∧∀x,x<b→zF h' x=zF h x
theorem BldT.tch{h':zB}{n':Nat}(w:BldT b n h l)(t:Tch [] h n h' n'):BldT b n' h' l:=by
 obtain⟨hb,p,sv,c,hp,o⟩:=w;exact⟨Nat.lt_of_lt_of_le hb t.1,p,sv,c.tch t hb (by simp),hp,o.tch t (by simp)⟩
theorem write_ret(w:BldT b n h l)(hlen:l.length+s.length<1000000):Ret P 8 18 [ptr b 0,str s] h n fun v h' n'=>Und b h n h' n'∧BldT b n' h' (l++s):=by
 obtain⟨hb,p,sv,c,hp,o⟩:=w;have hne:yE sv≠some b:=fun e=>by have:=(o.blk e).1;omega
 have hB:Bld 49 h b p sv:=⟨c.1,c.2 0,c.2 1⟩;have os:=o.one;have low:=xY o;have eb:uD l++uD s=uD (l++s):=by simp[uD]
 refine ent fun u=>?_;rcases hp with rfl|rfl
 · repeat' first|refine wk ?_|refine cX (fun _=>?_) fun _=>?_|refine uW (check_fresh hB).ret ?_|fail
   rintro _ h2 n2 ⟨rfl,e2,rfl⟩
   have c2:Cel h2 b zBu 0 [ptr b 0,sv]:=by rw[e2];exact(zH:Cel (hst h b 0 [ptr b 0]) b zBu 0 [ptr b 0,sv])
   have t2:Tch [b] h n2 h2 n2:=by rw[e2];exact⟨Nat.le_refl _,fun x hx hS=>by rw[zK,if_neg fun e=>hS (by simp[e])]⟩
   have o2:=o.tch t2 (own_off o (by omega));clear e2;repeat' first|refine wk ?_|refine cX (fun _=>?_) fun _=>?_|fail
   refine appT o2 (by omega) (by omega) ?_
   rintro v3 h3 n3 o3 t3
   have hn3:=t3.le;have ov:=o3.one;have c3:Cel h3 b zBu 0 [ptr b 0,sv]:=c2.tch t3 (by omega) (vU o2 (by omega));have low3:∀x,x<b→zF h3 x=zF h x:=fun x hx=>(t3.2 x (by omega) fun hm=>by have:=low x hm;omega).trans (t2.2 x (by omega) (by simp;omega));rw [eb,← List.length_append]at o3;clear t3;repeat' first|refine wk ?_|refine cX (fun _=>?_) fun _=>?_|fail
   exact⟨_,rfl,⟨by omega,fun x hx=>by rw[yL,if_neg (by omega)];exact low3 x hx⟩,by omega,ptr b 0,v3,zH,.inr rfl,xG o3 (S0:=b) zA (by omega)⟩
 · repeat' first|refine wk ?_|refine cX (fun _=>?_) fun _=>?_|refine uW (check_used hB).ret ?_|fail
   rintro _ h2 n2 ⟨rfl,e3,e4⟩
   rw[e3,e4];clear e3 e4 h2 n2;repeat' first|refine wk ?_|refine cX (fun _=>?_) fun _=>?_|fail
   refine appT o (by omega) (by omega) ?_
   rintro v3 h3 n3 o3 t3
   have hn3:=t3.le;have ov:=o3.one;have c3:Cel h3 b zBu 0 [ptr b 0,sv]:=c.tch t3 (by omega) (vU o (by omega));have low3:∀x,x<b→zF h3 x=zF h x:=fun x hx=>(t3.2 x (by omega) fun hm=>by have:=low x hm;omega).trans (rfl);rw [eb,← List.length_append]at o3;clear t3;repeat' first|refine wk ?_|refine cX (fun _=>?_) fun _=>?_|fail
   exact⟨_,rfl,⟨by omega,fun x hx=>by rw[yL,if_neg (by omega)];exact low3 x hx⟩,by omega,ptr b 0,v3,zH,.inr rfl,xG o3 (S0:=b) zA (by omega)⟩
theorem joinTail_len:∀(r:List Tx),(∀x∈r,x.length≤22)→(Lib.joinTail [32] r).length≤23*r.length:=by
 intro r
 induction r with
 | nil=>intro _;simp [Lib.joinTail]
 | cons x r ih=>
  intro h;have h1:=h x (List.mem_cons_self ..);have h2:=ih fun y hy=>h y (List.mem_cons_of_mem _ hy);unfold Lib.joinTail at h2 ⊢;simp only[List.map_cons,List.flatten_cons,List.length_append,List.length_cons,List.length_nil]at h2 ⊢;omega
theorem join_len{ss:List Tx}(h:∀x∈ss,x.length≤22):(Lib.join ss [32]).length≤23*ss.length:=by
 cases ss with
 | nil=>simp [Lib.join_nil]
 | cons x r=>
  rw[Lib.join_cons,List.length_append];have h1:=h x (List.mem_cons_self ..);have h2:=joinTail_len r fun y hy=>h y (List.mem_cons_of_mem _ hy);simp only[List.length_cons];omega
theorem vW{lo:Nat}{sv:Value}{ss:List Tx}{hd:Tx}(w:BldT b n h l)(r:Row lo h sv 9 1 ss.length (ss.map str))(hlo:lo≤n)(hss:ss.length≤600)(hs:∀x∈ss,x.length≤22)(hhd:hd.length≤2)(hl:l.length≤900000):Ret P 8 17 [str hd,sv,ptr b 0] h n fun v h' n'=>v = .tuple #[]∧Und b h n h' n'∧∃s,BldT b n' h' (l++s)∧s≠[]∧s.length≤3+23*ss.length:=by
 have hj:=join_len hs;have os:=r.one;have p:=(join_pure (n:=n) ss [32] (r.up hlo) (by omega) (by omega)).pur;refine ent fun u=>?_;repeat' first|refine wk ?_|refine cX (fun _=>?_) fun _=>?_|refine yV p ?_|fail
 refine ob (a:=str (hd++Lib.join ss [32])) ?_ (uF (by omega));repeat' first|refine wk ?_|refine cX (fun _=>?_) fun _=>?_|fail
 refine ob (a:=str (hd++Lib.join ss [32]++[10])) ?_ (uF (a:=hd++Lib.join ss [32]) (b:=[10]) (by rw[List.length_append,List.length_singleton];omega));have hl9:(hd++Lib.join ss [32]++[10]).length≤3+23*ss.length:=by simp only[List.length_append,List.length_singleton];omega
 repeat' first|refine wk ?_|refine cX (fun _=>?_) fun _=>?_|refine uW (write_ret w (by omega)) ?_|fail
 rintro _ h2 n2 ⟨u2,w2⟩
 repeat' first|refine wk ?_|refine cX (fun _=>?_) fun _=>?_|fail
 exact⟨_,rfl,rfl,u2,_,w2,by simp,hl9⟩
end Go.Proofs.YtdipdkkpgjdnkaaGreatDoor
namespace Go.Proofs.YtdipdkkpgjdnkaaGreatDoor
open Go Go.Ex Go.Ex.M
set_option maxRecDepth 100000
set_option maxHeartbeats 8000000
attribute [local simp] yG
variable {n lo:Nat} {h:zB} {m:Int} {F:FunT}
theorem sum_le{α : Type}(f: α→Nat):∀(l:List α) (k:Nat),((l.take k).map f).sum≤(l.map f).sum:=by
 intro l
 induction l with
 | nil=>intro k;simp
 | cons a l ih=>
  intro k
  cases k with
  | zero=>simp
  | succ k=>simp only[List.take_succ_cons,List.map_cons,List.sum_cons];have:=ih k;omega
theorem und_up{b n1 n':Nat}{h1 h':zB}(a:Und b h1 n1 h' n')(t:Tch [] h n h1 n1)(hb:n≤b):Tch [] h n h' n':=⟨Nat.le_trans t.1 a.1,fun x hx _=>(a.2 x (by omega)).trans (t.2 x hx (by simp))⟩
theorem und_cel{b n1 n' c z:Nat}{h1 h':zB}{vs:List Value}(a:Und b h1 n1 h' n')(k:Cel h1 c z 0 vs)(hc:c<b):Cel h' c z 0 vs:=⟨by rw[a.2 c hc];exact k.1,fun i=>by unfold zD;rw [a.2 c hc];exact k.2 i⟩
abbrev prV(b:Nat):Value:=.func (.func 17) ⟨[]⟩ ⟨[ptr b 0]⟩
structure PrI (n:Nat) (h:zB) (F:FunT) (k:Nat) (h':zB) (n':Nat):Prop where
 t:Tch [] h n h' n'
 le:n+2≤n'
 c:Cel h' n (26+1) 0 (funC F)
 b:∃l,BldT (n+1) n' h' l∧l≠[]∧l.length≤12200+118*k
theorem print_ret(q:FunQ lo h F)(hlo:lo≤n)(hE:Env m h)(hg:8≤n)(hp:Vir.plainF (toF F)=true)(s:FunS F)(hbig:F.vregs.length+F.params.length+sumB F.blocks≤3000):Ret P 8 7 [.agg ⟨funC F⟩] h n fun v h' n'=>∃s:Tx,v=str s∧s≠[]∧s.length<1000000∧Tch [] h n h' n':=by
 obtain⟨p1,p2,p3,p4,p5,p6,p7,p8⟩:=plainF_out hp;have o1:=q.vr.one;have o2:=q.pr.one;have o3:=q.bv.one;have rv:=q.vr;have rp:=q.pr;have rb:=q.bv;have e1:=name_len p1;have e2:=name_len p2;refine ent fun u=>?_;repeat' first|refine wk ?_|refine cX (fun _=>?_) fun _=>?_|refine yV (gplain_pur (q.tch zA hlo) (by omega) hp) ?_|fail
 have w0:BldT (n+1) (n+1+1) (hal (hal h n (mkC (funC F) (26+1) 0)) (n+1) (mkC [.pointer none,.slice none 0 0] zBu 0)) []:=⟨by omega,_,_,zH,.inl rfl,Own.nil⟩;refine uW (vW (hd:=[]) (l:=[]) (ss:=[[102,117,110,99],F.name]) (w0.tch zA) (yA (e:=9) (sz:=1) (len:=2) rfl (by decide)) (Nat.le_refl _) (show 2≤600 by decide) (by simp;omega) (show 0≤2 by decide) (show 0≤900000 by decide)) ?_
 rintro _ h1 n1 ⟨rfl,u1,s1,w1,hs1,hl1⟩
 have t1:=und_up (h:=h) (n:=n) u1 zA (by omega);have c1:Cel h1 n (26+1) 0 (funC F):=und_cel u1 zH (by omega);have hn1:=u1.1;have b1:=w1.1;clear u1 w0;rw [List.nil_append]at w1;have hl1':s1.length≤49:=hl1;repeat' first|refine wk ?_|refine cX (fun _=>?_) fun _=>?_|fail
 refine uI (lo:=n1) (way_new (len:=1) (Nat.le_refl _) rfl (by decide)) (by decide) (xP [[114,101,103,115]]) (by omega) ((rv.tch (S:=[]) zA hlo (by simp)).up (by omega)) (xP F.vregs) (by omega) ?_
 rintro v2 h2 n2 w2 t2
 have hn2:=t2.le;have ov2:=(w2.row (by decide)).one;have t12:Tch [] h1 n1 h2 n2:=Tch.tch t2 zA (by simp[yE]);have t02:Tch [] h n h2 n2:=Tch.tch t12 t1 (by simp);have c2:=c1.tch t12 (by omega) (by simp);have w12:=w1.tch t12
 have r2:Row n2 h2 v2 9 1 ([[114,101,103,115]]++F.vregs).length (([[114,101,103,115]]++F.vregs).map str):=by
  have:=w2.row (by decide);have e1:1+F.vregs.length=([[114,101,103,115]]++F.vregs).length:=by simp;omega
  rw[e1]at this;simpa using this
 clear t2 t12
 repeat' first|refine wk ?_|refine cX (fun _=>?_) fun _=>?_|refine uW (vW (hd:=[]) w12 r2 (Nat.le_refl _) (by simp;omega) (fun x hx=>by
  rcases List.mem_append.1 hx with hx|hx
  · simp at hx;rw [hx];decide
  · have:=name_len (p7 x hx);omega) (show 0≤2 by decide) (by omega)) ?_|fail
 rintro _ h3 n3 ⟨rfl,u3,s3,w3,hs3,hl3⟩
 have t3:=und_up u3 t02 (by omega);have c3:Cel h3 n (26+1) 0 (funC F):=und_cel u3 c2 (by omega);have hn3:=u3.1;have hl3':s3.length≤11600:=by simp at hl3;omega
 clear u3 r2 w12 w1;repeat' first|refine wk ?_|refine cX (fun _=>?_) fun _=>?_|refine uW (texts_ret (hE.tch (S:=[]) zA hg (by simp)) (by omega) (rp.tch (S:=[]) zA hlo (by simp)) (by omega) (by omega) p6) ?_|fail
 rintro _ h4 n4 ⟨ss,ow,hl4,hs4,t4⟩
 have hn4:=t4.le;have o4:=ow.one;have wp:WayR n3 (n3+1) (hal h3 n3 (mkC [str [112,97,114,97,109,115]] 0 0)) (.slice (some ⟨n3,0,none⟩) 1 1) 9 1 1 [str [112,97,114,97,109,115]]:=way_new (Nat.le_refl _) rfl (by decide);have w4:=wp.tch t4 (by simp);have t34:Tch [] h3 n3 h4 n4:=Tch.tch t4 zA (by simp);have t04:Tch [] h n h4 n4:=Tch.tch t34 t3 (by simp);have c4:=c3.tch t34 (by omega) (by simp);have wb4:=w3.tch t34;clear t4 wp;repeat' first|refine wk ?_|refine cX (fun _=>?_) fun _=>?_|fail
 refine uI (lo:=n3) w4 (by decide) (xP [[112,97,114,97,109,115]]) (by omega) (ow.row (by decide)) (xP ss) (by omega) ?_
 rintro v5 h5 n5 w5 t5
 have hn5:=t5.le;have ov5:=(w5.row (by decide)).one;have t45:Tch [n3] h4 n4 h5 n5:=by simpa [yE] using t5
 have t05:Tch [] h n h5 n5:=Tch.tch t45 t04 (by simp;omega);have c5:=c4.tch t45 (by omega) (by simp;omega);have t35:Tch [] h3 n3 h5 n5:=Tch.tch t45 t34 (by simp);have wb5:=w3.tch t35
 have r5:Row n5 h5 v5 9 1 ([[112,97,114,97,109,115]]++ss).length (([[112,97,114,97,109,115]]++ss).map str):=by
  have:=w5.row (by decide);have e1:1+ss.length=([[112,97,114,97,109,115]]++ss).length:=by simp;omega
  rw[e1]at this;simpa using this
 clear t5 t45 t35 t34 wb4 w4 ow
 repeat' first|refine wk ?_|refine cX (fun _=>?_) fun _=>?_|refine uW (vW (hd:=[]) wb5 r5 (Nat.le_refl _) (by simp;omega) (fun x hx=>by
  rcases List.mem_append.1 hx with hx|hx
  · simp at hx;rw [hx];decide
  · exact hs4 x hx) (show 0≤2 by decide) (by rw[List.length_append];omega)) ?_|fail
 rintro _ h6 n6 ⟨rfl,u6,s6,w6,hs6,hl6⟩
 have t6:=und_up u6 t05 (by omega);have c6:Cel h6 n (26+1) 0 (funC F):=und_cel u6 c5 (by omega);have hn6:=u6.1;have hl6':s6.length≤400:=by simp at hl6;omega
 clear u6 r5 wb5;repeat' first|refine wk ?_|refine cX (fun _=>?_) fun _=>?_|fail
 refine uW (vW (hd:=[]) (ss:=[[114,101,115,117,108,116],F.result]) (w6.tch zA) (yA (e:=9) (sz:=1) (len:=2) rfl (by decide)) (Nat.le_refl _) (show 2≤600 by decide) (by simp;omega) (show 0≤2 by decide) (by simp only[List.length_append];omega)) ?_
 rintro _ h7 n7 ⟨rfl,u7,s7,w7,hs7,hl7⟩
 have t7:=und_up (h:=h) (n:=n) u7 zA (by omega);have c7:Cel h7 n (26+1) 0 (funC F):=und_cel u7 zH (by omega);have hn7:=u7.1;have hl7':s7.length≤49:=hl7;have w7':∃l,BldT (n+1) n7 h7 l∧l≠[]∧l.length≤12200+118*0:=⟨_,w7,by simp[hs7],by simp only[List.length_append];omega⟩;clear u7 w6 w7 w3 w2 c1 c2 c3 c4 c5 c6 t1 t02 t3 t04 t05 t6;repeat' first|refine wk ?_|refine cX (fun _=>?_) fun _=>?_|fail
 refine lpR (fun k:Nat=>[(1,ptr n 0),(3,ptr (n+1) 0),(4,prV (n+1)),(37,F.bv),(38,I64 F.blocks.length),(39,I64 (k:Nat))]) (fun k h' n'=>PrI n h F (sumB (F.blocks.take k)) h' n'∧k≤F.blocks.length) (fun k=>F.blocks.length - k) 0 ⟨⟨t7,by omega,c7,w7'⟩,Nat.zero_le _⟩ ?_;clear t7 c7 w7' hn7 hl7 hl7' hs7
 rintro k t h' n' ⟨⟨t1,hn1,c1,l,wl,hl0,hll⟩,hk⟩
 have hsum:=sum_le (fun x:Value×List InsT=>1+x.2.length+sumA x.2) F.blocks k;have hsum':sumB (F.blocks.take k)≤sumB F.blocks:=hsum;by_cases hlt:k<F.blocks.length
 rotate_left
 · obtain rfl:k=F.blocks.length:=by omega
   rw[List.take_length]at hll;repeat' first|refine wk ?_|refine cX (fun _=>?_) fun _=>?_|fail
   refine uW (vW (hd:=[]) (ss:=[[101,110,100]]) (wl.tch zA) (yA (e:=9) (sz:=1) (len:=1) rfl (by decide)) (Nat.le_refl _) (show 1≤600 by decide) (by simp) (show 0≤2 by decide) (by omega)) ?_
   rintro _ h2 n2 ⟨rfl,u2,s2,w2,hs2,hl2⟩
   have t2:=und_up (h:=h) (n:=n) u2 zA (by omega);have hn2:=u2.1;have hl2':s2.length≤26:=hl2;have hw2:=w2;obtain⟨b2,pv,sv,c,hpv,o⟩:=hw2;have low2:=xY o;have hne:yE sv≠some (n+1):=fun e=>by have:=(o.blk e).1;omega
   clear u2;repeat' first|refine wk ?_|refine cX (fun _=>?_) fun _=>?_|refine uW (string_rets ⟨c.1,c.2 0,c.2 1⟩ o hne (by rw[List.length_append];omega)).ret ?_|fail
   rintro _ h3 n3 ⟨rfl,e3,hk3⟩
   have t3:Tch [] h n h3 n3:=⟨by have:=t2.le;omega,fun x hx _=>(hk3 x fun e=>by have:=(o.blk e).1;omega).trans (t2.2 x hx (by simp))⟩;repeat' first|refine wk ?_|refine cX (fun _=>?_) fun _=>?_|fail
   exact⟨_,rfl,_,rfl,by simp[hs2],by rw[List.length_append];omega,t3⟩
 have c0:F.blocks[k]? = some F.blocks[k]:=List.getElem?_eq_getElem hlt;have mx:=List.getElem_mem hlt;generalize F.blocks[k]=x at c0 mx
 have hst:=sum_take (f:=fun x:Value×List InsT=>1+x.2.length+sumA x.2) c0;have hs1:sumB (F.blocks.take (k+1))=sumB (F.blocks.take k)+(1+x.2.length+sumA x.2):=hst;have hs2:sumB (F.blocks.take (k+1))≤sumB F.blocks:=sum_le (fun x:Value×List InsT=>1+x.2.length+sumA x.2) F.blocks (k+1);have rb1:=rb.tch t1 hlo (by simp);have c2:=gval_at rb1 c0;obtain⟨hx4,hxi⟩:=p8 x mx;obtain⟨xv,xl⟩:=x;dsimp only at c2 hx4 hxi hs1;have rx:=q.el _ mx;have hgx:=q.ar _ mx;have hal:=s.al _ mx;dsimp only at rx hgx hal;have ox:=rx.one;have rx1:=rx.tch t1 hlo (by simp);clear hst hsum;repeat' first|refine wk ?_|refine cX (fun _=>?_) fun _=>?_|fail
 refine uW (vW (hd:=[]) (ss:=[[98,108,111,99,107]]) (wl.tch zA) (yA (e:=9) (sz:=1) (len:=1) rfl (by decide)) (Nat.le_refl _) (show 1≤600 by decide) (by simp) (show 0≤2 by decide) (by omega)) ?_
 rintro _ h2 n2 ⟨rfl,u2,s2,w2,hs2',hl2⟩
 have hl2':s2.length≤118*1:=Nat.le_trans hl2 (show 3+23*1≤118*1 by decide);have hn2:=u2.1;have I0:PrI n h F (sumB (F.blocks.take k)+1) h2 n2:=⟨und_up u2 zA (by omega),by omega,und_cel u2 zH (by omega),_,w2,by simp[hs2'],by rw[List.length_append];omega⟩;have rx2:=rx.tch I0.t hlo (by simp);clear u2 w2 wl t1 c1 rb1 c2 rx1;repeat' first|refine wk ?_|refine cX (fun _=>?_) fun _=>?_|fail
 refine lpR (fun p:Nat=>[(1,ptr n 0),(3,ptr (n+1) 0),(4,prV (n+1)),(37,F.bv),(38,I64 F.blocks.length),(39,I64 (k:Nat)),(46,xv),(47,I64 xl.length),(48,I64 (p:Nat))]) (fun p h' n'=>PrI n h F (sumB (F.blocks.take k)+1+p+sumA (xl.take p)) h' n'∧p≤xl.length) (fun p=>xl.length - p) 0 ⟨by simpa [sumA] using I0,Nat.zero_le _⟩ ?_;clear I0 rx2
 rintro p t h' n' ⟨⟨t1,hn1,c1,l,wl,hl0,hll⟩,hp2⟩
 by_cases hlt2:p<xl.length
 · have i0:xl[p]? = some xl[p]:=List.getElem?_eq_getElem hlt2;have mi:=List.getElem_mem hlt2;have hst:=sum_take (f:=fun i:InsT=>i.args.length) i0;generalize xl[p]=i at i0 mi hst
   have hst2:sumA (xl.take (p+1))=sumA (xl.take p)+i.args.length:=hst;have hle2:sumA (xl.take (p+1))≤sumA xl:=sum_le (fun i:InsT=>i.args.length) xl (p+1);have rx1:=rx.tch t1 hlo (by simp);have ri:Rd h' (sbk xv) (sof xv+p*9) 9 (uE i):=row_el rx1 i0;have gi:=(hgx i mi).tch t1 hlo (by simp);have oi:=gi.one;have low:=rx1.low (by omega);have ga:=(plain_out (hxi i mi)).2.2.2.2.1;repeat' first|refine wk ?_|refine cX (fun _=>?_) fun _=>?_|refine uW (show_ret (hE.tch (S:=[]) zA hg (by simp)) (by omega) (gi.tch (S:=[]) zA (by omega) (by simp)) (by omega) (hxi i mi) (hal i mi).2.2) ?_|fail
   rintro _ h3 n3 ⟨ss,r3,hl3,hs3,t3⟩
   have hn3:=t3.le;have o3':=r3.one;have t03:Tch [] h n h3 n3:=zA;have t13:Tch [] h' n' h3 n3:=Tch.tch t3 zA (by simp);have c3:=c1.tch t13 (by omega) (by simp);have w3:=wl.tch t13;clear t3;repeat' first|refine wk ?_|refine cX (fun _=>?_) fun _=>?_|refine uW (vW (hd:=[32,32]) w3 r3 (Nat.le_refl _) (by omega) hs3 (show 2≤2 by decide) (by omega)) ?_|fail
   rintro _ h4 n4 ⟨rfl,u4,s4,w4,hs4,hl4⟩
   have t4:=und_up u4 t03 (by omega);have c4:Cel h4 n (26+1) 0 (funC F):=und_cel u4 c3 (by omega);have hn4:=u4.1;clear u4 t03 t13 w3 r3 wl ri;repeat' first|refine wk ?_|refine cX (fun _=>?_) fun _=>?_|fail
   exact rnd (p+1) ⟨⟨t4,by omega,c4,_,w4,by simp[hs4],by rw[List.length_append,hst2];omega⟩,hlt2⟩
 · obtain rfl:p=xl.length:=by omega
   rw[List.take_length]at hll;repeat' first|refine wk ?_|refine cX (fun _=>?_) fun _=>?_|fail
   exact rnd (k+1) ⟨⟨t1,hn1,c1,l,wl,hl0,by rw[hs1];omega⟩,hlt⟩
end Go.Proofs.YtdipdkkpgjdnkaaGreatDoor
