/- What the law leans on: an executor of the model that is sound, deduction over it, and the walks through the code (part 23 of 24). Conditions: those that each theorem states. -/
import Derived.Test.YtdipdkkpgjdnkaaGreatDoorVirLinesx17
import Derived.Test.YtdipdkkpgjdnkaaGreatDoorVirLinesx21

set_option linter.unusedVariables false
set_option linter.unusedSimpArgs false
namespace Go.Proofs.YtdipdkkpgjdnkaaGreatDoor
open Go Go.Ex Go.Ex.M
set_option maxRecDepth 100000
set_option maxHeartbeats 8000000
attribute [local simp] yG
variable {n lo:Nat} {h:zB}
def clearT(i:InsT):InsT:=
 if i.kind=1 then⟨1,i.d,0,0,i.n,[],.slice none 0 0,[],0,0⟩
 else if i.kind=2∨i.kind=4 then⟨i.kind,i.d,i.a,0,0,[],.slice none 0 0,[],0,0⟩
 else if i.kind=3∨i.kind=6 then⟨i.kind,i.d,0,0,0,i.name,i.av,i.args,0,0⟩
 else if i.kind=5 then⟨5,0,i.a,i.b,0,[],.slice none 0 0,[],0,0⟩
 else if i.kind=7 then⟨7,0,i.a,0,0,[],.slice none 0 0,[],i.t,i.f⟩
 else if i.kind=8 then⟨8,0,0,0,0,[],.slice none 0 0,[],i.t,0⟩
 else⟨i.kind,0,i.a,0,0,[],.slice none 0 0,[],0,0⟩
theorem clear_ret{i:InsT}(o:i.av.oneCell'=true)(h1:1≤i.kind)(h9:i.kind≤9):Ret P 8 38 [.agg ⟨uE i⟩] h n fun v h' n'=>v = .agg ⟨uE (clearT i)⟩∧Tch [] h n h' n':=by
 refine ent fun u=>?_;repeat' first|refine wk ?_|refine cX (fun _=>?_) fun _=>?_|refine ob (a:=_) ?_ (zQ (by apply zE;((conv=>lhs;whnf) <;> exact rfl)) (by decide) (by repeat' first|exact zT|(apply zN;focus (apply Cel.cell;(focus exact zC);exact rfl))) (by repeat' first|exact yB|(apply yC;(focus (apply zE;((conv=>lhs;whnf) <;> exact rfl))))))|fail
 all_goals first|(exfalso;omega)|exact⟨_,rfl,by simp only[*,clearT];rfl,zA⟩
end Go.Proofs.YtdipdkkpgjdnkaaGreatDoor
namespace Go.Proofs.YtdipdkkpgjdnkaaGreatDoor
open Go Go.Ex Go.Ex.M
set_option maxRecDepth 100000
set_option maxHeartbeats 8000000
attribute [local simp] yG
variable {n lo:Nat} {h:zB}
abbrev zIn9:Nat:=41+1
theorem clear_row{i:InsT}(r:Row lo h i.av 3 1 i.args.length (i.args.map I64)):Row lo h (clearT i).av 3 1 (clearT i).args.length ((clearT i).args.map I64):=by
 have z:Row lo h (.slice none 0 0) 3 1 ([]:List Int).length (([]:List Int).map I64):=.inl ⟨rfl,rfl,rfl⟩;unfold clearT;repeat' split
 all_goals first|exact r|exact z
theorem plain_of{i:InsT}(h1:1≤i.kind)(h9:i.kind≤9)(hl:i.args.length≤16)(hs:sameI i (clearT i)=true)(hsm:∀x∈[i.a,i.b,i.t,i.f]++i.args,Vir.small x=true)(hd:¬(i.kind=6∧i.d = -1)→Vir.small i.d=true)
(h3:i.kind=3→(nameB i.name && !Vir.wordB i.name)=true∧(i.args.length=1∨i.args.length=2))(h6:i.kind=6→nameB i.name=true):Vir.plainI (toI i)=true:=by
 have s1:[i.a,i.b,i.t,i.f].all Vir.small=true:=List.all_eq_true.2 fun x hx=>hsm x (List.mem_append_left _ hx);have s2:i.args.all Vir.small=true:=List.all_eq_true.2 fun x hx=>hsm x (List.mem_append_right _ hx)
 have hz:Vir.zeroI (Vir.restI (toI i))=true:=by
  have hs:=of_decide_eq_true hs;unfold Vir.zeroI Vir.restI;refine decide_eq_true ?_;unfold clearT at hs;rcases(by omega:i.kind=1∨i.kind=2∨i.kind=3∨i.kind=4∨i.kind=5∨i.kind=6∨i.kind=7∨i.kind=8∨i.kind=9) with e|e|e|e|e|e|e|e|e <;> simp[e]at hs ⊢ <;> simp[hs]
 unfold Vir.plainI
 have hk:(decide (1≤(toI i).kind) && decide ((toI i).kind≤9) && Vir.zeroI (Vir.restI (toI i)) && [(toI i).a,(toI i).b,(toI i).t,(toI i).f].all Vir.small && (toI i).args.all Vir.small && decide ((toI i).args.length≤16))=true:=by
  rw[hz,s1,s2,decide_eq_true h1,decide_eq_true h9,decide_eq_true hl];rfl
 rw[hk,Bool.true_and];by_cases e3:i.kind=3
 · obtain⟨a1,a2⟩:=h3 e3;rw [if_pos e3];have hd:=hd (by omega);have b1:decide (1≤(toI i).args.length)=true:=decide_eq_true (by dsimp only;omega);have b2:decide ((toI i).args.length≤2)=true:=decide_eq_true (by dsimp only;omega);rw [b1,b2,Bool.and_true,Bool.and_true,show Vir.small (toI i).d=true from hd,Bool.and_true];exact a1
 · rw[if_neg e3];by_cases e6:i.kind=6
   · rw[if_pos e6,show Vir.named (toI i).name=true from h6 e6,Bool.true_and];by_cases ed:i.d = -1
     · rw[decide_eq_true ed];rfl
     · rw[hd (fun h=>ed h.2),Bool.or_true]
   · rw[if_neg e6];exact hd fun h=>e6 h.1
theorem rplainIns_com{i:InsT}(r:Row lo h i.av 3 1 i.args.length (i.args.map I64))(hlo:lo≤n):Com P 8 15 [.agg ⟨uE i⟩] h n fun o h' n'=>∃b,o = .ret (.bool b)∧Tch [] h n h' n'∧(b=true→Vir.plainI (toI i)=true):=by
 have o:=r.one;refine ent fun u=>?_;by_cases hA:1≤i.kind∧i.kind≤9∧i.args.length≤16
 rotate_left
 · repeat' first|refine wk ?_|refine cX (fun _=>?_) fun _=>?_|fail
   all_goals first|(exfalso;omega)|exact⟨false,rfl,zA,fun h9=>by cases h9⟩
 obtain⟨h1,h9,hl⟩:=hA;repeat' first|refine wk ?_|refine cX (fun _=>?_) fun _=>?_|refine uW (clear_ret o h1 h9) ?_|fail
 rintro _ h2 n2 ⟨rfl,t2⟩
 have hn2:=t2.le;have u2:Tch [] h n h2 n2:=zA;have r2:=r.tch u2 hlo (by simp);have c2:Cel h2 n zIn9 0 (uE i):=Cel.tch zH t2 (by omega) (by simp);have oc:=(clear_row r2).one;have p:=same_ins (n:=n2) r2 (clear_row r2) (by omega) (by omega) (by omega);clear t2
 cases hs:sameI i (clearT i) with
 | false=>
  rw[hs]at p;repeat' first|refine wk ?_|refine cX (fun _=>?_) fun _=>?_|refine yV p ?_|fail
  exact⟨false,rfl,zA,fun h9=>by cases h9⟩
 | true=>
 rw[hs]at p;repeat' first|refine wk ?_|refine cX (fun _=>?_) fun _=>?_|refine yV p ?_|fail
 refine uI (lo:=n2) (way_new (len:=4) (Nat.le_refl _) rfl (by decide)) (by decide) (fun y hy=>by simp at hy;rcases hy with rfl|rfl|rfl|rfl <;> rfl) (by omega) ((r2.tch (S:=[]) zA (by omega) (by simp)).up (by omega)) (fun y hy=>by obtain⟨x,_,rfl⟩:=List.mem_map.1 hy;rfl) (by omega) ?_
 rintro v4 h4 n4 w4 t4
 have hn4:=t4.le;have ov4:=(w4.row (by decide)).one;have c4:Cel h4 n zIn9 0 (uE i):=Cel.tch zC t4 (by omega) (by simp[yE];omega);have u4:Tch [] h n h4 n4:=Tch.tch t4 zA (by simp[yE];omega);have eL:[I64 i.a,I64 i.b,I64 i.t,I64 i.f]++i.args.map I64=([i.a,i.b,i.t,i.f]++i.args).map I64:=by simp
 have eN:4+i.args.length=([i.a,i.b,i.t,i.f]++i.args).length:=by simp;omega
 rw[eL,eN]at w4;have hl4:([i.a,i.b,i.t,i.f]++i.args).length≤20:=by simp;omega
 clear t4 p;have hsub:∀x∈[i.a,i.b,i.t,i.f]++i.args,x∈[i.a,i.b,i.t,i.f]++i.args:=fun _ hx=>hx;generalize hL:[i.a,i.b,i.t,i.f]++i.args=L at *
 by_cases e6:i.kind=6
 · by_cases ed:i.d = -1
   · have rl:=w4.row (by decide);repeat' first|refine wk ?_|refine cX (fun _=>?_) fun _=>?_|fail
     refine lpR (fun k:Nat=>[(1,ptr n 0),(4,v4),(5,I64 (k:Nat))]) (fun k h' n'=>Tch [] h4 n4 h' n'∧k≤(L).length∧∀j,j<k→∀x,(L)[j]? = some x→Vir.small x=true) (fun k=>(L).length - k) 0 ⟨zA,Nat.zero_le _,fun j hj=>by omega⟩ ?_
     rintro k t h' n' ⟨t6,hk,hall⟩
     have rl6:=rl.tch t6 (Nat.le_refl _) (by simp);have c6:Cel h' n zIn9 0 (uE i):=c4.tch t6 (by omega) (by simp);have hn6:=t6.le;have u6:Tch [] h n h' n':=Tch.tch t6 u4 (by simp);by_cases hlt:k<(L).length
     · have c0:(L)[k]? = some (L)[k]:=List.getElem?_eq_getElem hlt;generalize (L)[k]=x at c0
       have c1:=int_at rl6 c0;have low:=rl6.low (by omega)
       cases hx:Vir.small x with
       | true =>
        have pn:∀(h':zB) n',Pur P 8 14 [I64 x] h' n' (.bool true):=fun h' n'=>by
         have:=(rsmall_c x h' n').ok;rw [hx]at this;exact this
        repeat' first|refine yV (pn _ _) ?_|refine wk ?_|refine cX (fun _=>?_) fun _=>?_|fail
        exact rnd (k+1) ⟨t6,hlt,fun j hj y hy=>by
         rcases Nat.lt_succ_iff_lt_or_eq.1 hj with h9|rfl
         · exact hall j h9 y hy
         · rw[c0]at hy;injection hy with hy;rw [← hy];exact hx⟩
       | false =>
        have pn:∀(h':zB) n',Pur P 8 14 [I64 x] h' n' (.bool false):=fun h' n'=>by
         have:=(rsmall_c x h' n').ok;rw [hx]at this;exact this
        repeat' first|refine yV (pn _ _) ?_|refine wk ?_|refine cX (fun _=>?_) fun _=>?_|fail
        exact⟨false,rfl,u6,fun h9=>by cases h9⟩
     obtain rfl:k=(L).length:=by omega
     have hsm:∀x∈L,Vir.small x=true:=fun x hx=>by
      obtain⟨j,hj,rfl⟩:=List.mem_iff_getElem.1 hx;exact hall j hj _ (List.getElem?_eq_getElem hj)
     repeat' first|refine wk ?_|refine cX (fun _=>?_) fun _=>?_|fail
     exact⟨_,rfl,u6,fun hb=>plain_of h1 h9 hl hs (by rw[hL];exact hsm) (fun h=>absurd ⟨e6,ed⟩ h) (fun h=>by omega) fun _=>hb⟩
   · have hed:¬(i.kind=6∧i.d = -1):=fun h=>ed h.2;repeat' first|refine wk ?_|refine cX (fun _=>?_) fun _=>?_|fail
     refine way_app (w4.tch (S:=[]) zA (by simp)) (fun y hy=>by obtain⟨x,_,rfl⟩:=List.mem_map.1 hy;rfl) (by omega) (yA (e:=3) (sz:=1) (len:=1) rfl (by decide)) (by decide) (fun y hy=>by simp at hy;rw [hy];rfl) (by omega) ?_
     rintro v5 h5 n5 w5 _ t5
     have hn5:=t5.le;have low5:=fun b hb=>(w4.blk (b:=b) hb).1;have ov5:=(w5.row (by decide)).one;have c5:Cel h5 n zIn9 0 (uE i):=Cel.tch zC t5 (by omega) (fun hx=>by(have:=low5 n (by simpa using hx);omega));have u5:Tch [] h n h5 n5:=Tch.tch t5 zA (fun x hx=>.inl (by have:=low5 x (by simpa using hx);omega));have eL2:L.map I64++[I64 i.d]=(L++[i.d]).map I64:=by simp
     have eN2:L.length+1=(L++[i.d]).length:=by simp
     rw[eL2,eN2]at w5;have hl5:(L++[i.d]).length≤21:=by simp;omega
     have rl:=w5.row (by decide);have hpre:∀x∈L,x∈L++[i.d]:=fun x hx=>List.mem_append_left _ hx;have hpost:i.d∈L++[i.d]:=by simp
     clear t5;generalize L++[i.d]=L2 at *
     repeat' first|refine wk ?_|refine cX (fun _=>?_) fun _=>?_|fail
     refine lpR (fun k:Nat=>[(1,ptr n 0),(4,v5),(5,I64 (k:Nat))]) (fun k h' n'=>Tch [] h5 n5 h' n'∧k≤(L2).length∧∀j,j<k→∀x,(L2)[j]? = some x→Vir.small x=true) (fun k=>(L2).length - k) 0 ⟨zA,Nat.zero_le _,fun j hj=>by omega⟩ ?_
     rintro k t h' n' ⟨t6,hk,hall⟩
     have rl6:=rl.tch t6 (Nat.le_refl _) (by simp);have c6:Cel h' n zIn9 0 (uE i):=c5.tch t6 (by omega) (by simp);have hn6:=t6.le;have u6:Tch [] h n h' n':=Tch.tch t6 u5 (by simp);by_cases hlt:k<(L2).length
     · have c0:(L2)[k]? = some (L2)[k]:=List.getElem?_eq_getElem hlt;generalize (L2)[k]=x at c0
       have c1:=int_at rl6 c0;have low:=rl6.low (by omega)
       cases hx:Vir.small x with
       | true =>
        have pn:∀(h':zB) n',Pur P 8 14 [I64 x] h' n' (.bool true):=fun h' n'=>by
         have:=(rsmall_c x h' n').ok;rw [hx]at this;exact this
        repeat' first|refine yV (pn _ _) ?_|refine wk ?_|refine cX (fun _=>?_) fun _=>?_|fail
        exact rnd (k+1) ⟨t6,hlt,fun j hj y hy=>by
         rcases Nat.lt_succ_iff_lt_or_eq.1 hj with h9|rfl
         · exact hall j h9 y hy
         · rw[c0]at hy;injection hy with hy;rw [← hy];exact hx⟩
       | false =>
        have pn:∀(h':zB) n',Pur P 8 14 [I64 x] h' n' (.bool false):=fun h' n'=>by
         have:=(rsmall_c x h' n').ok;rw [hx]at this;exact this
        repeat' first|refine yV (pn _ _) ?_|refine wk ?_|refine cX (fun _=>?_) fun _=>?_|fail
        exact⟨false,rfl,u6,fun h9=>by cases h9⟩
     obtain rfl:k=(L2).length:=by omega
     have hsm:∀x∈L2,Vir.small x=true:=fun x hx=>by
      obtain⟨j,hj,rfl⟩:=List.mem_iff_getElem.1 hx;exact hall j hj _ (List.getElem?_eq_getElem hj)
     repeat' first|refine wk ?_|refine cX (fun _=>?_) fun _=>?_|fail
     exact⟨_,rfl,u6,fun hb=>plain_of h1 h9 hl hs (by rw[hL];exact fun x hx=>hsm x (hpre x hx)) (fun _=>hsm _ hpost) (fun h=>by omega) fun _=>hb⟩
 · have hed:¬(i.kind=6∧i.d = -1):=fun h=>e6 h.1;repeat' first|refine wk ?_|refine cX (fun _=>?_) fun _=>?_|fail
   refine way_app (w4.tch (S:=[]) zA (by simp)) (fun y hy=>by obtain⟨x,_,rfl⟩:=List.mem_map.1 hy;rfl) (by omega) (yA (e:=3) (sz:=1) (len:=1) rfl (by decide)) (by decide) (fun y hy=>by simp at hy;rw [hy];rfl) (by omega) ?_
   rintro v5 h5 n5 w5 _ t5
   have hn5:=t5.le;have low5:=fun b hb=>(w4.blk (b:=b) hb).1;have ov5:=(w5.row (by decide)).one;have c5:Cel h5 n zIn9 0 (uE i):=Cel.tch zC t5 (by omega) (fun hx=>by(have:=low5 n (by simpa using hx);omega));have u5:Tch [] h n h5 n5:=Tch.tch t5 zA (fun x hx=>.inl (by have:=low5 x (by simpa using hx);omega));have eL2:L.map I64++[I64 i.d]=(L++[i.d]).map I64:=by simp
   have eN2:L.length+1=(L++[i.d]).length:=by simp
   rw[eL2,eN2]at w5;have hl5:(L++[i.d]).length≤21:=by simp;omega
   have rl:=w5.row (by decide);have hpre:∀x∈L,x∈L++[i.d]:=fun x hx=>List.mem_append_left _ hx;have hpost:i.d∈L++[i.d]:=by simp
   clear t5;generalize L++[i.d]=L2 at *
   repeat' first|refine wk ?_|refine cX (fun _=>?_) fun _=>?_|fail
   refine lpR (fun k:Nat=>[(1,ptr n 0),(4,v5),(5,I64 (k:Nat))]) (fun k h' n'=>Tch [] h5 n5 h' n'∧k≤(L2).length∧∀j,j<k→∀x,(L2)[j]? = some x→Vir.small x=true) (fun k=>(L2).length - k) 0 ⟨zA,Nat.zero_le _,fun j hj=>by omega⟩ ?_
   rintro k t h' n' ⟨t6,hk,hall⟩
   have rl6:=rl.tch t6 (Nat.le_refl _) (by simp);have c6:Cel h' n zIn9 0 (uE i):=c5.tch t6 (by omega) (by simp);have hn6:=t6.le;have u6:Tch [] h n h' n':=Tch.tch t6 u5 (by simp);by_cases hlt:k<(L2).length
   · have c0:(L2)[k]? = some (L2)[k]:=List.getElem?_eq_getElem hlt;generalize (L2)[k]=x at c0
     have c1:=int_at rl6 c0;have low:=rl6.low (by omega)
     cases hx:Vir.small x with
     | true =>
      have pn:∀(h':zB) n',Pur P 8 14 [I64 x] h' n' (.bool true):=fun h' n'=>by
       have:=(rsmall_c x h' n').ok;rw [hx]at this;exact this
      repeat' first|refine yV (pn _ _) ?_|refine wk ?_|refine cX (fun _=>?_) fun _=>?_|fail
      exact rnd (k+1) ⟨t6,hlt,fun j hj y hy=>by
       rcases Nat.lt_succ_iff_lt_or_eq.1 hj with h9|rfl
       · exact hall j h9 y hy
       · rw[c0]at hy;injection hy with hy;rw [← hy];exact hx⟩
     | false =>
      have pn:∀(h':zB) n',Pur P 8 14 [I64 x] h' n' (.bool false):=fun h' n'=>by
       have:=(rsmall_c x h' n').ok;rw [hx]at this;exact this
      repeat' first|refine yV (pn _ _) ?_|refine wk ?_|refine cX (fun _=>?_) fun _=>?_|fail
      exact⟨false,rfl,u6,fun h9=>by cases h9⟩
   obtain rfl:k=(L2).length:=by omega
   have hsm:∀x∈L2,Vir.small x=true:=fun x hx=>by
    obtain⟨j,hj,rfl⟩:=List.mem_iff_getElem.1 hx;exact hall j hj _ (List.getElem?_eq_getElem hj)
   by_cases e3:i.kind=3
   · cases hn:(nameB i.name && !Vir.wordB i.name) with
     | false =>
      have pn:∀(h':zB) n',Pur P 8 39 [str i.name] h' n' (.bool false):=fun h' n'=>by
       have:=(ropName_c i.name h' n').ok;rw [hn]at this;exact this
      repeat' first|refine yV (pn _ _) ?_|refine wk ?_|refine cX (fun _=>?_) fun _=>?_|fail
      exact⟨false,rfl,u6,fun h9=>by cases h9⟩
     | true =>
      have pn:∀(h':zB) n',Pur P 8 39 [str i.name] h' n' (.bool true):=fun h' n'=>by
       have:=(ropName_c i.name h' n').ok;rw [hn]at this;exact this
      have r6:=r.tch u6 hlo (by simp);repeat' first|refine yV (pn _ _) ?_|refine wk ?_|refine cX (fun _=>?_) fun _=>?_|fail
      all_goals exact⟨_,rfl,u6,fun hb=>plain_of h1 h9 hl hs (by rw[hL];exact fun x hx=>hsm x (hpre x hx)) (fun _=>hsm _ hpost) (fun _=>⟨hn,by first|(left;omega)|(right;have:=of_decide_eq_true hb;omega)⟩) fun h=>by omega⟩
   · repeat' first|refine wk ?_|refine cX (fun _=>?_) fun _=>?_|fail
     exact⟨_,rfl,u6,fun hb=>plain_of h1 h9 hl hs (by rw[hL];exact fun x hx=>hsm x (hpre x hx)) (fun _=>hsm _ hpost) (fun h=>absurd h e3) fun h=>absurd h e6⟩
end Go.Proofs.YtdipdkkpgjdnkaaGreatDoor
namespace Go.Proofs.YtdipdkkpgjdnkaaGreatDoor
open Go Go.Ex Go.Ex.M
set_option maxRecDepth 100000
set_option maxHeartbeats 8000000
attribute [local simp] yG
variable {n lo:Nat} {h:zB} {F:FunT}
theorem plainF_of(h1:nameB F.name=true)(h2:nameB F.result=true)(h3:F.vregs.length≤500)(h4:F.params.length≤16)(h5:F.blocks.length≤200)(h6:∀x∈F.vregs,nameB x=true)(h7:∀x∈F.params,Vir.small x=true)(h8:∀x∈F.blocks,x.2.length≤400∧∀i∈x.2,Vir.plainI (toI i)=true):Vir.plainF (toF F)=true:=by
 unfold Vir.plainF;have e1:F.params.all Vir.small=true:=List.all_eq_true.2 h7;have e2:F.vregs.all Vir.named=true:=List.all_eq_true.2 h6
 have e3:((toF F).blocks.all fun b=>decide (b.length≤400) && b.all Vir.plainI)=true:=by
  rw[List.all_eq_true];intro b hb;obtain⟨x,hx,rfl⟩:=List.mem_map.1 hb;obtain⟨a,c⟩:=h8 x hx;rw [Bool.and_eq_true];refine⟨decide_eq_true (by rw[List.length_map];exact a),?_⟩;rw [List.all_eq_true];intro j hj;obtain⟨i,hi,rfl⟩:=List.mem_map.1 hj;exact c i hi
 rw[e3,Bool.and_true];show((((((nameB F.name && nameB F.result) && decide (F.vregs.length≤500)) && decide (F.params.length≤16)) && decide ((F.blocks.map fun x=>x.2.map toI).length≤200)) && F.params.all Vir.small) && F.vregs.all Vir.named)=true;rw [e1,e2,h1,h2,decide_eq_true h3,decide_eq_true h4,List.length_map,decide_eq_true h5];rfl
theorem rplain_com(q:FunQ lo h F)(hlo:lo≤n):Com P 8 6 [.agg ⟨funC F⟩] h n fun o h' n'=>∃b,o = .ret (.bool b)∧Tch [] h n h' n'∧(b=true→Vir.plainF (toF F)=true):=by
 have o1:=q.vr.one;have o2:=q.pr.one;have o3:=q.bv.one;have rv:=q.vr;have rp:=q.pr;have rb:=q.bv;refine ent fun u=>?_;by_cases hA:nameB F.name=true∧nameB F.result=true∧F.vregs.length≤500∧F.params.length≤16∧F.blocks.length≤200
 rotate_left
 · repeat' first|refine wk ?_|refine cX (fun _=>?_) fun _=>?_|fail
   all_goals first
    | exact⟨false,rfl,zA,fun h9=>by cases h9⟩
    | (exfalso;refine hA ⟨by assumption,by assumption,by omega,by omega,by omega⟩)
 obtain⟨n1,n2',hv,hp,hb⟩:=hA
 have pn1:∀(h':zB) n',Pur P 8 13 [str F.name] h' n' (.bool true):=fun h' n'=>by
  have:=(rname_c F.name h' n').ok;rw [n1]at this;exact this
 have pn2:∀(h':zB) n',Pur P 8 13 [str F.result] h' n' (.bool true):=fun h' n'=>by
  have:=(rname_c F.result h' n').ok;rw [n2']at this;exact this
 repeat' first|refine yV (pn1 _ _) ?_|refine yV (pn2 _ _) ?_|refine wk ?_|refine cX (fun _=>?_) fun _=>?_|fail
 refine lpR (fun k:Nat=>[(1,ptr n 0),(5,I64 (k:Nat))]) (fun k h' n'=>Tch [] h n h' n'∧Cel h' n (26+1) 0 (funC F)∧k≤F.vregs.length∧n+1≤n'∧∀j,j<k→∀x,F.vregs[j]? = some x→nameB x=true) (fun k=>F.vregs.length - k) 0 ⟨zA,zH,Nat.zero_le _,by omega,fun j hj=>by omega⟩ ?_
 rintro k t h' n' ⟨t1,c1,hk,hn,hall⟩
 have rv1:=rv.tch t1 hlo (by simp);by_cases hlt:k<F.vregs.length
 · have c0:F.vregs[k]? = some F.vregs[k]:=List.getElem?_eq_getElem hlt;generalize F.vregs[k]=x at c0
   have c2:zD h' (sbk F.vv) (sof F.vv+k*1)=some (str x):=by rw[Nat.mul_one];exact rv1.at (by rw[List.getElem?_map,c0];rfl)
   cases hx:nameB x with
   | true =>
    have pn:∀(h':zB) n',Pur P 8 13 [str x] h' n' (.bool true):=fun h' n'=>by
     have:=(rname_c x h' n').ok;rw [hx]at this;exact this
    repeat' first|refine yV (pn _ _) ?_|refine wk ?_|refine cX (fun _=>?_) fun _=>?_|fail
    exact rnd (k+1) ⟨t1,c1,hlt,hn,fun j hj y hy=>by
     rcases Nat.lt_succ_iff_lt_or_eq.1 hj with h9|rfl
     · exact hall j h9 y hy
     · rw[c0]at hy;injection hy with hy;rw [← hy];exact hx⟩
   | false =>
    have pn:∀(h':zB) n',Pur P 8 13 [str x] h' n' (.bool false):=fun h' n'=>by
     have:=(rname_c x h' n').ok;rw [hx]at this;exact this
    repeat' first|refine yV (pn _ _) ?_|refine wk ?_|refine cX (fun _=>?_) fun _=>?_|fail
    exact⟨false,rfl,t1,fun h9=>by cases h9⟩
 obtain rfl:k=F.vregs.length:=by omega
 have hall1:∀x∈F.vregs,nameB x=true:=fun x hx=>by
  obtain⟨j,hj,rfl⟩:=List.mem_iff_getElem.1 hx;exact hall j hj _ (List.getElem?_eq_getElem hj)
 clear hall pn1 pn2;repeat' first|refine wk ?_|refine cX (fun _=>?_) fun _=>?_|fail
 refine lpR (fun k:Nat=>[(1,ptr n 0),(7,I64 (k:Nat))]) (fun k h' n'=>Tch [] h n h' n'∧Cel h' n (26+1) 0 (funC F)∧k≤F.params.length∧n+1≤n'∧∀j,j<k→∀x,F.params[j]? = some x→Vir.small x=true) (fun k=>F.params.length - k) 0 ⟨t1,c1,Nat.zero_le _,hn,fun j hj=>by omega⟩ ?_;clear t1 c1 hn hk hlt rv1
 rintro k t h' n' ⟨t1,c1,hk,hn,hall⟩
 have rp1:=rp.tch t1 hlo (by simp);by_cases hlt:k<F.params.length
 · have c0:F.params[k]? = some F.params[k]:=List.getElem?_eq_getElem hlt;generalize F.params[k]=x at c0
   have c2:=int_at rp1 c0
   cases hx:Vir.small x with
   | true =>
    have pn:∀(h':zB) n',Pur P 8 14 [I64 x] h' n' (.bool true):=fun h' n'=>by
     have:=(rsmall_c x h' n').ok;rw [hx]at this;exact this
    repeat' first|refine yV (pn _ _) ?_|refine wk ?_|refine cX (fun _=>?_) fun _=>?_|fail
    exact rnd (k+1) ⟨t1,c1,hlt,hn,fun j hj y hy=>by
     rcases Nat.lt_succ_iff_lt_or_eq.1 hj with h9|rfl
     · exact hall j h9 y hy
     · rw[c0]at hy;injection hy with hy;rw [← hy];exact hx⟩
   | false =>
    have pn:∀(h':zB) n',Pur P 8 14 [I64 x] h' n' (.bool false):=fun h' n'=>by
     have:=(rsmall_c x h' n').ok;rw [hx]at this;exact this
    repeat' first|refine yV (pn _ _) ?_|refine wk ?_|refine cX (fun _=>?_) fun _=>?_|fail
    exact⟨false,rfl,t1,fun h9=>by cases h9⟩
 obtain rfl:k=F.params.length:=by omega
 have hall2:∀x∈F.params,Vir.small x=true:=fun x hx=>by
  obtain⟨j,hj,rfl⟩:=List.mem_iff_getElem.1 hx;exact hall j hj _ (List.getElem?_eq_getElem hj)
 clear hall;repeat' first|refine wk ?_|refine cX (fun _=>?_) fun _=>?_|fail
 refine lpR (fun k:Nat=>[(1,ptr n 0),(9,I64 (k:Nat))]) (fun k h' n'=>Tch [] h n h' n'∧Cel h' n (26+1) 0 (funC F)∧k≤F.blocks.length∧n+1≤n'∧∀j,j<k→∀x,F.blocks[j]? = some x→x.2.length≤400∧∀i∈x.2,Vir.plainI (toI i)=true) (fun k=>F.blocks.length - k) 0 ⟨t1,c1,Nat.zero_le _,hn,fun j hj=>by omega⟩ ?_;clear t1 c1 hn hk hlt rp1
 rintro k t h' n' ⟨t1,c1,hk,hn,hall⟩
 have rb1:=rb.tch t1 hlo (by simp);by_cases hlt:k<F.blocks.length
 rotate_left
 · obtain rfl:k=F.blocks.length:=by omega
   repeat' first|refine wk ?_|refine cX (fun _=>?_) fun _=>?_|fail
   exact⟨true,rfl,t1,fun _=>plainF_of n1 n2' hv hp hb hall1 hall2 fun x hx=>by
    obtain⟨j,hj,rfl⟩:=List.mem_iff_getElem.1 hx;exact hall j hj _ (List.getElem?_eq_getElem hj)⟩
 have c0:F.blocks[k]? = some F.blocks[k]:=List.getElem?_eq_getElem hlt;have mx:=List.getElem_mem hlt;generalize F.blocks[k]=x at c0 mx
 have c2:=val_at rb1 c0;obtain⟨xv,xl⟩:=x;dsimp only at c2;have rx:=q.el _ mx;have hgx:=q.ar _ mx;dsimp only at rx hgx;have rx1:=rx.tch t1 hlo (by simp);have ox:=rx.one;by_cases hx4:xl.length≤400
 rotate_left
 · repeat' first|refine wk ?_|refine cX (fun _=>?_) fun _=>?_|fail
   exact⟨false,rfl,t1,fun h9=>by cases h9⟩
 repeat' first|refine wk ?_|refine cX (fun _=>?_) fun _=>?_|fail
 refine lpR (fun q:Nat=>[(1,ptr n 0),(9,I64 (k:Nat)),(10,I64 (q:Nat))]) (fun q h' n'=>Tch [] h n h' n'∧Cel h' n (26+1) 0 (funC F)∧q≤xl.length∧n+1≤n'∧∀j,j<q→∀i,xl[j]? = some i→Vir.plainI (toI i)=true) (fun q=>xl.length - q) 0 ⟨t1,c1,Nat.zero_le _,hn,fun j hj=>by omega⟩ ?_;clear t1 c1 hn rb1 rx1 c2
 rintro p t h' n' ⟨t1,c1,hp2,hn,hall2'⟩
 have rb1:=rb.tch t1 hlo (by simp);have rx1:=rx.tch t1 hlo (by simp);have c2:zD h' (sbk F.bv) (sof F.bv+k*1)=some xv:=val_at rb1 c0;by_cases hlt2:p<xl.length
 · have i0:xl[p]? = some xl[p]:=List.getElem?_eq_getElem hlt2;have mi:=List.getElem_mem hlt2;generalize xl[p]=i at i0 mi
   have ri:=ins_rd rx1 i0;have gi:=(hgx i mi).tch t1 hlo (by simp);have oi:=gi.one;repeat' first|refine wk ?_|refine cX (fun _=>?_) fun _=>?_|refine cal (rplainIns_com gi (by omega)) ?_|fail
   rintro _ h3 n3 ⟨b,rfl,t3,hb3⟩
   have hn3:=t3.le;have t4:Tch [] h n h3 n3:=Tch.tch t3 t1 (by simp);have c4:Cel h3 n (26+1) 0 (funC F):=c1.tch t3 (by omega) (by simp);clear t3
   cases b with
   | true =>
    repeat' first|refine wk ?_|refine cX (fun _=>?_) fun _=>?_|fail
    exact rnd (p+1) ⟨t4,c4,hlt2,by omega,fun j hj y hy=>by
     rcases Nat.lt_succ_iff_lt_or_eq.1 hj with h9|rfl
     · exact hall2' j h9 y hy
     · rw[i0]at hy;injection hy with hy;rw [← hy];exact hb3 rfl⟩
   | false=>
    repeat' first|refine wk ?_|refine cX (fun _=>?_) fun _=>?_|fail
    exact⟨false,rfl,t4,fun h9=>by cases h9⟩
 · obtain rfl:p=xl.length:=by omega
   repeat' first|refine wk ?_|refine cX (fun _=>?_) fun _=>?_|fail
   exact rnd (k+1) ⟨t1,c1,hlt,hn,fun j hj y hy=>by
    rcases Nat.lt_succ_iff_lt_or_eq.1 hj with h9|rfl
    · exact hall j h9 y hy
    · rw[c0]at hy;injection hy with hy
      subst hy
      exact⟨hx4,fun i hi=>by
       obtain⟨j,hj,rfl⟩:=List.mem_iff_getElem.1 hi;exact hall2' j hj _ (List.getElem?_eq_getElem hj)⟩⟩
end Go.Proofs.YtdipdkkpgjdnkaaGreatDoor
