/- What the law leans on: an executor of the model that is sound, deduction over it, and the walks through the code (part 20 of 24). Conditions: those that each theorem states. -/
import Derived.Test.YtdipdkkpgjdnkaaGreatDoorVirLinesx19
import Derived.Test.YtdipdkkpgjdnkaaGreatDoorVirLinesx15
import Derived.Test.YtdipdkkpgjdnkaaGreatDoorVirLinesx17

set_option linter.unusedVariables false
set_option linter.unusedSimpArgs false
namespace Go.Proofs.YtdipdkkpgjdnkaaGreatDoor
open Go Go.Ex Go.Ex.M
set_option maxRecDepth 100000
set_option maxHeartbeats 8000000
attribute [local simp] yG
variable {n n0 br bw nb:Nat} {h:zB} {ws:List Tx} {sv:Value} {m:Int} {F:FunT}
theorem ins_1{S0:Vir.St}{e:Int}(h:Vir.oneI ws = .error e):Vir.insS S0 ws = .error e:=by unfold Vir.insS;rw [h]
theorem ins_2{S0:Vir.St}{e:Int}{i:Vir.Ins}{q:List Tx}(h:Vir.oneI ws = .ok (i,q))(h2:Vir.endW q = .error e):Vir.insS S0 ws = .error e:=by unfold Vir.insS;rw [h];dsimp only;rw [h2]
theorem ins_3{S0:Vir.St}{i:Vir.Ins}{q q2:List Tx}(h:Vir.oneI ws = .ok (i,q))(h2:Vir.endW q = .ok ((),q2)):Vir.insS S0 ws=if (S0.f.blocks.getLastD []).length<400 then .ok { S0.f with blocks:=Vir.addIns S0.f.blocks i } else .error 2:=by unfold Vir.insS;rw [h];dsimp only;rw [h2]
theorem rins_com{S0:Vir.St}(hf:S0.f=toF F)(R:RdM br n0 h F nb)(h0:n0<bw)(hne:F.blocks≠[])(w:WdM n bw h ws sv)(hE:Env m h)(hg:8≤br):Com P 8 28 [ptr br 0,ptr bw 0] h n fun o h' n'=>n≤n'∧Kr br h n0 h' n'∧
 ((∃e,Vir.insS S0 ws = .error e∧o = .panic (wrC e))∨∃F',Vir.insS S0 ws = .ok (toF F')∧o = .ret (.tuple #[])∧F'.blocks≠[]∧RdM br n' h' F' nb):=by
 have hb:=w.lt;have hlt:=R.lt;have hnn:=R.nn;have kr0:∀{h' n'},Tch [bw] h n h' n'→Kr br h n0 h' n':=fun t=>⟨by have:=t.1;omega,fun b hb _ _=>t.2 b (by omega) (by simp;omega)⟩;refine ent fun u=>?_;repeat' first|refine wk ?_|refine cX (fun _=>?_) fun _=>?_|refine cal (one_com w hE (by omega)) ?_|fail
 rintro _ h2 n2 ⟨t2,⟨e,r2,rfl⟩|⟨i,q2,sv2,r2,rfl,o2,l2,w2⟩⟩
 · repeat' first|refine wk ?_|refine cX (fun _=>?_) fun _=>?_|fail
   exact⟨t2.le,kr0 zA,.inl ⟨e,ins_1 r2,rfl⟩⟩
 have hn2:=t2.le;have o1:=o2.one;repeat' first|refine wk ?_|refine cX (fun _=>?_) fun _=>?_|refine cal (end_com (w2.tch (S:=[]) zA (by simp))) ?_|fail
 rintro _ h3 n3 ⟨t3,⟨e,r3,rfl⟩|⟨_,q3,sv3,_,r3,rfl,rfl,w3⟩⟩
 · have u3:Tch [bw] h n h3 n3:=zA;clear t3 t2;repeat' first|refine wk ?_|refine cX (fun _=>?_) fun _=>?_|fail
   exact⟨u3.le,kr0 u3,.inl ⟨e,ins_2 r2 r3,rfl⟩⟩
 have hn3:=t3.le;have o3:Own n n3 h3 i.av 3 1 i.args.length (i.args.map I64):=xG o2 (S0:=bw) zA (by omega);have u3:Tch [bw] h n h3 n3:=zA;have ci:Cel h3 n2 zI 0 (uE i):=Cel.tch zH t3 (by omega) (by simp;omega);have R3:RdM br n3 h3 F nb:=R.tch ⟨by omega,fun b hb _=>u3.2 b (by omega) (by simp;omega)⟩;have kr3:∀b,b<n0→b≠br→zF h3 b=zF h b:=fun b hb _=>u3.2 b (by omega) (by simp;omega);have hn03:n0≤n3:=by omega
 clear t3 t2 u3;have c3:=R3.ce;rcases List.eq_nil_or_concat F.blocks with e9|⟨l,⟨lv,il⟩,e9⟩
 · exact absurd e9 hne
 rw[List.concat_eq_append]at e9;have hlast:F.blocks.getLast? = some (lv,il):=by rw[e9];simp
 have ol:=R3.las (lv,il) hlast;dsimp only at ol;have hlen:F.blocks.length=l.length+1:=by rw[e9];simp
 have obv:=R3.bv;obtain⟨bb,hbv,hb1,hb2⟩:=own_head obv (by omega)
 have hcl:zD h3 bb l.length=some lv:=by
  have:=(obv.row (by decide)).at (i:=l.length) (x:=lv) (by rw[e9];simp);rw [hbv]at this;simpa [sbk,sof] using this
 have iad:Iad 1 (.slice (some ⟨bb,0,none⟩) (l.length+1) inf) (I64 (((l.length+1:Nat):Int) - 1)) (ptr bb l.length):=⟨bb,0,l.length+1,inf,.i64,l.length,rfl,by rw[show(((l.length+1:Nat):Int) - 1)=(l.length:Nat) by omega];rfl,by omega,by simp⟩;have hbl:=R3.bl;have hil:il.length≤400:=R3.el (lv,il) (by rw[e9];simp);have rl:=ol.row (by decide);have o5:=ol.one;have o6:=o3.one;rw [hbv,hlen]at c3;have ecl:(F.blocks.map (·.1)).length=l.length+1:=by rw[List.length_map,hlen]
 have obs:=obv;rw [hbv,hlen]at obs;repeat' first|refine wk ?_|refine cX (fun _=>?_) fun _=>?_|refine ob (a:=ptr bb l.length) ?_ iad|fail
 · rename_i f1;refine appO (ol.tch (S:=[]) zA (by simp)) (yA (e:=tIn) (sz:=9) (len:=1) rfl (by decide)) (by omega) ⟨rfl,rfl,rfl,rfl,rfl,rfl,o6,rfl,rfl,trivial⟩ (by omega) ?_
   rintro v h4 n4 ho4 ht4
   have hn4:=ht4.le;have o4:=ho4.one;have t4:Tch (yE lv).toList h3 n3 h4 n4:=Tch.tch ht4 zA fun x hx=>.inr hx;have tb4:Tch [] h3 nb h4 nb:=⟨Nat.le_refl _,fun b hb _=>t4.2 b (by omega) fun hx=>by have:=xY ol b hx;omega⟩;have ob4:=obs.tch tb4 (by simp);have st4:=stp_own ob4 rfl (i:=l.length) (x:=v) (by omega) o4;have hp:=own_put ob4 (i:=l.length) (x:=v) rfl (by omega);clear ht4;repeat' first|refine wk ?_|refine cX (fun _=>?_) fun _=>?_|refine ob (a:=hst h4 bb l.length [v]) ?_ st4|fail
   obtain⟨t5,R5⟩:=R3.addI (i:=i) e9 (hbv.trans (by rw[hlen])) ho4 t4 (by omega) (own_dn o3 (by omega)) l2;refine⟨by omega,⟨by omega,fun b hb hne hi=>?_⟩,.inr ⟨_,?_,rfl,by simp,R5⟩⟩
   · rw[← kr3 b hb hne]at hi ⊢;refine t5.2 b (by omega) fun hm=>?_;rcases List.mem_cons.1 hm with hm|hm
     · subst hm;rcases obs with⟨q,_⟩|⟨b2,_,_,q1,q2,_⟩
       · cases q
       · injection q1 with q1;injection q1 with q1;injection q1 with q1;subst q1;exact hi _ _ q2
     · rcases ol with⟨q,_⟩|⟨b2,_,_,q1,q2,_⟩
       · subst q;cases hm
       · subst q1;have hm:b∈(some b2).toList:=hm;simp at hm;subst hm;exact hi _ _ q2
   · rw[ins_3 r2 r3,hf];have hg:((toF F).blocks.getLastD [])=il.map toI:=by show(F.blocks.map fun x=>x.2.map toI).getLastD []=_;rw [e9];simp
     rw[hg,List.length_map,if_pos (by omega)];congr 1
     show(⟨F.name,F.vregs,F.params,F.result,Vir.addIns (F.blocks.map fun x=>x.2.map toI) (toI i)⟩:Vir.Fct)=_;rw [e9];simp [Vir.addIns]
 · rename_i f1;refine⟨by omega,⟨hn03,fun b hb hne _=>kr3 b hb hne⟩,.inl ⟨2,?_,rfl⟩⟩;rw [ins_3 r2 r3,hf];have hg:((toF F).blocks.getLastD [])=il.map toI:=by show(F.blocks.map fun x=>x.2.map toI).getLastD []=_;rw [e9];simp
   rw[hg,List.length_map,if_neg (by omega)]
end Go.Proofs.YtdipdkkpgjdnkaaGreatDoor
namespace Go.Proofs.YtdipdkkpgjdnkaaGreatDoor
open Go Go.Ex Go.Ex.M
set_option maxRecDepth 100000
set_option maxHeartbeats 8000000
attribute [local simp] yG
variable {n br pb hb nb:Nat} {h:zB} {m:Int} {F:FunT} {S:Vir.St}
abbrev zPa:Nat:=66+1
abbrev fnV(br k:Nat):Value:=.func (.func k) ⟨[ptr br 0]⟩ ⟨[]⟩
abbrev papC(br hb:Nat)(S:Vir.St):List Value:=[.slice (some ⟨hb,0,none⟩) 4 4,fnV br 27,fnV br 28,I64 (S.step:Nat),.bool S.opn,.bool S.ended]
structure LnM (br pb hb n:Nat) (h:zB) (S:Vir.St) (F:FunT) (nb:Nat) (m:Int):Prop where
 r:RdM br n h F nb
 p:Cel h pb zPa 0 (papC br hb S)
 hd:Cel h hb 0 0 [fnV br 23,fnV br 24,fnV br 25,fnV br 26]
 f:S.f=toF F
 op:S.opn=true→F.blocks≠[]
 l1:br<hb
 l2:hb<pb
 l3:pb<n
 E:Env m h
 g:8≤br
def K2(br pb:Nat)(h:zB)(n:Nat)(h':zB)(n':Nat):Prop:=n≤n'∧∀b,b<n→b≠br→b≠pb→(∀m z,yF (zF h b)≠some (m,z,1))→zF h' b=zF h b
theorem Kr.k2{h':zB}{n':Nat}(k:Kr br h n h' n'):K2 br pb h n h' n':=⟨k.1,fun b hb h1 _ h3=>k.2 b hb h1 h3⟩
theorem Kr.cel{h':zB}{n' b z:Nat}{vs:List Value}(k:Kr br h n h' n')(c:Cel h b z 0 vs)(hb:b<n)(hne:b≠br):Cel h' b z 0 vs:=by
 have e:=k.2 b hb hne fun m z' h9=>by rw[c.1]at h9;exact absurd (kd_of h9) (by decide)
 exact⟨by rw[e];exact c.1,fun i=>by unfold zD;rw [e];exact c.2 i⟩
theorem K2.tch{h':zB}{n':Nat}{S:List Nat}(t:Tch S h n h' n')(hS:∀x∈S,x=br∨x=pb∨n≤x):K2 br pb h n h' n':=⟨t.1,fun b hb h1 h2 _=>t.2 b hb fun hx=>by have:=hS b hx;omega⟩
theorem K2.trans{h1 h':zB}{n1 n':Nat}(a:K2 br pb h n h1 n1)(b:K2 br pb h1 n1 h' n'):K2 br pb h n h' n':=⟨Nat.le_trans a.1 b.1,fun x hx h2 h3 h4=>by
 have e:=a.2 x hx h2 h3 h4;rw [← e]at h4 ⊢;exact b.2 x (Nat.lt_of_lt_of_le hx a.1) h2 h3 h4⟩
theorem Env.keep{h':zB}(e:Env m h)(k:∀b,b<8→(∃l z,yF (zF h b)=some (l,z,2))→zF h' b=zF h b):Env m h':=by
 refine⟨fun p hp=>?_,?_,?_⟩
 · obtain⟨⟨z,h1⟩,h2⟩:=e.tabs p hp;have q:=k _ (tb_ok m p hp).1 ⟨_,z,h1⟩;exact⟨⟨z,by rw[q];exact h1⟩,fun i=>by unfold zD;rw [q];exact h2 i⟩
 · obtain⟨z,h1,te,v,h2⟩:=e.syn;have q:=k _ (by decide) ⟨_,z,h1⟩;exact⟨z,by rw[q];exact h1,te,v,by unfold zD;rw [q];exact h2⟩
 · obtain⟨z,h1,te,v,h2⟩:=e.rng;have q:=k _ (by decide) ⟨_,z,h1⟩;exact⟨z,by rw[q];exact h1,te,v,by unfold zD;rw [q];exact h2⟩
theorem not_row{x:AObj}(h:∃l z,yF x=some (l,z,2)):∀m z,yF x≠some (m,z,1):=fun m z e=>by
 obtain⟨l,z',h⟩:=h;rw [h]at e;exact absurd (kd_of e) (by decide)
theorem K2.env{h':zB}{n':Nat}(k:K2 br pb h n h' n')(e:Env m h)(h1:8≤br)(h2:8≤pb)(h3:8≤n):Env m h':=e.keep fun b hb hk=>k.2 b (by omega) (by omega) (by omega) (not_row hk)
theorem sm_fn{k:Nat}:Sm (fnV br k):=by
 show(Nat.beq k k && ((Nat.beq br br && Nat.beq 0 0) && true && true))=true;rw [Nat.beq_refl,Nat.beq_refl];rfl
theorem line_com{s:Tx}(M:LnM br pb hb n h S F nb m)(hs:s.length<100000):Com P 8 57 [ptr pb 0,str s] h n fun o h' n'=>K2 br pb h n h' n'∧
 ((∃e,Vir.lineS S s = .error e∧o = .panic (wrC e))∨∃S' F' nb',Vir.lineS S s = .ok S'∧o = .ret (.tuple #[])∧LnM br pb hb n' h' S' F' nb' m):=by
 have hlt:=M.r.lt;have hnn:=M.r.nn;have l1:=M.l1;have l2:=M.l2;have l3:=M.l3;have hg:=M.g;have c:=M.p;have hd:=M.hd;rcases S with⟨step,opn,ended,f⟩
 replace c:Cel h pb zPa 0 [.slice (some ⟨hb,0,none⟩) 4 4,fnV br 27,fnV br 28,I64 (step:Nat),.bool opn,.bool ended]:=c;refine ent fun u=>?_
 cases ended with
 | true=>
  repeat' first|refine wk ?_|refine cX (fun _=>?_) fun _=>?_|fail
  exact⟨K2.tch (S:=[]) zA (by simp),.inl ⟨3,rfl,rfl⟩⟩
 | false=>
 by_cases h0:s=[]
 · have h0':¬(s≠[]):=fun h9=>h9 h0;repeat' first|refine wk ?_|refine cX (fun _=>?_) fun _=>?_|fail
   exact⟨K2.tch (S:=[]) zA (by simp),.inl ⟨3,by subst h0;rfl,rfl⟩⟩
 have s0:Sm (.slice (some ⟨hb,0,none⟩) 4 4):=Row.sm (lo:=n) (h:=h) (e:=0) (sz:=1) (len:=4) (vs:=[fnV br 23,fnV br 24,fnV br 25,fnV br 26]) (.inr ⟨hb,0,4,_,_,_,by omega,rfl,rfl,hd.1,by simp,fun j v e=>by rw[Nat.zero_add,hd.2];exact e,.inl ⟨by decide,Nat.le_refl _⟩⟩);have s1:Sm (fnV br 23):=sm_fn;have s2:Sm (fnV br 24):=sm_fn;have s3:Sm (fnV br 25):=sm_fn;have s4:Sm (fnV br 26):=sm_fn;have s5:Sm (fnV br 28):=sm_fn;by_cases h4:step<4
 · rcases(by omega:step=0∨step=1∨step=2∨step=3) with rfl|rfl|rfl|rfl
   · have hL:Vir.lineS ⟨0,opn,false,f⟩ s=(match Vir.ofW s [] with
      | .error e=>.error e
      | .ok ws=>match Vir.headS ⟨0,opn,false,f⟩ ws with
       | .error e=>.error e
       | .ok f'=>.ok ⟨0+1,opn,false,f'⟩):=by unfold Vir.lineS;rw [if_pos (by simpa using h0),if_pos (show(0:Nat)<4 by decide)];rfl
     repeat' first|refine wk ?_|refine cX (fun _=>?_) fun _=>?_|refine cal (of_com M.E (by omega) hs) ?_|fail
     rintro _ h1 n1 ⟨t1,⟨e,r,rfl⟩|⟨ws,bw,sv,r,rfl,hbw,w⟩⟩
     · repeat' first|refine wk ?_|refine cX (fun _=>?_) fun _=>?_|fail
       exact⟨K2.tch t1 (by simp),.inl ⟨e,by rw[hL,r],rfl⟩⟩
     have hn1:=t1.le;have hw:=w.lt;have R1:RdM br n h1 F nb:=M.r.tch ⟨Nat.le_refl _,t1.2⟩;repeat' first|refine wk ?_|refine cX (fun _=>?_) fun _=>?_|refine cal (rname_com rfl M.f R1 hbw w) ?_|fail
     rintro _ h2 n2 ⟨t2,⟨e,r2,rfl⟩|⟨F',r2,rfl,eb,R2⟩⟩
     · repeat' first|refine wk ?_|refine cX (fun _=>?_) fun _=>?_|fail
       exact⟨K2.tch (S:=[br,bw]) zA (by simp;omega),.inl ⟨e,by rw[hL,r];dsimp only;rw [r2],rfl⟩⟩
     have hn2:=t2.le;have c2:Cel h2 pb zPa 0 [.slice (some ⟨hb,0,none⟩) 4 4,fnV br 27,fnV br 28,I64 (0:Nat),.bool opn,.bool false]:=(c.tch t1 l3 (by simp)).tch t2 (by omega) (by simp;omega);have hd2:Cel h2 hb 0 0 [fnV br 23,fnV br 24,fnV br 25,fnV br 26]:=(hd.tch t1 (by omega) (by simp)).tch t2 (by omega) (by simp;omega);repeat' first|refine wk ?_|refine cX (fun _=>?_) fun _=>?_|fail
     have t3:Tch [pb] h2 n2 (hst h2 pb (0+3) [I64 ((0:Nat)+1)]) n2:=zA;exact⟨K2.tch (S:=[br,bw,pb]) zA (by simp;omega),.inr ⟨⟨0+1,opn,false,toF F'⟩,F',nb,by rw[hL,r];dsimp only;rw [r2],rfl,⟨R2.off t3 (by omega) (vH c2),zH,zH,rfl,fun h9=>by rw[eb];exact M.op h9,l1,l2,by omega,(M.E.tch t1 (by omega) (by simp)).tch (S:=[br,bw,pb]) zA (by omega) (by simp;omega),hg⟩⟩⟩
   · have hL:Vir.lineS ⟨1,opn,false,f⟩ s=(match Vir.ofW s [] with
      | .error e=>.error e
      | .ok ws=>match Vir.headS ⟨1,opn,false,f⟩ ws with
       | .error e=>.error e
       | .ok f'=>.ok ⟨1+1,opn,false,f'⟩):=by unfold Vir.lineS;rw [if_pos (by simpa using h0),if_pos (show(1:Nat)<4 by decide)];rfl
     repeat' first|refine wk ?_|refine cX (fun _=>?_) fun _=>?_|refine cal (of_com M.E (by omega) hs) ?_|fail
     rintro _ h1 n1 ⟨t1,⟨e,r,rfl⟩|⟨ws,bw,sv,r,rfl,hbw,w⟩⟩
     · repeat' first|refine wk ?_|refine cX (fun _=>?_) fun _=>?_|fail
       exact⟨K2.tch t1 (by simp),.inl ⟨e,by rw[hL,r],rfl⟩⟩
     have hn1:=t1.le;have hw:=w.lt;have R1:RdM br n h1 F nb:=M.r.tch ⟨Nat.le_refl _,t1.2⟩;repeat' first|refine wk ?_|refine cX (fun _=>?_) fun _=>?_|refine cal (rregs_com rfl M.f R1 hbw w (M.E.tch t1 (by omega) (by simp)) hg) ?_|fail
     rintro _ h2 n2 ⟨t2,⟨e,r2,rfl⟩|⟨F',r2,rfl,eb,R2⟩⟩
     · repeat' first|refine wk ?_|refine cX (fun _=>?_) fun _=>?_|fail
       exact⟨K2.tch (S:=[br,bw]) zA (by simp;omega),.inl ⟨e,by rw[hL,r];dsimp only;rw [r2],rfl⟩⟩
     have hn2:=t2.le;have c2:Cel h2 pb zPa 0 [.slice (some ⟨hb,0,none⟩) 4 4,fnV br 27,fnV br 28,I64 (1:Nat),.bool opn,.bool false]:=(c.tch t1 l3 (by simp)).tch t2 (by omega) (by simp;omega);have hd2:Cel h2 hb 0 0 [fnV br 23,fnV br 24,fnV br 25,fnV br 26]:=(hd.tch t1 (by omega) (by simp)).tch t2 (by omega) (by simp;omega);repeat' first|refine wk ?_|refine cX (fun _=>?_) fun _=>?_|fail
     have t3:Tch [pb] h2 n2 (hst h2 pb (0+3) [I64 ((1:Nat)+1)]) n2:=zA;exact⟨K2.tch (S:=[br,bw,pb]) zA (by simp;omega),.inr ⟨⟨1+1,opn,false,toF F'⟩,F',nb,by rw[hL,r];dsimp only;rw [r2],rfl,⟨R2.off t3 (by omega) (vH c2),zH,zH,rfl,fun h9=>by rw[eb];exact M.op h9,l1,l2,by omega,(M.E.tch t1 (by omega) (by simp)).tch (S:=[br,bw,pb]) zA (by omega) (by simp;omega),hg⟩⟩⟩
   · have hL:Vir.lineS ⟨2,opn,false,f⟩ s=(match Vir.ofW s [] with
      | .error e=>.error e
      | .ok ws=>match Vir.headS ⟨2,opn,false,f⟩ ws with
       | .error e=>.error e
       | .ok f'=>.ok ⟨2+1,opn,false,f'⟩):=by unfold Vir.lineS;rw [if_pos (by simpa using h0),if_pos (show(2:Nat)<4 by decide)];rfl
     repeat' first|refine wk ?_|refine cX (fun _=>?_) fun _=>?_|refine cal (of_com M.E (by omega) hs) ?_|fail
     rintro _ h1 n1 ⟨t1,⟨e,r,rfl⟩|⟨ws,bw,sv,r,rfl,hbw,w⟩⟩
     · repeat' first|refine wk ?_|refine cX (fun _=>?_) fun _=>?_|fail
       exact⟨K2.tch t1 (by simp),.inl ⟨e,by rw[hL,r],rfl⟩⟩
     have hn1:=t1.le;have hw:=w.lt;have R1:RdM br n h1 F nb:=M.r.tch ⟨Nat.le_refl _,t1.2⟩;repeat' first|refine wk ?_|refine cX (fun _=>?_) fun _=>?_|refine cal (rparams_com rfl M.f R1 hbw w (M.E.tch t1 (by omega) (by simp)) hg) ?_|fail
     rintro _ h2 n2 ⟨t2,⟨e,r2,rfl⟩|⟨F',r2,rfl,eb,R2⟩⟩
     · repeat' first|refine wk ?_|refine cX (fun _=>?_) fun _=>?_|fail
       exact⟨K2.tch (S:=[br,bw]) zA (by simp;omega),.inl ⟨e,by rw[hL,r];dsimp only;rw [r2],rfl⟩⟩
     have hn2:=t2.le;have c2:Cel h2 pb zPa 0 [.slice (some ⟨hb,0,none⟩) 4 4,fnV br 27,fnV br 28,I64 (2:Nat),.bool opn,.bool false]:=(c.tch t1 l3 (by simp)).tch t2 (by omega) (by simp;omega);have hd2:Cel h2 hb 0 0 [fnV br 23,fnV br 24,fnV br 25,fnV br 26]:=(hd.tch t1 (by omega) (by simp)).tch t2 (by omega) (by simp;omega);repeat' first|refine wk ?_|refine cX (fun _=>?_) fun _=>?_|fail
     have t3:Tch [pb] h2 n2 (hst h2 pb (0+3) [I64 ((2:Nat)+1)]) n2:=zA;exact⟨K2.tch (S:=[br,bw,pb]) zA (by simp;omega),.inr ⟨⟨2+1,opn,false,toF F'⟩,F',nb,by rw[hL,r];dsimp only;rw [r2],rfl,⟨R2.off t3 (by omega) (vH c2),zH,zH,rfl,fun h9=>by rw[eb];exact M.op h9,l1,l2,by omega,(M.E.tch t1 (by omega) (by simp)).tch (S:=[br,bw,pb]) zA (by omega) (by simp;omega),hg⟩⟩⟩
   · have hL:Vir.lineS ⟨3,opn,false,f⟩ s=(match Vir.ofW s [] with
      | .error e=>.error e
      | .ok ws=>match Vir.headS ⟨3,opn,false,f⟩ ws with
       | .error e=>.error e
       | .ok f'=>.ok ⟨3+1,opn,false,f'⟩):=by unfold Vir.lineS;rw [if_pos (by simpa using h0),if_pos (show(3:Nat)<4 by decide)];rfl
     repeat' first|refine wk ?_|refine cX (fun _=>?_) fun _=>?_|refine cal (of_com M.E (by omega) hs) ?_|fail
     rintro _ h1 n1 ⟨t1,⟨e,r,rfl⟩|⟨ws,bw,sv,r,rfl,hbw,w⟩⟩
     · repeat' first|refine wk ?_|refine cX (fun _=>?_) fun _=>?_|fail
       exact⟨K2.tch t1 (by simp),.inl ⟨e,by rw[hL,r],rfl⟩⟩
     have hn1:=t1.le;have hw:=w.lt;have R1:RdM br n h1 F nb:=M.r.tch ⟨Nat.le_refl _,t1.2⟩;repeat' first|refine wk ?_|refine cX (fun _=>?_) fun _=>?_|refine cal (rresult_com rfl M.f R1 hbw w) ?_|fail
     rintro _ h2 n2 ⟨t2,⟨e,r2,rfl⟩|⟨F',r2,rfl,eb,R2⟩⟩
     · repeat' first|refine wk ?_|refine cX (fun _=>?_) fun _=>?_|fail
       exact⟨K2.tch (S:=[br,bw]) zA (by simp;omega),.inl ⟨e,by rw[hL,r];dsimp only;rw [r2],rfl⟩⟩
     have hn2:=t2.le;have c2:Cel h2 pb zPa 0 [.slice (some ⟨hb,0,none⟩) 4 4,fnV br 27,fnV br 28,I64 (3:Nat),.bool opn,.bool false]:=(c.tch t1 l3 (by simp)).tch t2 (by omega) (by simp;omega);have hd2:Cel h2 hb 0 0 [fnV br 23,fnV br 24,fnV br 25,fnV br 26]:=(hd.tch t1 (by omega) (by simp)).tch t2 (by omega) (by simp;omega);repeat' first|refine wk ?_|refine cX (fun _=>?_) fun _=>?_|fail
     have t3:Tch [pb] h2 n2 (hst h2 pb (0+3) [I64 ((3:Nat)+1)]) n2:=zA;exact⟨K2.tch (S:=[br,bw,pb]) zA (by simp;omega),.inr ⟨⟨3+1,opn,false,toF F'⟩,F',nb,by rw[hL,r];dsimp only;rw [r2],rfl,⟨R2.off t3 (by omega) (vH c2),zH,zH,rfl,fun h9=>by rw[eb];exact M.op h9,l1,l2,by omega,(M.E.tch t1 (by omega) (by simp)).tch (S:=[br,bw,pb]) zA (by omega) (by simp;omega),hg⟩⟩⟩
 by_cases h5:s=[101,110,100]
 · have h5':s == Vir.tEnd:=by simp[h5]
   repeat' first|refine wk ?_|refine cX (fun _=>?_) fun _=>?_|fail
   have t3:Tch [pb] h n (hst h pb (0+5) [.bool true]) n:=zA;exact⟨K2.tch (S:=[pb]) zA (by simp),.inr ⟨⟨step,opn,true,f⟩,F,nb,by unfold Vir.lineS;rw [if_pos (by simpa using h0),if_neg h4,if_pos h5'],rfl,⟨M.r.off t3 (by omega) (vH c),zH,zH,M.f,M.op,l1,l2,l3,M.E.tch t3 (by omega) (by simp;omega),hg⟩⟩⟩
 have h5':¬(s == Vir.tEnd):=by simpa using h5
 by_cases h6:s=[98,108,111,99,107]
 · have h6':s == Vir.tBlock:=by simp[h6]
   have hL:Vir.lineS ⟨step,opn,false,f⟩ s=if f.blocks.length<200 then .ok ⟨step,true,false,{ f with blocks:=f.blocks++[[]] }⟩ else .error 2:=by unfold Vir.lineS;rw [if_pos (by simpa using h0),if_neg h4,if_neg h5',if_pos h6']
   have hf:f=toF F:=M.f;have hbl:f.blocks.length=F.blocks.length:=by rw[hf];simp
   repeat' first|refine wk ?_|refine cX (fun _=>?_) fun _=>?_|refine cal (rblock_com M.r) ?_|fail
   rintro _ h2 n2 ⟨k2,⟨f1,rfl⟩|⟨f1,rfl,bv',R2⟩⟩
   · repeat' first|refine wk ?_|refine cX (fun _=>?_) fun _=>?_|fail
     exact⟨k2.k2,.inl ⟨2,by rw[hL,if_neg (by omega)],rfl⟩⟩
   have c2:=k2.cel c l3 (by omega);have hd2:=k2.cel hd (by omega) (by omega);have hn2:=k2.1;repeat' first|refine wk ?_|refine cX (fun _=>?_) fun _=>?_|fail
   have t3:Tch [pb] h2 n2 (hst h2 pb (0+4) [.bool true]) n2:=zA;exact⟨k2.k2.trans (K2.tch t3 (by simp)),.inr ⟨_,_,_,by rw[hL,if_pos (by omega)],rfl,⟨R2.off t3 (by omega) (vH c2),zH,zH,by rw[hf];simp,fun _=>by simp,l1,l2,by omega,k2.k2.trans (pb:=pb) (K2.tch t3 (by simp)) |>.env M.E hg (by omega) (by omega),hg⟩⟩⟩
 have h6':¬(s == Vir.tBlock):=by simpa using h6
 cases opn with
 | false=>
  repeat' first|refine wk ?_|refine cX (fun _=>?_) fun _=>?_|fail
  exact⟨K2.tch (S:=[]) zA (by simp),.inl ⟨3,by unfold Vir.lineS;rw [if_pos (by simpa using h0),if_neg h4,if_neg h5',if_neg h6'];rfl,rfl⟩⟩
 | true=>
 have hL:Vir.lineS ⟨step,true,false,f⟩ s=(match Vir.ofW s Vir.tTwo with
  | .error e=>.error e
  | .ok ws=>match Vir.insS ⟨step,true,false,f⟩ ws with
   | .error e=>.error e
   | .ok f'=>.ok ⟨step,true,false,f'⟩):=by unfold Vir.lineS;rw [if_pos (by simpa using h0),if_neg h4,if_neg h5',if_neg h6',if_pos rfl];rfl
 repeat' first|refine wk ?_|refine cX (fun _=>?_) fun _=>?_|refine cal (of_com M.E (by omega) hs) ?_|fail
 rintro _ h1 n1 ⟨t1,⟨e,r,rfl⟩|⟨ws,bw,sv,r,rfl,hbw,w⟩⟩
 · repeat' first|refine wk ?_|refine cX (fun _=>?_) fun _=>?_|fail
   exact⟨K2.tch t1 (by simp),.inl ⟨e,by rw[hL,show Vir.ofW s Vir.tTwo=_ from r],rfl⟩⟩
 have hn1:=t1.le;have hw:=w.lt;have R1:RdM br n h1 F nb:=M.r.tch ⟨Nat.le_refl _,t1.2⟩;repeat' first|refine wk ?_|refine cX (fun _=>?_) fun _=>?_|refine cal (rins_com (S0:=⟨step,true,false,f⟩) M.f R1 hbw (M.op rfl) w (M.E.tch t1 (by omega) (by simp)) hg) ?_|fail
 rintro _ h2 n2 ⟨hn12,k2,⟨e,r2,rfl⟩|⟨F',r2,rfl,eb,R2⟩⟩
 all_goals have kk:K2 br pb h n h2 n2:=⟨k2.1,fun b hb h1' _ h3=>by
  have e:=t1.2 b hb (by simp);rw [← e]at h3 ⊢;exact k2.2 b hb h1' h3⟩
 · repeat' first|refine wk ?_|refine cX (fun _=>?_) fun _=>?_|fail
   exact⟨kk,.inl ⟨e,by rw[hL,show Vir.ofW s Vir.tTwo=_ from r];dsimp only;rw [r2],rfl⟩⟩
 have hn2:=kk.1
 have ck:∀{b z:Nat} {vs:List Value},Cel h b z 0 vs→b<n→b≠br→Cel h2 b z 0 vs:=fun c hb hne=>by
  have c1:=c.tch t1 hb (by simp);have e:=k2.2 _ hb hne fun m z' h9=>by rw[c1.1]at h9;exact absurd (kd_of h9) (by decide)
  exact⟨by rw[e];exact c1.1,fun i=>by unfold zD;rw [e];exact c1.2 i⟩
 have c2:=ck c l3 (by omega);have hd2:=ck hd (by omega) (by omega);repeat' first|refine wk ?_|refine cX (fun _=>?_) fun _=>?_|fail
 exact⟨kk,.inr ⟨_,F',nb,by rw[hL,show Vir.ofW s Vir.tTwo=_ from r];dsimp only;rw [r2],rfl,⟨R2,c2,hd2,rfl,fun _=>eb,l1,l2,by omega,kk.env M.E hg (by omega) (by omega),hg⟩⟩⟩
end Go.Proofs.YtdipdkkpgjdnkaaGreatDoor
namespace Go.Proofs.YtdipdkkpgjdnkaaGreatDoor
open Go Go.Ex Go.Ex.M
set_option maxRecDepth 100000
set_option maxHeartbeats 8000000
attribute [local simp] yG
variable {n:Nat} {h:zB} {m:Int}
def vX(s:Tx):Nat→Tx
 | 0=>s
 | k+1=>(vE 10 (vX s k)).2.1
theorem restT_fall{s:Tx}{k:Nat}(h:vX s k≠[]):(vX s (k+1)).length<(vX s k).length:=Vir.cutB_len 10 _ h
theorem lines1_com{sc z L:Nat}{s0:Tx}(hs:s0.length<100000)(J:Nat→zB→Nat→Prop)(JF:zB→Nat→Prop)(h0:J 0 h n)(hb:sc<n)(hc:Cel h sc z 0 [str s0])
(hcl:∀k h' n' v,J k h' n'→J k (hst h' sc 0 v) n')(hE:∀k h' n',J k h' n'→Env m h')
(hy:∀k h' n',J k h' n'→vX s0 k≠[]→n≤n'→Rou P 8 L [I64 ((k:Nat)+1),str (Vir.lineOf (vX s0 k))] h' n' fun r h2 n2=>n'≤n2∧((r = .ret (.bool true)∧zF h2 sc=zF h' sc∧J (k+1) h2 n2)∨(r = .ret (.bool false)∧JF h2 n2))) :
 Com P 8 75 [.func (.yield L) #[] #[],ptr sc 0] h n fun r h' n'=>r = .ret (.tuple #[])∧n≤n'∧((∃k,vX s0 k=[]∧J k h' n')∨JF h' n'):=by
 refine ent fun u=>?_;repeat' first|refine wk ?_|refine cX (fun _=>?_) fun _=>?_|fail
 refine lpR (fun k:Nat=>[(0,.func (.yield L) #[] #[]),(1,ptr sc 0),(3,I64 ((k:Nat)+1))]) (fun k h' n'=>n≤n'∧k+(vX s0 k).length≤s0.length∧Cel h' sc z 0 [str (vX s0 k)]∧J k h' n') (fun k=>(vX s0 k).length) 0 ⟨Nat.le_refl _,by simp[vX],hc,h0⟩ ?_;clear hc
 rintro k t h' n' ⟨hn,hk,hc,hJ⟩
 have hfall:=@restT_fall s0 k;have hE':=(hE _ _ _ hJ).tabs;have hy':=hy k _ _ hJ;have e2:vX s0 (k+1)=(vE 10 (vX s0 k)).2.1:=rfl;unfold Vir.lineOf at hy';generalize hr:vX s0 k=r at *
 by_cases hz:r=[]
 · have hz':¬(r≠[]):=fun h9=>h9 hz;repeat' first|refine wk ?_|refine cX (fun _=>?_) fun _=>?_|fail
   exact⟨rfl,hn,.inl ⟨k,by rw[hr];exact hz,hJ⟩⟩
 have hlt:=hfall hz;have p:=(cut_pure n' hE' r 10 (by omega)).pur
 cases hok:(vE 10 r).2.2 with
 | true=>
  rw[hok]at p hy';rw [if_pos rfl]at hy';repeat' first|refine wk ?_|refine cX (fun _=>?_) fun _=>?_|refine yV p ?_|fail
  refine inv_yield (fs:=[]) (cs:=[]) ((hy' hz hn).mono ?_)
  rintro _ h3 n3 ⟨hn3,⟨rfl,hsc,hJ3⟩|⟨rfl,hF⟩⟩
  · have c3:Cel h3 sc z 0 [str r]:=⟨by rw[hsc];exact hc.1,fun i=>by unfold zD;rw [hsc];exact hc.2 i⟩;repeat' first|refine wk ?_|refine cX (fun _=>?_) fun _=>?_|fail
    exact⟨k+1,(by dsimp only;rw [hr];exact hlt),(by repeat' first|exact trivial|refine⟨rfl,?_⟩),by omega,by omega,by rw[e2];exact zH,hcl _ _ _ _ hJ3⟩
  · repeat' first|refine wk ?_|refine cX (fun _=>?_) fun _=>?_|fail
    exact⟨rfl,by omega,.inr hF⟩
 | false=>
  rw[hok]at p hy';rw [if_neg (by decide)]at hy';repeat' first|refine wk ?_|refine cX (fun _=>?_) fun _=>?_|refine yV p ?_|fail
  refine inv_yield (fs:=[]) (cs:=[]) ((hy' hz hn).mono ?_)
  rintro _ h3 n3 ⟨hn3,⟨rfl,hsc,hJ3⟩|⟨rfl,hF⟩⟩
  · have c3:Cel h3 sc z 0 [str r]:=⟨by rw[hsc];exact hc.1,fun i=>by unfold zD;rw [hsc];exact hc.2 i⟩;repeat' first|refine wk ?_|refine cX (fun _=>?_) fun _=>?_|fail
    exact⟨k+1,(by dsimp only;rw [hr];exact hlt),(by repeat' first|exact trivial|refine⟨rfl,?_⟩),by omega,by omega,by rw[e2];exact zH,hcl _ _ _ _ hJ3⟩
  · repeat' first|refine wk ?_|refine cX (fun _=>?_) fun _=>?_|fail
    exact⟨rfl,by omega,.inr hF⟩
theorem caught1_none{b z:Nat}{e0:Int}(hb:b<n)(hc:Cel h b z 0 [I64 e0]):Def P 8 77 [ptr b 0] none h n fun u' h' n'=>u'=none∧Tch [] h n h' n':=by
 refine entD ?_;repeat' first|refine wk ?_|refine cX (fun _=>?_) fun _=>?_|fail
 exact⟨_,rfl,rfl,zA⟩
theorem caught1_some{b z:Nat}{e0 e:Int}(hb:b<n)(hc:Cel h b z 0 [I64 e0]):Def P 8 77 [ptr b 0] (some (wrC e)) h n fun u' h' n'=>u'=some [⟨.iface 104 (.agg ⟨[I64 e]⟩),true,false⟩]∧Tch [b] h n h' n'∧Cel h' b z 0 [I64 e]:=by
 refine entD ?_;repeat' first|refine wk ?_|refine cX (fun _=>?_) fun _=>?_|fail
 exact⟨_,rfl,rfl,zA,zH⟩
theorem caught_com{g:FuncId}{fs cs:List Value}{R R':Int→zB→Nat→Prop}(hd:∀h' n',Tch [] h n h' n'→n<n'→Cel h' n (32+1) 0 [I64 0]→Com P 8 g (fs++([]++cs)) h' n' fun o h2 n2=>∃e,o=(if e=0 then .ret (.tuple #[]) else .panic (wrC e))∧n'≤n2∧zF h2 n=zF h' n∧R e h2 n2)
(hR:∀e h2 n2 h3 n3,R e h2 n2→(∀m z,yF (zF h2 n)≠some (m,z,1))→n2≤n3→(∀b,b<n2→b≠n→zF h3 b=zF h2 b)→R' e h3 n3):Com P 8 55 [.func (.func g) ⟨fs⟩ ⟨cs⟩] h n fun o h' n'=>∃e,o = .ret (I64 e)∧R' e h' n'∧n<n':=by
 refine ent fun u=>?_;repeat' first|refine wk ?_|refine cX (fun _=>?_) fun _=>?_|fail
 refine cal (hd _ _ zA (by omega) zH) ?_
 rintro _ h2 n2 ⟨e,rfl,hn2,hsame,hr⟩
 have hc:Cel h2 n (32+1) 0 [I64 0]:=by
  have c0:Cel (hal h n (mkC [I64 0] (32+1) 0)) n (32+1) 0 [I64 0]:=zH;exact⟨by rw[hsame];exact c0.1,fun i=>by unfold zD;rw [hsame];exact c0.2 i⟩
 by_cases e0:e=0
 · subst e0;rw [if_pos rfl];repeat' first|refine wk ?_|refine cX (fun _=>?_) fun _=>?_|fail
   have hc2:Cel (hst h2 n 0 [I64 0]) n (32+1) 0 [I64 0]:=zH;refine lv_none (g:=77) (args:=[]) (cap:=[ptr n 0]) (caught1_none (by omega) hc2) ?_
   rintro h3 n3 ht3
   have hn3:=ht3.le;have hc3:Cel h3 n (32+1) 0 [I64 0]:=hc2.tch ht3 (by omega) (by simp);have hr3:R' 0 h3 n3:=hR 0 _ _ _ _ hr (vH hc) ht3.le fun b hb hne=>by rw[ht3.2 b hb (by simp),yL,if_neg fun e=>hne e.symm]
   clear ht3;repeat' first|refine wk ?_|refine cX (fun _=>?_) fun _=>?_|fail
   exact⟨0,rfl,hr3,by omega⟩
 · rw[if_neg e0];repeat' first|refine wk ?_|refine cX (fun _=>?_) fun _=>?_|fail
   refine lv_some (g:=77) (args:=[]) (cap:=[ptr n 0]) (caught1_some (by omega) hc) ?_
   rintro h3 n3 ⟨ht3,hc3⟩
   have hn3:=ht3.le;have hr3:R' e h3 n3:=hR e _ _ _ _ hr (vH hc) ht3.le fun b hb hne=>ht3.2 b hb (by simpa using hne);repeat' first|refine wk ?_|refine cX (fun _=>?_) fun _=>?_|fail
   exact⟨e,rfl,hr3,by omega⟩
theorem lines_ret{s:Tx}:Ret P 8 54 [str s] h n fun v h' n'=>v = .func (.func 75) ⟨[]⟩ ⟨[ptr n 0]⟩∧n'=n+1∧Cel h' n (9+1) 0 [str s]∧Tch [] h n h' n':=by
 refine ent fun u=>?_;repeat' first|refine wk ?_|refine cX (fun _=>?_) fun _=>?_|fail
 exact⟨_,rfl,rfl,rfl,zH,zA⟩
end Go.Proofs.YtdipdkkpgjdnkaaGreatDoor
namespace Go.Proofs.YtdipdkkpgjdnkaaGreatDoor
open Go Go.Ex Go.Ex.M
set_option maxRecDepth 100000
set_option maxHeartbeats 8000000
attribute [local simp] yG
variable {n br pb hb nb:Nat} {h:zB} {m:Int} {F:FunT} {S:Vir.St}
theorem lines_core{sc z:Nat}{s0:Tx}{ps:List Tmp}{assign body:Code}{fn:FuncId}{l:List (Nat×Value)}{t:Fr}{cx:Cx}{d:List Deferred}{u:Option zJ}{L D:Nat}{Q:QX}
(I:Nat→zB→Nat→Prop)(E:Code→zB→Nat→Prop)(hps:ps.length=2)(hs:s0.length<100000)(hc:Cel h sc z 0 [str s0])(hb:sc<n)(hne:sc≠L)
(hcl:∀k h' n' v,I k h' n'→I k (hst h' sc 0 v) n')(hE:∀k h' n',I k h' n'→Env m h')
(hL:zF h L=LoO .ready none fn ps.toArray assign body D (FA l t))(h0:I 0 h n)
(bd:∀k h' n',I k h' n'→zF h' L=LoO .ready none fn ps.toArray assign body D (FA l t)→vX s0 k≠[]→n≤n'→WC P 8 assign ⟨fn,some L,false⟩ (FA (parl ps [I64 ((k:Nat)+1),str (Vir.lineOf (vX s0 k))] l) t) ⟨[],none,h',n'⟩ (asQ P 8 L fn ps.toArray assign body D (FA l t) fun r h2 n2=>n'≤n2∧((r = .ret (.bool true)∧zF h2 sc=zF h' sc∧zF h2 L=LoO .ready none fn ps.toArray assign body D (FA l t)∧I (k+1) h2 n2)∨(r = .ret (.bool false)∧∃j,zF h2 L=LoO .done (some j) fn ps.toArray assign body D (FA l t)∧E j h2 n2))))
(fin:∀k h' n',vX s0 k=[]→I k h' n'→zF h' L=LoO .ready none fn ps.toArray assign body D (FA l t)→n≤n'→Q .normal (FA l t) ⟨d,u,hal h' L (LoO .exhausted none fn ps.toArray assign body D (FA l t)),n'⟩)
(finF:∀j h' n',E j h' n'→n≤n'→WC P 8 j cx (FA l t) ⟨d,u,hal h' L (LoO .exhausted (some j) fn ps.toArray assign body D (FA l t)),n'⟩ Q) :
 CallB P 8 75 ([]++(.func (.yield L) #[] #[]::[ptr sc 0])) h n (rgQ P 8 L fn ps.toArray assign body D cx (FA l t) d u Q):=by
 refine cal0 (lines1_com hs (fun k h' n'=>zF h' L=LoO .ready none fn ps.toArray assign body D (FA l t)∧I k h' n') (fun h' n'=>∃j,zF h' L=LoO .done (some j) fn ps.toArray assign body D (FA l t)∧E j h' n') ⟨hL,h0⟩ hb hc (fun k h' n' v q=>⟨obe_hst (fun e=>hne e.symm) q.1,hcl _ _ _ _ q.2⟩) (fun k h' n' q=>hE _ _ _ q.2) fun k h' n' q hr hn=>rou q.1 hps (bd k h' n' q.2 q.1 hr hn)) ?_
 rintro _ h' n' ⟨rfl,hn,⟨k,hr,q1,q2⟩|⟨j,q1,q2⟩⟩
 · exact .inl ⟨q1,fin k h' n' hr q2 q1 hn⟩
 · exact .inr ⟨j,q1,finF j h' n' q2 hn⟩
theorem LnM.off{h':zB}{n' x:Nat}(M:LnM br pb hb n h S F nb m)(t:Tch [x] h n h' n')(h1:pb<x)(c:∀m z,yF (zF h x)≠some (m,z,1)):LnM br pb hb n' h' S F nb m:=by
 have l1:=M.l1;have l2:=M.l2;have l3:=M.l3;have hg:=M.g;exact⟨M.r.off t (by omega) c,M.p.tch t l3 (by simp;omega),M.hd.tch t (by omega) (by simp;omega),M.f,M.op,l1,l2,Nat.lt_of_lt_of_le l3 t.1,M.E.tch t (by omega) (by simp;omega),hg⟩
theorem LnM.tch{h':zB}{n':Nat}(M:LnM br pb hb n h S F nb m)(t:Tch [] h n h' n'):LnM br pb hb n' h' S F nb m:=by
 have l1:=M.l1;have l2:=M.l2;have l3:=M.l3;have hg:=M.g;exact⟨M.r.tch t,M.p.tch t l3 (by simp),M.hd.tch t (by omega) (by simp),M.f,M.op,l1,l2,Nat.lt_of_lt_of_le l3 t.1,M.E.tch t (by omega) (by simp),hg⟩
theorem K2.cel{h':zB}{n' b z:Nat}{vs:List Value}(k:K2 br pb h n h' n')(c:Cel h b z 0 vs)(hb:b<n)(h1:b≠br)(h2:b≠pb):Cel h' b z 0 vs:=by
 have e:=k.2 b hb h1 h2 (vH c);exact⟨by rw[e];exact c.1,fun i=>by unfold zD;rw [e];exact c.2 i⟩
theorem K2.obe{h':zB}{n' b:Nat}{o:AObj}(k:K2 br pb h n h' n')(c:zF h b=o)(hi:yF o=none)(hb:b<n)(h1:b≠br)(h2:b≠pb):zF h' b=o:=by
 rw[k.2 b hb h1 h2 fun m z e=>by rw[c,hi]at e;cases e];exact c
theorem cline_com{p2 p8 z2 z8:Nat}{s:Tx}(M:LnM br pb hb n h S F nb m)(hs:s.length<100000)(c2:Cel h p2 z2 0 [ptr pb 0])(c8:Cel h p8 z8 0 [str s])(h2:p2<n)(h8:p8<n):Com P 8 55 [.func (.func 56) ⟨[]⟩ ⟨[ptr p2 0,ptr p8 0]⟩] h n fun o h' n'=>∃e,o = .ret (I64 e)∧K2 br pb h n h' n'∧
 ((e≠0∧Vir.lineS S s = .error e)∨(e=0∧∃S' F' nb',Vir.lineS S s = .ok S'∧LnM br pb hb n' h' S' F' nb' m)):=by
 have l1:=M.l1;have l2:=M.l2;have l3:=M.l3
 refine(caught_com (R:=fun e h' n'=>K2 br pb h n h' n'∧((e≠0∧Vir.lineS S s = .error e)∨(e=0∧∃S' F' nb',Vir.lineS S s = .ok S'∧LnM br pb hb n' h' S' F' nb' m)))
  (R':=fun e h' n'=>K2 br pb h n h' n'∧((e≠0∧Vir.lineS S s = .error e)∨(e=0∧∃S' F' nb',Vir.lineS S s = .ok S'∧LnM br pb hb n' h' S' F' nb' m))) ?_ ?_).mono ?_
 · intro h' n' t hn' ce;have d2:=c2.tch t h2 (by simp);have d8:=c8.tch t h8 (by simp);have M':=M.tch t;refine ent fun u=>?_;repeat' first|refine wk ?_|refine cX (fun _=>?_) fun _=>?_|refine cal (line_com M' hs) ?_|fail
   rintro _ h3 n3 ⟨k3,hr⟩
   have k0:K2 br pb h n h3 n3:=(K2.tch t (by simp)).trans k3;have hn3:=k3.1;have e3:zF h3 n=zF h' n:=k3.2 n hn' (by omega) (by omega) (vH ce);rcases hr with⟨e,r,rfl⟩|⟨S',F',nb',r,rfl,M3⟩
   · have he:e≠0:=by rcases Vir.lineS_bad r with rfl|rfl <;> decide
     repeat' first|refine wk ?_|refine cX (fun _=>?_) fun _=>?_|fail
     exact⟨e,by rw[if_neg he],hn3,e3,k0,.inl ⟨he,r⟩⟩
   · repeat' first|refine wk ?_|refine cX (fun _=>?_) fun _=>?_|fail
     exact⟨0,rfl,hn3,e3,k0,.inr ⟨rfl,S',F',nb',r,M3⟩⟩
 · rintro e h2 n2 h3 n3 ⟨k,hr⟩ hi hn hsame
   have t3:Tch [n] h2 n2 h3 n3:=⟨hn,fun b hb hx=>hsame b hb (by simpa using hx)⟩;refine⟨⟨by have:=k.1;omega,fun b hb h1 h2 h3=>(hsame b (by have:=k.1;omega) (by omega)).trans (k.2 b hb h1 h2 h3)⟩,?_⟩;rcases hr with hr|⟨e0,S',F',nb',r,M3⟩
   · exact .inl hr
   · exact .inr ⟨e0,S',F',nb',r,M3.off t3 l3 hi⟩
 · rintro o h' n' ⟨e,rfl,⟨k,hr⟩,_⟩
   exact⟨e,rfl,k,hr⟩
end Go.Proofs.YtdipdkkpgjdnkaaGreatDoor
namespace Go.Proofs.YtdipdkkpgjdnkaaGreatDoor
open Go Go.Ex Go.Ex.M
set_option maxRecDepth 100000
set_option maxHeartbeats 8000000
attribute [local simp] yG
variable {n br pb hb nb:Nat} {h:zB} {m:Int} {F:FunT} {S:Vir.St}
theorem K2.up{h' h2:zB}{n' n2:Nat}{S:List Nat}(k:K2 br pb h n h' n')(t:Tch S h' n' h2 n2)(hS:∀x∈S,n≤x):K2 br pb h n h2 n2:=⟨Nat.le_trans k.1 t.1,fun b hb h1 h2 h3=>(t.2 b (Nat.lt_of_lt_of_le hb k.1) fun hx=>by have:=hS b hx;omega).trans (k.2 b hb h1 h2 h3)⟩
structure RdI (br pb hb n:Nat) (h:zB) (s:Tx) (m:Int) (k:Nat) (h':zB) (n':Nat):Prop where
 le:n+7≤n'
 ln:∃S F nb,LnM br pb hb n' h' S F nb m∧Vir.runS (s.length+1) 1 s Vir.St.z=Vir.runS (s.length+1 - k) (k+1) (vX s k) S
 c0:Cel h' n (62+1) 0 [ptr pb 0]
 c1:Cel h' (n+1) (3+1) 0 [I64 0]
 c2:Cel h' (n+1+1) (32+1) 0 [I64 0]
 c3:Cel h' (n+1+1+1) (3+1) 0 [I64 (k:Nat)]
 c4:∀m z,yF (zF h' (n+1+1+1+1))≠some (m,z,1)
 c5:zF h' (n+1+1+1+1+1) = .deferred true
 kl:k+(vX s k).length≤s.length
 fr:K2 br pb h n h' n'
theorem cline2_com{p2 p8 z2 z8 n0 x:Nat}{h0:zB}{s:Tx}(tB:Tch [x] h0 n0 h n)(M:LnM br pb hb n0 h0 S F nb m)(hx:pb<x)(hxi:yF (zF h0 x)=none)(hs:s.length<100000)(c2:Cel h p2 z2 0 [ptr pb 0])(c8:Cel h p8 z8 0 [str s])(h2:p2<n)(h8:p8<n)(hxn:x<n):Com P 8 55 [.func (.func 56) ⟨[]⟩ ⟨[ptr p2 0,ptr p8 0]⟩] h n fun o h' n'=>∃e,o = .ret (I64 e)∧n≤n'∧(∀b,b<n0→b≠x→b≠br→b≠pb→(∀m z,yF (zF h0 b)≠some (m,z,1))→zF h' b=zF h0 b)∧(∀o,zF h x=o→yF o=none→zF h' x=o)∧
 ((e≠0∧Vir.lineS S s = .error e)∨(e=0∧∃S' F' nb',Vir.lineS S s = .ok S'∧LnM br pb hb n' h' S' F' nb' m)):=by
 have l1:=M.l1;have l2:=M.l2;have hle:=tB.le;refine(cline_com (M.off tB hx fun m z e=>by rw[hxi]at e;cases e) hs c2 c8 h2 h8).mono ?_
 rintro o h' n' ⟨e,rfl,k,r⟩
 refine⟨e,rfl,k.1,fun b hb h1 h2 h3 h4=>?_,fun o ho hi=>k.obe ho hi hxn (by omega) (by omega),r⟩;have e1:=tB.2 b hb (by simpa using h1);rw [← e1]at h4 ⊢;exact k.2 b (by omega) h2 h3 h4
theorem pread_com{s:Tx}(M:LnM br pb hb n h Vir.St.z F nb m)(hs:s.length<100000):Com P 8 29 [ptr pb 0,str s] h n fun o h' n'=>K2 br pb h n h' n'∧∃(F':FunT) (at' e:Int),o = .ret (.tuple #[I64 at',I64 e])∧
 Vir.tellS (Vir.runS (s.length+1) 1 s Vir.St.z)=(if e=0 then toF F' else Vir.Fct.z,at',e)∧(e=0→∃nb',RdM br n' h' F' nb'):=by
 have l1:=M.l1;have l2:=M.l2;have l3:=M.l3;have hg:=M.g;refine ent fun u=>?_;repeat' first|refine wk ?_|refine cX (fun _=>?_) fun _=>?_|refine uW lines_ret ?_|fail
 rintro _ h4 n4 ⟨rfl,rfl,c4,t4⟩
 have u4:Tch [] h n h4 (n+1+1+1+1+1):=zA;have c0:Cel h4 n (62+1) 0 [ptr pb 0]:=Cel.tch zH t4 (by omega) (by simp);have c1:Cel h4 (n+1) (3+1) 0 [I64 0]:=Cel.tch zH t4 (by omega) (by simp);have c2:Cel h4 (n+1+1) (32+1) 0 [I64 0]:=Cel.tch zH t4 (by omega) (by simp);have c3:Cel h4 (n+1+1+1) (3+1) 0 [I64 ((0:Nat):Int)]:=Cel.tch zH t4 (by omega) (by simp);have M4:=M.tch u4;have k4:K2 br pb h n h4 (n+1+1+1+1+1):=K2.tch u4 (by simp);clear t4 u4 M;repeat' first|refine wk ?_|refine cX (fun _=>?_) fun _=>?_|fail
 refine wc_rg0 (g:=75) (fs:=[]) (cs:=[ptr (n+1+1+1+1) 0]) (by(apply ev_box;((conv=>lhs;whnf) <;> exact rfl))) ?_
 refine lines_core (m:=m) (z:=9+1) (s0:=s) (ps:=[12,13]) (RdI br pb hb n h s m)
  (fun j h' n'=>j = .ret∧∃(no:Nat) (e:Int),e≠0∧Vir.runS (s.length+1) 1 s Vir.St.z = .error (no,e)∧Cel h' (n+1) (3+1) 0 [I64 (no:Nat)]∧Cel h' (n+1+1) (32+1) 0 [I64 e]∧zF h' (n+1+1+1+1+1) = .deferred true∧K2 br pb h n h' n') rfl hs zC (by omega) (by omega) ?_ ?_ obe_ask ?_ ?_ ?_ ?_
 · rintro k h' n' v ⟨hn,⟨S,F',nb',M',hr⟩,d0,d1,d2,d3,d4,d5,hk,fr⟩
   have t:Tch [n+1+1+1+1] h' n' (hst h' (n+1+1+1+1) 0 v) n':=zA;exact⟨hn,⟨S,F',nb',M'.off t (by omega) d4,hr⟩,d0.tch t (by omega) (by rw[List.mem_singleton];omega),d1.tch t (by omega) (by rw[List.mem_singleton];omega),d2.tch t (by omega) (by rw[List.mem_singleton];omega),d3.tch t (by omega) (by rw[List.mem_singleton];omega),by rw[yL,if_pos rfl,infoOf_stC];exact d4,obe_hst (by omega) d5,hk,fr.up t (by simp;omega)⟩
 · rintro k h' n' ⟨hn,⟨S,F',nb',M',hr⟩,_,_⟩
   exact M'.E
 · exact⟨by omega,⟨Vir.St.z,F,nb,M4.tch zA,rfl⟩,zC,zC,zC,zC,vH (z:=9+1) (cs:=[str s]) zC,obe_ask,by simp[vX],k4.up (S:=[]) zA (by simp)⟩
 · rintro k h' n' ⟨hn,⟨S,F',nb',M',hr⟩,d0,d1,d2,d3,d4,d5,hk,fr⟩ hL hne hle
   have hlen:=Vir.lineOf_len (vX s k);have hfall:=restT_fall hne;have hi:yF (zF h' (n+1+1+1+1+1+1))=none:=by rw[hL];rfl
   have hfu:s.length+1 - k=(s.length+1 - (k+1))+1:=by omega
   rw[hfu]at hr;repeat' first|refine wk ?_|refine cX (fun _=>?_) fun _=>?_|fail
   refine cal (cline2_com (s:=Vir.lineOf (vX s k)) (p2:=n) (p8:=n') (h0:=h') (n0:=n') (x:=n+1+1+1+1+1+1) zA M' (by omega) hi (by omega) zH zH (by omega) (by omega) (by omega)) ?_
   rintro _ h2 n2 ⟨e,rfl,hn2,kk,kL,r2⟩
   have ck:∀{b z:Nat} {vs:List Value},Cel h' b z 0 vs→n≤b→b<n+4→Cel h2 b z 0 vs:=fun {b z vs} c h3 h4=>by
    have e:=kk b (by omega) (by omega) (by omega) (by omega) (vH c);exact⟨by rw[e];exact c.1,fun i=>by unfold zD;rw [e];exact c.2 i⟩
   have g0:=ck d0 (by omega) (by omega);have g1:=ck d1 (by omega) (by omega);have g2:=ck d2 (by omega) (by omega);have g3:=ck d3 (by omega) (by omega);have g4:=kk (n+1+1+1+1) (by omega) (by omega) (by omega) (by omega) d4;have g5:=(kk (n+1+1+1+1+1) (by omega) (by omega) (by omega) (by omega) (by rw[d5];intro m z e;cases e)).trans d5;have gL:=kL _ obe_hit rfl
   have fr2:K2 br pb h n h2 n2:=⟨by omega,fun b hb h1 h2 h3=>by
    have e:=fr.2 b hb h1 h2 h3;rw [← e]at h3 ⊢;exact kk b (by omega) (by omega) h1 h2 h3⟩
   clear kk kL ck d0 d1 d2 d3 d5 hL;rcases r2 with⟨he,r⟩|⟨rfl,S2,F2,nb2,r,M2⟩
   · repeat' first|refine wk ?_|refine cX (fun _=>?_) fun _=>?_|fail
     exact⟨by omega,.inr ⟨rfl,.ret,obe_hit,rfl,k+1,e,he,by rw[hr];exact Vir.runS_er (by simpa using hne) r,zH,zH,obe_ask,fr2.up (S:=[n+1,n+1+1,n+1+1+1+1+1+1]) zA (by simp;omega)⟩⟩
   · repeat' first|refine wk ?_|refine cX (fun _=>?_) fun _=>?_|fail
     have t3:Tch [n+1+1+1] h2 n2 (hst h2 (n+1+1+1) 0 [I64 ((k:Nat)+1)]) n2:=zA;have M3:=M2.off t3 (by omega) (vH g3);have gL3:=obe_hst (a:=n+1+1+1) (off:=0) (ws:=[I64 ((k:Nat)+1)]) (by omega) gL;have i3:yF (zF (hst h2 (n+1+1+1) 0 [I64 ((k:Nat)+1)]) (n+1+1+1+1+1+1))=none:=by rw[gL3];rfl
     have M5:=fun o=>M3.off (x:=n+1+1+1+1+1+1) (h':=hal (hst h2 (n+1+1+1) 0 [I64 ((k:Nat)+1)]) (n+1+1+1+1+1+1) o) (n':=n2) zA (by omega) (fun m z e=>by rw[i3]at e;cases e);clear M3 gL3 t3;have q4:∀o,zF (hal (hst h2 (n+1+1+1) 0 [I64 ((k:Nat)+1)]) (n+1+1+1+1+1+1) o) (n+1+1+1+1)=zF h' (n+1+1+1+1):=fun o=>by rw[yY,if_neg (by omega),yL,if_neg (by omega)];exact g4
     exact⟨by omega,.inl ⟨rfl,q4 _,obe_hit,⟨by omega,⟨S2,F2,nb2,M5 _,by rw[hr];exact Vir.runS_ok (by simpa using hne) r⟩,zC,zC,zC,zH,by rw[q4];exact d4,obe_ask,by omega,fr2.up (S:=[n+1+1+1,n+1+1+1+1+1+1]) zA (by simp;omega)⟩⟩⟩
 · rintro k h' n' hz ⟨hn,⟨S,F',nb',M',hr⟩,d0,d1,d2,d3,d4,d5,hk,fr⟩ hL hle
   have hi:yF (zF h' (n+1+1+1+1+1+1))=none:=by rw[hL];rfl
   have hi5:yF (zF h' (n+1+1+1+1+1))=none:=by rw[d5];rfl
   have hfu:s.length+1 - k=(s.length - k)+1:=by omega
   have cp:=M'.p;rcases S with⟨step,opn,ended,f⟩
   have hf:f=toF F':=M'.f;replace cp:Cel h' pb zPa 0 [.slice (some ⟨hb,0,none⟩) 4 4,fnV br 27,fnV br 28,I64 (step:Nat),.bool opn,.bool ended]:=cp;rw [hz,hfu,Vir.runS_nil]at hr;have hR:=M'.r
   have hnr:∀x∈[n+1,n+1+1,n+1+1+1+1+1,n+1+1+1+1+1+1],x≠br∧∀m z,yF (zF h' x)≠some (m,z,1):=by
    intro x hx;simp only[List.mem_cons,List.not_mem_nil,or_false]at hx;rcases hx with rfl|rfl|rfl|rfl
    · exact⟨by omega,vH d1⟩
    · exact⟨by omega,vH d2⟩
    · exact⟨by omega,fun m z e=>by rw[hi5]at e;cases e⟩
    · exact⟨by omega,fun m z e=>by rw[hi]at e;cases e⟩
   cases ended with
   | true=>
    repeat' first|refine wk ?_|refine cX (fun _=>?_) fun _=>?_|fail
    exact⟨fr.up (S:=[n+1,n+1+1,n+1+1+1+1+1,n+1+1+1+1+1+1]) zA (by simp;omega),F',0,0,rfl,by rw[hr];simp [Vir.tellS,hf],fun _=>⟨nb',hR.offs (S:=[n+1,n+1+1,n+1+1+1+1+1,n+1+1+1+1+1+1]) zA hnr⟩⟩
   | false=>
    repeat' first|refine wk ?_|refine cX (fun _=>?_) fun _=>?_|fail
    exact⟨fr.up (S:=[n+1,n+1+1,n+1+1+1+1+1,n+1+1+1+1+1+1]) zA (by simp;omega),F',(k:Nat)+1,3,rfl,by rw[hr];simp [Vir.tellS],fun h9=>by cases h9⟩
 · rintro j h' n' ⟨rfl,no,e,he,hr,d1,d2,d5,fr⟩ hle
   repeat' first|refine wk ?_|refine cX (fun _=>?_) fun _=>?_|fail
   exact⟨fr.up (S:=[n+1,n+1+1,n+1+1+1+1+1,n+1+1+1+1+1+1]) zA (by simp;omega),F,_,_,rfl,by rw[hr,if_neg he];rfl,fun h9=>absurd h9 he⟩
end Go.Proofs.YtdipdkkpgjdnkaaGreatDoor
namespace Go.Proofs.YtdipdkkpgjdnkaaGreatDoor
open Go Go.Ex Go.Ex.M
set_option maxRecDepth 100000
set_option maxHeartbeats 8000000
attribute [local simp] yG
variable {n br nb:Nat} {h:zB} {m:Int} {F:FunT}
abbrev GF0:FunT:=⟨[],.slice none 0 0,[],.slice none 0 0,[],[],.slice none 0 0,[]⟩
theorem funQ_g{lo:Nat}{h:zB}:FunQ lo h GF0:=⟨.inl ⟨rfl,rfl,rfl⟩,.inl ⟨rfl,rfl,rfl⟩,.inl ⟨rfl,rfl,rfl⟩,fun x hx=>by(cases hx),fun x hx=>by(cases hx)⟩
abbrev zFg:Nat:=26+1
theorem tell_at{k no:Nat}{s:Tx}{S0:Vir.St}{f:Vir.Fct}{a:Int}(h:Vir.tellS (Vir.runS k no s S0)=(f,a,0)):a=0:=by
 cases hr:Vir.runS k no s S0 with
 | error p=>
  obtain⟨no',e⟩:=p;rw [hr]at h;have h2:e=0:=congrArg (fun x=>x.2.2) h;rcases Vir.runS_bad _ _ _ _ _ _ hr with rfl|rfl <;> cases h2
 | ok p=>
  obtain⟨st,no'⟩:=p;rw [hr]at h;unfold Vir.tellS at h;dsimp only at h;split at h
  · exact(congrArg (fun x=>x.2.1) h).symm
  · have h2:(3:Int)=0:=congrArg (fun x=>x.2.2) h;cases h2
theorem vread_com{s:Tx}(hE:Env m h)(hg:8≤n)(hs:s.length<100000):Com P 8 9 [str s] h n fun o h' n'=>n≤n'∧∃(F:FunT) (at' e:Int),o = .ret (.tuple #[.agg ⟨funC F⟩,I64 at',I64 e])∧Vir.readS s=(toF F,at',e)∧FunQ n' h' F:=by
 refine ent fun u=>?_;by_cases hl:65536<s.length
 · repeat' first|refine wk ?_|refine cX (fun _=>?_) fun _=>?_|refine ob (a:=_) ?_ (zQ (by apply zE;((conv=>lhs;whnf) <;> exact rfl)) (by decide) (by repeat' first|exact zT|(apply zN;focus (apply Cel.cell;(focus exact zC);exact rfl))) (by repeat' first|exact yB|(apply yC;(focus (apply zE;((conv=>lhs;whnf) <;> exact rfl))))))|fail
   exact⟨by omega,GF0,0,2,rfl,by unfold Vir.readS;rw [if_pos hl];rfl,funQ_g⟩
 · repeat' first|refine wk ?_|refine cX (fun _=>?_) fun _=>?_|fail
   refine cal (pread_com (br:=n+1) (pb:=n+1+1+1) (hb:=n+1+1) (F:=GF0) (nb:=n+1+1) (m:=m) ?_ hs) ?_
   · refine⟨⟨by omega,by omega,zH,Own.nil,Own.nil,Own.nil,fun x hx=>(by cases hx),fun x hx=>(by cases hx),fun x hx=>(by cases hx),by decide,fun x hx=>(by cases hx)⟩,zH,zH,rfl,fun h9=>(by cases h9),by omega,by omega,by omega,hE.tch (S:=[]) zA hg (by simp),by omega⟩
   rintro _ h2 n2 ⟨k2,F',at',e,rfl,hr,hR⟩
   have c2:Cel h2 n zFg 0 [str [],.slice none 0 0,.slice none 0 0,str [],.slice none 0 0]:=k2.cel (n:=n+1+1+1+1) zH (by omega) (by omega) (by omega);have hn2:=k2.1;have hrs:Vir.readS s=(if e=0 then toF F' else Vir.Fct.z,at',e):=by unfold Vir.readS;rw [if_neg hl];exact hr
   by_cases he:e=0
   · subst he;obtain⟨nb',R⟩:=hR rfl;have cr:=R.ce;have o1:=R.vr.one;have o2:=R.pr.one;have o3:=R.bv.one;rw [if_pos rfl]at hrs hr;have hat:at'=0:=tell_at hr;subst hat;repeat' first|refine wk ?_|refine cX (fun _=>?_) fun _=>?_|refine ob (a:=_) ?_ (zQ (by apply zE;((conv=>lhs;whnf) <;> exact rfl)) (by decide) (by repeat' first|exact zT|(apply zN;focus (apply Cel.cell;(focus exact zC);exact rfl))) (by repeat' first|exact yB|(apply yC;(focus (apply zE;((conv=>lhs;whnf) <;> exact rfl))))))|fail
     exact⟨by omega,F',0,0,rfl,hrs,R.q2 (x:=n) zA (by omega) c2⟩
   · rw[if_neg he]at hrs;repeat' first|refine wk ?_|refine cX (fun _=>?_) fun _=>?_|refine ob (a:=_) ?_ (zQ (by apply zE;((conv=>lhs;whnf) <;> exact rfl)) (by decide) (by repeat' first|exact zT|(apply zN;focus (apply Cel.cell;(focus exact zC);exact rfl))) (by repeat' first|exact yB|(apply yC;(focus (apply zE;((conv=>lhs;whnf) <;> exact rfl))))))|fail
     exact⟨by omega,GF0,at',e,rfl,hrs,funQ_g⟩
end Go.Proofs.YtdipdkkpgjdnkaaGreatDoor
