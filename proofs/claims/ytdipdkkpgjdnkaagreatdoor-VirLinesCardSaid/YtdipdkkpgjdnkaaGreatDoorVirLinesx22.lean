/- What the law leans on: an executor of the model that is sound, deduction over it, and the walks through the code (part 22 of 24). Conditions: those that each theorem states. -/
import Derived.Test.YtdipdkkpgjdnkaaGreatDoorVirLinesx21
import Derived.Test.YtdipdkkpgjdnkaaGreatDoorVirLinesx15

set_option linter.unusedVariables false
set_option linter.unusedSimpArgs false
namespace Go.Proofs.YtdipdkkpgjdnkaaGreatDoor
open Go Go.Ex Go.Ex.M
set_option maxRecDepth 100000
set_option maxHeartbeats 8000000
attribute [local simp] yG
variable {n fb nb:Nat} {h:zB} {F:FunT}
abbrev zFn:Nat:=26+1
theorem one_strs:∀r:List Tx,One (r.map str):=by
 intro r
 induction r with
 | nil=>trivial
 | cons a r ih=>exact⟨rfl,ih⟩
theorem ws_of{lo n':Nat}{h':zB}{l:Tx}{sv:Value}(o:Own lo n' h' sv 9 1 (zO 32 l).length ((zO 32 l).map str))(hl:l.length<100000):WsR n' h' sv (zO 32 l):=by
 obtain⟨h1,h2⟩:=uT 32 l;exact⟨o.row (by decide),by omega,fun x hx=>by have:=h2 x hx;omega⟩
def HO(fb:Nat)(F:FunT)(nb:Nat)(r:Except Int Vir.Fct)(h:zB)(n:Nat)(v:Value)(h':zB)(n':Nat):Prop:=∃e:Int,v=I64 e∧Tch [fb] h n h' n'∧((e≠0∧r = .error e)∨(e=0∧∃F',r = .ok (toF F')∧F'.blocks=F.blocks∧RdZ zFn fb n' h' F' nb))
theorem headR_no{f:Vir.Fct}{k:Nat}{a:Tx}{r:List Tx}(h:a≠Vir.headT k):Vir.headR f k (a::r) = .error 3:=by unfold Vir.headR;dsimp only;rw [if_neg h]
theorem rhead2_ret{l:Tx}(R:RdZ zFn fb n h F nb)(hl:l.length<100000):Ret P 8 30 [ptr fb 0,I64 2,str l] h n (HO fb F nb (Vir.headR (toF F) 2 (zO 32 l)) h n):=by
 have hlt:=R.lt;have hnn:=R.nn;have c:=R.ce;have o1:=R.vr.one;have o2:=R.pr.one;have o3:=R.bv.one;refine ent fun u=>?_;repeat' first|refine wk ?_|refine cX (fun _=>?_) fun _=>?_|refine uW (uV hl) ?_|fail
 rintro sv h2 n2 ⟨ow,t2⟩
 have w:=ws_of ow hl;have hn2:=t2.le;have hs0:=wR 32 l;generalize zO 32 l=ws at *
 obtain⟨a,r,rfl⟩:∃a r,ws=a::r:=by
  cases ws with
  | nil=>exact absurd rfl hs0
  | cons a r=>exact⟨a,r,rfl⟩
 have hp:0<(a::r).length:=by simp
 have c0:zD h2 (sbk sv) (sof sv+0*1)=some (str a):=xX w.r rfl;have r0:=w.r;have low:=w.r.low hp;have os:=w.r.one;have u2:Tch [fb] h n h2 n2:=⟨t2.le,fun b hb _=>t2.2 b hb (by simp)⟩;have d2:Cel h2 fb zFn 0 [str F.name,F.vv,F.pv,str F.result,F.bv]:=c.tch t2 (by omega) (by simp);clear t2;by_cases ha:a≠[112,97,114,97,109,115]
 · repeat' first|refine wk ?_|refine cX (fun _=>?_) fun _=>?_|refine ob ?_ (iad_sl (j:=2) (by decide))|fail
   exact⟨_,rfl,3,rfl,zA,.inl ⟨by decide,headR_no ha⟩⟩
 · have ha':a=Vir.headT 2:=Decidable.not_not.1 ha
   have hI:Vir.headR (toF F) 2 (a::r)=match Vir.smallsR r with
    | some p=>if p.length≤16 then .ok { toF F with params:=p } else .error 2
    | none=>.error 3:=by subst ha';rfl
   repeat' first|refine wk ?_|refine cX (fun _=>?_) fun _=>?_|refine ob ?_ (iad_sl (j:=2) (by decide))|fail
   refine ws_cut 1 (w.tch (n:=n2) (n':=n2+1) zA (by omega)) hp rfl ?_;intro v' w';have w':WsR n2 _ v' r:=w';have os':=w'.r.one;repeat' first|refine wk ?_|refine cX (fun _=>?_) fun _=>?_|refine uW (xZ w'.r (by omega) w'.l w'.t) ?_|fail
   rintro _ h3 n3 ⟨t3,⟨hs,rfl⟩|⟨p,lv,hs,hll,rfl,ol⟩⟩
   · have u3:Tch [fb] h n h3 n3:=zA;clear t3;repeat' first|refine wk ?_|refine cX (fun _=>?_) fun _=>?_|fail
     exact⟨_,rfl,3,rfl,u3,.inl ⟨by decide,by rw[hI,hs]⟩⟩
   · have hn3:=t3.le;have u3:Tch [fb] h n h3 n3:=zA;have d3:Cel h3 fb zFn 0 [str F.name,F.vv,F.pv,str F.result,F.bv]:=Cel.tch zH t3 (by omega) (by simp);have rl:=ol.row (by decide);have ol1:=ol.one;clear t3;repeat' first|refine wk ?_|refine cX (fun _=>?_) fun _=>?_|fail
     · rename_i f1;exact⟨_,rfl,2,rfl,u3,.inl ⟨by decide,by rw[hI,hs];exact if_neg (by omega)⟩⟩
     · rename_i f1;have t6:Tch [fb] h n (hst h3 fb (0+2) [lv]) n3:=zA;exact⟨_,rfl,0,rfl,t6,.inr ⟨rfl,⟨F.name,F.vv,F.vregs,lv,p,F.result,F.bv,F.blocks⟩,by rw[hI,hs];exact if_pos (by omega),rfl,R.put t6 zH (xG R.vr t6 (by omega)) (own_dn (xG ol (S0:=fb) zA (by omega)) (by omega))⟩⟩
theorem headR_bad{f:Vir.Fct}{k j:Nat}{r:List Tx}{x:Tx}(hk:k≠2)(hx:r[j]? = some x)(hn:nameB x=false):Vir.headR f k (Vir.headT k::r) = .error 3:=by
 have hall:r.all Vir.named=false:=by
  rw[List.all_eq_false];exact⟨x,List.mem_of_getElem? hx,by show ¬(nameB x=true);rw [hn];decide⟩
 unfold Vir.headR;dsimp only;rw [if_pos rfl,if_neg hk,hall];rfl
theorem headR_all{f:Vir.Fct}{k:Nat}{r:List Tx}(hk:k≠2)(hall:∀j,j<r.length→∀x,r[j]? = some x→nameB x=true):(k=1→Vir.headR f k (Vir.headT k::r)=if r.length≤500 then .ok { f with vregs:=r } else .error 2)∧
 (k≠1→(∀x,r=[x]→Vir.headR f k (Vir.headT k::r)=if k=0 then .ok { f with name:=x } else .ok { f with result:=x })∧(r.length≠1→Vir.headR f k (Vir.headT k::r) = .error 3)):=by
 have hal:r.all Vir.named=true:=by
  rw[List.all_eq_true];intro x hx;obtain⟨j,hj,rfl⟩:=List.mem_iff_getElem.1 hx;exact hall j hj _ (List.getElem?_eq_getElem hj)
 clear hall;unfold Vir.headR;dsimp only;rw [if_pos rfl,if_neg hk,hal,if_pos rfl];refine⟨fun h=>by rw[if_pos h],fun h=>?_⟩;rw [if_neg h];refine⟨fun x e=>by rw[e],fun e=>?_⟩;rcases r with _|⟨x,_|⟨y,r⟩⟩
 · rfl
 · exact absurd rfl e
 · rfl
theorem rhead1_ret{l:Tx}(R:RdZ zFn fb n h F nb)(hl:l.length<100000):Ret P 8 30 [ptr fb 0,I64 1,str l] h n (HO fb F nb (Vir.headR (toF F) 1 (zO 32 l)) h n):=by
 have hlt:=R.lt;have hnn:=R.nn;have c:=R.ce;have o1:=R.vr.one;have o2:=R.pr.one;have o3:=R.bv.one;refine ent fun u=>?_;repeat' first|refine wk ?_|refine cX (fun _=>?_) fun _=>?_|refine uW (uV hl) ?_|fail
 rintro sv h2 n2 ⟨ow,t2⟩
 have w:=ws_of ow hl;have hn2:=t2.le;have hs0:=wR 32 l;have hsl:=(uT 32 l).1;generalize zO 32 l=ws at *
 obtain⟨a,r,rfl⟩:∃a r,ws=a::r:=by
  cases ws with
  | nil=>exact absurd rfl hs0
  | cons a r=>exact⟨a,r,rfl⟩
 have hp:0<(a::r).length:=by simp
 have c0:zD h2 (sbk sv) (sof sv+0*1)=some (str a):=xX w.r rfl;have r0:=w.r;have low:=w.r.low hp;have os:=w.r.one;have u2:Tch [fb] h n h2 n2:=⟨t2.le,fun b hb _=>t2.2 b hb (by simp)⟩;have d2:Cel h2 fb zFn 0 [str F.name,F.vv,F.pv,str F.result,F.bv]:=c.tch t2 (by omega) (by simp);clear t2;by_cases ha:a≠[114,101,103,115]
 · repeat' first|refine wk ?_|refine cX (fun _=>?_) fun _=>?_|refine ob ?_ (iad_sl (j:=1) (by decide))|fail
   exact⟨_,rfl,3,rfl,zA,.inl ⟨by decide,headR_no ha⟩⟩
 have ha':a=Vir.headT 1:=Decidable.not_not.1 ha;repeat' first|refine wk ?_|refine cX (fun _=>?_) fun _=>?_|refine ob ?_ (iad_sl (j:=1) (by decide))|fail
 have w1:WsR n2 (hal h2 n2 (mkC [str [102,117,110,99],str [114,101,103,115],str [112,97,114,97,109,115],str [114,101,115,117,108,116]] 0 0)) sv (a::r):=w.tch (n:=n2) (n':=n2+1) zA (by omega);refine lpR (fun i:Nat=>[(0,ptr fb 0),(1,I64 1),(7,sv),(10,I64 ((i:Nat)+1))]) (fun i h' n'=>h'=hal h2 n2 (mkC [str [102,117,110,99],str [114,101,103,115],str [112,97,114,97,109,115],str [114,101,115,117,108,116]] 0 0)∧n'=n2+1∧i≤r.length∧∀j,j<i→∀x,r[j]? = some x→nameB x=true) (fun i=>r.length - i) 0 ⟨rfl,rfl,Nat.zero_le _,fun j hj=>by omega⟩ ?_
 rintro i t h' n' ⟨rfl,rfl,hi,hall⟩
 by_cases hlt2:i<r.length
 · have c1:(a::r)[i+1]? = some r[i]:=by rw[List.getElem?_cons_succ];exact List.getElem?_eq_getElem hlt2
   have hri:r[i]? = some r[i]:=List.getElem?_eq_getElem hlt2;generalize r[i]=x at c1 hri
   have rw1:=w1.r;have c2:zD (hal h2 n2 (mkC [str [102,117,110,99],str [114,101,103,115],str [112,97,114,97,109,115],str [114,101,115,117,108,116]] 0 0)) (sbk sv) (sof sv+(i+1)*1)=some (str x):=xX w1.r c1;have iad:=iad_rw (k:=.i64) rw1 (show i+1<(a::r).length by rw[List.length_cons];omega);have hlen:(((i:Nat):Int)+1)<(((a::r).length:Nat):Int):=by rw[List.length_cons];omega
   cases hn:nameB x with
   | true =>
    have pn:∀(h':zB) n',Pur P 8 13 [str x] h' n' (.bool true):=fun h' n'=>by
     have:=(rname_c x h' n').ok;rw [hn]at this;exact this
    repeat' first|refine yV (pn _ _) ?_|refine ob (a:=ptr (sbk sv) (sof sv+(i+1)*1)) ?_ iad|refine wk ?_|refine cX (fun _=>?_) fun _=>?_|fail
    exact rnd (i+1) ⟨rfl,rfl,hlt2,fun j hj y hy=>by
     rcases Nat.lt_succ_iff_lt_or_eq.1 hj with h9|rfl
     · exact hall j h9 y hy
     · rw[hri]at hy;injection hy with hy;rw [← hy];exact hn⟩
   | false =>
    have pn:∀(h':zB) n',Pur P 8 13 [str x] h' n' (.bool false):=fun h' n'=>by
     have:=(rname_c x h' n').ok;rw [hn]at this;exact this
    repeat' first|refine yV (pn _ _) ?_|refine ob (a:=ptr (sbk sv) (sof sv+(i+1)*1)) ?_ iad|refine wk ?_|refine cX (fun _=>?_) fun _=>?_|fail
    exact⟨_,rfl,3,rfl,zA,.inl ⟨by decide,by rw[ha'];exact headR_bad (by decide) hri hn⟩⟩
 obtain rfl:i=r.length:=by omega
 have hlen:¬(((r.length:Nat):Int)+1)<(((a::r).length:Nat):Int):=by rw[List.length_cons];omega
 have hI:=(headR_all (f:=toF F) (k:=1) (by decide) hall).1 rfl;rw [← ha']at hI;repeat' first|refine wk ?_|refine cX (fun _=>?_) fun _=>?_|fail
 · rename_i f1;exact⟨_,rfl,2,rfl,zA,.inl ⟨by decide,hI.trans (if_neg (by rw[List.length_cons]at f1;omega))⟩⟩
 · rename_i f1;refine ws_cut 1 (w1.tch (n:=n2) (n':=n2) zA (by omega)) hp rfl ?_;intro v' w';have w':WsR n2 _ v' r:=w';have os':=w'.r.one;rw [List.length_cons]at hsl f1;repeat' first|refine wk ?_|refine cX (fun _=>?_) fun _=>?_|fail
   refine appO (lo:=n2+1) Own.nil (w'.r.up (by omega)) (by omega) (one_strs r) (by omega) ?_
   rintro v3 h3 n3 ho3 ht3
   have hn3:=ht3.le;rw [Nat.zero_add,List.nil_append]at ho3;have ov:=ho3.one;have u3:Tch [fb] h n h3 n3:=Tch.tch ht3 zA (fun x hx=>by cases hx);have d3:Cel h3 fb zFn 0 [str F.name,F.vv,F.pv,str F.result,F.bv]:=Cel.tch zH ht3 (by omega) (by simp[yE]);clear ht3;repeat' first|refine wk ?_|refine cX (fun _=>?_) fun _=>?_|fail
   have t6:Tch [fb] h n (hst h3 fb (0+1) [v3]) n3:=zA;exact⟨_,rfl,0,rfl,t6,.inr ⟨rfl,⟨F.name,v3,r,F.pv,F.params,F.result,F.bv,F.blocks⟩,hI.trans (if_pos (by omega)),rfl,R.put t6 zH (own_dn (xG ho3 (S0:=fb) zA (by omega)) (by omega)) (xG R.pr t6 (by omega))⟩⟩
theorem rhead0_ret{l:Tx}(R:RdZ zFn fb n h F nb)(hl:l.length<100000):Ret P 8 30 [ptr fb 0,I64 0,str l] h n (HO fb F nb (Vir.headR (toF F) 0 (zO 32 l)) h n):=by
 have hlt:=R.lt;have hnn:=R.nn;have c:=R.ce;have o1:=R.vr.one;have o2:=R.pr.one;have o3:=R.bv.one;refine ent fun u=>?_;repeat' first|refine wk ?_|refine cX (fun _=>?_) fun _=>?_|refine uW (uV hl) ?_|fail
 rintro sv h2 n2 ⟨ow,t2⟩
 have w:=ws_of ow hl;have hn2:=t2.le;have hs0:=wR 32 l;have hsl:=(uT 32 l).1;generalize zO 32 l=ws at *
 obtain⟨a,r,rfl⟩:∃a r,ws=a::r:=by
  cases ws with
  | nil=>exact absurd rfl hs0
  | cons a r=>exact⟨a,r,rfl⟩
 have hp:0<(a::r).length:=by simp
 have c0:zD h2 (sbk sv) (sof sv+0*1)=some (str a):=xX w.r rfl;have r0:=w.r;have low:=w.r.low hp;have os:=w.r.one;have u2:Tch [fb] h n h2 n2:=⟨t2.le,fun b hb _=>t2.2 b hb (by simp)⟩;have d2:Cel h2 fb zFn 0 [str F.name,F.vv,F.pv,str F.result,F.bv]:=c.tch t2 (by omega) (by simp);clear t2;by_cases ha:a≠[102,117,110,99]
 · repeat' first|refine wk ?_|refine cX (fun _=>?_) fun _=>?_|refine ob ?_ (iad_sl (j:=0) (by decide))|fail
   exact⟨_,rfl,3,rfl,zA,.inl ⟨by decide,headR_no ha⟩⟩
 have ha':a=Vir.headT 0:=Decidable.not_not.1 ha;repeat' first|refine wk ?_|refine cX (fun _=>?_) fun _=>?_|refine ob ?_ (iad_sl (j:=0) (by decide))|fail
 have w1:WsR n2 (hal h2 n2 (mkC [str [102,117,110,99],str [114,101,103,115],str [112,97,114,97,109,115],str [114,101,115,117,108,116]] 0 0)) sv (a::r):=w.tch (n:=n2) (n':=n2+1) zA (by omega);refine lpR (fun i:Nat=>[(0,ptr fb 0),(1,I64 0),(7,sv),(10,I64 ((i:Nat)+1))]) (fun i h' n'=>h'=hal h2 n2 (mkC [str [102,117,110,99],str [114,101,103,115],str [112,97,114,97,109,115],str [114,101,115,117,108,116]] 0 0)∧n'=n2+1∧i≤r.length∧∀j,j<i→∀x,r[j]? = some x→nameB x=true) (fun i=>r.length - i) 0 ⟨rfl,rfl,Nat.zero_le _,fun j hj=>by omega⟩ ?_
 rintro i t h' n' ⟨rfl,rfl,hi,hall⟩
 by_cases hlt2:i<r.length
 · have c1:(a::r)[i+1]? = some r[i]:=by rw[List.getElem?_cons_succ];exact List.getElem?_eq_getElem hlt2
   have hri:r[i]? = some r[i]:=List.getElem?_eq_getElem hlt2;generalize r[i]=x at c1 hri
   have rw1:=w1.r;have c2:zD (hal h2 n2 (mkC [str [102,117,110,99],str [114,101,103,115],str [112,97,114,97,109,115],str [114,101,115,117,108,116]] 0 0)) (sbk sv) (sof sv+(i+1)*1)=some (str x):=xX w1.r c1;have iad:=iad_rw (k:=.i64) rw1 (show i+1<(a::r).length by rw[List.length_cons];omega);have hlen:(((i:Nat):Int)+1)<(((a::r).length:Nat):Int):=by rw[List.length_cons];omega
   cases hn:nameB x with
   | true =>
    have pn:∀(h':zB) n',Pur P 8 13 [str x] h' n' (.bool true):=fun h' n'=>by
     have:=(rname_c x h' n').ok;rw [hn]at this;exact this
    repeat' first|refine yV (pn _ _) ?_|refine ob (a:=ptr (sbk sv) (sof sv+(i+1)*1)) ?_ iad|refine wk ?_|refine cX (fun _=>?_) fun _=>?_|fail
    exact rnd (i+1) ⟨rfl,rfl,hlt2,fun j hj y hy=>by
     rcases Nat.lt_succ_iff_lt_or_eq.1 hj with h9|rfl
     · exact hall j h9 y hy
     · rw[hri]at hy;injection hy with hy;rw [← hy];exact hn⟩
   | false =>
    have pn:∀(h':zB) n',Pur P 8 13 [str x] h' n' (.bool false):=fun h' n'=>by
     have:=(rname_c x h' n').ok;rw [hn]at this;exact this
    repeat' first|refine yV (pn _ _) ?_|refine ob (a:=ptr (sbk sv) (sof sv+(i+1)*1)) ?_ iad|refine wk ?_|refine cX (fun _=>?_) fun _=>?_|fail
    exact⟨_,rfl,3,rfl,zA,.inl ⟨by decide,by rw[ha'];exact headR_bad (by decide) hri hn⟩⟩
 obtain rfl:i=r.length:=by omega
 have hlen:¬(((r.length:Nat):Int)+1)<(((a::r).length:Nat):Int):=by rw[List.length_cons];omega
 have hI:=(headR_all (f:=toF F) (k:=0) (by decide) hall).2 (by decide);rw [← ha']at hI;by_cases hl1:r.length=1
 · obtain⟨x,rfl⟩:=List.length_eq_one_iff.1 hl1;have hp1:1<(a::[x]).length:=by simp
   have hl2:¬((((a::[x]).length:Nat):Int)≠2):=by simp
   have c1:zD (hal h2 n2 (mkC [str [102,117,110,99],str [114,101,103,115],str [112,97,114,97,109,115],str [114,101,115,117,108,116]] 0 0)) (sbk sv) (sof sv+1*1)=some (str x):=xX w1.r rfl;have rw1:=w1.r;repeat' first|refine wk ?_|refine cX (fun _=>?_) fun _=>?_|fail
   have t6:Tch [fb] h n (hst (hal h2 n2 (mkC [str [102,117,110,99],str [114,101,103,115],str [112,97,114,97,109,115],str [114,101,115,117,108,116]] 0 0)) fb (0+0) [str x]) (n2+1):=zA;exact⟨_,rfl,0,rfl,t6,.inr ⟨rfl,⟨x,F.vv,F.vregs,F.pv,F.params,F.result,F.bv,F.blocks⟩,hI.1 x rfl,rfl,R.put t6 zH (xG R.vr t6 (by omega)) (xG R.pr t6 (by omega))⟩⟩
 · have hl2:(((a::r).length:Nat):Int)≠2:=by rw[List.length_cons];omega
   repeat' first|refine wk ?_|refine cX (fun _=>?_) fun _=>?_|fail
   exact⟨_,rfl,3,rfl,zA,.inl ⟨by decide,hI.2 hl1⟩⟩
theorem rhead3_ret{l:Tx}(R:RdZ zFn fb n h F nb)(hl:l.length<100000):Ret P 8 30 [ptr fb 0,I64 3,str l] h n (HO fb F nb (Vir.headR (toF F) 3 (zO 32 l)) h n):=by
 have hlt:=R.lt;have hnn:=R.nn;have c:=R.ce;have o1:=R.vr.one;have o2:=R.pr.one;have o3:=R.bv.one;refine ent fun u=>?_;repeat' first|refine wk ?_|refine cX (fun _=>?_) fun _=>?_|refine uW (uV hl) ?_|fail
 rintro sv h2 n2 ⟨ow,t2⟩
 have w:=ws_of ow hl;have hn2:=t2.le;have hs0:=wR 32 l;have hsl:=(uT 32 l).1;generalize zO 32 l=ws at *
 obtain⟨a,r,rfl⟩:∃a r,ws=a::r:=by
  cases ws with
  | nil=>exact absurd rfl hs0
  | cons a r=>exact⟨a,r,rfl⟩
 have hp:0<(a::r).length:=by simp
 have c0:zD h2 (sbk sv) (sof sv+0*1)=some (str a):=xX w.r rfl;have r0:=w.r;have low:=w.r.low hp;have os:=w.r.one;have u2:Tch [fb] h n h2 n2:=⟨t2.le,fun b hb _=>t2.2 b hb (by simp)⟩;have d2:Cel h2 fb zFn 0 [str F.name,F.vv,F.pv,str F.result,F.bv]:=c.tch t2 (by omega) (by simp);clear t2;by_cases ha:a≠[114,101,115,117,108,116]
 · repeat' first|refine wk ?_|refine cX (fun _=>?_) fun _=>?_|refine ob ?_ (iad_sl (j:=3) (by decide))|fail
   exact⟨_,rfl,3,rfl,zA,.inl ⟨by decide,headR_no ha⟩⟩
 have ha':a=Vir.headT 3:=Decidable.not_not.1 ha;repeat' first|refine wk ?_|refine cX (fun _=>?_) fun _=>?_|refine ob ?_ (iad_sl (j:=3) (by decide))|fail
 have w1:WsR n2 (hal h2 n2 (mkC [str [102,117,110,99],str [114,101,103,115],str [112,97,114,97,109,115],str [114,101,115,117,108,116]] 0 0)) sv (a::r):=w.tch (n:=n2) (n':=n2+1) zA (by omega);refine lpR (fun i:Nat=>[(0,ptr fb 0),(1,I64 3),(7,sv),(10,I64 ((i:Nat)+1))]) (fun i h' n'=>h'=hal h2 n2 (mkC [str [102,117,110,99],str [114,101,103,115],str [112,97,114,97,109,115],str [114,101,115,117,108,116]] 0 0)∧n'=n2+1∧i≤r.length∧∀j,j<i→∀x,r[j]? = some x→nameB x=true) (fun i=>r.length - i) 0 ⟨rfl,rfl,Nat.zero_le _,fun j hj=>by omega⟩ ?_
 rintro i t h' n' ⟨rfl,rfl,hi,hall⟩
 by_cases hlt2:i<r.length
 · have c1:(a::r)[i+1]? = some r[i]:=by rw[List.getElem?_cons_succ];exact List.getElem?_eq_getElem hlt2
   have hri:r[i]? = some r[i]:=List.getElem?_eq_getElem hlt2;generalize r[i]=x at c1 hri
   have rw1:=w1.r;have c2:zD (hal h2 n2 (mkC [str [102,117,110,99],str [114,101,103,115],str [112,97,114,97,109,115],str [114,101,115,117,108,116]] 0 0)) (sbk sv) (sof sv+(i+1)*1)=some (str x):=xX w1.r c1;have iad:=iad_rw (k:=.i64) rw1 (show i+1<(a::r).length by rw[List.length_cons];omega);have hlen:(((i:Nat):Int)+1)<(((a::r).length:Nat):Int):=by rw[List.length_cons];omega
   cases hn:nameB x with
   | true =>
    have pn:∀(h':zB) n',Pur P 8 13 [str x] h' n' (.bool true):=fun h' n'=>by
     have:=(rname_c x h' n').ok;rw [hn]at this;exact this
    repeat' first|refine yV (pn _ _) ?_|refine ob (a:=ptr (sbk sv) (sof sv+(i+1)*1)) ?_ iad|refine wk ?_|refine cX (fun _=>?_) fun _=>?_|fail
    exact rnd (i+1) ⟨rfl,rfl,hlt2,fun j hj y hy=>by
     rcases Nat.lt_succ_iff_lt_or_eq.1 hj with h9|rfl
     · exact hall j h9 y hy
     · rw[hri]at hy;injection hy with hy;rw [← hy];exact hn⟩
   | false =>
    have pn:∀(h':zB) n',Pur P 8 13 [str x] h' n' (.bool false):=fun h' n'=>by
     have:=(rname_c x h' n').ok;rw [hn]at this;exact this
    repeat' first|refine yV (pn _ _) ?_|refine ob (a:=ptr (sbk sv) (sof sv+(i+1)*1)) ?_ iad|refine wk ?_|refine cX (fun _=>?_) fun _=>?_|fail
    exact⟨_,rfl,3,rfl,zA,.inl ⟨by decide,by rw[ha'];exact headR_bad (by decide) hri hn⟩⟩
 obtain rfl:i=r.length:=by omega
 have hlen:¬(((r.length:Nat):Int)+1)<(((a::r).length:Nat):Int):=by rw[List.length_cons];omega
 have hI:=(headR_all (f:=toF F) (k:=3) (by decide) hall).2 (by decide);rw [← ha']at hI;by_cases hl1:r.length=1
 · obtain⟨x,rfl⟩:=List.length_eq_one_iff.1 hl1;have hp1:1<(a::[x]).length:=by simp
   have hl2:¬((((a::[x]).length:Nat):Int)≠2):=by simp
   have c1:zD (hal h2 n2 (mkC [str [102,117,110,99],str [114,101,103,115],str [112,97,114,97,109,115],str [114,101,115,117,108,116]] 0 0)) (sbk sv) (sof sv+1*1)=some (str x):=xX w1.r rfl;have rw1:=w1.r;repeat' first|refine wk ?_|refine cX (fun _=>?_) fun _=>?_|fail
   have t6:Tch [fb] h n (hst (hal h2 n2 (mkC [str [102,117,110,99],str [114,101,103,115],str [112,97,114,97,109,115],str [114,101,115,117,108,116]] 0 0)) fb (0+3) [str x]) (n2+1):=zA;exact⟨_,rfl,0,rfl,t6,.inr ⟨rfl,⟨F.name,F.vv,F.vregs,F.pv,F.params,x,F.bv,F.blocks⟩,hI.1 x rfl,rfl,R.put t6 zH (xG R.vr t6 (by omega)) (xG R.pr t6 (by omega))⟩⟩
 · have hl2:(((a::r).length:Nat):Int)≠2:=by rw[List.length_cons];omega
   repeat' first|refine wk ?_|refine cX (fun _=>?_) fun _=>?_|fail
   exact⟨_,rfl,3,rfl,zA,.inl ⟨by decide,hI.2 hl1⟩⟩
theorem rhead_ret{k:Nat}{l:Tx}(hk:k<4)(R:RdZ zFn fb n h F nb)(hl:l.length<100000):Ret P 8 30 [ptr fb 0,I64 (k:Nat),str l] h n (HO fb F nb (Vir.headR (toF F) k (zO 32 l)) h n):=by
 rcases(by omega:k=0∨k=1∨k=2∨k=3) with rfl|rfl|rfl|rfl
 · exact rhead0_ret R hl
 · exact rhead1_ret R hl
 · exact rhead2_ret R hl
 · exact rhead3_ret R hl
end Go.Proofs.YtdipdkkpgjdnkaaGreatDoor
namespace Go.Proofs.YtdipdkkpgjdnkaaGreatDoor
open Go Go.Ex Go.Ex.M
set_option maxRecDepth 100000
set_option maxHeartbeats 8000000
attribute [local simp] yG
variable {n nb:Nat} {h:zB}
abbrev zF5:List Value:=[str [],.slice none 0 0,.slice none 0 0,str [],.slice none 0 0]
abbrev F0:FunT:=⟨[],.slice none 0 0,[],.slice none 0 0,[],[],.slice none 0 0,[]⟩
theorem funQ_0{lo:Nat}{h:zB}:FunQ lo h F0:=⟨.inl ⟨rfl,rfl,rfl⟩,.inl ⟨rfl,rfl,rfl⟩,.inl ⟨rfl,rfl,rfl⟩,fun x hx=>by(cases hx),fun x hx=>by(cases hx)⟩
def RO(r:Vir.Fct×Int×Int)(h:zB)(n:Nat)(v:Value)(h':zB)(n':Nat):Prop:=∃(F:FunT) (at' e:Int),v = .tuple ⟨[.agg ⟨funC F⟩,I64 at',I64 e]⟩∧r=(toF F,at',e)∧FunQ n' h' F∧Tch [] h n h' n'
theorem uG{n0 n':Nat}{h0 h':zB}{S:List Nat}(a:Tch [] h0 n0 h n)(t:Tch S h n h' n')(hS:∀x∈S,n0≤x):Tch [] h0 n0 h' n':=t.tch a fun x hx=>.inl (hS x hx)
structure LpI (n n2:Nat) (h2:zB) (w:Bool) (ls:List Tx) (R0:Vir.Fct×Int×Int) (i:Nat) (h':zB) (n':Nat):Prop where
 t:Tch [] h2 n2 h' n'
 le:n2+1≤n'
 il:i≤ls.length
 f:∃F nb,RdZ zFn n2 n' h' F nb∧R0=Vir.runR w (ls.drop i) i (toF F)
section
variable {w:Bool} {a:Tx} {r:List Tx} {i:Nat} {f:Vir.Fct}
theorem run_a(h:w=false∧r=[]):Vir.runR w (a::r) i f=(Vir.Fct.z,(i:Int)+1,3):=by unfold Vir.runR;rw [if_pos h]
theorem run_b(h:¬(w=false∧r=[]))(h4:i<4):(∀e,Vir.headR f i (zO 32 a) = .error e→Vir.runR w (a::r) i f=(Vir.Fct.z,(i:Int)+1,e))∧∀f',Vir.headR f i (zO 32 a) = .ok f'→Vir.runR w (a::r) i f=Vir.runR w r (i+1) f':=by
 refine⟨fun e he=>?_,fun f' he=>?_⟩
 · unfold Vir.runR;rw [if_neg h,if_pos h4,he]
 · conv=>lhs;unfold Vir.runR
   rw[if_neg h,if_pos h4,he]
theorem run_c(h:¬(w=false∧r=[]))(h4:¬i<4)(h5:a=Vir.tEnd):Vir.runR w (a::r) i f=if r=[] then(f,0,0) else(Vir.Fct.z,(i:Int)+2,3):=by unfold Vir.runR;rw [if_neg h,if_neg h4,if_pos h5]
theorem run_d(h:¬(w=false∧r=[]))(h4:¬i<4)(h5:¬a=Vir.tEnd)(h6:a=Vir.tBlock):Vir.runR w (a::r) i f=if f.blocks.length<200 then Vir.runR w r (i+1) { f with blocks:=f.blocks++[[]] } else(Vir.Fct.z,(i:Int)+1,2):=by
 conv=>lhs;unfold Vir.runR
 rw[if_neg h,if_neg h4,if_neg h5,if_pos h6]
theorem run_e(h:¬(w=false∧r=[]))(h4:¬i<4)(h5:¬a=Vir.tEnd)(h6:¬a=Vir.tBlock)(h7:a.length<3∨a.take 2≠Vir.tTwo∨f.blocks=[]):Vir.runR w (a::r) i f=(Vir.Fct.z,(i:Int)+1,3):=by unfold Vir.runR;rw [if_neg h,if_neg h4,if_neg h5,if_neg h6,if_pos h7]
theorem run_f(h:¬(w=false∧r=[]))(h4:¬i<4)(h5:¬a=Vir.tEnd)(h6:¬a=Vir.tBlock)(h7:¬(a.length<3∨a.take 2≠Vir.tTwo∨f.blocks=[])):(∀e,Vir.insR (zO 32 (a.drop 2)) = .error e→Vir.runR w (a::r) i f=(Vir.Fct.z,(i:Int)+1,e))∧∀x,Vir.insR (zO 32 (a.drop 2)) = .ok x→Vir.runR w (a::r) i f=if (f.blocks.getLastD []).length<400 then Vir.runR w r (i+1) { f with blocks:=Vir.addIns f.blocks x } else(Vir.Fct.z,(i:Int)+1,2):=by
 refine⟨fun e he=>?_,fun f' he=>?_⟩
 · unfold Vir.runR;rw [if_neg h,if_neg h4,if_neg h5,if_neg h6,if_neg h7,he]
 · conv=>lhs;unfold Vir.runR
   rw[if_neg h,if_neg h4,if_neg h5,if_neg h6,if_neg h7,he]
end
theorem linesR_le(s:Tx):(Vir.linesR s).1.length≤s.length+1∧∀x∈(Vir.linesR s).1,x.length≤s.length:=by
 obtain⟨h1,h2⟩:=uT 10 s;unfold Vir.linesR;split
 · exact⟨by rw[List.length_dropLast];omega,fun x hx=>h2 x ((List.dropLast_sublist _).subset hx)⟩
 · exact⟨h1,h2⟩
theorem callR_args{d:Int}{ws:List Tx}{x:Vir.Ins}(h:Vir.callR d ws = .ok x):x.args.length≤16:=by
 unfold Vir.callR at h;repeat' (split at h)
 all_goals first
  | (cases h;done)
  | (injection h with h;subst h;assumption)
theorem insR_args{ws:List Tx}{x:Vir.Ins}(h:Vir.insR ws = .ok x):x.args.length≤16:=by
 unfold Vir.insR at h;repeat' (split at h)
 all_goals first
  | (cases h;done)
  | exact callR_args h
  | skip
 · unfold Vir.ownR at h;repeat' (split at h)
   all_goals first
    | (cases h;done)
    | (injection h with h;subst h;simp [Vir.Ins.z])
 · unfold Vir.defR at h;repeat' (split at h)
   all_goals first
    | (cases h;done)
    | exact callR_args h
    | (injection h with h;subst h;simp [Vir.Ins.z];done)
    | (rename_i h9;injection h with h;subst h;have:=h9.2.2;dsimp only;omega)
theorem rread_ret{s:Tx}(hs:s.length<100000):Ret P 8 10 [str s] h n (RO (Vir.readR s) h n):=by
 refine ent fun u=>?_;by_cases hl:65536<s.length
 · repeat' first|refine wk ?_|refine cX (fun _=>?_) fun _=>?_|refine ob (a:=_) ?_ (zQ (by apply zE;((conv=>lhs;whnf) <;> exact rfl)) (by decide) (by repeat' first|exact zT|(apply zN;focus (apply Cel.cell;(focus exact zC);exact rfl))) (by repeat' first|exact yB|(apply yC;(focus (apply zE;((conv=>lhs;whnf) <;> exact rfl))))))|fail
   exact⟨_,rfl,F0,0,2,rfl,by unfold Vir.readR;rw [if_pos hl];rfl,funQ_0,zA⟩
 have hrd:Vir.readR s=Vir.runR (Vir.linesR s).2 (Vir.linesR s).1 0 Vir.Fct.z:=by unfold Vir.readR;rw [if_neg hl]
 rw[hrd];repeat' first|refine wk ?_|refine cX (fun _=>?_) fun _=>?_|refine uW (rlines_ret hs) ?_|fail
 rintro _ h2 n2 ⟨lv,rfl,ol,t2⟩
 have hn2:=t2.le;have c2:Cel h2 n zFn 0 zF5:=Cel.tch zH t2 (by omega) (by simp);have u2:Tch [] h n h2 n2:=zA;have rl:=ol.row (by decide);have ol1:=ol.one;have hll:(Vir.linesR s).1.length<100001:=by have:=(linesR_le s).1;omega
 have hlt:∀x∈(Vir.linesR s).1,x.length<100000:=fun x hx=>by have:=(linesR_le s).2 x hx;omega
 clear t2 ol hrd;generalize (Vir.linesR s).2=w at *
 generalize (Vir.linesR s).1=ls at *
 repeat' first|refine wk ?_|refine cX (fun _=>?_) fun _=>?_|fail
 refine lpR (fun i:Nat=>[(0,str s),(2,ptr n 0),(5,lv),(6,.bool w),(7,ptr n2 0),(8,I64 (i:Nat))]) (LpI n n2 h2 w ls (Vir.runR w ls 0 Vir.Fct.z)) (fun i=>ls.length - i) 0 ⟨zA,by omega,Nat.zero_le _,F0,n2+1,⟨by omega,by omega,zH,Own.nil,Own.nil,Own.nil,fun x hx=>(by cases hx),fun x hx=>(by cases hx),fun x hx=>(by cases hx),by decide,fun x hx=>(by cases hx)⟩,rfl⟩ ?_
 rintro i t h' n' ⟨t',hle,hil,F,nb,R,hr⟩
 have g2:Cel h' n zFn 0 zF5:=c2.tch t' (by omega) (by simp);have rl':=rl.tch t' (Nat.le_refl _) (by simp);have hlt':=R.lt;have hnn:=R.nn;have c:=R.ce;have o1:=R.vr.one;have o2:=R.pr.one;have o3:=R.bv.one;have u':Tch [] h n h' n':=Tch.tch t' u2 (by simp);by_cases hi:i<ls.length
 rotate_left
 · obtain rfl:i=ls.length:=by omega
   rw[List.drop_length]at hr
   as_aux_lemma=>
   repeat' first|refine wk ?_|refine cX (fun _=>?_) fun _=>?_|refine ob (a:=_) ?_ (zQ (by apply zE;((conv=>lhs;whnf) <;> exact rfl)) (by decide) (by repeat' first|exact zT|(apply zN;focus (apply Cel.cell;(focus exact zC);exact rfl))) (by repeat' first|exact yB|(apply yC;(focus (apply zE;((conv=>lhs;whnf) <;> exact rfl))))))|fail
   exact⟨_,rfl,F0,_,3,rfl,hr,funQ_0,zA⟩
 have c0:ls[i]? = some ls[i]:=List.getElem?_eq_getElem hi;have ht:=hlt _ (List.getElem_mem hi);rw [List.drop_eq_getElem_cons hi]at hr;have low:=rl'.low (by omega);generalize ls[i]=a at *
 have c1:zD h' (sbk lv) (sof lv+i*1)=some (str a):=by rw[Nat.mul_one];exact rl'.at (by rw[List.getElem?_map,c0];rfl)
 have hre:ls.drop (i+1)=[]↔i+1=ls.length:=by rw[List.drop_eq_nil_iff];omega
 repeat' first|refine cut_seq (c:=.region 15 _ _) (α :=Bool) (fun z=>[(0,str s),(2,ptr n 0),(5,lv),(6,.bool w),(7,ptr n2 0),(8,I64 (i:Nat)),(9,I64 0),(66,.bool z)]) (fun z h9 n9=>(z=true↔(w=false∧i+1=ls.length))∧h'=h9∧n'=n9) ?_ ?_|refine wk ?_|refine cX (fun _=>?_) fun _=>?_|fail
 · rename_i e1;exact⟨decide ((i:Int)=(ls.length:Nat) - 1),by repeat' first|exact trivial|refine⟨rfl,?_⟩,⟨fun h=>⟨e1,(by have:=of_decide_eq_true h;omega)⟩,fun h=>decide_eq_true (by omega)⟩,rfl,rfl⟩
 · rename_i e1;exact⟨false,by repeat' first|exact trivial|refine⟨rfl,?_⟩,⟨fun h=>(by cases h),fun h=>(by rw[e1]at h;cases h.1)⟩,rfl,rfl⟩
 rintro z t h9 n9 ⟨hz,e1,e2⟩
 subst e1 e2;by_cases hA:w=false∧ls.drop (i+1)=[]
 · rw[run_a hA]at hr;obtain rfl:=hz.2 ⟨hA.1,hre.1 hA.2⟩
   as_aux_lemma=>
   repeat' first|refine wk ?_|refine cX (fun _=>?_) fun _=>?_|refine ob (a:=_) ?_ (zQ (by apply zE;((conv=>lhs;whnf) <;> exact rfl)) (by decide) (by repeat' first|exact zT|(apply zN;focus (apply Cel.cell;(focus exact zC);exact rfl))) (by repeat' first|exact yB|(apply yC;(focus (apply zE;((conv=>lhs;whnf) <;> exact rfl))))))|fail
   exact⟨_,rfl,F0,_,3,rfl,hr,funQ_0,zA⟩
 have hA2:w=false→i+1≠ls.length:=fun e1 e2=>hA ⟨e1,hre.2 e2⟩
 obtain rfl:z=false:=by
  cases z with
  | false=>rfl
  | true=>exact absurd (hz.1 rfl).2 (hA2 (hz.1 rfl).1)
 clear hz;by_cases h4:i<4
 · obtain⟨b1,b2⟩:=run_b (f:=toF F) (a:=a) hA h4
   as_aux_lemma=>
   repeat' first|refine wk ?_|refine cX (fun _=>?_) fun _=>?_|refine uW (rhead_ret h4 R ht) ?_|fail
   rintro _ h3 n3 ⟨e,rfl,t3,⟨he,r3⟩|⟨rfl,F',r3,eb,R3⟩⟩
   · have hn3:=t3.le;have u3:=uG u' t3 (by simp;omega);have g3:Cel h3 n zFn 0 zF5:=g2.tch t3 (by omega) (by simp;omega);clear t3;repeat' first|refine wk ?_|refine cX (fun _=>?_) fun _=>?_|refine ob (a:=_) ?_ (zQ (by apply zE;((conv=>lhs;whnf) <;> exact rfl)) (by decide) (by repeat' first|exact zT|(apply zN;focus (apply Cel.cell;(focus exact zC);exact rfl))) (by repeat' first|exact yB|(apply yC;(focus (apply zE;((conv=>lhs;whnf) <;> exact rfl))))))|fail
     exact⟨_,rfl,F0,_,e,rfl,hr.trans (b1 e r3),funQ_0,zA⟩
   · have t4:=uG t' t3 (by simp);have hn3:=t3.le;clear t3;repeat' first|refine wk ?_|refine cX (fun _=>?_) fun _=>?_|fail
     exact rnd (i+1) ⟨t4,by omega,hi,_,_,R3,hr.trans (b2 _ r3)⟩
 by_cases h5:a=[101,110,100]
 · rw[run_c hA h4 h5]at hr;by_cases hz:i+1=ls.length
   · rw[if_pos (hre.2 hz)]at hr;have hz2:¬((i:Int)+1<(ls.length:Nat)):=by omega
     obtain rfl:w=true:=(Bool.eq_false_or_eq_true w).resolve_right fun e=>hA2 e hz
     as_aux_lemma=>
     repeat' first|refine wk ?_|refine cX (fun _=>?_) fun _=>?_|refine ob (a:=_) ?_ (zQ (by apply zE;((conv=>lhs;whnf) <;> exact rfl)) (by decide) (by repeat' first|exact zT|(apply zN;focus (apply Cel.cell;(focus exact zC);exact rfl))) (by repeat' first|exact yB|(apply yC;(focus (apply zE;((conv=>lhs;whnf) <;> exact rfl))))))|fail
     exact⟨_,rfl,F,0,0,rfl,hr,R.q2 (x:=n) zA (by omega) g2,zA⟩
   · rw[if_neg fun e=>hz (hre.1 e)]at hr;have hz2:(i:Int)+1<(ls.length:Nat):=by omega
     as_aux_lemma=>
     repeat' first|refine wk ?_|refine cX (fun _=>?_) fun _=>?_|refine ob (a:=_) ?_ (zQ (by apply zE;((conv=>lhs;whnf) <;> exact rfl)) (by decide) (by repeat' first|exact zT|(apply zN;focus (apply Cel.cell;(focus exact zC);exact rfl))) (by repeat' first|exact yB|(apply yC;(focus (apply zE;((conv=>lhs;whnf) <;> exact rfl))))))|fail
     exact⟨_,rfl,F0,_,3,rfl,hr,funQ_0,zA⟩
 by_cases h6:a=[98,108,111,99,107]
 · rw[run_d hA h4 h5 h6]at hr;have ob1':Own (n2+1) n' h' F.bv tBk 1 F.blocks.length (F.blocks.map (·.1)):=R.bv.keep hnn fun _ _=>rfl;have rr:=ob1'.row (by decide);have hbl:=R.bl;have e7:(toF F).blocks.length=F.blocks.length:=by simp
   rw[e7]at hr
   as_aux_lemma=>
   repeat' first|refine wk ?_|refine cX (fun _=>?_) fun _=>?_|fail
   all_goals
    rename_i f1;refine appO (ob1'.tch (S:=[]) zA (by simp)) (yA (e:=tBk) (sz:=1) (len:=1) rfl (by decide)) (by omega) ⟨rfl,trivial⟩ (by omega) ?_
    rintro v h3 n3 ho3 ht3
    have hn3:=ht3.le;have o4:=ho3.one;have low4:=xY ob1';have d3:Cel h3 n2 zFn 0 [str F.name,F.vv,F.pv,str F.result,F.bv]:=Cel.tch zC ht3 (by omega) (vU ob1' (by omega));have g3:Cel h3 n zFn 0 zF5:=Cel.tch zC ht3 (by omega) (vU ob1' (by omega));have t3:Tch (yE F.bv).toList h' n' h3 n3:=Tch.tch ht3 zA fun x hx=>.inr hx;have u3:Tch [] h n h3 n3:=uG u' t3 fun x hx=>by have:=low4 x hx;omega
    have v3:Tch [] h2 n2 h3 n3:=uG t' t3 fun x hx=>by have:=low4 x hx;omega
    clear ht3
   · rw[if_neg (by omega)]at hr;repeat' first|refine wk ?_|refine cX (fun _=>?_) fun _=>?_|refine ob (a:=_) ?_ (zQ (by apply zE;((conv=>lhs;whnf) <;> exact rfl)) (by decide) (by repeat' first|exact zT|(apply zN;focus (apply Cel.cell;(focus exact zC);exact rfl))) (by repeat' first|exact yB|(apply yC;(focus (apply zE;((conv=>lhs;whnf) <;> exact rfl))))))|fail
     exact⟨_,rfl,F0,_,2,rfl,hr,funQ_0,zA⟩
   · rw[if_pos (by omega)]at hr;repeat' first|refine wk ?_|refine cX (fun _=>?_) fun _=>?_|fail
     obtain⟨_,R'⟩:=R.addB ho3 t3 (by omega) zH;exact rnd (i+1) ⟨zA,by omega,hi,_,_,R',by rw[hr];congr 2;simp⟩
 by_cases h71:a.length<3
 · rw[run_e hA h4 h5 h6 (.inl h71)]at hr
   as_aux_lemma=>
   repeat' first|refine wk ?_|refine cX (fun _=>?_) fun _=>?_|refine ob (a:=_) ?_ (zQ (by apply zE;((conv=>lhs;whnf) <;> exact rfl)) (by decide) (by repeat' first|exact zT|(apply zN;focus (apply Cel.cell;(focus exact zC);exact rfl))) (by repeat' first|exact yB|(apply yC;(focus (apply zE;((conv=>lhs;whnf) <;> exact rfl))))))|fail
   exact⟨_,rfl,F0,_,3,rfl,hr,funQ_0,zA⟩
 have ec:yZ P h' 9 (str a) none (some (I64 2)) none=some (str (a.take 2)):=txt_to (j:=2) (by omega);by_cases h72:a.take 2≠[32,32]
 · rw[run_e hA h4 h5 h6 (.inr (.inl h72))]at hr
   as_aux_lemma=>
   repeat' first|refine wk ?_|refine cX (fun _=>?_) fun _=>?_|refine ob (a:=str (a.take 2)) ?_ ec|refine ob (a:=_) ?_ (zQ (by apply zE;((conv=>lhs;whnf) <;> exact rfl)) (by decide) (by repeat' first|exact zT|(apply zN;focus (apply Cel.cell;(focus exact zC);exact rfl))) (by repeat' first|exact yB|(apply yC;(focus (apply zE;((conv=>lhs;whnf) <;> exact rfl))))))|fail
   exact⟨_,rfl,F0,_,3,rfl,hr,funQ_0,zA⟩
 have ob1':Own (n2+1) n' h' F.bv tBk 1 F.blocks.length (F.blocks.map (·.1)):=R.bv.keep hnn fun _ _=>rfl;have rr:=ob1'.row (by decide);have hbl:=R.bl;by_cases h73:F.blocks=[]
 · rw[run_e hA h4 h5 h6 (.inr (.inr (by simp[h73])))]at hr;have hl0:((F.blocks.length:Nat):Int)=0:=by rw[h73];rfl
   as_aux_lemma=>
   repeat' first|refine wk ?_|refine cX (fun _=>?_) fun _=>?_|refine ob (a:=str (a.take 2)) ?_ ec|refine ob (a:=_) ?_ (zQ (by apply zE;((conv=>lhs;whnf) <;> exact rfl)) (by decide) (by repeat' first|exact zT|(apply zN;focus (apply Cel.cell;(focus exact zC);exact rfl))) (by repeat' first|exact yB|(apply yC;(focus (apply zE;((conv=>lhs;whnf) <;> exact rfl))))))|fail
   exact⟨_,rfl,F0,_,3,rfl,hr,funQ_0,zA⟩
 obtain⟨f1,f2⟩:=run_f (f:=toF F) hA h4 h5 h6 (by
  rintro (h9|h9|h9)
  · exact h71 h9
  · exact h72 h9
  · exact h73 (by simpa using h9))
 have ec2:yZ P h' 9 (str a) (some (I64 2)) none none=some (str (a.drop 2)):=txt_from (i:=2) (by omega);have hl0:¬((F.blocks.length:Nat):Int)=0:=by have:=List.length_pos_iff.2 h73;omega
 rcases List.eq_nil_or_concat F.blocks with e9|⟨l,⟨lv2,il⟩,e9⟩
 · exact absurd e9 h73
 rw[List.concat_eq_append]at e9;have hlast:F.blocks.getLast? = some (lv2,il):=by rw[e9];simp
 have hlen:F.blocks.length=l.length+1:=by rw[e9];simp
 have hil:il.length≤400:=R.el (lv2,il) (by rw[e9];simp);have hg:((toF F).blocks.getLastD []).length=il.length:=by show((F.blocks.map fun x=>x.2.map toI).getLastD []).length=_;rw [e9];simp
 rw[hg]at f2;obtain⟨bb,hbv,hb1,hb2⟩:=own_head ob1' (by omega);have htd:(a.drop 2).length<100000:=by rw[List.length_drop];omega
 as_aux_lemma=>
 repeat' first|refine wk ?_|refine cX (fun _=>?_) fun _=>?_|refine ob (a:=str (a.take 2)) ?_ ec|refine ob (a:=str (a.drop 2)) ?_ ec2|refine uW (uV htd) ?_|fail
 rintro sv3 h3 n3 ⟨ow3,t3⟩
 have hn3:=t3.le;have w3:=ws_of ow3 htd;have hne3:=wR 32 (a.drop 2);have R3:=R.tch t3;have u3:Tch [] h n h3 n3:=uG u' t3 (by simp);have v3:Tch [] h2 n2 h3 n3:=uG t' t3 (by simp);have g3:Cel h3 n zFn 0 zF5:=g2.tch t3 (by omega) (by simp);have os3:=ow3.one;clear t3 ow3;generalize zO 32 (a.drop 2)=ws at *
 clear hlt hre hA h73 hA2 hl0 c2 u2 rl h71 h4 hl hs;repeat' first|refine wk ?_|refine cX (fun _=>?_) fun _=>?_|refine uW (rins_ret w3 hne3 (Nat.le_refl _)) ?_|fail
 rintro _ h4' n4 ⟨x,y,rfl,t4,ox,hy⟩
 have hn4:=t4.le;have R4:=R3.tch t4;have u4:Tch [] h n h4' n4:=uG u3 t4 (by simp);have v4:Tch [] h2 n2 h4' n4:=uG v3 t4 (by simp);have g4:Cel h4' n zFn 0 zF5:=g3.tch t4 (by omega) (by simp);have ox1:=ox.one;have c4:=R4.ce;have obs:=R4.bv;have ol2:=R4.las (lv2,il) hlast;dsimp only at ol2;have rl2:=ol2.row (by decide);have ol21:=ol2.one
 have hcl:zD h4' bb (0+l.length*1)=some lv2:=by
  have:=(obs.row (by decide)).at (i:=l.length) (x:=lv2) (by rw[e9];simp);rw [hbv]at this;simpa [sbk,sof] using this
 rw[hbv,hlen]at c4 obs;clear t4;have iad:Iad 1 (.slice (some ⟨bb,0,none⟩) (l.length+1) inf) (I64 (((l.length+1:Nat):Int) - 1)) (ptr bb (0+l.length*1)):=⟨bb,0,l.length+1,inf,.i64,l.length,rfl,by rw[show(((l.length+1:Nat):Int) - 1)=(l.length:Nat) by omega];rfl,by omega,by simp⟩;by_cases hy0:y=0
 · subst hy0
   obtain hins:Vir.insR ws = .ok (toI x):=by
    rcases hy with⟨_,h9⟩|⟨h9,_⟩
    · exact h9
    · exact absurd rfl h9
   have hr:=hr.trans (f2 _ hins);have l2:x.args.length≤16:=insR_args hins;have nb4:=R4.nn;by_cases h400:il.length<400
   · rw[if_pos h400]at hr;repeat' first|refine wk ?_|refine cX (fun _=>?_) fun _=>?_|refine ob (a:=ptr bb (0+l.length*1)) ?_ iad|fail
     refine appO (ol2.tch (S:=[]) zA (by simp)) (yA (e:=tIn) (sz:=9) (len:=1) rfl (by decide)) (by omega) ⟨rfl,rfl,rfl,rfl,rfl,rfl,ox1,rfl,rfl,trivial⟩ (by omega) ?_
     rintro v h5 n5 ho5 ht5
     have hn5:=ht5.le;have ov:=ho5.one;have low5:=xY ol2;have tB:Tch (yE lv2).toList h4' n4 h5 n5:=Tch.tch ht5 zA fun x hx=>.inr hx;have u5:Tch [] h n h5 n5:=uG u4 tB fun x hx=>by have:=low5 x hx;omega
     have v5:Tch [] h2 n2 h5 n5:=uG v4 tB fun x hx=>by have:=low5 x hx;omega
     have g5:Cel h5 n zFn 0 zF5:=g4.tch tB (by omega) (vU ol2 (by omega));have c5:Cel h5 n2 zFn 0 [str F.name,F.vv,F.pv,str F.result,.slice (some ⟨bb,0,none⟩) (l.length+1) inf]:=c4.tch tB (by omega) (vU ol2 (by omega))
     have st5:StP h5 (ptr bb (0+l.length*1)) [v] (hst h5 bb l.length [v]):=by
      have tn:Tch [] h4' nb h5 nb:=⟨Nat.le_refl _,fun b hb _=>tB.2 b (by omega) fun hx=>by have:=low5 b hx;omega⟩;have:=stp_own (obs.tch tn (by simp)) rfl (i:=l.length) (x:=v) (by rw[List.length_map,hlen];omega) ov;simpa using this
     clear ht5;repeat' first|refine wk ?_|refine cX (fun _=>?_) fun _=>?_|refine ob (a:=ptr bb (0+l.length*1)) ?_ iad|refine ob (a:=hst h5 bb l.length [v]) ?_ st5|fail
     obtain⟨t7,R7⟩:=R4.addI (i:=x) e9 (hbv.trans (by rw[hlen])) ho5 tB (by omega) (own_dn ox (by omega)) l2;exact rnd (i+1) ⟨zA,by omega,hi,_,_,R7,by rw[hr];congr 2;show Vir.addIns (F.blocks.map fun x=>x.2.map toI) (toI x)=_;rw [e9];simp [Vir.addIns]⟩
   · rw[if_neg h400]at hr;repeat' first|refine wk ?_|refine cX (fun _=>?_) fun _=>?_|refine ob (a:=ptr bb (0+l.length*1)) ?_ iad|fail
     refine appO (ol2.tch (S:=[]) zA (by simp)) (yA (e:=tIn) (sz:=9) (len:=1) rfl (by decide)) (by omega) ⟨rfl,rfl,rfl,rfl,rfl,rfl,ox1,rfl,rfl,trivial⟩ (by omega) ?_
     rintro v h5 n5 ho5 ht5
     have hn5:=ht5.le;have ov:=ho5.one;have low5:=xY ol2;have tB:Tch (yE lv2).toList h4' n4 h5 n5:=Tch.tch ht5 zA fun x hx=>.inr hx;have u5:Tch [] h n h5 n5:=uG u4 tB fun x hx=>by have:=low5 x hx;omega
     have v5:Tch [] h2 n2 h5 n5:=uG v4 tB fun x hx=>by have:=low5 x hx;omega
     have g5:Cel h5 n zFn 0 zF5:=g4.tch tB (by omega) (vU ol2 (by omega));have c5:Cel h5 n2 zFn 0 [str F.name,F.vv,F.pv,str F.result,.slice (some ⟨bb,0,none⟩) (l.length+1) inf]:=c4.tch tB (by omega) (vU ol2 (by omega))
     have st5:StP h5 (ptr bb (0+l.length*1)) [v] (hst h5 bb l.length [v]):=by
      have tn:Tch [] h4' nb h5 nb:=⟨Nat.le_refl _,fun b hb _=>tB.2 b (by omega) fun hx=>by have:=low5 b hx;omega⟩;have:=stp_own (obs.tch tn (by simp)) rfl (i:=l.length) (x:=v) (by rw[List.length_map,hlen];omega) ov;simpa using this
     clear ht5;repeat' first|refine wk ?_|refine cX (fun _=>?_) fun _=>?_|refine ob (a:=ptr bb (0+l.length*1)) ?_ iad|refine ob (a:=hst h5 bb l.length [v]) ?_ st5|refine ob (a:=_) ?_ (zQ (by apply zE;((conv=>lhs;whnf) <;> exact rfl)) (by decide) (by repeat' first|exact zT|(apply zN;focus (apply Cel.cell;(focus exact zC);exact rfl))) (by repeat' first|exact yB|(apply yC;(focus (apply zE;((conv=>lhs;whnf) <;> exact rfl))))))|fail
     exact⟨_,rfl,F0,_,2,rfl,hr,funQ_0,zA⟩
 · obtain hins:Vir.insR ws = .error y:=by
    rcases hy with⟨h9,_⟩|⟨_,h9⟩
    · exact absurd h9 hy0
    · exact h9
   have hr:=hr.trans (f1 _ hins);have nb4:=R4.nn;repeat' first|refine wk ?_|refine cX (fun _=>?_) fun _=>?_|refine ob (a:=ptr bb (0+l.length*1)) ?_ iad|fail
   refine appO (ol2.tch (S:=[]) zA (by simp)) (yA (e:=tIn) (sz:=9) (len:=1) rfl (by decide)) (by omega) ⟨rfl,rfl,rfl,rfl,rfl,rfl,ox1,rfl,rfl,trivial⟩ (by omega) ?_
   rintro v h5 n5 ho5 ht5
   have hn5:=ht5.le;have ov:=ho5.one;have low5:=xY ol2;have tB:Tch (yE lv2).toList h4' n4 h5 n5:=Tch.tch ht5 zA fun x hx=>.inr hx;have u5:Tch [] h n h5 n5:=uG u4 tB fun x hx=>by have:=low5 x hx;omega
   have v5:Tch [] h2 n2 h5 n5:=uG v4 tB fun x hx=>by have:=low5 x hx;omega
   have g5:Cel h5 n zFn 0 zF5:=g4.tch tB (by omega) (vU ol2 (by omega));have c5:Cel h5 n2 zFn 0 [str F.name,F.vv,F.pv,str F.result,.slice (some ⟨bb,0,none⟩) (l.length+1) inf]:=c4.tch tB (by omega) (vU ol2 (by omega))
   have st5:StP h5 (ptr bb (0+l.length*1)) [v] (hst h5 bb l.length [v]):=by
    have tn:Tch [] h4' nb h5 nb:=⟨Nat.le_refl _,fun b hb _=>tB.2 b (by omega) fun hx=>by have:=low5 b hx;omega⟩;have:=stp_own (obs.tch tn (by simp)) rfl (i:=l.length) (x:=v) (by rw[List.length_map,hlen];omega) ov;simpa using this
   clear ht5;repeat' first|refine wk ?_|refine cX (fun _=>?_) fun _=>?_|refine ob (a:=ptr bb (0+l.length*1)) ?_ iad|refine ob (a:=hst h5 bb l.length [v]) ?_ st5|refine ob (a:=_) ?_ (zQ (by apply zE;((conv=>lhs;whnf) <;> exact rfl)) (by decide) (by repeat' first|exact zT|(apply zN;focus (apply Cel.cell;(focus exact zC);exact rfl))) (by repeat' first|exact yB|(apply yC;(focus (apply zE;((conv=>lhs;whnf) <;> exact rfl))))))|fail
   exact⟨_,rfl,F0,_,y,rfl,hr,funQ_0,zA⟩
end Go.Proofs.YtdipdkkpgjdnkaaGreatDoor
