/- What the law leans on: an executor of the model that is sound, deduction over it, and the walks through the code (part 19 of 24). Conditions: those that each theorem states. -/
import Derived.Test.YtdipdkkpgjdnkaaGreatDoorVirLinesx15
import Derived.Test.YtdipdkkpgjdnkaaGreatDoorVirLinesx16

set_option linter.unusedVariables false
set_option linter.unusedSimpArgs false
namespace Go.Proofs.YtdipdkkpgjdnkaaGreatDoor
open Go Go.Ex Go.Ex.M
set_option maxRecDepth 100000
set_option maxHeartbeats 8000000
variable {n bw:Nat} {h:zB} {ws:List Tx}
abbrev wrC(e:Int):zJ:=[⟨.iface 104 (.agg ⟨[I64 e]⟩),false,false⟩]
theorem vneed_com(z:Bool)(e:Int)(h:zB)(n:Nat):Com P 8 50 [.bool z,I64 e] h n fun o h' n'=>o=(if z then .ret (.tuple #[]) else .panic (wrC e))∧h'=h∧n'=n:=by
 refine ent fun u=>?_;cases z
 · repeat' first|refine wk ?_|refine cX (fun _=>?_) fun _=>?_|fail
   exact⟨rfl,rfl,rfl⟩
 · repeat' first|refine wk ?_|refine cX (fun _=>?_) fun _=>?_|fail
   exact⟨rfl,rfl,rfl⟩
instance {z:Bool} {e:Int} {h:zB} {n:Nat} {K:Out→zB→Nat→Prop}:Stp (CallB P 8 50 [.bool z,I64 e] h n K) (Ch z (K (.ret (.tuple #[])) h n) (K (.panic (wrC e)) h n)):=⟨fun⟨k1,k2⟩=>cal (vneed_com z e h n) fun o h' n' ⟨e1,e2,e3⟩=>by
 subst e1 e2 e3;cases z
 · exact k2 rfl
 · exact k1 rfl⟩
structure WdM (n bw:Nat) (h:zB) (ws:List Tx) (sv:Value):Prop where
 lt:bw<n
 ce:Cel h bw (102+1) 0 [sv]
 ro:Row bw h sv 9 1 ws.length (ws.map str)
 sm:ws.length<1000000
 tl:∀x∈ws,x.length<1000000
 hi:∀b,yE sv=some b→b+1=bw
theorem WdM.tch{S:List Nat}{sv:Value}{h':zB}{n':Nat}(w:WdM n bw h ws sv)(t:Tch S h n h' n')(hS:∀x∈S,x≠bw∧x+1≠bw):WdM n' bw h' ws sv:=
 ⟨Nat.lt_of_lt_of_le w.lt t.1,w.ce.tch t w.lt fun hx=>by have:=hS _ hx;omega,w.ro.tch t (Nat.le_of_lt w.lt) fun b hb hx=>by(have:=hS _ hx;have:=w.hi b hb;omega),w.sm,w.tl,w.hi⟩
def WO{α : Type}(bw:Nat)(r:Vir.Res α)(enc: α→Value→Prop)(h:zB)(n:Nat)(o:Out)(h':zB)(n':Nat):Prop:=
 Tch [bw] h n h' n'∧((∃e,r = .error e∧o = .panic (wrC e))∨∃a ws' sv v,r = .ok (a,ws')∧o = .ret v∧enc a v∧WdM n' bw h' ws' sv)
theorem len_com{sv:Value}(w:WdM n bw h ws sv):Pur P 8 70 [ptr bw 0] h n (I64 (ws.length:Nat)):=by
 have c:=w.ce;have r:=w.ro;refine ent fun u=>?_;repeat' first|refine wk ?_|refine cX (fun _=>?_) fun _=>?_|fail
 exact fin rfl
theorem nil_or(ws:List Tx):ws.length=0∨∃s q,ws=s::q:=by
 cases ws with
 | nil=>exact .inl rfl
 | cons s q=>exact .inr ⟨s,q,rfl⟩
theorem next_com{sv:Value}(w:WdM n bw h ws sv):Com P 8 69 [ptr bw 0] h n (WO bw (Vir.nextW ws) (fun s v=>v=str s) h n):=by
 have c:=w.ce;have r:=w.ro;have hb:=w.lt;have hsm:=w.sm;refine ent fun u=>?_;rcases nil_or ws with hz|⟨s,q,rfl⟩
 · repeat' first|refine wk ?_|refine cX (fun _=>?_) fun _=>?_|fail
   obtain rfl:=List.length_eq_zero_iff.1 hz;exact⟨zA,.inl ⟨3,rfl,rfl⟩⟩
 · have c0:(s::q)[0]? = some s:=rfl;have c1:=xX r c0;have hp:0<(s::q).length:=by simp
   obtain⟨hu,ei,hi,hsz⟩:=SlC.get (P:=P) (ty:=22) inferInstance;obtain⟨v',e1,r',eb⟩:=slice_from (k:=.i64) (i:=1) hu hi hsz r (by simp);have e2:yZ P h 22 sv (some (I64 1)) none none=some v':=e1;have lv:=r'.one;have lr:=r.low hp;repeat' first|refine wk ?_|refine cX (fun _=>?_) fun _=>?_|refine ob (a:=_) ?_ e2|fail
   refine⟨zA,.inr ⟨s,q,v',str s,rfl,rfl,rfl,by omega,zH,?_,?_,fun x hx=>w.tl x (List.mem_cons_of_mem _ hx),fun b hb'=>w.hi b (eb ▸ hb')⟩⟩
   · exact Row.tch (n:=bw) (n':=bw) (S:=[]) r' ⟨Nat.le_refl _,fun b hb _=>by rw[yL,if_neg (by omega)]⟩ (Nat.le_refl _) (by simp)
   · simp only[List.length_cons]at hsm;omega
end Go.Proofs.YtdipdkkpgjdnkaaGreatDoor
namespace Go.Proofs.YtdipdkkpgjdnkaaGreatDoor
open Go Go.Ex Go.Ex.M
set_option maxRecDepth 100000
set_option maxHeartbeats 8000000
variable {n bw:Nat} {h:zB} {ws:List Tx} {sv:Value} {m:Int}
theorem wantW_of{x:Tx}{r:Vir.Res Tx}(e:Vir.nextW ws=r):Vir.wantW x ws=(match r with
 | .error e=>.error e
 | .ok (s,q)=>if s == x then .ok ((),q) else .error 3):=by
 subst e;cases ws <;> rfl
theorem nameW_of{r:Vir.Res Tx}(e:Vir.nextW ws=r):Vir.nameW ws=(match r with
 | .error e=>.error e
 | .ok (s,q)=>if Vir.named s then .ok (s,q) else .error 3):=by
 subst e;cases ws <;> rfl
theorem anyW_of{r:Vir.Res Tx}(e:Vir.nextW ws=r):Vir.anyW ws=(match r with
 | .error e=>.error e
 | .ok (s,q)=>match Vir.anyOf s with
  | some v=>.ok (v,q)
  | none=>.error 3):=by
 subst e;cases ws <;> rfl
theorem want_com{x:Tx}(w:WdM n bw h ws sv):Com P 8 46 [ptr bw 0,str x] h n (WO bw (Vir.wantW x ws) (fun _ v=>v = .tuple #[]) h n):=by
 have hb:=w.lt;refine ent fun u=>?_;repeat' first|refine wk ?_|refine cX (fun _=>?_) fun _=>?_|refine cal (next_com w) ?_|fail
 rintro _ h' n' ⟨t,⟨e,r,rfl⟩|⟨s,ws',sv',_,r,rfl,rfl,w'⟩⟩
 · have r2:=wantW_of (x:=x) r;repeat' first|refine wk ?_|refine cX (fun _=>?_) fun _=>?_|fail
   exact⟨zA,.inl ⟨e,r2,rfl⟩⟩
 · have r2:=wantW_of (x:=x) r;repeat' first|refine wk ?_|refine cX (fun _=>?_) fun _=>?_|fail
   · rename_i h1;exact⟨zA,.inr ⟨(),ws',sv',_,r2.trans (by simp[h1]),rfl,rfl,w'⟩⟩
   · rename_i h1;exact⟨zA,.inl ⟨3,r2.trans (by simp[h1]),rfl⟩⟩
theorem name_com(w:WdM n bw h ws sv):Com P 8 47 [ptr bw 0] h n (WO bw (Vir.nameW ws) (fun s v=>v=str s) h n):=by
 have hb:=w.lt;refine ent fun u=>?_;repeat' first|refine wk ?_|refine cX (fun _=>?_) fun _=>?_|refine cal (next_com w) ?_|fail
 rintro _ h' n' ⟨t,⟨e,r,rfl⟩|⟨s,ws',sv',_,r,rfl,rfl,w'⟩⟩
 · have r2:=nameW_of r;repeat' first|refine wk ?_|refine cX (fun _=>?_) fun _=>?_|fail
   exact⟨zA,.inl ⟨e,r2,rfl⟩⟩
 · have r2:=nameW_of r;repeat' first|refine wk ?_|refine cX (fun _=>?_) fun _=>?_|fail
   · rename_i h1;exact⟨zA,.inr ⟨s,ws',sv',_,r2.trans (by simp[h1]),rfl,rfl,w'⟩⟩
   · rename_i h1;exact⟨zA,.inl ⟨3,r2.trans (by simp[h1]),rfl⟩⟩
theorem end_com(w:WdM n bw h ws sv):Com P 8 48 [ptr bw 0] h n (WO bw (Vir.endW ws) (fun _ v=>v = .tuple #[]) h n):=by
 have c:=w.ce;have r:=w.ro;have hb:=w.lt;have hsm:=w.sm;refine ent fun u=>?_;repeat' first|refine wk ?_|refine cX (fun _=>?_) fun _=>?_|fail
 · rename_i h1;obtain rfl:ws=[]:=List.length_eq_zero_iff.1 (by omega);exact⟨zA,.inr ⟨(),[],sv,_,rfl,rfl,rfl,w⟩⟩
 · rename_i h1;rcases nil_or ws with hz|⟨s,q,rfl⟩
   · omega
   · exact⟨zA,.inl ⟨3,rfl,rfl⟩⟩
theorem peek_com(w:WdM n bw h ws sv):Pur P 8 72 [ptr bw 0,I64 1] h n (str (Vir.wordAt1 ws)):=by
 have c:=w.ce;have r:=w.ro;have hb:=w.lt;have hsm:=w.sm;refine ent fun u=>?_;by_cases hl:1<ws.length
 · have c0:ws[1]? = some ws[1]:=List.getElem?_eq_getElem hl;have c1:=xX r c0;have hx:Vir.wordAt1 ws=ws[1]:=by unfold Vir.wordAt1;rw [c0];rfl
   rw[hx];repeat' first|refine wk ?_|refine cX (fun _=>?_) fun _=>?_|fail
   exact fin rfl
 · have hx:Vir.wordAt1 ws=[]:=by unfold Vir.wordAt1;rw [List.getElem?_eq_none (by omega)];rfl
   rw[hx];repeat' first|refine wk ?_|refine cX (fun _=>?_) fun _=>?_|fail
   exact fin rfl
end Go.Proofs.YtdipdkkpgjdnkaaGreatDoor
namespace Go.Proofs.YtdipdkkpgjdnkaaGreatDoor
open Go Go.Ex Go.Ex.M
set_option maxRecDepth 100000
set_option maxHeartbeats 8000000
variable {n bw:Nat} {h:zB} {ws:List Tx} {sv:Value} {m:Int}
theorem err_nil{ox:Operand}{v:Value}:Bn P .eql 51 ox (.const v) .nilIface .nilIface (.bool true):=by
 obtain⟨m,e⟩:=IfC.get (P:=P) (ty:=51) ⟨by kernel_rfl⟩
 show(match BinOp.eql,und P 51 with
  | .eql,some d=>cond (zS ox (.const v) .nilIface .nilIface) ((wH d .nilIface .nilIface).map Value.bool) none
  | .neq,some d=>cond (zS ox (.const v) .nilIface .nilIface) ((wH d .nilIface .nilIface).map fun b=>Value.bool (!b)) none
  | _,_=>none:Option Value)=_
 rw[e];show cond (isConst ox || isConst (.const v)) _ none=_;cases isConst ox <;> rfl
theorem err_not{ox oy:Operand}{t0:Nat}{v:Value}:Bn P .eql 51 ox oy (.iface t0 v) .nilIface (.bool false):=by
 obtain⟨m,e⟩:=IfC.get (P:=P) (ty:=51) ⟨by kernel_rfl⟩
 show(match BinOp.eql,und P 51 with
  | .eql,some d=>cond (zS ox oy (.iface t0 v) .nilIface) ((wH d (.iface t0 v) .nilIface).map Value.bool) none
  | .neq,some d=>cond (zS ox oy (.iface t0 v) .nilIface) ((wH d (.iface t0 v) .nilIface).map fun b=>Value.bool (!b)) none
  | _,_=>none:Option Value)=_
 rw[e];rfl
theorem any_com(w:WdM n bw h ws sv)(hE:Env m h)(hg:8≤bw):Com P 8 71 [ptr bw 0] h n (WO bw (Vir.anyW ws) (fun a v=>v=I64 a∧-9223372036854775808≤a∧a≤9223372036854775807) h n):=by
 have hb:=w.lt;refine ent fun u=>?_;repeat' first|refine wk ?_|refine cX (fun _=>?_) fun _=>?_|refine cal (next_com w) ?_|fail
 rintro _ h' n' ⟨t,⟨e,r,rfl⟩|⟨s,ws',sv',_,r,rfl,rfl,w'⟩⟩
 · have r2:=anyW_of r;repeat' first|refine wk ?_|refine cX (fun _=>?_) fun _=>?_|fail
   exact⟨zA,.inl ⟨e,r2,rfl⟩⟩
 · have r2:=anyW_of r;have hE':Env m h':=hE.tch t (by omega) (by simp;omega)
   have hs:s.length≤1000000:=by
    cases ws with
    | nil=>cases r
    | cons x q=>injection r with r;injection r with r _;subst r;exact Nat.le_of_lt (w.tl _ (List.mem_cons_self ..))
   by_cases hok:∃a,Lib.atoiAll s = .ok a
   · obtain⟨a,ha⟩:=hok;dsimp only at r2;rw [Vir.anyOf_ok ha]at r2;obtain⟨b1,b2⟩:=Lib.atoiAll_bounds ha;repeat' first|refine wk ?_|refine cX (fun _=>?_) fun _=>?_|refine yV (atoi_pure n' s a hs ha).pur ?_|refine yV (zZ n' hE'.tabs a b1 b2).pur ?_|refine ob (a:=.bool true) ?_ err_nil|fail
     · rename_i h1;exact⟨zA,.inr ⟨a,ws',sv',_,r2.trans (by simp[h1]),rfl,⟨rfl,b1,b2⟩,w'⟩⟩
     · rename_i h1;exact⟨zA,.inl ⟨3,r2.trans (by simp[h1]),rfl⟩⟩
   · have hno:∀a,Lib.atoiAll s≠.ok a:=fun a ha=>hok ⟨a,ha⟩;dsimp only at r2;rw [Vir.anyOf_bad hno]at r2;repeat' first|refine wk ?_|refine cX (fun _=>?_) fun _=>?_|refine uW (atoi_bad n' hE' s hs hno).ret ?_|fail
     rintro _ h2 n2 ⟨x,rfl,t2⟩
     repeat' first|refine wk ?_|refine cX (fun _=>?_) fun _=>?_|refine ob (a:=.bool false) ?_ err_not|fail
     exact⟨zA,.inl ⟨3,r2,rfl⟩⟩
def numR(r:Vir.Res Int):Vir.Res Int:=match r with
 | .error e=>.error e
 | .ok (v,q)=>if Vir.small v then .ok (v,q) else .error 3
theorem numberW_of{r:Vir.Res Int}(e:Vir.anyW ws=r):Vir.numberW ws=numR r:=by
 subst e;rfl
theorem numR_y{a:Int}{q:List Tx}(h:Vir.small a=true):numR (.ok (a,q)) = .ok (a,q):=if_pos h
theorem numR_n{a:Int}{q:List Tx}(h:¬Vir.small a=true):numR (.ok (a,q)) = .error 3:=if_neg h
theorem vA(w:WdM n bw h ws sv)(hE:Env m h)(hg:8≤bw):Com P 8 52 [ptr bw 0] h n (WO bw (Vir.numberW ws) (fun a v=>v=I64 a∧0≤a∧a≤99999) h n):=by
 have hb:=w.lt;refine ent fun u=>?_;repeat' first|refine wk ?_|refine cX (fun _=>?_) fun _=>?_|refine cal (any_com w hE hg) ?_|fail
 rintro _ h' n' ⟨t,⟨e,r,rfl⟩|⟨a,ws',sv',_,r,rfl,⟨rfl,b1,b2⟩,w'⟩⟩
 · have r2:=numberW_of r;repeat' first|refine wk ?_|refine cX (fun _=>?_) fun _=>?_|fail
   exact⟨zA,.inl ⟨e,r2,rfl⟩⟩
 · have r2:=numberW_of r;have hs:Vir.small a=true↔(0≤a∧a≤99999):=by unfold Vir.small;exact decide_eq_true_iff
   repeat' first|refine wk ?_|refine cX (fun _=>?_) fun _=>?_|fail
   · rename_i h1 h2;exact⟨zA,.inr ⟨a,ws',sv',_,r2.trans (numR_y (hs.2 (by omega))),rfl,⟨rfl,by omega,by omega⟩,w'⟩⟩
   · rename_i h1 h2;exact⟨zA,.inl ⟨3,r2.trans (numR_n fun h9=>by have:=hs.1 h9;omega),rfl⟩⟩
   · rename_i h1;exact⟨zA,.inl ⟨3,r2.trans (numR_n fun h9=>by have:=hs.1 h9;omega),rfl⟩⟩
end Go.Proofs.YtdipdkkpgjdnkaaGreatDoor
namespace Go.Proofs.YtdipdkkpgjdnkaaGreatDoor
open Go Go.Ex Go.Ex.M
set_option maxRecDepth 100000
set_option maxHeartbeats 8000000
variable {n bw:Nat} {h:zB} {ws:List Tx} {sv:Value} {m:Int}
def preR{α : Type}(done:List α)(r:Vir.Res (List α)):Vir.Res (List α):=match r with
 | .error e=>.error e
 | .ok (l,w)=>.ok (done++l,w)
theorem preR_ok{α : Type}{one:List Tx→Vir.Res α}{done:List α}{s:Tx}{q:List Tx}{x: α}(h:one (s::q) = .ok (x,q)):preR done (Vir.restW one (s::q).length (s::q))=preR (done++[x]) (Vir.restW one q.length q):=by
 show preR done (Vir.restW one (q.length+1) (s::q))=_
 cases e:Vir.restW one q.length q with
 | error e'=>rw [Vir.restW_er2 h e];rfl
 | ok p=>rw [Vir.restW_ok h (l:=p.1) (ws':=p.2) e];simp [preR]
theorem preR_er{α : Type}{one:List Tx→Vir.Res α}{done:List α}{s:Tx}{q:List Tx}{e:Int}(h:one (s::q) = .error e):preR done (Vir.restW one (s::q).length (s::q)) = .error e:=by
 show preR done (Vir.restW one (q.length+1) (s::q))=_;rw [Vir.restW_er1 h];rfl
theorem number_one{s:Tx}{q q':List Tx}{a:Int}(h:Vir.numberW (s::q) = .ok (a,q')):q'=q:=by
 rw[Vir.numberW_cons]at h;split at h
 · injection h with h;injection h with _ h;exact h.symm
 · cases h
theorem name_one{s:Tx}{q q':List Tx}{a:Tx}(h:Vir.nameW (s::q) = .ok (a,q')):q'=q:=by
 unfold Vir.nameW at h;dsimp only at h;split at h
 · injection h with h;injection h with _ h;exact h.symm
 · cases h
theorem name_ok{s:Tx}{q q':List Tx}{a:Tx}(h:Vir.nameW (s::q) = .ok (a,q')):Vir.named a=true:=by
 unfold Vir.nameW at h;dsimp only at h;split at h
 · rename_i h1;injection h with h;injection h with h _;rw [← h];exact h1
 · cases h
theorem restI_com(w:WdM n bw h ws sv)(hE:Env m h)(hg:8≤bw):Com P 8 51 [ptr bw 0,.func (.func 52) ⟨[ptr bw 0]⟩ ⟨[]⟩] h n fun o h' n'=>Tch [bw] h n h' n'∧
 ((∃e,Vir.restW Vir.numberW ws.length ws = .error e∧o = .panic (wrC e))∨∃(l:List Int) (v sv':Value),Vir.restW Vir.numberW ws.length ws = .ok (l,[])∧o = .ret v∧Own n n' h' v 3 1 l.length (l.map I64)∧l.length≤ws.length∧(∀x∈l,0≤x∧x≤99999)∧WdM n' bw h' [] sv'):=by
 have hb:=w.lt;have hsm:=w.sm;refine ent fun u=>?_;repeat' first|refine wk ?_|refine cX (fun _=>?_) fun _=>?_|fail
 refine lpR (α :=Value×List Int×List Tx×Value) (fun a=>[(0,ptr bw 0),(1,.func (.func 52) ⟨[ptr bw 0]⟩ ⟨[]⟩),(5,a.1)])
  (fun a h' n'=>Tch [bw] h n h' n'∧Own n n' h' a.1 3 1 a.2.1.length (a.2.1.map I64)∧a.2.1.length+a.2.2.1.length=ws.length∧(∀x∈a.2.1,0≤x∧x≤99999)∧WdM n' bw h' a.2.2.1 a.2.2.2∧Vir.restW Vir.numberW ws.length ws=preR a.2.1 (Vir.restW Vir.numberW a.2.2.1.length a.2.2.1))
  (fun a=>a.2.2.1.length) (.slice none 0 0,[],ws,sv) ⟨zA,Own.nil,by simp,by simp,w,by cases Vir.restW Vir.numberW ws.length ws <;> rfl⟩ ?_
 rintro ⟨v,done,q,sv1⟩ t h' n' ⟨ht,ho,hl,hQ,hw,hr⟩
 dsimp only at ht ho hl hQ hw hr ⊢;have o1:=ho.one;have hn':=ht.le;rcases nil_or q with hz|⟨s,q,rfl⟩
 · repeat' first|refine wk ?_|refine cX (fun _=>?_) fun _=>?_|refine yV (len_com hw) ?_|fail
   obtain rfl:=List.length_eq_zero_iff.1 hz;exact⟨zA,.inr ⟨done,v,sv1,by rw[hr];simp [preR,Vir.restW],rfl,ho,by omega,hQ,hw⟩⟩
 · have hp:0<(s::q).length:=by simp
   rw[List.length_cons]at hl;repeat' first|refine wk ?_|refine cX (fun _=>?_) fun _=>?_|refine yV (len_com hw) ?_|refine cal (vA hw (hE.tch ht (by omega) (by simp;omega)) hg) ?_|fail
   rintro _ h2 n2 ⟨t2,⟨e,r,rfl⟩|⟨a,ws',sv',_,r,rfl,⟨rfl,b1,b2⟩,w'⟩⟩
   · repeat' first|refine wk ?_|refine cX (fun _=>?_) fun _=>?_|fail
     exact⟨zA,.inl ⟨e,by rw[hr,preR_er r],rfl⟩⟩
   · obtain rfl:=number_one r;have e5:=preR_ok (done:=done) r;have hn2:=t2.le;have hlt:ws'.length<(s::ws').length:=by simp
     repeat' first|refine wk ?_|refine cX (fun _=>?_) fun _=>?_|fail
     refine appO (ho.tch (S:=[bw]) zA (own_off ho hb)) (yA (e:=3) (sz:=1) (len:=1) rfl (by decide)) (by omega) ⟨rfl,trivial⟩ (by omega) ?_
     rintro v' h3 n3 ho3 ht3
     have hw3:=w'.tch (S:=(yE v).toList) (Tch.tch ht3 zA fun x hx=>.inr hx) fun x hx=>by have:=xY ho x hx;omega
     have ht4:Tch [bw] h n h3 n3:=Tch.tch ht3 zA fun x hx=>.inl (xY ho x hx);repeat' first|refine wk ?_|refine cX (fun _=>?_) fun _=>?_|fail
     exact rnd (v',done++[a],ws',sv') ⟨ht4,by rw[List.length_append,List.map_append];exact ho3,by simp;omega,fun x hx=>by
      rcases List.mem_append.1 hx with hx|hx
      · exact hQ x hx
      · obtain rfl:=List.mem_singleton.1 hx;exact⟨b1,b2⟩,hw3,by rw[hr,e5]⟩
theorem restN_com(w:WdM n bw h ws sv)(hE:Env m h)(hg:8≤bw):Com P 8 49 [ptr bw 0,.func (.func 47) ⟨[ptr bw 0]⟩ ⟨[]⟩] h n fun o h' n'=>Tch [bw] h n h' n'∧
 ((∃e,Vir.restW Vir.nameW ws.length ws = .error e∧o = .panic (wrC e))∨∃(l:List Tx) (v sv':Value),Vir.restW Vir.nameW ws.length ws = .ok (l,[])∧o = .ret v∧Own n n' h' v 9 1 l.length (l.map str)∧l.length≤ws.length∧(∀x∈l,Vir.named x=true)∧WdM n' bw h' [] sv'):=by
 have hb:=w.lt;have hsm:=w.sm;refine ent fun u=>?_;repeat' first|refine wk ?_|refine cX (fun _=>?_) fun _=>?_|fail
 refine lpR (α :=Value×List Tx×List Tx×Value) (fun a=>[(0,ptr bw 0),(1,.func (.func 47) ⟨[ptr bw 0]⟩ ⟨[]⟩),(5,a.1)])
  (fun a h' n'=>Tch [bw] h n h' n'∧Own n n' h' a.1 9 1 a.2.1.length (a.2.1.map str)∧a.2.1.length+a.2.2.1.length=ws.length∧(∀x∈a.2.1,Vir.named x=true)∧WdM n' bw h' a.2.2.1 a.2.2.2∧Vir.restW Vir.nameW ws.length ws=preR a.2.1 (Vir.restW Vir.nameW a.2.2.1.length a.2.2.1))
  (fun a=>a.2.2.1.length) (.slice none 0 0,[],ws,sv) ⟨zA,Own.nil,by simp,by simp,w,by cases Vir.restW Vir.nameW ws.length ws <;> rfl⟩ ?_
 rintro ⟨v,done,q,sv1⟩ t h' n' ⟨ht,ho,hl,hQ,hw,hr⟩
 dsimp only at ht ho hl hQ hw hr ⊢;have o1:=ho.one;have hn':=ht.le;rcases nil_or q with hz|⟨s,q,rfl⟩
 · repeat' first|refine wk ?_|refine cX (fun _=>?_) fun _=>?_|refine yV (len_com hw) ?_|fail
   obtain rfl:=List.length_eq_zero_iff.1 hz;exact⟨zA,.inr ⟨done,v,sv1,by rw[hr];simp [preR,Vir.restW],rfl,ho,by omega,hQ,hw⟩⟩
 · have hp:0<(s::q).length:=by simp
   rw[List.length_cons]at hl;repeat' first|refine wk ?_|refine cX (fun _=>?_) fun _=>?_|refine yV (len_com hw) ?_|refine cal (name_com hw) ?_|fail
   rintro _ h2 n2 ⟨t2,⟨e,r,rfl⟩|⟨a,ws',sv',_,r,rfl,rfl,w'⟩⟩
   · repeat' first|refine wk ?_|refine cX (fun _=>?_) fun _=>?_|fail
     exact⟨zA,.inl ⟨e,by rw[hr,preR_er r],rfl⟩⟩
   · obtain rfl:=name_one r;have e5:=preR_ok (done:=done) r;have hn2:=t2.le;have hlt:ws'.length<(s::ws').length:=by simp
     repeat' first|refine wk ?_|refine cX (fun _=>?_) fun _=>?_|fail
     refine appO (ho.tch (S:=[bw]) zA (own_off ho hb)) (yA (e:=9) (sz:=1) (len:=1) rfl (by decide)) (by omega) ⟨rfl,trivial⟩ (by omega) ?_
     rintro v' h3 n3 ho3 ht3
     have hw3:=w'.tch (S:=(yE v).toList) (Tch.tch ht3 zA fun x hx=>.inr hx) fun x hx=>by have:=xY ho x hx;omega
     have ht4:Tch [bw] h n h3 n3:=Tch.tch ht3 zA fun x hx=>.inl (xY ho x hx);repeat' first|refine wk ?_|refine cX (fun _=>?_) fun _=>?_|fail
     exact rnd (v',done++[a],ws',sv') ⟨ht4,by rw[List.length_append,List.map_append];exact ho3,by simp;omega,fun x hx=>by
      rcases List.mem_append.1 hx with hx|hx
      · exact hQ x hx
      · obtain rfl:=List.mem_singleton.1 hx;exact name_ok r,hw3,by rw[hr,e5]⟩
end Go.Proofs.YtdipdkkpgjdnkaaGreatDoor
namespace Go.Proofs.YtdipdkkpgjdnkaaGreatDoor
open Go Go.Ex Go.Ex.M
set_option maxRecDepth 100000
set_option maxHeartbeats 8000000
variable {n:Nat} {h:zB} {m:Int}
theorem of_com{line head:Tx}(hE:Env m h)(hg:8≤n)(hl:line.length<100000):Com P 8 78 [str line,str head] h n fun o h' n'=>Tch [] h n h' n'∧
 ((∃e,Vir.ofW line head = .error e∧o = .panic (wrC e))∨∃ws bw sv,Vir.ofW line head = .ok ws∧o = .ret (ptr bw 0)∧n<bw∧WdM n' bw h' ws sv):=by
 have p:=(cutPrefix_pure (h:=h) n line head).pur;unfold Vir.ofW;refine ent fun u=>?_
 cases hp:Lib.hasPrefix line head with
 | false=>
  rw[hp]at p;repeat' first|refine wk ?_|refine cX (fun _=>?_) fun _=>?_|refine yV p ?_|fail
  exact⟨zA,.inl ⟨3,rfl,rfl⟩⟩
 | true =>
  rw[hp]at p;have hrl:(Lib.trimPrefix line head).length≤line.length:=by unfold Lib.trimPrefix;split <;> simp
  generalize Lib.trimPrefix line head=rest at *
  repeat' first|refine wk ?_|refine cX (fun _=>?_) fun _=>?_|refine yV p ?_|fail
  case' refine_2 hz=>
   have hz:rest=[]:=by simpa using hz
   subst hz;exact⟨zA,.inl ⟨3,rfl,rfl⟩⟩
  case' refine_1 hz=>
   have e1:(true && !(rest == []))=true:=by simp[hz]
   rw[e1,if_pos rfl];obtain⟨hw1,hw2⟩:=uT 32 rest;refine uW (split_rets n hE.tabs rest 32 (by omega)).ret ?_
   rintro _ h2 n2 ⟨rfl,e2,rfl⟩
   have hinf:(1000000:Nat)≤inf:=by decide
   generalize zO 32 rest=ws at *
   have r2:Row (n+1) h2 (.slice (some ⟨n,0,none⟩) ws.length ws.length) 9 1 ws.length (ws.map str):=by rw[e2];exact yA (by simp) (by omega)
   have t2:Tch [] h n h2 (n+1):=by rw[e2];exact⟨by omega,fun b hb _=>by rw[zK,if_neg (by omega)]⟩
   clear e2;have hi:∀b,yE (Value.slice (some ⟨n,0,none⟩) ws.length ws.length)=some b→b+1=n+1:=fun b hb=>by injection hb with hb;rw [← hb]
   have o2:=r2.one;repeat' first|refine wk ?_|refine cX (fun _=>?_) fun _=>?_|refine ob (a:=.agg ⟨[.slice (some ⟨n,0,none⟩) ws.length ws.length]⟩) ?_ (by kernel_rfl)|fail
   generalize (Value.slice (some ⟨n,0,none⟩) ws.length ws.length)=sv at *
   have w:WdM (n+1+1) (n+1) _ ws sv:=⟨by omega,zC (h:=hal h2 (n+1) (mkC [sv] (102+1) 0)),r2.tch (S:=[]) zA (Nat.le_refl _) (by simp),by omega,fun x hx=>by(have:=hw2 x hx;omega),hi⟩;have c:=w.ce;have r:=w.ro;have t0:Tch [] h n (hal h2 (n+1) (mkC [sv] (102+1) 0)) (n+1+1):=zA;refine lpR (fun k:Nat=>[(7,ptr (n+1) 0),(29,sv),(30,I64 ws.length),(31,I64 k)]) (fun k h' n'=>h'=hal h2 (n+1) (mkC [sv] (102+1) 0)∧n'=n+1+1∧k≤ws.length∧∀j,j<k→ws[j]?≠some []) (fun k=>ws.length - k) 0 ⟨rfl,rfl,Nat.zero_le _,fun j hj=>by omega⟩ ?_
   rintro k t h' n' ⟨rfl,rfl,hk,hno⟩
   by_cases hlt:k<ws.length
   · have c0:ws[k]? = some ws[k]:=List.getElem?_eq_getElem hlt;generalize ws[k]=x at c0
     have c1:=xX r c0;repeat' first|refine wk ?_|refine cX (fun _=>?_) fun _=>?_|fail
     · rename_i h1
       exact rnd (k+1) ⟨rfl,rfl,by omega,fun j hj=>by
        rcases Nat.lt_succ_iff_lt_or_eq.1 hj with h9|rfl
        · exact hno j h9
        · rw[c0];simpa using h1⟩
     · rename_i h1;have hx:x=[]:=by simpa using h1
       subst hx
       have e3:ws.all (fun s=> !(s == []))=false:=by
        rw[List.all_eq_false];exact⟨[],List.mem_of_getElem? c0,by simp⟩
       exact⟨t0,.inl ⟨3,by rw[e3];rfl,rfl⟩⟩
   · obtain rfl:k=ws.length:=by omega
     repeat' first|refine wk ?_|refine cX (fun _=>?_) fun _=>?_|fail
     have e3:ws.all (fun s=> !(s == []))=true:=by
      rw[List.all_eq_true];intro x hx;obtain⟨j,hj,rfl⟩:=List.mem_iff_getElem.1 hx;have:=hno j hj;rw [List.getElem?_eq_getElem hj]at this;simpa using this
     exact⟨t0,.inr ⟨ws,n+1,sv,by rw[e3];rfl,rfl,by omega,w⟩⟩
end Go.Proofs.YtdipdkkpgjdnkaaGreatDoor
namespace Go.Proofs.YtdipdkkpgjdnkaaGreatDoor
open Go Go.Ex Go.Ex.M
set_option maxRecDepth 100000
set_option maxHeartbeats 8000000
attribute [local simp] yG
variable {n bw bi:Nat} {h:zB} {ws:List Tx} {sv:Value} {m:Int}
theorem rs_agg{P:Program}{l:List (Nat×Value)}{t:Fr}{h:zB}{i ty b k:Nat}[s:ShC P ty (.agg k)]{cs:List Value}(e:lk l t i = .pointer (some ⟨b,0,none⟩))(h0:0<k)(g:Rd h b 0 k cs):Rs P l t h [.cell i ty] [.agg ⟨cs⟩]:=by
 refine⟨_,[],rfl,?_,rfl⟩;rw [e];exact load_agg s.ok g.row.1 h0 g.row.2
abbrev zI:Nat:=41+1
theorem calledI_1{i:Vir.Ins}{e:Int}(h:Vir.nameW ws = .error e):Vir.calledI i ws = .error e:=by unfold Vir.calledI;rw [h]
theorem calledI_2{i:Vir.Ins}{e:Int}{s:Tx}{q:List Tx}(h:Vir.nameW ws = .ok (s,q))(h2:Vir.restW Vir.numberW q.length q = .error e):Vir.calledI i ws = .error e:=by unfold Vir.calledI Vir.restNums;rw [h];dsimp only;rw [h2]
theorem calledI_3{i:Vir.Ins}{s:Tx}{q:List Tx}{l:List Int}(h:Vir.nameW ws = .ok (s,q))(h2:Vir.restW Vir.numberW q.length q = .ok (l,[])):Vir.calledI i ws=if l.length≤16 then .ok ({ i with kind:=6,name:=s,args:=l },[]) else .error 2:=by unfold Vir.calledI Vir.restNums;rw [h];dsimp only;rw [h2]
theorem called_com{d:Int}(w:WdM n bw h ws sv)(hE:Env m h)(hg:8≤bw)(c:Cel h bi zI 0 [I64 0,I64 d,I64 0,I64 0,I64 0,str [],.slice none 0 0,I64 0,I64 0])(hb:bi<n)(hlt:bw<bi):Com P 8 74 [ptr bi 0,ptr bw 0] h n fun o h' n'=>Tch [bw,bi] h n h' n'∧
 ((∃e,Vir.calledI { Vir.Ins.z with d:=d } ws = .error e∧o = .panic (wrC e))∨∃(s:Tx) (av:Value) (l:List Int) (sv':Value),Vir.calledI { Vir.Ins.z with d:=d } ws = .ok ({ Vir.Ins.z with kind:=6,d:=d,name:=s,args:=l },[])∧o = .ret (.tuple #[])∧Cel h' bi zI 0 [I64 6,I64 d,I64 0,I64 0,I64 0,str s,av,I64 0,I64 0]∧Own n n' h' av 3 1 l.length (l.map I64)∧l.length≤16∧WdM n' bw h' [] sv'):=by
 refine ent fun u=>?_;repeat' first|refine wk ?_|refine cX (fun _=>?_) fun _=>?_|refine cal (name_com w) ?_|fail
 rintro _ h2 n2 ⟨t,⟨e,r,rfl⟩|⟨s,q,sv2,_,r,rfl,rfl,w2⟩⟩
 · repeat' first|refine wk ?_|refine cX (fun _=>?_) fun _=>?_|fail
   exact⟨zA,.inl ⟨e,calledI_1 r,rfl⟩⟩
 · have hn2:=t.le;have c2:Cel h2 bi zI 0 [I64 0,I64 d,I64 0,I64 0,I64 0,str [],.slice none 0 0,I64 0,I64 0]:=c.tch t hb (by simp;omega);repeat' first|refine wk ?_|refine cX (fun _=>?_) fun _=>?_|refine cal (restI_com (w2.tch (S:=[bi]) zA (by simp;omega)) (hE.tch (S:=[bw,bi]) zA (by omega) (by simp;omega)) hg) ?_|fail
   rintro _ h3 n3 ⟨t3,⟨e,r3,rfl⟩|⟨l,av,sv3,r3,rfl,o3,l3,q3,w3⟩⟩
   · have hn3:=t3.le;have t4:Tch [bw,bi] h n h3 n3:=zA;clear t3;repeat' first|refine wk ?_|refine cX (fun _=>?_) fun _=>?_|fail
     exact⟨t4,.inl ⟨e,calledI_2 r r3,rfl⟩⟩
   · have hn3:=t3.le;have c3:Cel h3 bi zI 0 [I64 6,I64 d,I64 0,I64 0,I64 0,str s,.slice none 0 0,I64 0,I64 0]:=Cel.tch zH t3 (by omega) (by simp;omega);have t4:Tch [bw,bi] h n h3 n3:=zA;clear t3;have o1:=o3.one;have r4:=calledI_3 (i:={ Vir.Ins.z with d:=d }) r r3;have rr:=o3.row (by decide);repeat' first|refine wk ?_|refine cX (fun _=>?_) fun _=>?_|fail
     · rename_i h1;exact⟨zA,.inr ⟨s,av,l,sv3,r4.trans (if_pos (by omega)),rfl,zH,own_dn (o3.tch (S:=[bi]) zA (own_off o3 (by omega))) (by omega),by omega,w3.tch (S:=[bi]) zA (by simp;omega)⟩⟩
     · rename_i h1;exact⟨zA,.inl ⟨2,r4.trans (if_neg (by omega)),rfl⟩⟩
end Go.Proofs.YtdipdkkpgjdnkaaGreatDoor
namespace Go.Proofs.YtdipdkkpgjdnkaaGreatDoor
open Go Go.Ex Go.Ex.M
set_option maxRecDepth 100000
set_option maxHeartbeats 8000000
attribute [local simp] yG
variable {n bw:Nat} {h:zB} {ws:List Tx} {sv:Value} {m:Int}
def IO(bw:Nat)(r:Vir.Res Vir.Ins)(h:zB)(n:Nat)(o:Out)(h':zB)(n':Nat):Prop:=
 Tch [bw] h n h' n'∧((∃e,r = .error e∧o = .panic (wrC e))∨∃(i:InsT) (ws':List Tx) (sv':Value),r = .ok (toI i,ws')∧o = .ret (.agg ⟨uE i⟩)∧Own n n' h' i.av 3 1 i.args.length (i.args.map I64)∧i.args.length≤16∧WdM n' bw h' ws' sv')
def defB(d:Int)(s:Tx)(r:List Tx):Vir.Res Vir.Ins:=
 if s == Vir.tConst then(match Vir.anyW r with
  | .error e=>.error e
  | .ok (v,r)=>.ok ({ Vir.Ins.z with kind:=1,d:=d,n:=v },r))
 else if s == Vir.tCopy then(match Vir.numberW r with
  | .error e=>.error e
  | .ok (v,r)=>.ok ({ Vir.Ins.z with kind:=2,d:=d,a:=v },r))
 else if s == Vir.tLoad then(match Vir.numberW r with
  | .error e=>.error e
  | .ok (v,r)=>.ok ({ Vir.Ins.z with kind:=4,d:=d,a:=v },r))
 else if s == Vir.tCall then Vir.calledI { Vir.Ins.z with d:=d } r
 else(match Vir.restNums r with
  | .error e=>.error e
  | .ok (l,r')=>if 1≤l.length then(if l.length≤2 then .ok ({ Vir.Ins.z with kind:=3,d:=d,name:=s,args:=l },r') else .error 3) else .error 3)
theorem def_1{e:Int}(h1:Vir.numberW ws = .error e):Vir.definingI ws = .error e:=by unfold Vir.definingI;rw [h1]
theorem def_2{e d:Int}{q1:List Tx}(h1:Vir.numberW ws = .ok (d,q1))(h2:Vir.wantW Vir.tEq q1 = .error e):Vir.definingI ws = .error e:=by unfold Vir.definingI;rw [h1];dsimp only;rw [h2]
theorem def_3{e d:Int}{q1 q2:List Tx}(h1:Vir.numberW ws = .ok (d,q1))(h2:Vir.wantW Vir.tEq q1 = .ok ((),q2))(h3:Vir.nameW q2 = .error e):Vir.definingI ws = .error e:=by unfold Vir.definingI;rw [h1];dsimp only;rw [h2];dsimp only;rw [h3]
theorem def_4{d:Int}{s:Tx}{q1 q2 q3:List Tx}(h1:Vir.numberW ws = .ok (d,q1))(h2:Vir.wantW Vir.tEq q1 = .ok ((),q2))(h3:Vir.nameW q2 = .ok (s,q3)):Vir.definingI ws=defB d s q3:=by unfold Vir.definingI;rw [h1];dsimp only;rw [h2];dsimp only;rw [h3];rfl
abbrev zL:List Value:=[I64 0,I64 0,I64 0,I64 0,I64 0,str [],.slice none 0 0,I64 0,I64 0]
abbrev dL(d:Int):List Value:=[I64 0,I64 d,I64 0,I64 0,I64 0,str [],.slice none 0 0,I64 0,I64 0]
theorem defining_com(w:WdM n bw h ws sv)(hE:Env m h)(hg:8≤bw):Com P 8 73 [ptr bw 0] h n (IO bw (Vir.definingI ws) h n):=by
 have hb:=w.lt;have EE:∀{h' n'},Tch [bw] h n h' n'→Env m h':=fun t=>hE.tch t (by omega) (by simp;omega);refine ent fun u=>?_;repeat' first|refine wk ?_|refine cX (fun _=>?_) fun _=>?_|refine cal (vA (w.tch (S:=[]) zA (by simp)) (EE zA) hg) ?_|fail
 rintro _ h1 n1 ⟨t1,⟨e,r1,rfl⟩|⟨d,q1,sv1,_,r1,rfl,⟨rfl,b1,b2⟩,w1⟩⟩
 · repeat' first|refine wk ?_|refine cX (fun _=>?_) fun _=>?_|fail
   exact⟨zA,.inl ⟨e,def_1 r1,rfl⟩⟩
 have hn1:=t1.le;have z1:Cel h1 n zI 0 zL:=Cel.tch zC t1 (by omega) (by simp;omega);have u1:Tch [bw] h n h1 n1:=zA;clear t1;repeat' first|refine wk ?_|refine cX (fun _=>?_) fun _=>?_|refine cal (want_com (w1.tch (S:=[]) zA (by simp))) ?_|fail
 rintro _ h2 n2 ⟨t2,⟨e,r2,rfl⟩|⟨_,q2,sv2,_,r2,rfl,rfl,w2⟩⟩
 · repeat' first|refine wk ?_|refine cX (fun _=>?_) fun _=>?_|fail
   exact⟨zA,.inl ⟨e,def_2 r1 r2,rfl⟩⟩
 have hn2:=t2.le;have z2:Cel h2 n zI 0 zL:=Cel.tch zC t2 (by omega) (by simp;omega);have c2:Cel h2 n1 zI 0 [I64 0,I64 d,I64 0,I64 0,I64 0,str [],.slice none 0 0,I64 0,I64 0]:=Cel.tch zH t2 (by omega) (by simp;omega);have u2:Tch [bw] h n h2 n2:=zA;clear t2 z1 u1;repeat' first|refine wk ?_|refine cX (fun _=>?_) fun _=>?_|refine cal (name_com w2) ?_|fail
 rintro _ h3 n3 ⟨t3,⟨e,r3,rfl⟩|⟨s,q3,sv3,_,r3,rfl,rfl,w3⟩⟩
 · repeat' first|refine wk ?_|refine cX (fun _=>?_) fun _=>?_|fail
   exact⟨zA,.inl ⟨e,def_3 r1 r2 r3,rfl⟩⟩
 have hn3:=t3.le;have z3:Cel h3 n zI 0 zL:=z2.tch t3 (by omega) (by simp;omega);have c3:Cel h3 n1 zI 0 [I64 0,I64 d,I64 0,I64 0,I64 0,str [],.slice none 0 0,I64 0,I64 0]:=c2.tch t3 (by omega) (by simp;omega);have u3:Tch [bw] h n h3 n3:=zA;have r4:=def_4 r1 r2 r3;clear t3 z2 c2 u2 r1 r2 r3;rw [r4];repeat' first|refine wk ?_|refine cX (fun _=>?_) fun _=>?_|refine cal (any_com w3 (EE u3) hg) ?_|refine cal (vA w3 (EE u3) hg) ?_|refine cal (called_com w3 (EE u3) hg c3 (by omega) (by omega)) ?_|refine cal (restI_com (w3.tch (S:=[n1]) zA (by simp;omega)) (hE.tch (S:=[bw,n1]) zA (by omega) (by simp;omega)) hg) ?_|fail
 · rename_i e1;subst e1
   rintro _ h4 n4 ⟨t4,⟨e,r5,rfl⟩|⟨v,q4,sv4,_,r5,rfl,⟨rfl,v1,v2⟩,w4⟩⟩
   · repeat' first|refine wk ?_|refine cX (fun _=>?_) fun _=>?_|fail
     exact⟨zA,.inl ⟨e,by unfold defB;rw [if_pos (by decide),r5],rfl⟩⟩
   have hn4:=t4.le;have z4:Cel h4 n zI 0 zL:=z3.tch t4 (by omega) (by simp;omega);have c4:Cel h4 n1 zI 0 (dL d):=c3.tch t4 (by omega) (by simp;omega);have u4:Tch [bw] h n h4 n4:=zA;clear t4 z3 c3;repeat' first|refine wk ?_|refine cX (fun _=>?_) fun _=>?_|refine ob (a:=_) ?_ (rs_agg (by apply zE;((conv=>lhs;whnf) <;> exact rfl)) (by decide) (by repeat' first|exact zT|(apply zN;focus (apply Cel.cell;(focus exact zC);exact rfl))))|fail
   exact⟨zA,.inr ⟨⟨1,d,0,0,v,[],.slice none 0 0,[],0,0⟩,q4,sv4,by unfold defB;rw [if_pos (by decide),r5];rfl,rfl,Own.nil,by simp,w4.tch (S:=[n1,n]) zA (by simp;omega)⟩⟩
 · rename_i e1;subst e1
   rintro _ h4 n4 ⟨t4,⟨e,r5,rfl⟩|⟨v,q4,sv4,_,r5,rfl,⟨rfl,v1,v2⟩,w4⟩⟩
   · repeat' first|refine wk ?_|refine cX (fun _=>?_) fun _=>?_|fail
     exact⟨zA,.inl ⟨e,by unfold defB;rw [if_neg (by decide),if_pos (by decide),r5],rfl⟩⟩
   have hn4:=t4.le;have z4:Cel h4 n zI 0 zL:=z3.tch t4 (by omega) (by simp;omega);have c4:Cel h4 n1 zI 0 (dL d):=c3.tch t4 (by omega) (by simp;omega);have u4:Tch [bw] h n h4 n4:=zA;clear t4 z3 c3;repeat' first|refine wk ?_|refine cX (fun _=>?_) fun _=>?_|refine ob (a:=_) ?_ (rs_agg (by apply zE;((conv=>lhs;whnf) <;> exact rfl)) (by decide) (by repeat' first|exact zT|(apply zN;focus (apply Cel.cell;(focus exact zC);exact rfl))))|fail
   exact⟨zA,.inr ⟨⟨2,d,v,0,0,[],.slice none 0 0,[],0,0⟩,q4,sv4,by unfold defB;rw [if_neg (by decide),if_pos (by decide),r5];rfl,rfl,Own.nil,by simp,w4.tch (S:=[n1,n]) zA (by simp;omega)⟩⟩
 · rename_i e1;subst e1
   rintro _ h4 n4 ⟨t4,⟨e,r5,rfl⟩|⟨v,q4,sv4,_,r5,rfl,⟨rfl,v1,v2⟩,w4⟩⟩
   · repeat' first|refine wk ?_|refine cX (fun _=>?_) fun _=>?_|fail
     exact⟨zA,.inl ⟨e,by unfold defB;rw [if_neg (by decide),if_neg (by decide),if_pos (by decide),r5],rfl⟩⟩
   have hn4:=t4.le;have z4:Cel h4 n zI 0 zL:=z3.tch t4 (by omega) (by simp;omega);have c4:Cel h4 n1 zI 0 (dL d):=c3.tch t4 (by omega) (by simp;omega);have u4:Tch [bw] h n h4 n4:=zA;clear t4 z3 c3;repeat' first|refine wk ?_|refine cX (fun _=>?_) fun _=>?_|refine ob (a:=_) ?_ (rs_agg (by apply zE;((conv=>lhs;whnf) <;> exact rfl)) (by decide) (by repeat' first|exact zT|(apply zN;focus (apply Cel.cell;(focus exact zC);exact rfl))))|fail
   exact⟨zA,.inr ⟨⟨4,d,v,0,0,[],.slice none 0 0,[],0,0⟩,q4,sv4,by unfold defB;rw [if_neg (by decide),if_neg (by decide),if_pos (by decide),r5];rfl,rfl,Own.nil,by simp,w4.tch (S:=[n1,n]) zA (by simp;omega)⟩⟩
 · rename_i e1;subst e1
   rintro _ h4 n4 ⟨t4,⟨e,r5,rfl⟩|⟨s4,av,l,sv4,r5,rfl,c4,o4,l4,w4⟩⟩
   · repeat' first|refine wk ?_|refine cX (fun _=>?_) fun _=>?_|fail
     exact⟨zA,.inl ⟨e,by unfold defB;rw [if_neg (by decide),if_neg (by decide),if_neg (by decide),if_pos (by decide),r5],rfl⟩⟩
   have hn4:=t4.le;have z4:Cel h4 n zI 0 zL:=z3.tch t4 (by omega) (by simp;omega);have u4:Tch [bw] h n h4 n4:=zA;have o1:=o4.one;clear t4 z3 c3;repeat' first|refine wk ?_|refine cX (fun _=>?_) fun _=>?_|refine ob (a:=_) ?_ (rs_agg (by apply zE;((conv=>lhs;whnf) <;> exact rfl)) (by decide) (by repeat' first|exact zT|(apply zN;focus (apply Cel.cell;(focus exact zC);exact rfl))))|fail
   exact⟨zA,.inr ⟨⟨6,d,0,0,0,s4,av,l,0,0⟩,[],sv4,by unfold defB;rw [if_neg (by decide),if_neg (by decide),if_neg (by decide),if_pos (by decide),r5];rfl,rfl,own_dn (o4.tch (S:=[n]) zA (own_off o4 (by omega))) (by omega),l4,w4.tch (S:=[n]) zA (by simp;omega)⟩⟩
 · rename_i e1 e2 e3 e4
   have r6:defB d s q3=(match Vir.restNums q3 with
    | .error e=>.error e
    | .ok (l,r')=>if 1≤l.length then(if l.length≤2 then .ok ({ Vir.Ins.z with kind:=3,d:=d,name:=s,args:=l },r') else .error 3) else .error 3):=by
    unfold defB;rw [if_neg (by simpa using e1),if_neg (by simpa using e2),if_neg (by simpa using e3),if_neg (by simpa using e4)]
   rw[r6];unfold Vir.restNums
   rintro _ h4 n4 ⟨t4,⟨e,r5,rfl⟩|⟨l,av,sv4,r5,rfl,o4,l4,q4,w4⟩⟩
   · have u4:Tch [bw] h n h4 n4:=zA;clear t4;repeat' first|refine wk ?_|refine cX (fun _=>?_) fun _=>?_|fail
     exact⟨u4,.inl ⟨e,by rw[r5],rfl⟩⟩
   have hn4:=t4.le;have z4:Cel h4 n zI 0 zL:=Cel.tch zC t4 (by omega) (by simp;omega);have c4:Cel h4 n1 zI 0 [I64 3,I64 d,I64 0,I64 0,I64 0,str s,.slice none 0 0,I64 0,I64 0]:=Cel.tch zH t4 (by omega) (by simp;omega);have u4:Tch [bw] h n h4 n4:=zA;have o1:=o4.one;have rr:=o4.row (by decide);clear t4 z3 c3;rw [r5];dsimp only;repeat' first|refine wk ?_|refine cX (fun _=>?_) fun _=>?_|refine ob (a:=_) ?_ (rs_agg (by apply zE;((conv=>lhs;whnf) <;> exact rfl)) (by decide) (by repeat' first|exact zT|(apply zN;focus (apply Cel.cell;(focus exact zC);exact rfl))))|fail
   · rename_i f1 f2;exact⟨zA,.inr ⟨⟨3,d,0,0,0,s,av,l,0,0⟩,[],sv4,by rw[if_pos (by omega),if_pos (by omega)];rfl,rfl,own_dn (o4.tch (S:=[n1,n]) zA (own_of2 o4 (by omega) (by omega))) (by omega),by simp;omega,w4.tch (S:=[n1,n]) zA (by simp;omega)⟩⟩
   · rename_i f1 f2;exact⟨zA,.inl ⟨3,by rw[if_pos (by omega),if_neg (by omega)],rfl⟩⟩
   · rename_i f1;exact⟨zA,.inl ⟨3,by rw[if_neg (by omega)],rfl⟩⟩
end Go.Proofs.YtdipdkkpgjdnkaaGreatDoor
namespace Go.Proofs.YtdipdkkpgjdnkaaGreatDoor
open Go Go.Ex Go.Ex.M
set_option maxRecDepth 100000
set_option maxHeartbeats 8000000
attribute [local simp] yG
variable {n bw:Nat} {h:zB} {ws:List Tx} {sv:Value} {m:Int}
def oneB(s:Tx)(r:List Tx):Vir.Res Vir.Ins:=
 if s == Vir.tStore then(match Vir.numberW r with
  | .error e=>.error e
  | .ok (a,r)=>match Vir.numberW r with
   | .error e=>.error e
   | .ok (b,r)=>.ok ({ Vir.Ins.z with kind:=5,a:=a,b:=b },r))
 else if s == Vir.tCall then Vir.calledI { Vir.Ins.z with d:= -1 } r
 else if s == Vir.tBr then(match Vir.numberW r with
  | .error e=>.error e
  | .ok (a, r) => match Vir.numberW r with
   | .error e=>.error e
   | .ok (b,r)=>match Vir.numberW r with
    | .error e=>.error e
    | .ok (c,r)=>.ok ({ Vir.Ins.z with kind:=7,a:=a,t:=b,f:=c },r))
 else if s == Vir.tJump then(match Vir.numberW r with
  | .error e=>.error e
  | .ok (a,r)=>.ok ({ Vir.Ins.z with kind:=8,t:=a },r))
 else if s == Vir.tRet then(match Vir.numberW r with
  | .error e=>.error e
  | .ok (a,r)=>.ok ({ Vir.Ins.z with kind:=9,a:=a },r))
 else .error 3
theorem one_1(h:Vir.wordAt1 ws=Vir.tEq):Vir.oneI ws=Vir.definingI ws:=by unfold Vir.oneI;rw [h];rfl
theorem one_2{e:Int}(h:Vir.wordAt1 ws≠Vir.tEq)(h2:Vir.nextW ws = .error e):Vir.oneI ws = .error e:=by unfold Vir.oneI;rw [if_neg (by simpa using h),h2]
theorem one_3{s:Tx}{q:List Tx}(h:Vir.wordAt1 ws≠Vir.tEq)(h2:Vir.nextW ws = .ok (s,q)):Vir.oneI ws=oneB s q:=by unfold Vir.oneI;rw [if_neg (by simpa using h),h2];rfl
theorem one_com(w:WdM n bw h ws sv)(hE:Env m h)(hg:8≤bw):Com P 8 53 [ptr bw 0] h n (IO bw (Vir.oneI ws) h n):=by
 have hb:=w.lt;have EE:∀{h' n'},Tch [bw] h n h' n'→Env m h':=fun t=>hE.tch t (by omega) (by simp;omega);refine ent fun u=>?_;repeat' first|refine wk ?_|refine cX (fun _=>?_) fun _=>?_|refine yV (peek_com (w.tch (S:=[]) zA (by simp))) ?_|fail
 case' refine_1 hq=>
  repeat' first|refine wk ?_|refine cX (fun _=>?_) fun _=>?_|refine cal (defining_com (w.tch (S:=[]) zA (by simp)) (EE zA) hg) ?_|fail
  rintro _ h2 n2 ⟨t2,⟨e,r2,rfl⟩|⟨i,q2,sv2,r2,rfl,o2,l2,w2⟩⟩
  · repeat' first|refine wk ?_|refine cX (fun _=>?_) fun _=>?_|fail
    exact⟨zA,.inl ⟨e,(one_1 hq).trans r2,rfl⟩⟩
  have hn2:=t2.le;have z2:Cel h2 n zI 0 zL:=Cel.tch zC t2 (by omega) (by simp;omega);have u2:Tch [bw] h n h2 n2:=zA;clear t2;have o1:=o2.one;repeat' first|refine wk ?_|refine cX (fun _=>?_) fun _=>?_|refine ob (a:=_) ?_ (rs_agg (by apply zE;((conv=>lhs;whnf) <;> exact rfl)) (by decide) (by repeat' first|exact zT|(apply zN;focus (apply Cel.cell;(focus exact zC);exact rfl))))|fail
  exact⟨zA,.inr ⟨i,q2,sv2,(one_1 hq).trans r2,rfl,own_dn (o2.tch (S:=[n]) zA (own_off o2 (by omega))) (by omega),l2,w2.tch (S:=[n]) zA (by simp;omega)⟩⟩
 case' refine_2 hq=>
  repeat' first|refine wk ?_|refine cX (fun _=>?_) fun _=>?_|refine cal (next_com (w.tch (S:=[]) zA (by simp))) ?_|fail
  rintro _ h2 n2 ⟨t2,⟨e,r2,rfl⟩|⟨s,q2,sv2,_,r2,rfl,rfl,w2⟩⟩
  · repeat' first|refine wk ?_|refine cX (fun _=>?_) fun _=>?_|fail
    exact⟨zA,.inl ⟨e,one_2 hq r2,rfl⟩⟩
  have hn2:=t2.le;have z2:Cel h2 n zI 0 zL:=Cel.tch zC t2 (by omega) (by simp;omega);have c2:Cel h2 (n+1) zI 0 zL:=Cel.tch zH t2 (by omega) (by simp;omega);have u2:Tch [bw] h n h2 n2:=zA;clear t2;rw [one_3 hq r2];repeat' first|refine wk ?_|refine cX (fun _=>?_) fun _=>?_|refine cal (vA w2 (EE u2) hg) ?_|refine cal (called_com (w2.tch (S:=[n+1]) zA (by simp;omega)) (EE zA) hg (zH (vs:=dL (-1))) (by omega) (by omega)) ?_|fail
  · rename_i e1;subst e1
    rintro _ h3 n3 ⟨t3,⟨e,r3,rfl⟩|⟨a,q3,sv3,_,r3,rfl,⟨rfl,v1,v2⟩,w3⟩⟩
    · have u3:Tch [bw] h n h3 n3:=zA;clear t3;repeat' first|refine wk ?_|refine cX (fun _=>?_) fun _=>?_|fail
      exact⟨u3,.inl ⟨e,by unfold oneB;rw [if_pos (by decide),r3],rfl⟩⟩
    have hn3:=t3.le;have z3:Cel h3 n zI 0 zL:=Cel.tch zC t3 (by omega) (by simp;omega);have c3:Cel h3 (n+1) zI 0 zL:=Cel.tch zH t3 (by omega) (by simp;omega);have u3:Tch [bw] h n h3 n3:=zA;clear t3 z2 c2 u2;repeat' first|refine wk ?_|refine cX (fun _=>?_) fun _=>?_|refine cal (vA (w3.tch (S:=[n+1]) zA (by simp;omega)) (EE zA) hg) ?_|fail
    rintro _ h4 n4 ⟨t4,⟨e,r4,rfl⟩|⟨b,q4,sv4,_,r4,rfl,⟨rfl,v1,v2⟩,w4⟩⟩
    · have u4:Tch [bw] h n h4 n4:=zA;clear t4;repeat' first|refine wk ?_|refine cX (fun _=>?_) fun _=>?_|fail
      exact⟨u4,.inl ⟨e,by unfold oneB;rw [if_pos (by decide),r3];dsimp only;rw [r4],rfl⟩⟩
    have hn4:=t4.le;have z4:Cel h4 n zI 0 zL:=Cel.tch zC t4 (by omega) (by simp;omega);have c4:Cel h4 (n+1) zI 0 [I64 5,I64 0,I64 a,I64 0,I64 0,str [],.slice none 0 0,I64 0,I64 0]:=Cel.tch zH t4 (by omega) (by simp;omega);have u4:Tch [bw] h n h4 n4:=zA;clear t4 z3 c3 u3;repeat' first|refine wk ?_|refine cX (fun _=>?_) fun _=>?_|refine ob (a:=_) ?_ (rs_agg (by apply zE;((conv=>lhs;whnf) <;> exact rfl)) (by decide) (by repeat' first|exact zT|(apply zN;focus (apply Cel.cell;(focus exact zC);exact rfl))))|fail
    exact⟨zA,.inr ⟨⟨5,0,a,b,0,[],.slice none 0 0,[],0,0⟩,q4,sv4,by unfold oneB;rw [if_pos (by decide),r3];dsimp only;rw [r4];rfl,rfl,Own.nil,by simp,w4.tch (S:=[n+1,n]) zA (by simp;omega)⟩⟩
  · rename_i e1;subst e1
    rintro _ h3 n3 ⟨t3,⟨e,r3,rfl⟩|⟨s4,av,l,sv3,r3,rfl,c3,o3,l3,w3⟩⟩
    · have u3:Tch [bw] h n h3 n3:=zA;clear t3;repeat' first|refine wk ?_|refine cX (fun _=>?_) fun _=>?_|fail
      exact⟨u3,.inl ⟨e,by unfold oneB;rw [if_neg (by decide),if_pos (by decide),r3],rfl⟩⟩
    have hn3:=t3.le;have z3:Cel h3 n zI 0 zL:=Cel.tch zC t3 (by omega) (by simp;omega);have u3:Tch [bw] h n h3 n3:=zA;have o1:=o3.one;clear t3 z2 c2 u2;repeat' first|refine wk ?_|refine cX (fun _=>?_) fun _=>?_|refine ob (a:=_) ?_ (rs_agg (by apply zE;((conv=>lhs;whnf) <;> exact rfl)) (by decide) (by repeat' first|exact zT|(apply zN;focus (apply Cel.cell;(focus exact zC);exact rfl))))|fail
    exact⟨zA,.inr ⟨⟨6,-1,0,0,0,s4,av,l,0,0⟩,[],sv3,by unfold oneB;rw [if_neg (by decide),if_pos (by decide),r3];rfl,rfl,own_dn (o3.tch (S:=[n]) zA (own_off o3 (by omega))) (by omega),l3,w3.tch (S:=[n]) zA (by simp;omega)⟩⟩
  · rename_i e1;subst e1
    rintro _ h3 n3 ⟨t3,⟨e,r3,rfl⟩|⟨a,q3,sv3,_,r3,rfl,⟨rfl,v1,v2⟩,w3⟩⟩
    · have u3:Tch [bw] h n h3 n3:=zA;clear t3;repeat' first|refine wk ?_|refine cX (fun _=>?_) fun _=>?_|fail
      exact⟨u3,.inl ⟨e,by unfold oneB;rw [if_neg (by decide),if_neg (by decide),if_pos (by decide),r3],rfl⟩⟩
    have hn3:=t3.le;have z3:Cel h3 n zI 0 zL:=Cel.tch zC t3 (by omega) (by simp;omega);have c3:Cel h3 (n+1) zI 0 zL:=Cel.tch zH t3 (by omega) (by simp;omega);have u3:Tch [bw] h n h3 n3:=zA;clear t3 z2 c2 u2;repeat' first|refine wk ?_|refine cX (fun _=>?_) fun _=>?_|refine cal (vA (w3.tch (S:=[n+1]) zA (by simp;omega)) (EE zA) hg) ?_|fail
    rintro _ h4 n4 ⟨t4,⟨e,r4,rfl⟩|⟨b,q4,sv4,_,r4,rfl,⟨rfl,v1,v2⟩,w4⟩⟩
    · have u4:Tch [bw] h n h4 n4:=zA;clear t4;repeat' first|refine wk ?_|refine cX (fun _=>?_) fun _=>?_|fail
      exact⟨u4,.inl ⟨e,by unfold oneB;rw [if_neg (by decide),if_neg (by decide),if_pos (by decide),r3];dsimp only;rw [r4],rfl⟩⟩
    have hn4:=t4.le;have z4:Cel h4 n zI 0 zL:=Cel.tch zC t4 (by omega) (by simp;omega);have c4:Cel h4 (n+1) zI 0 [I64 7,I64 0,I64 a,I64 0,I64 0,str [],.slice none 0 0,I64 0,I64 0]:=Cel.tch zH t4 (by omega) (by simp;omega);have u4:Tch [bw] h n h4 n4:=zA;clear t4 z3 c3 u3;repeat' first|refine wk ?_|refine cX (fun _=>?_) fun _=>?_|refine cal (vA (w4.tch (S:=[n+1]) zA (by simp;omega)) (EE zA) hg) ?_|fail
    rintro _ h5 n5 ⟨t5,⟨e,r5,rfl⟩|⟨c,q5,sv5,_,r5,rfl,⟨rfl,v1,v2⟩,w5⟩⟩
    · have u5:Tch [bw] h n h5 n5:=zA;clear t5;repeat' first|refine wk ?_|refine cX (fun _=>?_) fun _=>?_|fail
      exact⟨u5,.inl ⟨e,by unfold oneB;rw [if_neg (by decide),if_neg (by decide),if_pos (by decide),r3];dsimp only;rw [r4];dsimp only;rw [r5],rfl⟩⟩
    have hn5:=t5.le;have z5:Cel h5 n zI 0 zL:=Cel.tch zC t5 (by omega) (by simp;omega);have c5:Cel h5 (n+1) zI 0 [I64 7,I64 0,I64 a,I64 0,I64 0,str [],.slice none 0 0,I64 b,I64 0]:=Cel.tch zH t5 (by omega) (by simp;omega);have u5:Tch [bw] h n h5 n5:=zA;clear t5 z4 c4 u4;repeat' first|refine wk ?_|refine cX (fun _=>?_) fun _=>?_|refine ob (a:=_) ?_ (rs_agg (by apply zE;((conv=>lhs;whnf) <;> exact rfl)) (by decide) (by repeat' first|exact zT|(apply zN;focus (apply Cel.cell;(focus exact zC);exact rfl))))|fail
    exact⟨zA,.inr ⟨⟨7,0,a,0,0,[],.slice none 0 0,[],b,c⟩,q5,sv5,by unfold oneB;rw [if_neg (by decide),if_neg (by decide),if_pos (by decide),r3];dsimp only;rw [r4];dsimp only;rw [r5];rfl,rfl,Own.nil,by simp,w5.tch (S:=[n+1,n]) zA (by simp;omega)⟩⟩
  · rename_i e1;subst e1
    rintro _ h3 n3 ⟨t3,⟨e,r3,rfl⟩|⟨a,q3,sv3,_,r3,rfl,⟨rfl,v1,v2⟩,w3⟩⟩
    · have u3:Tch [bw] h n h3 n3:=zA;clear t3;repeat' first|refine wk ?_|refine cX (fun _=>?_) fun _=>?_|fail
      exact⟨u3,.inl ⟨e,by unfold oneB;rw [if_neg (by decide),if_neg (by decide),if_neg (by decide),if_pos (by decide),r3],rfl⟩⟩
    have hn3:=t3.le;have z3:Cel h3 n zI 0 zL:=Cel.tch zC t3 (by omega) (by simp;omega);have c3:Cel h3 (n+1) zI 0 zL:=Cel.tch zH t3 (by omega) (by simp;omega);have u3:Tch [bw] h n h3 n3:=zA;clear t3 z2 c2 u2;repeat' first|refine wk ?_|refine cX (fun _=>?_) fun _=>?_|refine ob (a:=_) ?_ (rs_agg (by apply zE;((conv=>lhs;whnf) <;> exact rfl)) (by decide) (by repeat' first|exact zT|(apply zN;focus (apply Cel.cell;(focus exact zC);exact rfl))))|fail
    exact⟨zA,.inr ⟨⟨8,0,0,0,0,[],.slice none 0 0,[],a,0⟩,q3,sv3,by unfold oneB;rw [if_neg (by decide),if_neg (by decide),if_neg (by decide),if_pos (by decide),r3];rfl,rfl,Own.nil,by simp,w3.tch (S:=[n+1,n]) zA (by simp;omega)⟩⟩
  · rename_i e1;subst e1
    rintro _ h3 n3 ⟨t3,⟨e,r3,rfl⟩|⟨a,q3,sv3,_,r3,rfl,⟨rfl,v1,v2⟩,w3⟩⟩
    · have u3:Tch [bw] h n h3 n3:=zA;clear t3;repeat' first|refine wk ?_|refine cX (fun _=>?_) fun _=>?_|fail
      exact⟨u3,.inl ⟨e,by unfold oneB;rw [if_neg (by decide),if_neg (by decide),if_neg (by decide),if_neg (by decide),if_pos (by decide),r3],rfl⟩⟩
    have hn3:=t3.le;have z3:Cel h3 n zI 0 zL:=Cel.tch zC t3 (by omega) (by simp;omega);have c3:Cel h3 (n+1) zI 0 zL:=Cel.tch zH t3 (by omega) (by simp;omega);have u3:Tch [bw] h n h3 n3:=zA;clear t3 z2 c2 u2;repeat' first|refine wk ?_|refine cX (fun _=>?_) fun _=>?_|refine ob (a:=_) ?_ (rs_agg (by apply zE;((conv=>lhs;whnf) <;> exact rfl)) (by decide) (by repeat' first|exact zT|(apply zN;focus (apply Cel.cell;(focus exact zC);exact rfl))))|fail
    exact⟨zA,.inr ⟨⟨9,0,a,0,0,[],.slice none 0 0,[],0,0⟩,q3,sv3,by unfold oneB;rw [if_neg (by decide),if_neg (by decide),if_neg (by decide),if_neg (by decide),if_pos (by decide),r3];rfl,rfl,Own.nil,by simp,w3.tch (S:=[n+1,n]) zA (by simp;omega)⟩⟩
  · rename_i e1 e2 e3 e4 e5;exact⟨zA,.inl ⟨3,by unfold oneB;rw [if_neg (by simpa using e1),if_neg (by simpa using e2),if_neg (by simpa using e3),if_neg (by simpa using e4),if_neg (by simpa using e5)],rfl⟩⟩
end Go.Proofs.YtdipdkkpgjdnkaaGreatDoor
namespace Go.Proofs.YtdipdkkpgjdnkaaGreatDoor
open Go Go.Ex Go.Ex.M
set_option maxRecDepth 100000
set_option maxHeartbeats 8000000
attribute [local simp] yG
variable {n n0 br bw nb:Nat} {h:zB} {ws:List Tx} {sv:Value} {m:Int} {F:FunT}
theorem tch_lo{n':Nat}{h':zB}(t:Tch [br,bw] h n h' n')(h1:n0≤n)(h2:n0≤bw):Tch [br] h n0 h' n':=⟨Nat.le_trans h1 t.1,fun b hb hx=>t.2 b (by omega) (by simp at hx ⊢;omega)⟩
theorem head_0{S0:Vir.St}(hs:S0.step=0):Vir.headS S0 ws=(match Vir.wantW Vir.tFunc ws with
 | .error e=>.error e
 | .ok (_, r) => match Vir.nameW r with
  | .error e=>.error e
  | .ok (s,r)=>match Vir.endW r with
   | .error e=>.error e
   | .ok _=>.ok { S0.f with name:=s }):=by unfold Vir.headS;rw [hs];rfl
theorem rname_com{S0:Vir.St}(hs:S0.step=0)(hf:S0.f=toF F)(R:RdM br n0 h F nb)(h0:n0<bw)(w:WdM n bw h ws sv):Com P 8 23 [ptr br 0,ptr bw 0] h n fun o h' n'=>Tch [br,bw] h n h' n'∧
 ((∃e,Vir.headS S0 ws = .error e∧o = .panic (wrC e))∨∃F',Vir.headS S0 ws = .ok (toF F')∧o = .ret (.tuple #[])∧F'.blocks=F.blocks∧RdM br n' h' F' nb):=by
 have hb:=w.lt;have hlt:=R.lt;have hnn:=R.nn;have c:=R.ce;have o1:=R.vr.one;have o2:=R.pr.one;have o3:=R.bv.one;rw [head_0 hs];refine ent fun u=>?_;repeat' first|refine wk ?_|refine cX (fun _=>?_) fun _=>?_|refine cal (want_com w) ?_|fail
 rintro _ h2 n2 ⟨t2,⟨e,r2,rfl⟩|⟨_,q2,sv2,_,r2,rfl,rfl,w2⟩⟩
 · repeat' first|refine wk ?_|refine cX (fun _=>?_) fun _=>?_|fail
   exact⟨zA,.inl ⟨e,by rw[r2],rfl⟩⟩
 have hn2:=t2.le;repeat' first|refine wk ?_|refine cX (fun _=>?_) fun _=>?_|refine cal (name_com w2) ?_|fail
 rintro _ h3 n3 ⟨t3,⟨e,r3,rfl⟩|⟨s,q3,sv3,_,r3,rfl,rfl,w3⟩⟩
 · repeat' first|refine wk ?_|refine cX (fun _=>?_) fun _=>?_|fail
   exact⟨zA,.inl ⟨e,by rw[r2];dsimp only;rw [r3],rfl⟩⟩
 have hn3:=t3.le;have t4:Tch [bw] h n h3 n3:=zA;have c3:Cel h3 br zR 0 [str F.name,F.vv,F.pv,str F.result,F.bv]:=c.tch t4 (by omega) (by simp;omega);clear t3 t2;repeat' first|refine wk ?_|refine cX (fun _=>?_) fun _=>?_|refine cal (end_com (w3.tch (S:=[br]) zA (by simp;omega))) ?_|fail
 rintro _ h5 n5 ⟨t5,⟨e,r5,rfl⟩|⟨_,q5,sv5,_,r5,rfl,rfl,w5⟩⟩
 · have t6:Tch [br,bw] h n h5 n5:=zA;clear t5;repeat' first|refine wk ?_|refine cX (fun _=>?_) fun _=>?_|fail
   exact⟨t6,.inl ⟨e,by rw[r2];dsimp only;rw [r3];dsimp only;rw [r5],rfl⟩⟩
 · have c5:Cel h5 br zR 0 [str s,F.vv,F.pv,str F.result,F.bv]:=Cel.tch zH t5 (by omega) (by simp;omega);have t6:Tch [br,bw] h n h5 n5:=zA;have t7:Tch [br] h n0 h5 n5:=tch_lo t6 (by omega) (by omega);clear t5;repeat' first|refine wk ?_|refine cX (fun _=>?_) fun _=>?_|fail
   exact⟨t6,.inr ⟨⟨s,F.vv,F.vregs,F.pv,F.params,F.result,F.bv,F.blocks⟩,by rw[r2];dsimp only;rw [r3];dsimp only;rw [r5,hf],rfl,rfl,R.put t7 c5 (xG R.vr t7 (by omega)) (xG R.pr t7 (by omega))⟩⟩
theorem head_3{S0:Vir.St}(hs:S0.step=3):Vir.headS S0 ws=(match Vir.wantW Vir.tResult ws with
 | .error e=>.error e
 | .ok (_, r) => match Vir.nameW r with
  | .error e=>.error e
  | .ok (s,r)=>match Vir.endW r with
   | .error e=>.error e
   | .ok _=>.ok { S0.f with result:=s }):=by unfold Vir.headS;rw [hs];rfl
theorem rresult_com{S0:Vir.St}(hs:S0.step=3)(hf:S0.f=toF F)(R:RdM br n0 h F nb)(h0:n0<bw)(w:WdM n bw h ws sv):Com P 8 26 [ptr br 0,ptr bw 0] h n fun o h' n'=>Tch [br,bw] h n h' n'∧
 ((∃e,Vir.headS S0 ws = .error e∧o = .panic (wrC e))∨∃F',Vir.headS S0 ws = .ok (toF F')∧o = .ret (.tuple #[])∧F'.blocks=F.blocks∧RdM br n' h' F' nb):=by
 have hb:=w.lt;have hlt:=R.lt;have hnn:=R.nn;have c:=R.ce;have o1:=R.vr.one;have o2:=R.pr.one;have o3:=R.bv.one;rw [head_3 hs];refine ent fun u=>?_;repeat' first|refine wk ?_|refine cX (fun _=>?_) fun _=>?_|refine cal (want_com w) ?_|fail
 rintro _ h2 n2 ⟨t2,⟨e,r2,rfl⟩|⟨_,q2,sv2,_,r2,rfl,rfl,w2⟩⟩
 · repeat' first|refine wk ?_|refine cX (fun _=>?_) fun _=>?_|fail
   exact⟨zA,.inl ⟨e,by rw[r2],rfl⟩⟩
 have hn2:=t2.le;repeat' first|refine wk ?_|refine cX (fun _=>?_) fun _=>?_|refine cal (name_com w2) ?_|fail
 rintro _ h3 n3 ⟨t3,⟨e,r3,rfl⟩|⟨s,q3,sv3,_,r3,rfl,rfl,w3⟩⟩
 · repeat' first|refine wk ?_|refine cX (fun _=>?_) fun _=>?_|fail
   exact⟨zA,.inl ⟨e,by rw[r2];dsimp only;rw [r3],rfl⟩⟩
 have hn3:=t3.le;have t4:Tch [bw] h n h3 n3:=zA;have c3:Cel h3 br zR 0 [str F.name,F.vv,F.pv,str F.result,F.bv]:=c.tch t4 (by omega) (by simp;omega);clear t3 t2;repeat' first|refine wk ?_|refine cX (fun _=>?_) fun _=>?_|refine cal (end_com (w3.tch (S:=[br]) zA (by simp;omega))) ?_|fail
 rintro _ h5 n5 ⟨t5,⟨e,r5,rfl⟩|⟨_,q5,sv5,_,r5,rfl,rfl,w5⟩⟩
 · have t6:Tch [br,bw] h n h5 n5:=zA;clear t5;repeat' first|refine wk ?_|refine cX (fun _=>?_) fun _=>?_|fail
   exact⟨t6,.inl ⟨e,by rw[r2];dsimp only;rw [r3];dsimp only;rw [r5],rfl⟩⟩
 · have c5:Cel h5 br zR 0 [str F.name,F.vv,F.pv,str s,F.bv]:=Cel.tch zH t5 (by omega) (by simp;omega);have t6:Tch [br,bw] h n h5 n5:=zA;have t7:Tch [br] h n0 h5 n5:=tch_lo t6 (by omega) (by omega);clear t5;repeat' first|refine wk ?_|refine cX (fun _=>?_) fun _=>?_|fail
   exact⟨t6,.inr ⟨⟨F.name,F.vv,F.vregs,F.pv,F.params,s,F.bv,F.blocks⟩,by rw[r2];dsimp only;rw [r3];dsimp only;rw [r5,hf],rfl,rfl,R.put t7 c5 (xG R.vr t7 (by omega)) (xG R.pr t7 (by omega))⟩⟩
end Go.Proofs.YtdipdkkpgjdnkaaGreatDoor
namespace Go.Proofs.YtdipdkkpgjdnkaaGreatDoor
open Go Go.Ex Go.Ex.M
set_option maxRecDepth 100000
set_option maxHeartbeats 8000000
attribute [local simp] yG
variable {n n0 br bw nb:Nat} {h:zB} {ws:List Tx} {sv:Value} {m:Int} {F:FunT}
theorem head_1{S0:Vir.St}(hs:S0.step=1):Vir.headS S0 ws=(match Vir.wantW Vir.tRegs ws with
 | .error e=>.error e
 | .ok (_,r)=>match Vir.restNames r with
  | .error e=>.error e
  | .ok (l,_)=>if l.length≤500 then .ok { S0.f with vregs:=l } else .error 2):=by unfold Vir.headS;rw [hs];rfl
theorem rregs_com{S0:Vir.St}(hs:S0.step=1)(hf:S0.f=toF F)(R:RdM br n0 h F nb)(h0:n0<bw)(w:WdM n bw h ws sv)(hE:Env m h)(hg:8≤br):Com P 8 24 [ptr br 0,ptr bw 0] h n fun o h' n'=>Tch [br,bw] h n h' n'∧
 ((∃e,Vir.headS S0 ws = .error e∧o = .panic (wrC e))∨∃F',Vir.headS S0 ws = .ok (toF F')∧o = .ret (.tuple #[])∧F'.blocks=F.blocks∧RdM br n' h' F' nb):=by
 have hb:=w.lt;have hlt:=R.lt;have hnn:=R.nn;have c:=R.ce;have o1:=R.vr.one;have o2:=R.pr.one;have o3:=R.bv.one;rw [head_1 hs];refine ent fun u=>?_;repeat' first|refine wk ?_|refine cX (fun _=>?_) fun _=>?_|refine cal (want_com w) ?_|fail
 rintro _ h2 n2 ⟨t2,⟨e,r2,rfl⟩|⟨_,q2,sv2,_,r2,rfl,rfl,w2⟩⟩
 · repeat' first|refine wk ?_|refine cX (fun _=>?_) fun _=>?_|fail
   exact⟨zA,.inl ⟨e,by rw[r2],rfl⟩⟩
 have hn2:=t2.le;repeat' first|refine wk ?_|refine cX (fun _=>?_) fun _=>?_|refine cal (restN_com w2 (hE.tch t2 (by omega) (by simp;omega)) (by omega)) ?_|fail
 rintro _ h3 n3 ⟨t3,⟨e,r3,rfl⟩|⟨l,v,sv3,r3,rfl,o4,l4,q4,w3⟩⟩
 · have t4:Tch [bw] h n h3 n3:=zA;clear t3 t2;repeat' first|refine wk ?_|refine cX (fun _=>?_) fun _=>?_|fail
   exact⟨zA,.inl ⟨e,by rw[r2];dsimp only;unfold Vir.restNames;rw [r3],rfl⟩⟩
 have hn3:=t3.le;have t4:Tch [bw] h n h3 n3:=zA;have c3:Cel h3 br zR 0 [str F.name,F.vv,F.pv,str F.result,F.bv]:=c.tch t4 (by omega) (by simp;omega);clear t3 t2;have o5:=o4.one;have rr:=o4.row (by decide);repeat' first|refine wk ?_|refine cX (fun _=>?_) fun _=>?_|fail
 · rename_i f1;have t6:Tch [br,bw] h n (hst h3 br (0+0+1) [v]) n3:=zA;have t7:Tch [br] h n0 (hst h3 br (0+0+1) [v]) n3:=tch_lo t6 (by omega) (by omega);exact⟨t6,.inr ⟨⟨F.name,v,l,F.pv,F.params,F.result,F.bv,F.blocks⟩,by rw[r2];dsimp only;unfold Vir.restNames;rw [r3];dsimp only;rw [if_pos (by omega),hf],rfl,rfl,R.put t7 zH (own_dn (xG o4 (S0:=br) zA (by omega)) (by omega)) (xG R.pr t7 (by omega))⟩⟩
 · rename_i f1;exact⟨zA,.inl ⟨2,by rw[r2];dsimp only;unfold Vir.restNames;rw [r3];dsimp only;rw [if_neg (by omega)],rfl⟩⟩
theorem head_2{S0:Vir.St}(hs:S0.step=2):Vir.headS S0 ws=(match Vir.wantW Vir.tParams ws with
 | .error e=>.error e
 | .ok (_,r)=>match Vir.restNums r with
  | .error e=>.error e
  | .ok (l,_)=>if l.length≤16 then .ok { S0.f with params:=l } else .error 2):=by unfold Vir.headS;rw [hs];rfl
theorem rparams_com{S0:Vir.St}(hs:S0.step=2)(hf:S0.f=toF F)(R:RdM br n0 h F nb)(h0:n0<bw)(w:WdM n bw h ws sv)(hE:Env m h)(hg:8≤br):Com P 8 25 [ptr br 0,ptr bw 0] h n fun o h' n'=>Tch [br,bw] h n h' n'∧
 ((∃e,Vir.headS S0 ws = .error e∧o = .panic (wrC e))∨∃F',Vir.headS S0 ws = .ok (toF F')∧o = .ret (.tuple #[])∧F'.blocks=F.blocks∧RdM br n' h' F' nb):=by
 have hb:=w.lt;have hlt:=R.lt;have hnn:=R.nn;have c:=R.ce;have o1:=R.vr.one;have o2:=R.pr.one;have o3:=R.bv.one;rw [head_2 hs];refine ent fun u=>?_;repeat' first|refine wk ?_|refine cX (fun _=>?_) fun _=>?_|refine cal (want_com w) ?_|fail
 rintro _ h2 n2 ⟨t2,⟨e,r2,rfl⟩|⟨_,q2,sv2,_,r2,rfl,rfl,w2⟩⟩
 · repeat' first|refine wk ?_|refine cX (fun _=>?_) fun _=>?_|fail
   exact⟨zA,.inl ⟨e,by rw[r2],rfl⟩⟩
 have hn2:=t2.le;repeat' first|refine wk ?_|refine cX (fun _=>?_) fun _=>?_|refine cal (restI_com w2 (hE.tch t2 (by omega) (by simp;omega)) (by omega)) ?_|fail
 rintro _ h3 n3 ⟨t3,⟨e,r3,rfl⟩|⟨l,v,sv3,r3,rfl,o4,l4,q4,w3⟩⟩
 · have t4:Tch [bw] h n h3 n3:=zA;clear t3 t2;repeat' first|refine wk ?_|refine cX (fun _=>?_) fun _=>?_|fail
   exact⟨zA,.inl ⟨e,by rw[r2];dsimp only;unfold Vir.restNums;rw [r3],rfl⟩⟩
 have hn3:=t3.le;have t4:Tch [bw] h n h3 n3:=zA;have c3:Cel h3 br zR 0 [str F.name,F.vv,F.pv,str F.result,F.bv]:=c.tch t4 (by omega) (by simp;omega);clear t3 t2;have o5:=o4.one;have rr:=o4.row (by decide);repeat' first|refine wk ?_|refine cX (fun _=>?_) fun _=>?_|fail
 · rename_i f1;have t6:Tch [br,bw] h n (hst h3 br (0+0+2) [v]) n3:=zA;have t7:Tch [br] h n0 (hst h3 br (0+0+2) [v]) n3:=tch_lo t6 (by omega) (by omega);exact⟨t6,.inr ⟨⟨F.name,F.vv,F.vregs,v,l,F.result,F.bv,F.blocks⟩,by rw[r2];dsimp only;unfold Vir.restNums;rw [r3];dsimp only;rw [if_pos (by omega),hf],rfl,rfl,R.put t7 zH (xG R.vr t7 (by omega)) (own_dn (xG o4 (S0:=br) zA (by omega)) (by omega))⟩⟩
 · rename_i f1;exact⟨zA,.inl ⟨2,by rw[r2];dsimp only;unfold Vir.restNums;rw [r3];dsimp only;rw [if_neg (by omega)],rfl⟩⟩
end Go.Proofs.YtdipdkkpgjdnkaaGreatDoor
namespace Go.Proofs.YtdipdkkpgjdnkaaGreatDoor
open Go Go.Ex Go.Ex.M
set_option maxRecDepth 100000
set_option maxHeartbeats 8000000
attribute [local simp] yG
variable {n br nb:Nat} {h:zB} {F:FunT}
theorem rblock_com(R:RdM br n h F nb):Com P 8 27 [ptr br 0] h n fun o h' n'=>Kr br h n h' n'∧
 ((¬F.blocks.length<200∧o = .panic (wrC 2))∨(F.blocks.length<200∧o = .ret (.tuple #[])∧∃bv',RdM br n' h' ⟨F.name,F.vv,F.vregs,F.pv,F.params,F.result,bv',F.blocks++[(.slice none 0 0,[])]⟩ n')):=by
 have hlt:=R.lt;have hnn:=R.nn;have c:=R.ce;have o1:=R.vr.one;have o2:=R.pr.one;have o3:=R.bv.one;have hbl:=R.bl;have ob1':Own (br+1) n h F.bv tBk 1 F.blocks.length (F.blocks.map (·.1)):=R.bv.keep hnn fun _ _=>rfl;have rr:=ob1'.row (by decide);refine ent fun u=>?_;repeat' first|refine wk ?_|refine cX (fun _=>?_) fun _=>?_|fail
 · refine appO (ob1'.tch (S:=[]) zA (by simp)) (yA (e:=tBk) (sz:=1) (len:=1) rfl (by decide)) (by omega) ⟨rfl,trivial⟩ (by omega) ?_
   rintro v h3 n3 ho3 ht3
   have hn3:=ht3.le;have o4:=ho3.one;have c3:Cel h3 br zR 0 [str F.name,F.vv,F.pv,str F.result,F.bv]:=Cel.tch zC ht3 (by omega) (vU ob1' (by omega));have t3:Tch (yE F.bv).toList h n h3 n3:=Tch.tch ht3 zA fun x hx=>.inr hx;clear ht3;repeat' first|refine wk ?_|refine cX (fun _=>?_) fun _=>?_|fail
   obtain⟨k,R'⟩:=R.addB ho3 t3 (by omega) zH;exact⟨k,.inr ⟨by omega,rfl,v,R'⟩⟩
 · rename_i f1;exact⟨⟨Nat.le_refl _,fun _ _ _ _=>rfl⟩,.inl ⟨by omega,rfl⟩⟩
end Go.Proofs.YtdipdkkpgjdnkaaGreatDoor
