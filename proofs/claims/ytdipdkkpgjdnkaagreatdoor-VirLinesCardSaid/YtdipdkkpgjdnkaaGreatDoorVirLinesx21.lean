/- What the law leans on: an executor of the model that is sound, deduction over it, and the walks through the code (part 21 of 24). Conditions: those that each theorem states. -/
import Derived.Test.YtdipdkkpgjdnkaaGreatDoorVirLinesx15
import Derived.Test.YtdipdkkpgjdnkaaGreatDoorVirLinesx17

set_option linter.unusedVariables false
set_option linter.unusedSimpArgs false
namespace Go.Proofs.YtdipdkkpgjdnkaaGreatDoor
open Go Go.Ex Go.Ex.M
set_option maxRecDepth 100000
set_option maxHeartbeats 8000000
variable {n:Nat} {h:zB}
theorem b_eq{x c:UInt8}:(((x.toNat:Nat):Int)=(c.toNat:Nat))↔x=c:=⟨fun h=>UInt8.toNat_inj.1 (by omega),fun h=>by rw[h]⟩
theorem lowO{lo n len:Nat}{h:zB}{v:Value}{e sz:Nat}{vs:List Value}{S:List Nat}(o:Own lo n h v e sz len vs):∀x∈(yE v).toList,lo≤x∨x∈S:=fun x hx=>by
 cases hb:yE v with
 | none=>rw [hb]at hx;cases hx
 | some b=>rw [hb]at hx;simp at hx;subst hx;exact .inl (o.blk hb).1
def SplI(c:UInt8)(s:Tx)(h:zB)(n:Nat)(a:Nat×Nat×Value×List Tx)(h':zB)(n':Nat):Prop:=
 Tch [] h n h' n'∧a.2.1≤a.1∧a.1≤s.length∧Own n n' h' a.2.2.1 9 1 a.2.2.2.length (a.2.2.2.map str)∧a.2.2.2.length≤a.1∧zO c s=a.2.2.2++zO c (s.drop a.2.1)∧∀j,a.2.1≤j→j<a.1→s[j]?≠some c
theorem uV{s:Tx}(hs:s.length<100000):Ret P 8 32 [str s] h n fun v h' n'=>Own n n' h' v 9 1 (zO 32 s).length ((zO 32 s).map str)∧Tch [] h n h' n':=by
 refine ent fun u=>?_;repeat' first|refine wk ?_|refine cX (fun _=>?_) fun _=>?_|fail
 refine lpR (α :=Nat×Nat×Value×List Tx) (fun a=>[(0,str s),(3,a.2.2.1),(4,I64 (a.2.1:Nat)),(5,I64 (a.1:Nat))]) (SplI 32 s h n) (fun a=>s.length - a.1) (0,0,.slice none 0 0,[]) ⟨zA,Nat.le_refl _,Nat.zero_le _,Own.nil,Nat.le_refl _,by simp,fun j _ hj=>absurd hj (Nat.not_lt_zero _)⟩ ?_
 rintro ⟨i,f,v,done⟩ t h' n' ⟨ht,hfi,hil,ho,hdl,hsp,hno⟩
 dsimp only at ht hfi hil ho hdl hsp hno ⊢;have o1:=ho.one;have hn':=ht.le;by_cases hlt:i<s.length
 · have c0:s[i]? = some s[i]:=List.getElem?_eq_getElem hlt;generalize s[i]=x at c0
   have hq:(((x.toNat:Nat):Int)=32)↔x=32:=b_eq (c:=32);by_cases hx:x=32
   · have hsp1:=Vir.split_step hfi (by rw[c0,hx]) hno;have hd:=hq.2 hx;repeat' first|refine wk ?_|refine cX (fun _=>?_) fun _=>?_|refine ob (a:=str ((s.drop f).take (i - f))) ?_ (txt_cut hfi (by omega))|fail
     refine appO (ho.tch (S:=[]) zA (by simp)) (yA (e:=9) (sz:=1) (len:=1) rfl (by decide)) (by omega) ⟨rfl,trivial⟩ (by omega) ?_
     rintro v' h3 n3 ho3 ht3
     have ht4:Tch [] h n h3 n3:=Tch.tch ht3 zA (lowO ho);repeat' first|refine wk ?_|refine cX (fun _=>?_) fun _=>?_|fail
     exact rnd (i+1,i+1,v',done++[(s.drop f).take (i - f)]) ⟨ht4,Nat.le_refl _,by dsimp only;omega,by rw[List.length_append,List.map_append];exact ho3,by simp;omega,by rw[hsp,hsp1,List.append_assoc];rfl,fun j h1 h2=>absurd (Nat.lt_of_le_of_lt h1 h2) (Nat.lt_irrefl _)⟩
   · have hd:=fun h9=>hx (hq.1 h9);repeat' first|refine wk ?_|refine cX (fun _=>?_) fun _=>?_|fail
     exact rnd (i+1,f,v,done) ⟨ht,by dsimp only;omega,by dsimp only;omega,ho,by dsimp only;omega,hsp,fun j h1 h2=>by
      rcases Nat.lt_succ_iff_lt_or_eq.1 h2 with h9|rfl
      · exact hno j h1 h9
      · rw[c0];intro h9;injection h9 with h9;exact hx h9⟩
 · obtain rfl:i=s.length:=by omega
   have se:=Vir.split_end (s:=s) (f:=f) hno;rw [se]at hsp;repeat' first|refine wk ?_|refine cX (fun _=>?_) fun _=>?_|refine ob (a:=str (s.drop f)) ?_ (txt_from (by omega))|fail
   refine appO (ho.tch (S:=[]) zA (by simp)) (yA (e:=9) (sz:=1) (len:=1) rfl (by decide)) (by omega) ⟨rfl,trivial⟩ (by omega) ?_
   rintro v' h3 n3 ho3 ht3
   have ht4:Tch [] h n h3 n3:=Tch.tch ht3 zA (lowO ho);have o3:=ho3.one;repeat' first|refine wk ?_|refine cX (fun _=>?_) fun _=>?_|fail
   exact⟨_,rfl,by rw[hsp,List.length_append,List.map_append];exact ho3,ht4⟩
theorem rlines_ret{s:Tx}(hs:s.length<100000):Ret P 8 8 [str s] h n fun v h' n'=>∃lv,v = .tuple #[lv,.bool (Vir.linesR s).2]∧Own n n' h' lv 9 1 (Vir.linesR s).1.length ((Vir.linesR s).1.map str)∧Tch [] h n h' n':=by
 refine ent fun u=>?_;repeat' first|refine wk ?_|refine cX (fun _=>?_) fun _=>?_|fail
 refine lpR (α :=Nat×Nat×Value×List Tx) (fun a=>[(0,str s),(4,a.2.2.1),(5,I64 (a.2.1:Nat)),(6,I64 (a.1:Nat))]) (SplI 10 s h n) (fun a=>s.length - a.1) (0,0,.slice none 0 0,[]) ⟨zA,Nat.le_refl _,Nat.zero_le _,Own.nil,Nat.le_refl _,by simp,fun j _ hj=>absurd hj (Nat.not_lt_zero _)⟩ ?_
 rintro ⟨i,f,v,done⟩ t h' n' ⟨ht,hfi,hil,ho,hdl,hsp,hno⟩
 dsimp only at ht hfi hil ho hdl hsp hno ⊢;have o1:=ho.one;have hn':=ht.le;by_cases hlt:i<s.length
 · have c0:s[i]? = some s[i]:=List.getElem?_eq_getElem hlt;generalize s[i]=x at c0
   have hq:(((x.toNat:Nat):Int)=10)↔x=10:=b_eq (c:=10);by_cases hx:x=10
   · have hsp1:=Vir.split_step hfi (by rw[c0,hx]) hno;have hd:=hq.2 hx;repeat' first|refine wk ?_|refine cX (fun _=>?_) fun _=>?_|refine ob (a:=str ((s.drop f).take (i - f))) ?_ (txt_cut hfi (by omega))|fail
     refine appO (ho.tch (S:=[]) zA (by simp)) (yA (e:=9) (sz:=1) (len:=1) rfl (by decide)) (by omega) ⟨rfl,trivial⟩ (by omega) ?_
     rintro v' h3 n3 ho3 ht3
     have ht4:Tch [] h n h3 n3:=Tch.tch ht3 zA (lowO ho);repeat' first|refine wk ?_|refine cX (fun _=>?_) fun _=>?_|fail
     exact rnd (i+1,i+1,v',done++[(s.drop f).take (i - f)]) ⟨ht4,Nat.le_refl _,by dsimp only;omega,by rw[List.length_append,List.map_append];exact ho3,by simp;omega,by rw[hsp,hsp1,List.append_assoc];rfl,fun j h1 h2=>absurd (Nat.lt_of_le_of_lt h1 h2) (Nat.lt_irrefl _)⟩
   · have hd:=fun h9=>hx (hq.1 h9);repeat' first|refine wk ?_|refine cX (fun _=>?_) fun _=>?_|fail
     exact rnd (i+1,f,v,done) ⟨ht,by dsimp only;omega,by dsimp only;omega,ho,by dsimp only;omega,hsp,fun j h1 h2=>by
      rcases Nat.lt_succ_iff_lt_or_eq.1 h2 with h9|rfl
      · exact hno j h1 h9
      · rw[c0];intro h9;injection h9 with h9;exact hx h9⟩
 · obtain rfl:i=s.length:=by omega
   have se:=Vir.split_end (s:=s) (f:=f) hno;rw [se]at hsp;have hlr:=Vir.linesR_of hsp;by_cases hz:f<s.length
   · rw[if_neg (fun h9=>by have:=List.drop_eq_nil_iff.1 h9;omega)]at hlr;rw [hlr];repeat' first|refine wk ?_|refine cX (fun _=>?_) fun _=>?_|refine ob (a:=str (s.drop f)) ?_ (txt_from (by omega))|fail
     refine appO (ho.tch (S:=[]) zA (by simp)) (yA (e:=9) (sz:=1) (len:=1) rfl (by decide)) (by omega) ⟨rfl,trivial⟩ (by omega) ?_
     rintro v' h3 n3 ho3 ht3
     have ht4:Tch [] h n h3 n3:=Tch.tch ht3 zA (lowO ho);have o3:=ho3.one;repeat' first|refine wk ?_|refine cX (fun _=>?_) fun _=>?_|fail
     exact⟨_,rfl,_,rfl,by rw[List.length_append,List.map_append];exact ho3,ht4⟩
   · rw[if_pos (List.drop_eq_nil_of_le (by omega))]at hlr;rw [hlr];repeat' first|refine wk ?_|refine cX (fun _=>?_) fun _=>?_|fail
     exact⟨_,rfl,_,rfl,ho,ht⟩
end Go.Proofs.YtdipdkkpgjdnkaaGreatDoor
namespace Go.Proofs.YtdipdkkpgjdnkaaGreatDoor
open Go Go.Ex Go.Ex.M
set_option maxRecDepth 100000
set_option maxHeartbeats 8000000
variable {n:Nat} {h:zB}
instance rsmall_c (a:Int) (h:zB) (n:Nat):PurC P 8 14 [I64 a] h n (.bool (Vir.small a)):=⟨by
 refine ent fun u=>?_;unfold Vir.small;repeat' first|refine wk ?_|refine cX (fun _=>?_) fun _=>?_|fail
 · rename_i h1;exact fin (by rw[show decide (a≤99999)=decide (0≤a∧a≤99999) from decide_eq_decide.2 ⟨fun h9=>⟨h1,h9⟩,fun h9=>h9.2⟩])
 · rename_i h1;exact fin (by rw[decide_eq_false (show ¬(0≤a∧a≤99999) from fun h9=>h1 h9.1)])⟩
abbrev intV(r:Option Int):Value:=.tuple ⟨[I64 (r.getD 0),.bool r.isSome]⟩
theorem digR_no{m:Nat}{x:UInt8}{r:Tx}(h:¬(48≤x.toNat∧x.toNat≤57)):Vir.digR m (x::r)=none:=by unfold Vir.digR;rw [if_neg h]
theorem digR_big{m c:Nat}{x:UInt8}{r:Tx}(hx:x.toNat=48+c)(hc:c≤9)(h:9223372036854775808<10*m+c):Vir.digR m (x::r)=none:=by unfold Vir.digR;rw [if_pos (by omega),if_pos (by omega)]
theorem digR_ok{m c:Nat}{x:UInt8}{r:Tx}(hx:x.toNat=48+c)(hc:c≤9)(h:¬9223372036854775808<10*m+c):Vir.digR m (x::r)=Vir.digR (10*m+c) r:=by
 conv=>lhs;unfold Vir.digR
 rw[if_pos (by omega),if_neg (by omega),show x.toNat - 48=c by omega]
theorem cv_byte{x:Nat}(h:x<256):Cv P 3 (.int .u8 (x:Nat)) (I64 (x:Nat)):=by
 have e:Cv P 3 (.int .u8 (x:Nat)) (.int .i64 (IntKind.wrap .i64 (x:Nat))):=cv_int
 have e2:IntKind.wrap .i64 (x:Nat)=(x:Nat):=by
  unfold IntKind.wrap;simp [IntKind.bits,IntKind.signed];omega
 rw[e2]at e;exact e
def tellD(neg:Bool)(r:Option Nat):Option Int:=match r with
 | none=>none
 | some m=>if neg then some (-(m:Int)) else if m=9223372036854775808 then none else some (m:Int)
theorem intR_neg{w:Tx}{d:Tx}(h:w=45::d):Vir.intR w=tellD true (Vir.magR true d):=by
 subst h;unfold Vir.intR tellD;rw [if_pos (by rfl),List.tail_cons];cases Vir.magR true d <;> rfl
theorem intR_pos{w:Tx}(h:w.head?≠some 45):Vir.intR w=tellD false (Vir.magR false w):=by
 unfold Vir.intR tellD;rw [if_neg h];cases Vir.magR false w <;> rfl
theorem magR_len{neg:Bool}{w:Tx}(h:w.length<1):Vir.magR neg w=none:=by unfold Vir.magR;rw [if_pos (.inl h)]
theorem magR_bad{neg:Bool}{w:Tx}{y:UInt8}(c:w[0]? = some y)(h:19<w.length∨((((y.toNat:Nat):Int)=48)∧(1<w.length∨neg=true))):Vir.magR neg w=none:=by
 unfold Vir.magR;rw [if_pos];rcases h with h|⟨h,h2⟩
 · exact .inr (.inl h)
 · have:=(b_eq (c:=48)).1 h;subst this;exact .inr (.inr ⟨by cases w <;> simp_all,h2⟩)
theorem magR_ok{neg:Bool}{w:Tx}{y:UInt8}(c:w[0]? = some y)(h1:¬w.length<1)(h:¬(19<w.length∨((((y.toNat:Nat):Int)=48)∧(1<w.length∨neg=true)))):Vir.magR neg w=Vir.digR 0 w:=by
 unfold Vir.magR;rw [if_neg]
 rintro (h2|h2|⟨h2,h3⟩)
 · exact h1 h2
 · exact h (.inl h2)
 · have e:w[0]? = some 48:=by cases w <;> simp_all
   rw[c]at e;injection e with e
   exact h (.inr ⟨(b_eq (c:=48)).2 e,h3⟩)
theorem head_at{w:Tx}(h1:¬w.length<1):∃y,w[0]? = some y:=⟨w[0],List.getElem?_eq_getElem (by omega)⟩
theorem rint_pur{w:Tx}(hl:w.length<100000):Pur P 8 60 [str w] h n (intV (Vir.intR w)):=by
 refine ent fun u=>?_;by_cases hneg:w.head? = some 45
 · obtain⟨d,rfl⟩:∃d,w=45::d:=by
    cases w with
    | nil=>cases hneg
    | cons x d=>injection hneg with hneg;subst hneg;exact⟨d,rfl⟩
   have hi:=intR_neg (w:=45::d) rfl;have c0:(45::d)[0]? = some 45:=rfl;have h45:(((45:UInt8).toNat:Nat):Int)=45:=by decide
   have ecut:yZ P h 9 (str (45::d)) (some (I64 1)) none none=some (str d):=txt_from (i:=1) (by simp);rw [List.length_cons]at hl;have hp0:(0:Int)<(((45::d:List UInt8).length:Nat):Int):=by rw[List.length_cons];omega
   by_cases h1:d.length<1
   · rw[magR_len h1]at hi;repeat' first|refine wk ?_|refine cX (fun _=>?_) fun _=>?_|refine ob (a:=str d) ?_ ecut|fail
     all_goals first|exact fin (by rw[hi];rfl)|(exfalso;omega)
   obtain⟨y,c1⟩:=head_at h1;by_cases hbad:19<d.length∨((((y.toNat:Nat):Int)=48)∧(1<d.length∨(true:Bool)=true))
   · rw[magR_bad c1 hbad]at hi;repeat' first|refine wk ?_|refine cX (fun _=>?_) fun _=>?_|refine ob (a:=str d) ?_ ecut|fail
     all_goals first|exact fin (by rw[hi];rfl)|(exfalso;simp at hbad;omega)
   have hw:=hi.trans (congrArg (tellD true) (magR_ok c1 h1 hbad));have h19:¬(19<d.length):=fun h9=>hbad (.inl h9);have h48:¬(((y.toNat:Nat):Int)=48):=fun h9=>hbad (.inr ⟨h9,.inr rfl⟩);clear hi;repeat' first|refine wk ?_|refine cX (fun _=>?_) fun _=>?_|refine ob (a:=str d) ?_ ecut|fail
   all_goals first|(exfalso;simp at hbad;omega)|skip
   all_goals
    refine lpR (α :=Nat×Nat) (fun a=>[(4,.bool (decide ((((45:UInt8).toNat:Nat):Int)=45))),(5,str d),(6,I64 (-(a.2:Int))),(7,I64 (a.1:Nat))]) (fun a h' n'=>h'=h∧n'=n∧a.1≤d.length∧a.2≤9223372036854775808∧Vir.digR 0 d=Vir.digR a.2 (d.drop a.1)) (fun a=>d.length - a.1) (0,0) ⟨rfl,rfl,Nat.zero_le _,by decide,rfl⟩ ?_
    rintro ⟨i,m⟩ t h' n' ⟨e1,e2,hi,hm,hr⟩
    subst e1 e2;dsimp only at hi hm hr ⊢;by_cases hlt:i<d.length
    · have c0:d[i]? = some d[i]:=List.getElem?_eq_getElem hlt;rw [List.drop_eq_getElem_cons hlt]at hr;generalize d[i]=x at c0 hr
      have hx:=x.toNat_lt;have hcv:=cv_byte (x:=x.toNat) (by omega);by_cases hd:48≤x.toNat∧x.toNat≤57
      · obtain⟨c,hc,hxc⟩:∃c:Nat,c≤9∧x.toNat=48+c:=⟨x.toNat - 48,by omega,by omega⟩;have hq:=Nat.div_mul_le_self (9223372036854775808 - c) 10;by_cases hbig:9223372036854775808<10*m+c
        · rw[digR_big hxc hc hbig]at hr;have hb:(-(m:Int)) < -(((9223372036854775808 - c) / 10:Nat):Int):=by omega
          repeat' first|refine ob (a:=I64 (x.toNat:Nat)) ?_ hcv|refine ob (a:=I64 (c:Nat)) ?_ (bn_subN (a:=((x.toNat:Nat):Int)) (c:=48) (by omega) (by omega))|refine ob (a:=I64 (-(((9223372036854775808 - c) / 10:Nat):Int))) ?_ (bn_quoN hc)|refine wk ?_|refine cX (fun _=>?_) fun _=>?_|fail
          exact fin (by rw[hw,hr];rfl)
        · rw[digR_ok hxc hc hbig]at hr;have hb:¬(-(m:Int)) < -(((9223372036854775808 - c) / 10:Nat):Int):=by omega
          repeat' first|refine ob (a:=I64 (x.toNat:Nat)) ?_ hcv|refine ob (a:=I64 (c:Nat)) ?_ (bn_subN (a:=((x.toNat:Nat):Int)) (c:=48) (by omega) (by omega))|refine ob (a:=I64 (-(((9223372036854775808 - c) / 10:Nat):Int))) ?_ (bn_quoN hc)|refine ob (a:=I64 (-((10*m:Nat):Int))) ?_ (bn_mulN (by omega))|refine ob (a:=I64 (-((10*m+c:Nat):Int))) ?_ (bn_subN (a:= -((10*m:Nat):Int)) (c:=(c:Nat)) (by omega) (by omega))|refine wk ?_|refine cX (fun _=>?_) fun _=>?_|fail
          exact rnd (i+1,10*m+c) ⟨rfl,rfl,hlt,by dsimp only;omega,hr⟩
      · rw[digR_no hd]at hr;repeat' first|refine ob (a:=I64 (x.toNat:Nat)) ?_ hcv|refine wk ?_|refine cX (fun _=>?_) fun _=>?_|fail
        all_goals first|exact fin (by rw[hw,hr];rfl)|(exfalso;omega)
    · obtain rfl:i=d.length:=by omega
      rw[List.drop_length]at hr;have hr:Vir.digR 0 d=some m:=hr;rw [hr]at hw;repeat' first|refine wk ?_|refine cX (fun _=>?_) fun _=>?_|fail
      exact fin (by rw[hw];rfl)
 · have hi:=intR_pos hneg;by_cases h1:w.length<1
   · rw[magR_len h1]at hi;repeat' first|refine wk ?_|refine cX (fun _=>?_) fun _=>?_|fail
     all_goals first|exact fin (by rw[hi];rfl)|(exfalso;omega)
   obtain⟨y,c1⟩:=head_at h1
   have hy:¬(((y.toNat:Nat):Int)=45):=fun h9=>hneg (by
    have:=(b_eq (c:=45)).1 h9;subst this;cases w <;> simp_all)
   by_cases hbad:19<w.length∨((((y.toNat:Nat):Int)=48)∧(1<w.length∨(false:Bool)=true))
   · rw[magR_bad c1 hbad]at hi;repeat' first|refine wk ?_|refine cX (fun _=>?_) fun _=>?_|fail
     all_goals first|exact fin (by rw[hi];rfl)|(exfalso;simp at hbad;omega)
   have hw:=hi.trans (congrArg (tellD false) (magR_ok c1 h1 hbad));have h19:¬(19<w.length):=fun h9=>hbad (.inl h9);clear hi;repeat' first|refine wk ?_|refine cX (fun _=>?_) fun _=>?_|fail
   all_goals first|(exfalso;simp at hbad;omega)|skip
   all_goals
    refine lpR (α :=Nat×Nat) (fun a=>[(4,.bool (decide (((y.toNat:Nat):Int)=45))),(5,str w),(6,I64 (-(a.2:Int))),(7,I64 (a.1:Nat))]) (fun a h' n'=>h'=h∧n'=n∧a.1≤w.length∧a.2≤9223372036854775808∧Vir.digR 0 w=Vir.digR a.2 (w.drop a.1)) (fun a=>w.length - a.1) (0,0) ⟨rfl,rfl,Nat.zero_le _,by decide,rfl⟩ ?_
    rintro ⟨i,m⟩ t h' n' ⟨e1,e2,hi,hm,hr⟩
    subst e1 e2;dsimp only at hi hm hr ⊢;by_cases hlt:i<w.length
    · have c0:w[i]? = some w[i]:=List.getElem?_eq_getElem hlt;rw [List.drop_eq_getElem_cons hlt]at hr;generalize w[i]=x at c0 hr
      have hx:=x.toNat_lt;have hcv:=cv_byte (x:=x.toNat) (by omega);by_cases hd:48≤x.toNat∧x.toNat≤57
      · obtain⟨c,hc,hxc⟩:∃c:Nat,c≤9∧x.toNat=48+c:=⟨x.toNat - 48,by omega,by omega⟩;have hq:=Nat.div_mul_le_self (9223372036854775808 - c) 10;by_cases hbig:9223372036854775808<10*m+c
        · rw[digR_big hxc hc hbig]at hr;have hb:(-(m:Int)) < -(((9223372036854775808 - c) / 10:Nat):Int):=by omega
          repeat' first|refine ob (a:=I64 (x.toNat:Nat)) ?_ hcv|refine ob (a:=I64 (c:Nat)) ?_ (bn_subN (a:=((x.toNat:Nat):Int)) (c:=48) (by omega) (by omega))|refine ob (a:=I64 (-(((9223372036854775808 - c) / 10:Nat):Int))) ?_ (bn_quoN hc)|refine wk ?_|refine cX (fun _=>?_) fun _=>?_|fail
          exact fin (by rw[hw,hr];rfl)
        · rw[digR_ok hxc hc hbig]at hr;have hb:¬(-(m:Int)) < -(((9223372036854775808 - c) / 10:Nat):Int):=by omega
          repeat' first|refine ob (a:=I64 (x.toNat:Nat)) ?_ hcv|refine ob (a:=I64 (c:Nat)) ?_ (bn_subN (a:=((x.toNat:Nat):Int)) (c:=48) (by omega) (by omega))|refine ob (a:=I64 (-(((9223372036854775808 - c) / 10:Nat):Int))) ?_ (bn_quoN hc)|refine ob (a:=I64 (-((10*m:Nat):Int))) ?_ (bn_mulN (by omega))|refine ob (a:=I64 (-((10*m+c:Nat):Int))) ?_ (bn_subN (a:= -((10*m:Nat):Int)) (c:=(c:Nat)) (by omega) (by omega))|refine wk ?_|refine cX (fun _=>?_) fun _=>?_|fail
          exact rnd (i+1,10*m+c) ⟨rfl,rfl,hlt,by dsimp only;omega,hr⟩
      · rw[digR_no hd]at hr;repeat' first|refine ob (a:=I64 (x.toNat:Nat)) ?_ hcv|refine wk ?_|refine cX (fun _=>?_) fun _=>?_|fail
        all_goals first|exact fin (by rw[hw,hr];rfl)|(exfalso;omega)
    · obtain rfl:i=w.length:=by omega
      rw[List.drop_length]at hr;have hr:Vir.digR 0 w=some m:=hr;rw [hr]at hw;by_cases hz:m=9223372036854775808
      · have hz': -((m:Nat):Int) = -9223372036854775808:=by omega
        repeat' first|refine wk ?_|refine cX (fun _=>?_) fun _=>?_|fail
        exact fin (by rw[hw];unfold tellD;dsimp only;rw [if_neg (by decide),if_pos hz];rfl)
      · have hz':¬(-((m:Nat):Int) = -9223372036854775808):=by omega
        repeat' first|refine wk ?_|refine cX (fun _=>?_) fun _=>?_|refine ob (a:=I64 (m:Nat)) ?_ (neg_of (a:= -((m:Nat):Int)) (by omega) (by omega))|fail
        exact fin (by rw[hw];unfold tellD;dsimp only;rw [if_neg (by decide),if_neg hz];rfl)
end Go.Proofs.YtdipdkkpgjdnkaaGreatDoor
namespace Go.Proofs.YtdipdkkpgjdnkaaGreatDoor
open Go Go.Ex Go.Ex.M
set_option maxRecDepth 100000
set_option maxHeartbeats 8000000
variable {n:Nat} {h:zB}
abbrev smV(w:Tx):Value:=.tuple ⟨[I64 ((Vir.intR w).getD 0),.bool (Vir.smallR w).isSome]⟩
theorem smallR_v{w:Tx}{v:Int}(h:Vir.smallR w=some v):(Vir.intR w).getD 0=v∧0≤v∧v≤99999:=by
 unfold Vir.smallR at h;split at h
 · rename_i x e;split at h
   · rename_i hs;injection h with h
     subst h;rw [e];unfold Vir.small at hs;exact⟨rfl,of_decide_eq_true hs⟩
   · cases h
 · cases h
theorem rsmallw_pur{w:Tx}(hl:w.length<100000):Pur P 8 59 [str w] h n (smV w):=by
 refine ent fun u=>?_;unfold smV Vir.smallR;repeat' first|refine wk ?_|refine cX (fun _=>?_) fun _=>?_|refine yV (rint_pur hl) ?_|fail
 all_goals (refine fin ?_;cases e:Vir.intR w <;> simp_all <;> split <;> simp_all)
theorem smallsR_at{w:Tx}{r:List Tx}:Vir.smallsR (w::r)=match Vir.smallR w with
 | some v=>(match Vir.smallsR r with
  | some l=>some (v::l)
  | none=>none)
 | none=>none:=rfl
def preS(done:List Int)(r:Option (List Int)):Option (List Int):=r.map (done ++ ·)
theorem preS_nil(r:Option (List Int)):preS [] r=r:=by cases r <;> simp[preS]
theorem preS_ok{done:List Int}{w:Tx}{r:List Tx}{v:Int}(h:Vir.smallR w=some v):preS done (Vir.smallsR (w::r))=preS (done++[v]) (Vir.smallsR r):=by
 rw[smallsR_at,h];cases Vir.smallsR r <;> simp[preS]
theorem preS_no{done:List Int}{w:Tx}{r:List Tx}(h:Vir.smallR w=none):preS done (Vir.smallsR (w::r))=none:=by
 rw[smallsR_at,h];rfl
theorem xZ{lo e:Nat}{sv:Value}{ss:List Tx}(r:Row lo h sv e 1 ss.length (ss.map str))(hlo:lo≤n)(hl:ss.length<100001)(ht:∀x∈ss,x.length<100000):Ret P 8 58 [sv] h n fun v h' n'=>Tch [] h n h' n'∧
 ((Vir.smallsR ss=none∧v = .tuple ⟨[.slice none 0 0,.bool false]⟩)∨∃l lv,Vir.smallsR ss=some l∧l.length=ss.length∧v = .tuple ⟨[lv,.bool true]⟩∧Own n n' h' lv 3 1 l.length (l.map I64)):=by
 have os:=r.one;refine ent fun u=>?_;repeat' first|refine wk ?_|refine cX (fun _=>?_) fun _=>?_|fail
 refine lpR (α :=Nat×Value×List Int) (fun a=>[(0,sv),(4,a.2.1),(5,I64 (a.1:Nat))]) (fun a h' n'=>Tch [] h n h' n'∧a.1≤ss.length∧Own n n' h' a.2.1 3 1 a.2.2.length (a.2.2.map I64)∧a.2.2.length=a.1∧Vir.smallsR ss=preS a.2.2 (Vir.smallsR (ss.drop a.1))) (fun a=>ss.length - a.1) (0,.slice none 0 0,[]) ⟨zA,Nat.zero_le _,Own.nil,rfl,(preS_nil _).symm⟩ ?_
 rintro ⟨i,v,done⟩ t h' n' ⟨ht',hi,ho,hd,hr⟩
 dsimp only at ht' hi ho hd hr ⊢;have o1:=ho.one;have hn':=ht'.le;have r':=r.tch ht' hlo (by simp);by_cases hlt:i<ss.length
 · have c0:ss[i]? = some ss[i]:=List.getElem?_eq_getElem hlt;rw [List.drop_eq_getElem_cons hlt]at hr;have hx:=ht _ (List.getElem_mem hlt);have low:=r'.low (by omega);generalize ss[i]=x at c0 hr hx
   have c1:zD h' (sbk sv) (sof sv+i*1)=some (str x):=by rw[Nat.mul_one];exact r'.at (by rw[List.getElem?_map,c0];rfl)
   have p:=rsmallw_pur (h:=h') (n:=n') hx
   cases hs:Vir.smallR x with
   | none=>
    rw[smV,hs]at p;replace p:Pur P 8 59 [str x] h' n' (.tuple ⟨[I64 ((Vir.intR x).getD 0),.bool false]⟩):=p;rw [preS_no hs]at hr;repeat' first|refine wk ?_|refine cX (fun _=>?_) fun _=>?_|refine yV p ?_|fail
    exact⟨_,rfl,ht',.inl ⟨hr,rfl⟩⟩
   | some a=>
    obtain⟨e1,b1,b2⟩:=smallR_v hs;rw [smV,hs,e1]at p;replace p:Pur P 8 59 [str x] h' n' (.tuple ⟨[I64 a,.bool true]⟩):=p;rw [preS_ok hs]at hr;repeat' first|refine wk ?_|refine cX (fun _=>?_) fun _=>?_|refine yV p ?_|fail
    refine appO (ho.tch (S:=[]) zA (by simp)) (yA (e:=3) (sz:=1) (len:=1) rfl (by decide)) (by omega) ⟨rfl,trivial⟩ (by omega) ?_
    rintro v' h3 n3 ho3 ht3
    have ht4:Tch [] h n h3 n3:=Tch.tch ht3 zA (lowO ho);have o3:=ho3.one;repeat' first|refine wk ?_|refine cX (fun _=>?_) fun _=>?_|fail
    exact rnd (i+1,v',done++[a]) ⟨ht4,hlt,by rw[List.length_append,List.map_append];exact ho3,by dsimp only;rw [List.length_append,hd];rfl,hr⟩
 · obtain rfl:i=ss.length:=by omega
   rw[List.drop_length]at hr;repeat' first|refine wk ?_|refine cX (fun _=>?_) fun _=>?_|fail
   exact⟨_,rfl,ht',.inr ⟨done,v,by rw[hr];simp [preS,Vir.smallsR],hd,rfl,ho⟩⟩
theorem wordB_is(x:Tx):Vir.wordB x=(decide (x=Vir.tConst) || (decide (x=Vir.tCopy) || (decide (x=Vir.tLoad) || decide (x=Vir.tCall)))):=by
 unfold Vir.wordB;have e:∀y,(x == y)=decide (x=y):=fun y=>by rw[Bool.eq_iff_iff];simp
 simp only[List.any_cons,List.any_nil,Bool.or_false,e]
instance ropName_c (x:Tx) (h:zB) (n:Nat):PurC P 8 39 [str x] h n (.bool (nameB x && !Vir.wordB x)):=⟨by
 refine ent fun u=>?_;rw [wordB_is];repeat' first|refine wk ?_|refine cX (fun _=>?_) fun _=>?_|fail
 all_goals (refine fin ?_;simp_all)⟩
end Go.Proofs.YtdipdkkpgjdnkaaGreatDoor
namespace Go.Proofs.YtdipdkkpgjdnkaaGreatDoor
open Go Go.Ex Go.Ex.M
set_option maxRecDepth 100000
set_option maxHeartbeats 8000000
attribute [local simp] yG
variable {n lo:Nat} {h:zB} {sv:Value}
def RI(r:Except Int Vir.Ins)(h:zB)(n:Nat)(v:Value)(h':zB)(n':Nat):Prop:=∃(i:InsT) (e:Int),v = .tuple ⟨[.agg ⟨uE i⟩,I64 e]⟩∧Tch [] h n h' n'∧Own n n' h' i.av 3 1 i.args.length (i.args.map I64)∧((e=0∧r = .ok (toI i))∨(e≠0∧r = .error e))
structure WsR (lo:Nat) (h:zB) (sv:Value) (ws:List Tx):Prop where
 r:Row lo h sv 9 1 ws.length (ws.map str)
 l:ws.length<100001
 t:∀x∈ws,x.length<100000
theorem WsR.from_{ws:List Tx}(w:WsR lo h sv ws){k:Nat}(hk:k≤ws.length):∃v',yZ P h 22 sv (some (I64 (k:Nat))) none none=some v'∧WsR lo h v' (ws.drop k):=by
 obtain⟨hu,ei,hi,hsz⟩:=SlC.get (P:=P) (ty:=22) inferInstance;obtain⟨v',e1,r',eb⟩:=slice_from (k:=.i64) (i:=k) hu hi hsz w.r hk;refine⟨v',e1,?_,by rw[List.length_drop];have:=w.l;omega,fun x hx=>w.t x (List.mem_of_mem_drop hx)⟩;rw [List.length_drop,List.map_drop];rw [Nat.mul_one]at r';exact r'
theorem WsR.tch{ws:List Tx}{h':zB}{n':Nat}(w:WsR lo h sv ws)(t:Tch [] h n h' n')(hlo:lo≤n):WsR lo h' sv ws:=⟨w.r.tch t hlo (by simp),w.l,w.t⟩
theorem ws_cut{G:Prop}{K:Value→Prop}{ws:List Tx}{H:zB}{x:Int}[s:IsOb G (fun v=>yZ P H 22 sv (some (I64 x)) none none=some v) K](k:Nat)(w:WsR lo H sv ws)(hk:k≤ws.length)(hx:x=(k:Nat))(kk:∀v',WsR lo H v' (ws.drop k)→K v'):G:=by
 obtain⟨v',e,w'⟩:=w.from_ hk;subst hx;exact s.ok ⟨v',e,kk v' w'⟩
theorem own_ge{n lo e sz len:Nat}{h:zB}{v:Value}{vs:List Value}(o:Own lo n h v e sz len vs)(h0:0<len):lo≤sbk v:=by
 rcases o with⟨rfl,rfl,_⟩|⟨b,q1,_,rfl,_⟩
 · omega
 · exact q1
theorem own2{k:Nat}{v:Value}{h:zB}{l:List Int}{lo n:Nat}{x:Int}(o:Own lo n h v 3 1 l.length (l.map I64))(hx:l[k]? = some x):zD h (sbk v) (sof v+k*1)=some (I64 x):=by
 rw[Nat.mul_one];exact(o.row (by decide)).at (by rw[List.getElem?_map,hx];rfl)
abbrev zIn:Nat:=41+1
theorem len1{l:List Int}(h:l.length=1):∃x,l=[x]:=List.length_eq_one_iff.1 h
theorem len2{l:List Int}(h:l.length=2):∃x y,l=[x,y]:=by
 rcases l with _|⟨x,_|⟨y,_|⟨z,l⟩⟩⟩
 · cases h
 · cases h
 · exact⟨x,y,rfl⟩
 · simp at h
theorem len3{l:List Int}(h:l.length=3):∃x y z,l=[x,y,z]:=by
 rcases l with _|⟨x,_|⟨y,_|⟨z,_|⟨_,l⟩⟩⟩⟩
 · cases h
 · cases h
 · cases h
 · exact⟨x,y,z,rfl⟩
 · simp at h
theorem ri_store{r:List Tx}(w:WsR lo h sv (Vir.tStore::r))(hlo:lo≤n):Ret P 8 31 [sv] h n (RI (Vir.insR (Vir.tStore::r)) h n):=by
 have hp:0<(Vir.tStore::r).length:=by simp
 have c0:(Vir.tStore::r)[0]? = some Vir.tStore:=rfl;have c1:zD h (sbk sv) (sof sv+0*1)=some (str [115,116,111,114,101]):=xX w.r c0;have ne1:¬(([115,116,111,114,101]:List UInt8)=[98,114]):=(by decide);have ne2:¬(([115,116,111,114,101]:List UInt8)=[106,117,109,112]):=(by decide);have ne3:¬(([115,116,111,114,101]:List UInt8)=[114,101,116]):=(by decide);have r0:=w.r;have low:=w.r.low hp;have os:=w.r.one
 have hI:Vir.insR (Vir.tStore::r)=match Vir.smallsR r with
  | some l=>Vir.ownR Vir.tStore l
  | none=>.error 3:=rfl
 refine ent fun u=>?_;repeat' first|refine wk ?_|refine cX (fun _=>?_) fun _=>?_|fail
 refine ws_cut 1 (w.tch (n:=n) (n':=n+1+1) zA hlo) hp rfl ?_;intro v' w';have w':WsR lo _ v' r:=w';have os':=w'.r.one;repeat' first|refine wk ?_|refine cX (fun _=>?_) fun _=>?_|refine uW (xZ w'.r (by omega) w'.l w'.t) ?_|fail
 rintro _ h3 n3 ⟨t3,⟨hs,rfl⟩|⟨l,lv,hs,hll,rfl,ol⟩⟩
 · have hn3:=t3.le;have d0:Cel h3 n zIn 0 [I64 0,I64 0,I64 0,I64 0,I64 0,str [],.slice none 0 0,I64 0,I64 0]:=Cel.tch zH t3 (by omega) (by simp);have d1:Cel h3 (n+1) zIn 0 [I64 0,I64 0,I64 0,I64 0,I64 0,str [],.slice none 0 0,I64 0,I64 0]:=Cel.tch zH t3 (by omega) (by simp);have u3:Tch [] h n h3 n3:=zA;clear t3;repeat' first|refine wk ?_|refine cX (fun _=>?_) fun _=>?_|refine ob (a:=_) ?_ (zQ (by apply zE;((conv=>lhs;whnf) <;> exact rfl)) (by decide) (by repeat' first|exact zT|(apply zN;focus (apply Cel.cell;(focus exact zC);exact rfl))) (by repeat' first|exact yB|(apply yC;(focus (apply zE;((conv=>lhs;whnf) <;> exact rfl))))))|fail
   exact⟨_,rfl,⟨5,0,0,0,0,[],.slice none 0 0,[],0,0⟩,3,rfl,zA,Own.nil,.inr ⟨by decide,by rw[hI,hs]⟩⟩
 · have hn3:=t3.le;have d0:Cel h3 n zIn 0 [I64 0,I64 0,I64 0,I64 0,I64 0,str [],.slice none 0 0,I64 0,I64 0]:=Cel.tch zH t3 (by omega) (by simp);have d1:Cel h3 (n+1) zIn 0 [I64 0,I64 0,I64 0,I64 0,I64 0,str [],.slice none 0 0,I64 0,I64 0]:=Cel.tch zH t3 (by omega) (by simp);have u3:Tch [] h n h3 n3:=zA;have rl:=ol.row (by decide);have ol1:=ol.one;clear t3;by_cases hl:l.length=2
   · obtain⟨x,y,rfl⟩:∃x y,l=[x,y]:=len2 hl;have h1:1<[x,y].length:=(by simp);have q1:=own2 ol (k:=1) rfl;have q0:=own2 ol (k:=0) rfl;have h0:0<[x,y].length:=by simp
     have low2:=rl.low h0;have low3:=own_ge ol h0;repeat' first|refine wk ?_|refine cX (fun _=>?_) fun _=>?_|refine ob (a:=_) ?_ (zQ (by apply zE;((conv=>lhs;whnf) <;> exact rfl)) (by decide) (by repeat' first|exact zT|(apply zN;focus (apply Cel.cell;(focus exact zC);exact rfl))) (by repeat' first|exact yB|(apply yC;(focus (apply zE;((conv=>lhs;whnf) <;> exact rfl))))))|fail
     exact⟨_,rfl,⟨5,0,x,y,0,[],.slice none 0 0,[],0,0⟩,0,rfl,zA,Own.nil,.inl ⟨rfl,by rw[hI,hs];rfl⟩⟩
   · repeat' first|refine wk ?_|refine cX (fun _=>?_) fun _=>?_|refine ob (a:=_) ?_ (zQ (by apply zE;((conv=>lhs;whnf) <;> exact rfl)) (by decide) (by repeat' first|exact zT|(apply zN;focus (apply Cel.cell;(focus exact zC);exact rfl))) (by repeat' first|exact yB|(apply yC;(focus (apply zE;((conv=>lhs;whnf) <;> exact rfl))))))|fail
     exact⟨_,rfl,⟨5,0,0,0,0,[],.slice none 0 0,[],0,0⟩,3,rfl,zA,Own.nil,.inr ⟨by decide,by rw[hI,hs];simp [Vir.ownR,hl]⟩⟩
theorem ri_br{r:List Tx}(w:WsR lo h sv (Vir.tBr::r))(hlo:lo≤n):Ret P 8 31 [sv] h n (RI (Vir.insR (Vir.tBr::r)) h n):=by
 have hp:0<(Vir.tBr::r).length:=by simp
 have c0:(Vir.tBr::r)[0]? = some Vir.tBr:=rfl;have c1:zD h (sbk sv) (sof sv+0*1)=some (str [98,114]):=xX w.r c0;have ne0:¬(([98,114]:List UInt8)=[115,116,111,114,101]):=(by decide);have ne2:¬(([98,114]:List UInt8)=[106,117,109,112]):=(by decide);have ne3:¬(([98,114]:List UInt8)=[114,101,116]):=(by decide);have r0:=w.r;have low:=w.r.low hp;have os:=w.r.one
 have hI:Vir.insR (Vir.tBr::r)=match Vir.smallsR r with
  | some l=>Vir.ownR Vir.tBr l
  | none=>.error 3:=rfl
 refine ent fun u=>?_;repeat' first|refine wk ?_|refine cX (fun _=>?_) fun _=>?_|fail
 refine ws_cut 1 (w.tch (n:=n) (n':=n+1+1) zA hlo) hp rfl ?_;intro v' w';have w':WsR lo _ v' r:=w';have os':=w'.r.one;repeat' first|refine wk ?_|refine cX (fun _=>?_) fun _=>?_|refine uW (xZ w'.r (by omega) w'.l w'.t) ?_|fail
 rintro _ h3 n3 ⟨t3,⟨hs,rfl⟩|⟨l,lv,hs,hll,rfl,ol⟩⟩
 · have hn3:=t3.le;have d0:Cel h3 n zIn 0 [I64 0,I64 0,I64 0,I64 0,I64 0,str [],.slice none 0 0,I64 0,I64 0]:=Cel.tch zH t3 (by omega) (by simp);have d1:Cel h3 (n+1) zIn 0 [I64 0,I64 0,I64 0,I64 0,I64 0,str [],.slice none 0 0,I64 0,I64 0]:=Cel.tch zH t3 (by omega) (by simp);have u3:Tch [] h n h3 n3:=zA;clear t3;repeat' first|refine wk ?_|refine cX (fun _=>?_) fun _=>?_|refine ob (a:=_) ?_ (zQ (by apply zE;((conv=>lhs;whnf) <;> exact rfl)) (by decide) (by repeat' first|exact zT|(apply zN;focus (apply Cel.cell;(focus exact zC);exact rfl))) (by repeat' first|exact yB|(apply yC;(focus (apply zE;((conv=>lhs;whnf) <;> exact rfl))))))|fail
   exact⟨_,rfl,⟨7,0,0,0,0,[],.slice none 0 0,[],0,0⟩,3,rfl,zA,Own.nil,.inr ⟨by decide,by rw[hI,hs]⟩⟩
 · have hn3:=t3.le;have d0:Cel h3 n zIn 0 [I64 0,I64 0,I64 0,I64 0,I64 0,str [],.slice none 0 0,I64 0,I64 0]:=Cel.tch zH t3 (by omega) (by simp);have d1:Cel h3 (n+1) zIn 0 [I64 0,I64 0,I64 0,I64 0,I64 0,str [],.slice none 0 0,I64 0,I64 0]:=Cel.tch zH t3 (by omega) (by simp);have u3:Tch [] h n h3 n3:=zA;have rl:=ol.row (by decide);have ol1:=ol.one;clear t3;by_cases hl:l.length=3
   · obtain⟨x,y,z,rfl⟩:∃x y z,l=[x,y,z]:=len3 hl;have h1:1<[x,y,z].length:=(by simp);have q1:=own2 ol (k:=1) rfl;have q2:=own2 ol (k:=2) rfl;have q2':zD h3 (sbk lv) (sof lv+(2:Int).toNat*1)=some (I64 z):=q2;have h2:(2:Int)<(([x,y,z].length:Nat):Int):=(by simp);have q0:=own2 ol (k:=0) rfl;have h0:0<[x,y,z].length:=by simp
     have low2:=rl.low h0;have low3:=own_ge ol h0;repeat' first|refine wk ?_|refine cX (fun _=>?_) fun _=>?_|refine ob (a:=_) ?_ (zQ (by apply zE;((conv=>lhs;whnf) <;> exact rfl)) (by decide) (by repeat' first|exact zT|(apply zN;focus (apply Cel.cell;(focus exact zC);exact rfl))) (by repeat' first|exact yB|(apply yC;(focus (apply zE;((conv=>lhs;whnf) <;> exact rfl))))))|fail
     exact⟨_,rfl,⟨7,0,x,0,0,[],.slice none 0 0,[],y,z⟩,0,rfl,zA,Own.nil,.inl ⟨rfl,by rw[hI,hs];rfl⟩⟩
   · repeat' first|refine wk ?_|refine cX (fun _=>?_) fun _=>?_|refine ob (a:=_) ?_ (zQ (by apply zE;((conv=>lhs;whnf) <;> exact rfl)) (by decide) (by repeat' first|exact zT|(apply zN;focus (apply Cel.cell;(focus exact zC);exact rfl))) (by repeat' first|exact yB|(apply yC;(focus (apply zE;((conv=>lhs;whnf) <;> exact rfl))))))|fail
     exact⟨_,rfl,⟨7,0,0,0,0,[],.slice none 0 0,[],0,0⟩,3,rfl,zA,Own.nil,.inr ⟨by decide,by rw[hI,hs];simp [Vir.ownR,hl]⟩⟩
theorem ri_jump{r:List Tx}(w:WsR lo h sv (Vir.tJump::r))(hlo:lo≤n):Ret P 8 31 [sv] h n (RI (Vir.insR (Vir.tJump::r)) h n):=by
 have hp:0<(Vir.tJump::r).length:=by simp
 have c0:(Vir.tJump::r)[0]? = some Vir.tJump:=rfl;have c1:zD h (sbk sv) (sof sv+0*1)=some (str [106,117,109,112]):=xX w.r c0;have ne0:¬(([106,117,109,112]:List UInt8)=[115,116,111,114,101]):=(by decide);have ne1:¬(([106,117,109,112]:List UInt8)=[98,114]):=(by decide);have ne3:¬(([106,117,109,112]:List UInt8)=[114,101,116]):=(by decide);have r0:=w.r;have low:=w.r.low hp;have os:=w.r.one
 have hI:Vir.insR (Vir.tJump::r)=match Vir.smallsR r with
  | some l=>Vir.ownR Vir.tJump l
  | none=>.error 3:=rfl
 refine ent fun u=>?_;repeat' first|refine wk ?_|refine cX (fun _=>?_) fun _=>?_|fail
 refine ws_cut 1 (w.tch (n:=n) (n':=n+1+1) zA hlo) hp rfl ?_;intro v' w';have w':WsR lo _ v' r:=w';have os':=w'.r.one;repeat' first|refine wk ?_|refine cX (fun _=>?_) fun _=>?_|refine uW (xZ w'.r (by omega) w'.l w'.t) ?_|fail
 rintro _ h3 n3 ⟨t3,⟨hs,rfl⟩|⟨l,lv,hs,hll,rfl,ol⟩⟩
 · have hn3:=t3.le;have d0:Cel h3 n zIn 0 [I64 0,I64 0,I64 0,I64 0,I64 0,str [],.slice none 0 0,I64 0,I64 0]:=Cel.tch zH t3 (by omega) (by simp);have d1:Cel h3 (n+1) zIn 0 [I64 0,I64 0,I64 0,I64 0,I64 0,str [],.slice none 0 0,I64 0,I64 0]:=Cel.tch zH t3 (by omega) (by simp);have u3:Tch [] h n h3 n3:=zA;clear t3;repeat' first|refine wk ?_|refine cX (fun _=>?_) fun _=>?_|refine ob (a:=_) ?_ (zQ (by apply zE;((conv=>lhs;whnf) <;> exact rfl)) (by decide) (by repeat' first|exact zT|(apply zN;focus (apply Cel.cell;(focus exact zC);exact rfl))) (by repeat' first|exact yB|(apply yC;(focus (apply zE;((conv=>lhs;whnf) <;> exact rfl))))))|fail
   exact⟨_,rfl,⟨8,0,0,0,0,[],.slice none 0 0,[],0,0⟩,3,rfl,zA,Own.nil,.inr ⟨by decide,by rw[hI,hs]⟩⟩
 · have hn3:=t3.le;have d0:Cel h3 n zIn 0 [I64 0,I64 0,I64 0,I64 0,I64 0,str [],.slice none 0 0,I64 0,I64 0]:=Cel.tch zH t3 (by omega) (by simp);have d1:Cel h3 (n+1) zIn 0 [I64 0,I64 0,I64 0,I64 0,I64 0,str [],.slice none 0 0,I64 0,I64 0]:=Cel.tch zH t3 (by omega) (by simp);have u3:Tch [] h n h3 n3:=zA;have rl:=ol.row (by decide);have ol1:=ol.one;clear t3;by_cases hl:l.length=1
   · obtain⟨x,rfl⟩:∃x,l=[x]:=len1 hl;skip
     have q0:=own2 ol (k:=0) rfl;have h0:0<[x].length:=by simp
     have low2:=rl.low h0;have low3:=own_ge ol h0;repeat' first|refine wk ?_|refine cX (fun _=>?_) fun _=>?_|refine ob (a:=_) ?_ (zQ (by apply zE;((conv=>lhs;whnf) <;> exact rfl)) (by decide) (by repeat' first|exact zT|(apply zN;focus (apply Cel.cell;(focus exact zC);exact rfl))) (by repeat' first|exact yB|(apply yC;(focus (apply zE;((conv=>lhs;whnf) <;> exact rfl))))))|fail
     exact⟨_,rfl,⟨8,0,0,0,0,[],.slice none 0 0,[],x,0⟩,0,rfl,zA,Own.nil,.inl ⟨rfl,by rw[hI,hs];rfl⟩⟩
   · repeat' first|refine wk ?_|refine cX (fun _=>?_) fun _=>?_|refine ob (a:=_) ?_ (zQ (by apply zE;((conv=>lhs;whnf) <;> exact rfl)) (by decide) (by repeat' first|exact zT|(apply zN;focus (apply Cel.cell;(focus exact zC);exact rfl))) (by repeat' first|exact yB|(apply yC;(focus (apply zE;((conv=>lhs;whnf) <;> exact rfl))))))|fail
     exact⟨_,rfl,⟨8,0,0,0,0,[],.slice none 0 0,[],0,0⟩,3,rfl,zA,Own.nil,.inr ⟨by decide,by rw[hI,hs];simp [Vir.ownR,hl]⟩⟩
theorem ri_ret{r:List Tx}(w:WsR lo h sv (Vir.tRet::r))(hlo:lo≤n):Ret P 8 31 [sv] h n (RI (Vir.insR (Vir.tRet::r)) h n):=by
 have hp:0<(Vir.tRet::r).length:=by simp
 have c0:(Vir.tRet::r)[0]? = some Vir.tRet:=rfl;have c1:zD h (sbk sv) (sof sv+0*1)=some (str [114,101,116]):=xX w.r c0;have ne0:¬(([114,101,116]:List UInt8)=[115,116,111,114,101]):=(by decide);have ne1:¬(([114,101,116]:List UInt8)=[98,114]):=(by decide);have ne2:¬(([114,101,116]:List UInt8)=[106,117,109,112]):=(by decide);have r0:=w.r;have low:=w.r.low hp;have os:=w.r.one
 have hI:Vir.insR (Vir.tRet::r)=match Vir.smallsR r with
  | some l=>Vir.ownR Vir.tRet l
  | none=>.error 3:=rfl
 refine ent fun u=>?_;repeat' first|refine wk ?_|refine cX (fun _=>?_) fun _=>?_|fail
 refine ws_cut 1 (w.tch (n:=n) (n':=n+1+1) zA hlo) hp rfl ?_;intro v' w';have w':WsR lo _ v' r:=w';have os':=w'.r.one;repeat' first|refine wk ?_|refine cX (fun _=>?_) fun _=>?_|refine uW (xZ w'.r (by omega) w'.l w'.t) ?_|fail
 rintro _ h3 n3 ⟨t3,⟨hs,rfl⟩|⟨l,lv,hs,hll,rfl,ol⟩⟩
 · have hn3:=t3.le;have d0:Cel h3 n zIn 0 [I64 0,I64 0,I64 0,I64 0,I64 0,str [],.slice none 0 0,I64 0,I64 0]:=Cel.tch zH t3 (by omega) (by simp);have d1:Cel h3 (n+1) zIn 0 [I64 0,I64 0,I64 0,I64 0,I64 0,str [],.slice none 0 0,I64 0,I64 0]:=Cel.tch zH t3 (by omega) (by simp);have u3:Tch [] h n h3 n3:=zA;clear t3;repeat' first|refine wk ?_|refine cX (fun _=>?_) fun _=>?_|refine ob (a:=_) ?_ (zQ (by apply zE;((conv=>lhs;whnf) <;> exact rfl)) (by decide) (by repeat' first|exact zT|(apply zN;focus (apply Cel.cell;(focus exact zC);exact rfl))) (by repeat' first|exact yB|(apply yC;(focus (apply zE;((conv=>lhs;whnf) <;> exact rfl))))))|fail
   exact⟨_,rfl,⟨9,0,0,0,0,[],.slice none 0 0,[],0,0⟩,3,rfl,zA,Own.nil,.inr ⟨by decide,by rw[hI,hs]⟩⟩
 · have hn3:=t3.le;have d0:Cel h3 n zIn 0 [I64 0,I64 0,I64 0,I64 0,I64 0,str [],.slice none 0 0,I64 0,I64 0]:=Cel.tch zH t3 (by omega) (by simp);have d1:Cel h3 (n+1) zIn 0 [I64 0,I64 0,I64 0,I64 0,I64 0,str [],.slice none 0 0,I64 0,I64 0]:=Cel.tch zH t3 (by omega) (by simp);have u3:Tch [] h n h3 n3:=zA;have rl:=ol.row (by decide);have ol1:=ol.one;clear t3;by_cases hl:l.length=1
   · obtain⟨x,rfl⟩:∃x,l=[x]:=len1 hl;skip
     have q0:=own2 ol (k:=0) rfl;have h0:0<[x].length:=by simp
     have low2:=rl.low h0;have low3:=own_ge ol h0;repeat' first|refine wk ?_|refine cX (fun _=>?_) fun _=>?_|refine ob (a:=_) ?_ (zQ (by apply zE;((conv=>lhs;whnf) <;> exact rfl)) (by decide) (by repeat' first|exact zT|(apply zN;focus (apply Cel.cell;(focus exact zC);exact rfl))) (by repeat' first|exact yB|(apply yC;(focus (apply zE;((conv=>lhs;whnf) <;> exact rfl))))))|fail
     exact⟨_,rfl,⟨9,0,x,0,0,[],.slice none 0 0,[],0,0⟩,0,rfl,zA,Own.nil,.inl ⟨rfl,by rw[hI,hs];rfl⟩⟩
   · repeat' first|refine wk ?_|refine cX (fun _=>?_) fun _=>?_|refine ob (a:=_) ?_ (zQ (by apply zE;((conv=>lhs;whnf) <;> exact rfl)) (by decide) (by repeat' first|exact zT|(apply zN;focus (apply Cel.cell;(focus exact zC);exact rfl))) (by repeat' first|exact yB|(apply yC;(focus (apply zE;((conv=>lhs;whnf) <;> exact rfl))))))|fail
     exact⟨_,rfl,⟨9,0,0,0,0,[],.slice none 0 0,[],0,0⟩,3,rfl,zA,Own.nil,.inr ⟨by decide,by rw[hI,hs];simp [Vir.ownR,hl]⟩⟩
end Go.Proofs.YtdipdkkpgjdnkaaGreatDoor
namespace Go.Proofs.YtdipdkkpgjdnkaaGreatDoor
open Go Go.Ex Go.Ex.M
set_option maxRecDepth 100000
set_option maxHeartbeats 8000000
attribute [local simp] yG
variable {n lo:Nat} {h:zB} {sv:Value}
abbrev dI(d:Int):List Value:=[I64 0,I64 d,I64 0,I64 0,I64 0,str [],.slice none 0 0,I64 0,I64 0]
theorem callR_1{d:Int}:Vir.callR d [] = .error 3:=rfl
theorem callR_2{d:Int}{s:Tx}{q:List Tx}(h:Vir.smallsR q=none):Vir.callR d (s::q) = .error 3:=by unfold Vir.callR;dsimp only;rw [h]
theorem callR_3{d:Int}{s:Tx}{q:List Tx}{l:List Int}(h:Vir.smallsR q=some l):Vir.callR d (s::q)=if Vir.named s then(if l.length≤16 then .ok { Vir.Ins.z with kind:=6,d:=d,name:=s,args:=l } else .error 2) else .error 3:=by unfold Vir.callR;dsimp only;rw [h]
theorem own_z{n1 n2 e sz len:Nat}{h1 h2:zB}{v:Value}{vs:List Value}(o:Own (n+1+1) n1 h1 v e sz len vs)(t:Tch [n,n+1] h1 n1 h2 n2):Own n n2 h2 v e sz len vs:=by
 have o2:=o.tch t fun b hb hx=>by simp at hx;have:=(o.blk hb).1;omega
 rcases o2 with o2|⟨b,q1,q⟩
 · exact .inl o2
 · exact .inr ⟨b,by omega,q⟩
theorem ri_call{r:List Tx}(w:WsR lo h sv (Vir.tCall::r))(hlo:lo≤n):Ret P 8 31 [sv] h n (RI (Vir.insR (Vir.tCall::r)) h n):=by
 have hp:0<(Vir.tCall::r).length:=by simp
 have c0:(Vir.tCall::r)[0]? = some Vir.tCall:=rfl;have c1:zD h (sbk sv) (sof sv+0*1)=some (str [99,97,108,108]):=xX w.r c0;have ne0:¬(([99,97,108,108]:List UInt8)=[115,116,111,114,101]):=by decide
 have ne1:¬(([99,97,108,108]:List UInt8)=[98,114]):=by decide
 have ne2:¬(([99,97,108,108]:List UInt8)=[106,117,109,112]):=by decide
 have ne3:¬(([99,97,108,108]:List UInt8)=[114,101,116]):=by decide
 have ne9:¬(([99,97,108,108]:List UInt8)≠[99,97,108,108]):=fun h9=>h9 rfl;have r0:=w.r;have low:=w.r.low hp;have os:=w.r.one;have hI:Vir.insR (Vir.tCall::r)=Vir.callR (-1) r:=rfl;refine ent fun u=>?_;rcases r with _|⟨s,q⟩
 · have hp2:(((([99,97,108,108]:Tx)::([]:List Tx)).length:Nat):Int)<2:=by decide
   repeat' first|refine wk ?_|refine cX (fun _=>?_) fun _=>?_|refine ob (a:=_) ?_ (zQ (by apply zE;((conv=>lhs;whnf) <;> exact rfl)) (by decide) (by repeat' first|exact zT|(apply zN;focus (apply Cel.cell;(focus exact zC);exact rfl))) (by repeat' first|exact yB|(apply yC;(focus (apply zE;((conv=>lhs;whnf) <;> exact rfl))))))|fail
   exact⟨_,rfl,⟨0,-1,0,0,0,[],.slice none 0 0,[],0,0⟩,3,rfl,zA,Own.nil,.inr ⟨by decide,hI.trans callR_1⟩⟩
 have W2:=w;have hp1:1<(([99,97,108,108]:Tx)::s::q).length:=by simp
 have hp2:¬(((([99,97,108,108]:Tx)::s::q).length:Nat):Int)<2:=by simp;omega
 have r5:=W2.r;have low5:=W2.r.low (by simp);have c3:zD _ (sbk sv) (sof sv+1*1)=some (str s):=xX W2.r rfl;repeat' first|refine wk ?_|refine cX (fun _=>?_) fun _=>?_|fail
 refine ws_cut 2 (W2.tch (n:=n) (n':=n) zA (by omega)) (by simp) rfl ?_;intro v2 w3;have w3:WsR lo _ v2 q:=w3;have os3:=w3.r.one;repeat' first|refine wk ?_|refine cX (fun _=>?_) fun _=>?_|refine uW (xZ w3.r (by omega) w3.l w3.t) ?_|fail
 rintro _ h5 n5 ⟨t5,⟨hs,rfl⟩|⟨l,lv,hs,hll,rfl,ol⟩⟩
 all_goals
  have hn5:=t5.le;have d0:Cel h5 n zIn 0 (dI 0):=Cel.tch zH t5 (by omega) (by simp);have d1:Cel h5 (n+1) zIn 0 (dI (-1)):=Cel.tch zH t5 (by omega) (by simp);have c5:zD h5 (sbk sv) (sof sv+1*1)=some (str s):=cat_ask;have u5:Tch [] h n h5 n5:=zA;clear t5 c3
 · repeat' first|refine wk ?_|refine cX (fun _=>?_) fun _=>?_|refine ob (a:=_) ?_ (zQ (by apply zE;((conv=>lhs;whnf) <;> exact rfl)) (by decide) (by repeat' first|exact zT|(apply zN;focus (apply Cel.cell;(focus exact zC);exact rfl))) (by repeat' first|exact yB|(apply yC;(focus (apply zE;((conv=>lhs;whnf) <;> exact rfl))))))|fail
   exact⟨_,rfl,⟨0,-1,0,0,0,[],.slice none 0 0,[],0,0⟩,3,rfl,zA,Own.nil,.inr ⟨by decide,hI.trans (callR_2 hs)⟩⟩
 · have rl:=ol.row (by decide);have ol1:=ol.one;repeat' first|refine wk ?_|refine cX (fun _=>?_) fun _=>?_|refine ob (a:=_) ?_ (zQ (by apply zE;((conv=>lhs;whnf) <;> exact rfl)) (by decide) (by repeat' first|exact zT|(apply zN;focus (apply Cel.cell;(focus exact zC);exact rfl))) (by repeat' first|exact yB|(apply yC;(focus (apply zE;((conv=>lhs;whnf) <;> exact rfl))))))|fail
   · rename_i f1;have f1:¬(Vir.named s=true):=by simpa using f1
     exact⟨_,rfl,⟨0,-1,0,0,0,[],.slice none 0 0,[],0,0⟩,3,rfl,zA,Own.nil,.inr ⟨by decide,hI.trans ((callR_3 hs).trans (if_neg f1))⟩⟩
   · rename_i f1 f2;exact⟨_,rfl,⟨0,-1,0,0,0,[],.slice none 0 0,[],0,0⟩,2,rfl,zA,Own.nil,.inr ⟨by decide,hI.trans ((callR_3 hs).trans ((if_pos f1).trans (if_neg (by omega))))⟩⟩
   · rename_i f1 f2;exact⟨_,rfl,⟨6,-1,0,0,0,s,lv,l,0,0⟩,0,rfl,zA,own_z ol zA,.inl ⟨rfl,hI.trans ((callR_3 hs).trans ((if_pos f1).trans (if_pos (by omega))))⟩⟩
theorem insR_d{a:Tx}{r:List Tx}(h1:¬a=Vir.tStore)(h2:¬a=Vir.tBr)(h3:¬a=Vir.tJump)(h4:¬a=Vir.tRet)(h5:¬a=Vir.tCall):(Vir.smallR a=none→Vir.insR (a::r) = .error 3)∧(r.length<3→Vir.insR (a::r) = .error 3)∧∀d e s t q,Vir.smallR a=some d→r=e::s::t::q→Vir.insR (a::r)=if e=Vir.tEq then Vir.defR d (s::t::q) else .error 3:=by
 unfold Vir.insR;dsimp only;rw [if_neg (by simp[h1,h2,h3,h4]),if_neg h5];refine⟨fun h=>by rw[h],fun h=>?_,fun d e s t q h hr=>by rw[h,hr]⟩
 cases Vir.smallR a with
 | none=>rfl
 | some d=>rcases r with _|⟨e,_|⟨s,_|⟨t,q⟩⟩⟩ <;> first|rfl|(simp at h;omega)
section
variable {d v:Int} {s t:Tx} {q:List Tx} {l:List Int}
theorem defR_1:Vir.defR d ([99,97,108,108]::t::q)=Vir.callR d (t::q):=by unfold Vir.defR;exact if_pos rfl
theorem defR_c0(h:Vir.intR t=none):Vir.defR d ([99,111,110,115,116]::t::q) = .error 3:=by unfold Vir.defR;dsimp only;rw [if_neg (by decide),if_pos rfl,h]
theorem defR_c1(h:Vir.intR t=some v):Vir.defR d ([99,111,110,115,116]::t::q)=if q=[] then .ok { Vir.Ins.z with kind:=1,d:=d,n:=v } else .error 3:=by unfold Vir.defR;dsimp only;rw [if_neg (by decide),if_pos rfl,h]
theorem defR_n(h1:¬s=[99,97,108,108])(h2:¬s=[99,111,110,115,116])(h:Vir.smallsR (t::q)=none):Vir.defR d (s::t::q) = .error 3:=by unfold Vir.defR;dsimp only;rw [if_neg h1,if_neg h2,h]
theorem defR_l(h1:¬s=[99,97,108,108])(h2:¬s=[99,111,110,115,116])(h:Vir.smallsR (t::q)=some l):Vir.defR d (s::t::q)=if s=[99,111,112,121]∨s=[108,111,97,100] then(if l.length=1 then .ok { Vir.Ins.z with kind:=if s=[108,111,97,100] then 4 else 2,d:=d,a:=l.headD 0 } else .error 3) else if Vir.named s∧Vir.wordB s=false∧l.length≤2 then .ok { Vir.Ins.z with kind:=3,d:=d,name:=s,args:=l } else .error 3:=by unfold Vir.defR;dsimp only;rw [if_neg h1,if_neg h2,h]
end
theorem ri_def{a:Tx}{r:List Tx}(w:WsR lo h sv (a::r))(hlo:lo≤n)(h1:¬a=[115,116,111,114,101])(h2:¬a=[98,114])(h3:¬a=[106,117,109,112])(h4:¬a=[114,101,116])(h5:a≠[99,97,108,108]):Ret P 8 31 [sv] h n (RI (Vir.insR (a::r)) h n):=by
 have hp:0<(a::r).length:=by simp
 have c0:(a::r)[0]? = some a:=rfl;have c1:zD h (sbk sv) (sof sv+0*1)=some (str a):=xX w.r c0;have r0:=w.r;have low:=w.r.low hp;have os:=w.r.one;obtain⟨i1,i2,i3⟩:=insR_d (r:=r) h1 h2 h3 h4 h5;have ta:=w.t a (List.mem_cons_self ..);refine ent fun u=>?_;repeat' first|refine wk ?_|refine cX (fun _=>?_) fun _=>?_|fail
 have p:=fun(h':zB) n'=>rsmallw_pur (h:=h') (n:=n') ta
 cases hs:Vir.smallR a with
 | none =>
  have hI:=i1 hs
  have p:∀(h':zB) n',Pur P 8 59 [str a] h' n' (.tuple ⟨[I64 ((Vir.intR a).getD 0),.bool false]⟩):=fun h' n'=>by
   have:=p h' n';rw [smV,hs]at this;exact this
  repeat' first|refine wk ?_|refine cX (fun _=>?_) fun _=>?_|refine yV (p _ _) ?_|refine ob (a:=_) ?_ (zQ (by apply zE;((conv=>lhs;whnf) <;> exact rfl)) (by decide) (by repeat' first|exact zT|(apply zN;focus (apply Cel.cell;(focus exact zC);exact rfl))) (by repeat' first|exact yB|(apply yC;(focus (apply zE;((conv=>lhs;whnf) <;> exact rfl))))))|fail
  exact⟨_,rfl,⟨0,-1,0,0,0,[],.slice none 0 0,[],0,0⟩,3,rfl,zA,Own.nil,.inr ⟨by decide,hI⟩⟩
 | some d =>
  obtain⟨e1,b1,b2⟩:=smallR_v hs
  have p:∀(h':zB) n',Pur P 8 59 [str a] h' n' (.tuple ⟨[I64 d,.bool true]⟩):=fun h' n'=>by
   have:=p h' n';rw [smV,hs,e1]at this;exact this
  by_cases hl:(a::r).length<4
  · have hI:=i2 (by rw[List.length_cons]at hl;omega);repeat' first|refine wk ?_|refine cX (fun _=>?_) fun _=>?_|refine yV (p _ _) ?_|refine ob (a:=_) ?_ (zQ (by apply zE;((conv=>lhs;whnf) <;> exact rfl)) (by decide) (by repeat' first|exact zT|(apply zN;focus (apply Cel.cell;(focus exact zC);exact rfl))) (by repeat' first|exact yB|(apply yC;(focus (apply zE;((conv=>lhs;whnf) <;> exact rfl))))))|fail
    exact⟨_,rfl,⟨0,-1,0,0,0,[],.slice none 0 0,[],0,0⟩,3,rfl,zA,Own.nil,.inr ⟨by decide,hI⟩⟩
  obtain⟨e,s,t,q,rfl⟩:∃e s t q,r=e::s::t::q:=by
   rcases r with _|⟨e,_|⟨s,_|⟨t,q⟩⟩⟩
   · simp at hl
   · simp at hl
   · simp at hl
   · exact⟨e,s,t,q,rfl⟩
  have hI:=i3 d e s t q hs rfl;have c2:zD h (sbk sv) (sof sv+1*1)=some (str e):=xX w.r rfl;by_cases he:e≠[61]
  · rw[if_neg he]at hI;repeat' first|refine wk ?_|refine cX (fun _=>?_) fun _=>?_|refine yV (p _ _) ?_|refine ob (a:=_) ?_ (zQ (by apply zE;((conv=>lhs;whnf) <;> exact rfl)) (by decide) (by repeat' first|exact zT|(apply zN;focus (apply Cel.cell;(focus exact zC);exact rfl))) (by repeat' first|exact yB|(apply yC;(focus (apply zE;((conv=>lhs;whnf) <;> exact rfl))))))|fail
    exact⟨_,rfl,⟨0,-1,0,0,0,[],.slice none 0 0,[],0,0⟩,3,rfl,zA,Own.nil,.inr ⟨by decide,hI⟩⟩
  rw[if_pos (by simpa using he)]at hI;repeat' first|refine wk ?_|refine cX (fun _=>?_) fun _=>?_|refine yV (p _ _) ?_|fail
  refine ws_cut 2 (w.tch (n:=n) (n':=n+1+1) zA hlo) (by simp) rfl ?_;intro v' w';have w':WsR lo _ v' (s::t::q):=w';have os':=w'.r.one;have r0':=w'.r;have low':=w'.r.low (by simp);have hp':0<(s::t::q).length:=by simp
  have hp1':1<(s::t::q).length:=by simp
  have d0:zD _ (sbk v') (sof v'+0*1)=some (str s):=xX w'.r rfl;have d1:zD _ (sbk v') (sof v'+1*1)=some (str t):=xX w'.r rfl;by_cases hs1:s=[99,97,108,108]
  · subst hs1;have hI:=hI.trans defR_1;have ne9:¬(([99,97,108,108]:List UInt8)≠[99,97,108,108]):=fun h9=>h9 rfl
    as_aux_lemma=>
    have W2:=w';have hp1:1<(([99,97,108,108]:Tx)::t::q).length:=by simp
    have hp2:¬(((([99,97,108,108]:Tx)::t::q).length:Nat):Int)<2:=by simp;omega
    have r5:=W2.r;have low5:=W2.r.low (by simp);have c3:zD _ (sbk v') (sof v'+1*1)=some (str t):=xX W2.r rfl;repeat' first|refine wk ?_|refine cX (fun _=>?_) fun _=>?_|fail
    refine ws_cut 2 (W2.tch (n:=n) (n':=n) zA (by omega)) (by simp) rfl ?_;intro v2 w3;have w3:WsR lo _ v2 q:=w3;have os3:=w3.r.one;repeat' first|refine wk ?_|refine cX (fun _=>?_) fun _=>?_|refine uW (xZ w3.r (by omega) w3.l w3.t) ?_|fail
    rintro _ h5 n5 ⟨t5,⟨hs,rfl⟩|⟨l,lv,hs,hll,rfl,ol⟩⟩
    all_goals
     have hn5:=t5.le;have d0:Cel h5 n zIn 0 (dI 0):=Cel.tch zH t5 (by omega) (by simp);have d1:Cel h5 (n+1) zIn 0 (dI (d)):=Cel.tch zH t5 (by omega) (by simp);have c5:zD h5 (sbk v') (sof v'+1*1)=some (str t):=cat_ask;have u5:Tch [] h n h5 n5:=zA;clear t5 c3
    · repeat' first|refine wk ?_|refine cX (fun _=>?_) fun _=>?_|refine ob (a:=_) ?_ (zQ (by apply zE;((conv=>lhs;whnf) <;> exact rfl)) (by decide) (by repeat' first|exact zT|(apply zN;focus (apply Cel.cell;(focus exact zC);exact rfl))) (by repeat' first|exact yB|(apply yC;(focus (apply zE;((conv=>lhs;whnf) <;> exact rfl))))))|fail
      exact⟨_,rfl,⟨0,d,0,0,0,[],.slice none 0 0,[],0,0⟩,3,rfl,zA,Own.nil,.inr ⟨by decide,hI.trans (callR_2 hs)⟩⟩
    · have rl:=ol.row (by decide);have ol1:=ol.one;repeat' first|refine wk ?_|refine cX (fun _=>?_) fun _=>?_|refine ob (a:=_) ?_ (zQ (by apply zE;((conv=>lhs;whnf) <;> exact rfl)) (by decide) (by repeat' first|exact zT|(apply zN;focus (apply Cel.cell;(focus exact zC);exact rfl))) (by repeat' first|exact yB|(apply yC;(focus (apply zE;((conv=>lhs;whnf) <;> exact rfl))))))|fail
      · rename_i f1;have f1:¬(Vir.named t=true):=by simpa using f1
        exact⟨_,rfl,⟨0,d,0,0,0,[],.slice none 0 0,[],0,0⟩,3,rfl,zA,Own.nil,.inr ⟨by decide,hI.trans ((callR_3 hs).trans (if_neg f1))⟩⟩
      · rename_i f1 f2;exact⟨_,rfl,⟨0,d,0,0,0,[],.slice none 0 0,[],0,0⟩,2,rfl,zA,Own.nil,.inr ⟨by decide,hI.trans ((callR_3 hs).trans ((if_pos f1).trans (if_neg (by omega))))⟩⟩
      · rename_i f1 f2;exact⟨_,rfl,⟨6,d,0,0,0,t,lv,l,0,0⟩,0,rfl,zA,own_z ol zA,.inl ⟨rfl,hI.trans ((callR_3 hs).trans ((if_pos f1).trans (if_pos (by omega))))⟩⟩
  by_cases hs2:s=[99,111,110,115,116]
  · subst hs2;have tt:=w'.t t (by simp)
    cases hv:Vir.intR t with
    | none =>
     have hI:=hI.trans (defR_c0 hv)
     have p:∀(h':zB) n',Pur P 8 60 [str t] h' n' (.tuple ⟨[I64 0,.bool false]⟩):=fun h' n'=>by
      have:=rint_pur (h:=h') (n:=n') tt;rw [hv]at this;exact this
     repeat' first|refine wk ?_|refine cX (fun _=>?_) fun _=>?_|refine yV (p _ _) ?_|refine ob (a:=_) ?_ (zQ (by apply zE;((conv=>lhs;whnf) <;> exact rfl)) (by decide) (by repeat' first|exact zT|(apply zN;focus (apply Cel.cell;(focus exact zC);exact rfl))) (by repeat' first|exact yB|(apply yC;(focus (apply zE;((conv=>lhs;whnf) <;> exact rfl))))))|fail
     exact⟨_,rfl,⟨0,d,0,0,0,[],.slice none 0 0,[],0,0⟩,3,rfl,zA,Own.nil,.inr ⟨by decide,hI⟩⟩
    | some v =>
     have hI:=hI.trans (defR_c1 hv)
     have p:∀(h':zB) n',Pur P 8 60 [str t] h' n' (.tuple ⟨[I64 v,.bool true]⟩):=fun h' n'=>by
      have:=rint_pur (h:=h') (n:=n') tt;rw [hv]at this;exact this
     by_cases hq:q=[]
     · have hl2:((([99,111,110,115,116]:Tx)::t::q).length:Int)=2:=by rw[hq];rfl
       have hl2:¬((((([99,111,110,115,116]:Tx)::t::q).length:Nat):Int)≠2):=fun h9=>h9 hl2;repeat' first|refine wk ?_|refine cX (fun _=>?_) fun _=>?_|refine yV (p _ _) ?_|refine ob (a:=_) ?_ (zQ (by apply zE;((conv=>lhs;whnf) <;> exact rfl)) (by decide) (by repeat' first|exact zT|(apply zN;focus (apply Cel.cell;(focus exact zC);exact rfl))) (by repeat' first|exact yB|(apply yC;(focus (apply zE;((conv=>lhs;whnf) <;> exact rfl))))))|fail
       exact⟨_,rfl,⟨1,d,0,0,v,[],.slice none 0 0,[],0,0⟩,0,rfl,zA,Own.nil,.inl ⟨rfl,hI.trans (if_pos hq)⟩⟩
     · have hl2:(((([99,111,110,115,116]:Tx)::t::q).length:Nat):Int)≠2:=by
        have:=List.length_pos_iff.2 hq;simp only[List.length_cons];omega
       repeat' first|refine wk ?_|refine cX (fun _=>?_) fun _=>?_|refine yV (p _ _) ?_|refine ob (a:=_) ?_ (zQ (by apply zE;((conv=>lhs;whnf) <;> exact rfl)) (by decide) (by repeat' first|exact zT|(apply zN;focus (apply Cel.cell;(focus exact zC);exact rfl))) (by repeat' first|exact yB|(apply yC;(focus (apply zE;((conv=>lhs;whnf) <;> exact rfl))))))|fail
       exact⟨_,rfl,⟨0,d,0,0,0,[],.slice none 0 0,[],0,0⟩,3,rfl,zA,Own.nil,.inr ⟨by decide,hI.trans (if_neg hq)⟩⟩
  repeat' first|refine wk ?_|refine cX (fun _=>?_) fun _=>?_|fail
  refine ws_cut 1 (w'.tch (n:=n) (n':=n) zA hlo) (by simp) rfl ?_;intro v4 w4;have w4:WsR lo _ v4 (t::q):=w4;have os4:=w4.r.one;repeat' first|refine wk ?_|refine cX (fun _=>?_) fun _=>?_|refine uW (xZ w4.r (by omega) w4.l w4.t) ?_|fail
  rintro _ h5 n5 ⟨t5,⟨hs,rfl⟩|⟨l,lv,hs,hll,rfl,ol⟩⟩
  all_goals
   have hn5:=t5.le;have g0:Cel h5 n zIn 0 (dI 0):=Cel.tch zH t5 (by omega) (by simp);have g1:Cel h5 (n+1) zIn 0 (dI d):=Cel.tch zH t5 (by omega) (by simp);have c5:zD h5 (sbk v') (sof v'+0*1)=some (str s):=cat_ask;have u5:Tch [] h n h5 n5:=zA;clear t5 d0 d1
  · have hI:=hI.trans (defR_n hs1 hs2 hs);repeat' first|refine wk ?_|refine cX (fun _=>?_) fun _=>?_|refine ob (a:=_) ?_ (zQ (by apply zE;((conv=>lhs;whnf) <;> exact rfl)) (by decide) (by repeat' first|exact zT|(apply zN;focus (apply Cel.cell;(focus exact zC);exact rfl))) (by repeat' first|exact yB|(apply yC;(focus (apply zE;((conv=>lhs;whnf) <;> exact rfl))))))|fail
    exact⟨_,rfl,⟨0,d,0,0,0,[],.slice none 0 0,[],0,0⟩,3,rfl,zA,Own.nil,.inr ⟨by decide,hI⟩⟩
  have hI:=hI.trans (defR_l hs1 hs2 hs);have rl:=ol.row (by decide);have ol1:=ol.one
  obtain⟨x,l',rfl⟩:∃x l',l=x::l':=by
   cases l with
   | nil=>cases hll
   | cons x l'=>exact⟨x,l',rfl⟩
  have q0:=own2 ol (k:=0) rfl;have hp0:0<(x::l').length:=by simp
  have low2:=rl.low hp0;have low3:=own_ge ol hp0;have o9:∀{h9 n9},Tch [n,n+1] h5 n5 h9 n9→Own n n9 h9 lv 3 1 (x::l').length ((x::l').map I64):=fun t9=>own_z ol t9;clear ol;by_cases hs3:s=[99,111,112,121]
  · have nl:¬(s=[108,111,97,100]):=by rw[hs3];decide
    rw[if_pos (.inl hs3)]at hI;by_cases hl1:(x::l').length=1
    · have hl2:¬((((x::l').length:Nat):Int)≠1):=by omega
      as_aux_lemma=>
      repeat' first|refine wk ?_|refine cX (fun _=>?_) fun _=>?_|refine ob (a:=_) ?_ (zQ (by apply zE;((conv=>lhs;whnf) <;> exact rfl)) (by decide) (by repeat' first|exact zT|(apply zN;focus (apply Cel.cell;(focus exact zC);exact rfl))) (by repeat' first|exact yB|(apply yC;(focus (apply zE;((conv=>lhs;whnf) <;> exact rfl))))))|fail
      exact⟨_,rfl,⟨2,d,x,0,0,[],.slice none 0 0,[],0,0⟩,0,rfl,zA,Own.nil,.inl ⟨rfl,hI.trans (by rw[if_pos hl1,if_neg nl];rfl)⟩⟩
    · have hl2:(((x::l').length:Nat):Int)≠1:=by omega
      as_aux_lemma=>
      repeat' first|refine wk ?_|refine cX (fun _=>?_) fun _=>?_|refine ob (a:=_) ?_ (zQ (by apply zE;((conv=>lhs;whnf) <;> exact rfl)) (by decide) (by repeat' first|exact zT|(apply zN;focus (apply Cel.cell;(focus exact zC);exact rfl))) (by repeat' first|exact yB|(apply yC;(focus (apply zE;((conv=>lhs;whnf) <;> exact rfl))))))|fail
      exact⟨_,rfl,⟨2,d,x,0,0,[],.slice none 0 0,[],0,0⟩,3,rfl,zA,Own.nil,.inr ⟨by decide,hI.trans (if_neg hl1)⟩⟩
  by_cases hs4:s=[108,111,97,100]
  · rw[if_pos (.inr hs4)]at hI;by_cases hl1:(x::l').length=1
    · have hl2:¬((((x::l').length:Nat):Int)≠1):=by omega
      as_aux_lemma=>
      repeat' first|refine wk ?_|refine cX (fun _=>?_) fun _=>?_|refine ob (a:=_) ?_ (zQ (by apply zE;((conv=>lhs;whnf) <;> exact rfl)) (by decide) (by repeat' first|exact zT|(apply zN;focus (apply Cel.cell;(focus exact zC);exact rfl))) (by repeat' first|exact yB|(apply yC;(focus (apply zE;((conv=>lhs;whnf) <;> exact rfl))))))|fail
      exact⟨_,rfl,⟨4,d,x,0,0,[],.slice none 0 0,[],0,0⟩,0,rfl,zA,Own.nil,.inl ⟨rfl,hI.trans (by rw[if_pos hl1,if_pos hs4];rfl)⟩⟩
    · have hl2:(((x::l').length:Nat):Int)≠1:=by omega
      as_aux_lemma=>
      repeat' first|refine wk ?_|refine cX (fun _=>?_) fun _=>?_|refine ob (a:=_) ?_ (zQ (by apply zE;((conv=>lhs;whnf) <;> exact rfl)) (by decide) (by repeat' first|exact zT|(apply zN;focus (apply Cel.cell;(focus exact zC);exact rfl))) (by repeat' first|exact yB|(apply yC;(focus (apply zE;((conv=>lhs;whnf) <;> exact rfl))))))|fail
      exact⟨_,rfl,⟨4,d,x,0,0,[],.slice none 0 0,[],0,0⟩,3,rfl,zA,Own.nil,.inr ⟨by decide,hI.trans (if_neg hl1)⟩⟩
  rw[if_neg (by simp[hs3,hs4])]at hI
  cases hn:(nameB s && !Vir.wordB s) with
  | false =>
   have pn:∀(h':zB) n',Pur P 8 39 [str s] h' n' (.bool false):=fun h' n'=>by
    have:=(ropName_c s h' n').ok;rw [hn]at this;exact this
   as_aux_lemma=>
   repeat' first|refine yV (pn _ _) ?_|refine ob (a:=_) ?_ (zQ (by apply zE;((conv=>lhs;whnf) <;> exact rfl)) (by decide) (by repeat' first|exact zT|(apply zN;focus (apply Cel.cell;(focus exact zC);exact rfl))) (by repeat' first|exact yB|(apply yC;(focus (apply zE;((conv=>lhs;whnf) <;> exact rfl))))))|refine wk ?_|refine cX (fun _=>?_) fun _=>?_|fail
   exact⟨_,rfl,⟨0,d,0,0,0,[],.slice none 0 0,[],0,0⟩,3,rfl,zA,Own.nil,.inr ⟨by decide,hI.trans (if_neg fun h9=>by rw[show nameB s=true from h9.1,h9.2.1]at hn;cases hn)⟩⟩
  | true =>
   have pn:∀(h':zB) n',Pur P 8 39 [str s] h' n' (.bool true):=fun h' n'=>by
    have:=(ropName_c s h' n').ok;rw [hn]at this;exact this
   have hn2:Vir.named s=true∧Vir.wordB s=false:=by simpa using hn
   as_aux_lemma=>
   repeat' first|refine yV (pn _ _) ?_|refine ob (a:=_) ?_ (zQ (by apply zE;((conv=>lhs;whnf) <;> exact rfl)) (by decide) (by repeat' first|exact zT|(apply zN;focus (apply Cel.cell;(focus exact zC);exact rfl))) (by repeat' first|exact yB|(apply yC;(focus (apply zE;((conv=>lhs;whnf) <;> exact rfl))))))|refine wk ?_|refine cX (fun _=>?_) fun _=>?_|fail
   · rename_i f1;exact⟨_,rfl,⟨0,d,0,0,0,[],.slice none 0 0,[],0,0⟩,3,rfl,zA,Own.nil,.inr ⟨by decide,hI.trans (if_neg fun h9=>by have:=h9.2.2;omega)⟩⟩
   · rename_i f1;exact⟨_,rfl,⟨3,d,0,0,0,s,lv,x::l',0,0⟩,0,rfl,zA,o9 zA,.inl ⟨rfl,hI.trans (if_pos ⟨hn2.1,hn2.2,by omega⟩)⟩⟩
theorem rins_ret{ws:List Tx}(w:WsR lo h sv ws)(hne:ws≠[])(hlo:lo≤n):Ret P 8 31 [sv] h n (RI (Vir.insR ws) h n):=by
 cases ws with
 | nil=>exact absurd rfl hne
 | cons a r=>
  by_cases h1:a=[115,116,111,114,101]
  · subst h1;exact ri_store w hlo
  by_cases h2:a=[98,114]
  · subst h2;exact ri_br w hlo
  by_cases h3:a=[106,117,109,112]
  · subst h3;exact ri_jump w hlo
  by_cases h4:a=[114,101,116]
  · subst h4;exact ri_ret w hlo
  by_cases h5:a=[99,97,108,108]
  · subst h5;exact ri_call w hlo
  exact ri_def w hlo h1 h2 h3 h4 h5
end Go.Proofs.YtdipdkkpgjdnkaaGreatDoor
