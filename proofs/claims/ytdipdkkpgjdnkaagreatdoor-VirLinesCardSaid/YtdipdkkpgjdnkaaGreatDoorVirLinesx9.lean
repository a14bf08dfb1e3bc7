/- What the law leans on: an executor of the model that is sound, deduction over it, and the walks through the code (part 9 of 24). Conditions: those that each theorem states. -/
import Derived.Test.YtdipdkkpgjdnkaaGreatDoorVirLinesx8
import Derived.Orders

set_option linter.unusedVariables false
set_option linter.unusedSimpArgs false
namespace Go.Ex
theorem quiet_free{o:Op}(hk:zU o=0)(P:Program)(t:Fr)(h h':zB):xB o P t h=xB o P t h':=by
 cases o with
 | call c=>
  obtain⟨callee,asz,ts⟩:=c
  cases callee with
  | builtin b=>cases b <;> cases hk
  | value f=>cases hk
  | invoke r m=>cases hk
 | load _ _=>cases hk
 | lookup _ _ _ _=>cases hk
 | slice _ _ _ _ _=>cases hk
 | _=>rfl
theorem blkLt_ptr{n:Nat}{a:Addr}(h:blkLt n (.pointer (some a))=true):a.block<n:=zY h
theorem blkLt_slice{n l c:Nat}{a:Addr}(h:blkLt n (.slice (some a) l c)=true):a.block<n:=zY h
theorem blkLt_map{n r:Nat}(h:blkLt n (.map (some r))=true):r<n:=zY h
theorem quiet_at{o:Op}(hk:zU o=1)(P:Program)(t:Fr){n:Nat}(hl:lookLt n o t=true){h h':zB}(e:∀b,b<n→zF h' b=zF h b):xB o P t h'=xB o P t h:=by
 cases o with
 | load ty x =>
  have hl:blkLt n (ev t x)=true:=hl;show onPtr (ev t x) _ none=onPtr (ev t x) _ none;generalize ev t x=v at hl
  cases v with
  | pointer a =>
   cases a with
   | none=>rfl
   | some a =>
    obtain⟨b,off,s⟩:=a
    cases s with
    | some s=>rfl
    | none=>
     have:=e b (blkLt_ptr hl);unfold zF at this;show onRows (zF h' b) _ _ none=onRows (zF h b) _ _ none;unfold zF;rw [this]
  | _=>rfl
 | lookup ty x key ok =>
  have hl:blkLt n (ev t x)=true:=hl;show aLookup P h' ty (ev t x) (ev t key) ok=aLookup P h ty (ev t x) (ev t key) ok;generalize ev t x=v at hl
  cases v with
  | map r =>
   cases r with
   | none=>rfl
   | some r=>
    have:=e r (blkLt_map hl);unfold aLookup;simp only[this]
  | _=>rfl
 | slice ty x lo hi mx =>
  have hl:blkLt n (ev t x)=true:=hl;show yZ P h' ty (ev t x) (lo.map (ev t)) (hi.map (ev t)) (mx.map (ev t))=yZ P h ty (ev t x) (lo.map (ev t)) (hi.map (ev t)) (mx.map (ev t));generalize ev t x=v at hl
  unfold yZ
  cases und P ty with
  | none=>rfl
  | some d =>
   cases v with
   | slice a l c =>
    cases a with
    | none=>cases d <;> rfl
    | some a =>
     have:=e a.block (blkLt_slice hl);obtain⟨b,off,s⟩:=a
     cases s with
     | some s=>cases d <;> rfl
     | none=>
      have this:zF h' b=zF h b:=this;cases d <;> simp only[this]
   | pointer a =>
    cases a with
    | none=>cases d <;> rfl
    | some a=>
     obtain⟨b,off,s⟩:=a;cases s <;> cases d <;> rfl
   | _=>cases d <;> rfl
 | call c =>
  obtain⟨callee,asz,ts⟩:=c
  cases callee with
  | value f=>cases hk
  | invoke r m=>cases hk
  | builtin b =>
   show quietB P b ts.toList (asz.toList.map (ev t)) h'=quietB P b ts.toList (asz.toList.map (ev t)) h;have hl:(match asz.toList with|x::_=>blkLt n (ev t x)|[]=>true)=true:=hl;generalize asz.toList=l at hl ⊢
   generalize ts.toList=tl
   cases b <;> first|rfl|skip
   cases l with
   | nil=>rfl
   | cons x l =>
    cases tl with
    | nil=>rfl
    | cons ty tl =>
     have hl:blkLt n (ev t x)=true:=hl;show aLen P h' ty (ev t x)=aLen P h ty (ev t x);generalize ev t x=v at hl
     unfold aLen
     cases und P ty with
     | none=>rfl
     | some d =>
      cases v with
      | map r =>
       cases r with
       | none=>cases d <;> rfl
       | some r=>
        have:=e r (blkLt_map hl);cases d <;> simp only[this]
      | _=>cases d <;> rfl
 | makeMap t r=>cases r <;> cases hk
 | _=>cases hk
theorem two_of{α : Type}{l:List α}{x y: α}(hx:x∈l)(hy:y∈l):x=y∨(∃A B C,l=A++x::(B++y::C))∨∃A B C,l=A++y::(B++x::C):=by
 obtain⟨A,B,rfl⟩:=List.append_of_mem hx;rcases List.mem_append.1 hy with h|h
 · obtain⟨A1,A2,rfl⟩:=List.append_of_mem h;exact .inr (.inr ⟨A1,A2,B,by simp⟩)
 · rcases List.mem_cons.1 h with h|h
   · exact .inl h.symm
   · obtain⟨B1,B2,rfl⟩:=List.append_of_mem h;exact .inr (.inl ⟨A,B1,B2,rfl⟩)
section
variable {P:Program} {ng:Nat} {all:Array Oper} {M:Nat→Nat} {D E:List DOp} {C:Cfg}
variable {pre suf:List Rec} {ts:Fr} {ws:W} {lst:Nat→Prop} {ρ : Inj} {H:zB} {a:Act} {wd:World} {cs:List Frame}
theorem Inv.uniq(I:Inv P ng all M D E C pre suf ts ws lst ρ H a wd cs)(K:RecPlan all M D){r r':Rec}(h:r∈pre++suf)(h':r'∈pre++suf)(e:r.x.i=r'.x.i):r=r':=by
 rcases two_of h h' with h1|⟨X,Y,Z,h1⟩|⟨X,Y,Z,h1⟩
 · exact h1
 · exact absurd e (K.later (A:=X.map (·.x)) (B:=Y.map (·.x)) (C:=Z.map (·.x)++E) (by rw[I.dd,h1];simp)).2
 · exact absurd e.symm (K.later (A:=X.map (·.x)) (B:=Y.map (·.x)) (C:=Z.map (·.x)++E) (by rw[I.dd,h1];simp)).2
theorem put_at{a:Act}{o:Option Tmp}{v:Value}{d:Nat}(h:o≠some d):(a.put o v).tmps[d]? = a.tmps[d]? :=by
 cases o with
 | none=>rfl
 | some e=>
  have:e≠d:=fun q=>h (by rw[q]);simp [Act.put,Array.getElem?_setIfInBounds_ne this]
theorem put_self_at{a:Act}{v:Value}{d:Nat}(h:d<a.tmps.size):(a.put (some d) v).tmps[d]? = some v:=by
 simp[Act.put,h]
theorem put_size{a:Act}{o:Option Tmp}{v:Value}:(a.put o v).tmps.size=a.tmps.size:=by
 cases o <;> simp[Act.put]
theorem Inv.note(I:Inv P ng all M D E C pre suf ts ws lst ρ H a wd cs)(K:RecPlan all M D)(hc:∀o∈all.toList,vD ng (ntm P C.cx.fn) o=true){r:Rec}(hr:r∈suf)(h3:r.x.kd≠3)
(hx:¬lst r.x.i)(hm:∀b,zW (M r.x.i) b=true→lst b){ρ1:Inj}{H1:zB}{wd1:World}{v':Value}(hle: ρ.le ρ1)(hv:RV (ρ1.cut r.w2.n) r.v v')
(in0:In0 P ng (ρ1.cut ws.n) C.base C.w00 C.b a wd1 cs C.cx ws)(hp:∀m,ws.n≤m→HeapR P ng (ρ1.cut m) C.base C.w00 H1 m wd1)(gr:∀m,ws.n≤m→Grow C.ρ0 C.W0.h C.W0.n C.wd0 (ρ1.cut m) H1 m wd1)
(hh:∀b,b<ws.n→zF H1 b=zF ws.h b)(mkd:∀q∈suf,q.x.kd=2→q.sk=false→(lst q.x.i∨q=r)→zF H1 q.w.n=zF q.w2.h q.w.n)
(ex:∀b B,ws.n≤b→ρ1 b=some B→∃q∈suf,q.x.kd=2∧q.sk=false∧(lst q.x.i∨q=r)∧q.w.n=b) :
 Inv P ng all M D E C pre suf ts ws (fun i=>lst i∨i=r.x.i) ρ1 H1 (a.put r.x.o.dst v') wd1 cs:=by
 have hrm:r∈pre++suf:=List.mem_append_right _ hr;have hrD:r.x∈D:=by rw[I.dd];exact List.mem_append_left _ (List.mem_map.2 ⟨r,hrm,rfl⟩)
 have hdst:∀q∈pre++suf,lst q.x.i→∀d,q.x.o.dst=some d→r.x.o.dst≠some d:=by
  intro q hq hl d e e2;have hqD:q.x∈D:=by rw[I.dd];exact List.mem_append_left _ (List.mem_map.2 ⟨q,hq,rfl⟩)
  rcases K.pair q.x hqD r.x hrD d e (.inr e2) with h|⟨h,_⟩
  · rw[h]at hl;exact hx hl
  · exact h e2
 have hlt:∀d,r.x.o.dst=some d→d<a.tmps.size:=by
  intro d e
  have hmem:r.x.o∈all.toList:=by
   have ho:=K.at' r.x hrD;rw [← Array.getElem?_toList]at ho;exact List.mem_iff_getElem?.2 ⟨_,ho⟩
  have:=(Bool.and_eq_true_iff.1 (hc r.x.o hmem)).2;rw [e]at this;have h1:d<ntm P C.cx.fn:=zY this;rw [I.sz];exact Nat.lt_of_lt_of_le h1 I.tm0.le
 refine⟨I.dd,I.r1,I.r2,I.last,fun q hq=>.inl (I.pl q hq),?_,?_,?_,in0.act (put_defers a _ _),hp,gr,I.cst,hh,?_,?_,?_,?_,I.tm0.mono (cut_mono hle _),put_size.trans I.sz⟩
 · intro q hq hk hl;rcases hl with hl|hl
   · exact I.sl q hq hk hl
   · have:=I.uniq K (List.mem_append_right _ hq) hrm hl;rw [this]at hk;exact h3 hk
 · intro i hi;rcases hi with hi|rfl
   · exact I.only i hi
   · exact⟨r,hrm,rfl⟩
 · intro i hi j hj;rcases hi with hi|rfl
   · exact .inl (I.closed i hi j hj)
   · exact .inl (hm j hj)
 · intro q hq h2 hsk hl;refine mkd q hq h2 hsk ?_;rcases hl with hl|hl
   · exact .inl hl
   · exact .inr (I.uniq K (List.mem_append_right _ hq) hrm hl)
 · intro b B hb e;obtain⟨q,q1,q2,q3,q4,q5⟩:=ex b B hb e;exact⟨q,q1,q2,q3,q4.imp id (fun e=>by rw[e]),q5⟩
 · intro q hq hl d hd;by_cases hql:lst q.x.i
   · obtain⟨v2,e1,e2⟩:=I.val q hq hql d hd;exact⟨v2,by rw[put_at (hdst q hq hql d hd)];exact e1,e2.mono (cut_mono hle _)⟩
   · have hqr:q=r:=I.uniq K hq hrm (hl.resolve_left hql);subst hqr;exact⟨v',by rw[hd];exact put_self_at (hlt d hd),hv⟩
 · intro d hd;rw [put_at (hd r hrm (.inr rfl))];exact I.un d fun q hq hl=>hd q hq (.inl hl)
theorem Inv.calm(I:Inv P ng all M D E C pre suf ts ws lst ρ H a wd cs)(K:RecPlan all M D)(hc:∀o∈all.toList,vD ng (ntm P C.cx.fn) o=true){r:Rec}(hr:r∈suf)(h3:r.x.kd≠3)(h2:r.x.kd≠2∨r.sk=true)
(hx:¬lst r.x.i)(hm:∀b,zW (M r.x.i) b=true→lst b){v':Value}(hv:RV (ρ.cut r.w2.n) r.v v') :
 Inv P ng all M D E C pre suf ts ws (fun i=>lst i∨i=r.x.i) ρ H (a.put r.x.o.dst v') wd cs:=
 I.note K hc hr h3 hx hm (Inj.le.refl ρ) hv I.in0 I.hp I.gr I.hh
  (fun q hq q2 q3 q4=>I.mkd q hq q2 q3 (q4.resolve_right fun e=>by
   subst e;rcases h2 with h2|h2
   · exact h2 q2
   · rw[h2]at q3;cases q3))
  (fun b B hb e=>let ⟨q,q1,q2,q3,q4,q5⟩:=I.ex b B hb e;⟨q,q1,q2,q3,.inl q4,q5⟩)
end
end Go.Ex
namespace Go.Ex
theorem hsOf_app:∀(A B:List Rec) (hs:List W),hsOf (A++B) hs=hsOf B (hsOf A hs):=by
 intro A
 induction A with
 | nil=>intro B hs;rfl
 | cons r A ih=>intro B hs;exact ih B _
theorem hsOf_ends:∀(R:List Rec) (hs:List W),∃X,hsOf R hs=X++hs:=by
 intro R
 induction R with
 | nil=>intro hs;exact⟨[],rfl⟩
 | cons r R ih=>
  intro hs;obtain⟨X,e⟩:=ih (cond (Nat.beq r.x.kd 3) (r.w2::hs) hs)
  cases h:Nat.beq r.x.kd 3 with
  | true=>exact⟨X++[r.w2],by rw[h]at e;show hsOf R (cond (Nat.beq r.x.kd 3) (r.w2::hs) hs)=_;rw [h,e];simp⟩
  | false=>exact⟨X,by rw[h]at e;show hsOf R (cond (Nat.beq r.x.kd 3) (r.w2::hs) hs)=_;rw [h,e];rfl⟩
theorem hsOf_len:∀(R:List Rec) (hs:List W),(hsOf R hs).length=(R.map (·.x)).countP (fun c=>Nat.beq c.kd 3)+hs.length:=by
 intro R
 induction R with
 | nil=>intro hs;simp [hsOf]
 | cons r R ih=>
  intro hs;show(hsOf R (cond (Nat.beq r.x.kd 3) (r.w2::hs) hs)).length=_;rw [ih];cases h:Nat.beq r.x.kd 3 <;> simp[h];omega
theorem lsOf_keep:∀(R:List Rec) (ls:List Look) (l:Look),l∈ls→l∈lsOf R ls:=by
 intro R
 induction R with
 | nil=>intro ls l h;exact h
 | cons r R ih=>
  intro ls l h;refine ih _ l ?_
  cases (!r.sk && (Nat.beq r.x.kd 1 && !Nat.beq r.x.low r.x.high)) with
  | true=>exact List.mem_cons_of_mem _ h
  | false=>exact h
theorem lsOf_mem:∀(R:List Rec) (ls:List Look) (r:Rec),r∈R→r.sk=false→r.x.kd=1→r.x.low≠r.x.high→(⟨r.x.o.op,r.t,r.v,r.x.low,r.x.high⟩:Look)∈lsOf R ls:=by
 intro R
 induction R with
 | nil=>intro ls r h;simp at h
 | cons q R ih=>
  intro ls r h h1 h2 h3;rcases List.mem_cons.1 h with rfl|h
  · refine lsOf_keep R _ _ ?_
    have e:Nat.beq r.x.low r.x.high=false:=by
     cases e:Nat.beq r.x.low r.x.high with
     | false=>rfl
     | true=>exact absurd (zG e) h3
    rw[h1,h2,e];exact List.mem_cons_self
  · exact ih _ r h h1 h2 h3
theorem looksOK_mem{P:Program}{k:Nat}{hs:List W}:∀{ls:List Look},xC P k hs ls=true→∀l∈ls,uA P l k hs=true:=by
 intro ls
 induction ls with
 | nil=>intro _ l h;simp at h
 | cons q ls ih=>
  intro h l hl;have h':(uA P q k hs && xC P k hs ls)=true:=h;obtain⟨h1,h2⟩:=Bool.and_eq_true_iff.1 h';rcases List.mem_cons.1 hl with rfl|hl
  · exact h1
  · exact ih h2 l hl
theorem le_ble{a b:Nat}(h:a≤b):Nat.ble a b=true:=by rw[Nat.ble_eq];exact h
theorem lookOK_at{P:Program}{l:Look}:∀{X:List W} {w:W} {Y:List W},uA P l (X++w::Y).length (X++w::Y)=true→l.low≤Y.length→Y.length≤l.high→
 lookLt w.n l.o l.t=true∧∃v,xB l.o P l.t w.h=some v∧sameB v l.v=true:=by
 intro X
 induction X with
 | nil =>
  intro w Y h h1 h2
  have h':((cond (Nat.ble l.low Y.length && Nat.ble Y.length l.high) (lookLt w.n l.o l.t && (match xB l.o P l.t w.h with
   | some v=>sameB v l.v
   | none=>false)) true) && uA P l Y.length Y)=true:=h
  obtain⟨h3,_⟩:=Bool.and_eq_true_iff.1 h';rw [le_ble h1,le_ble h2]at h3
  obtain⟨h4,h5⟩:=Bool.and_eq_true_iff.1 (show(lookLt w.n l.o l.t && (match xB l.o P l.t w.h with
   | some v=>sameB v l.v
   | none=>false))=true from h3)
  refine⟨h4,?_⟩
  cases hq:xB l.o P l.t w.h with
  | none=>rw [hq]at h5;cases h5
  | some v=>rw [hq]at h5;exact⟨v,rfl,h5⟩
 | cons q X ih =>
  intro w Y h h1 h2
  have h':((cond (Nat.ble l.low (X++w::Y).length && Nat.ble (X++w::Y).length l.high) (lookLt q.n l.o l.t && (match xB l.o P l.t q.h with
   | some v=>sameB v l.v
   | none=>false)) true) && uA P l (X++w::Y).length (X++w::Y))=true:=h
  exact ih (Bool.and_eq_true_iff.1 h').2 h1 h2
theorem scalB_eq{v v':Value}(h:scalB v v'=true):v=v':=by
 unfold scalB at h;split at h <;> try (first|rfl|(exact absurd h Bool.false_ne_true))
 · rename_i a b;cases a <;> cases b <;> first|rfl|cases h
 · obtain⟨h1,h2⟩:=Bool.and_eq_true_iff.1 h;rw [xI]at h2;rw [wP h1,of_decide_eq_true h2]
 · rename_i a b;rw [vL]at h;have e:=eq_of_beq h;obtain⟨⟨a⟩⟩:=a;obtain⟨⟨b⟩⟩:=b;have e:a=b:=e;rw [e]
 · obtain⟨h1,h2⟩:=Bool.and_eq_true_iff.1 h;rw [zG h1,zG h2]
 · obtain⟨h1,h2⟩:=Bool.and_eq_true_iff.1 h;rw [zG h1,zG h2]
 · obtain⟨h1,h4⟩:=Bool.and_eq_true_iff.1 h;obtain⟨h1,h3⟩:=Bool.and_eq_true_iff.1 h1;obtain⟨h1,h2⟩:=Bool.and_eq_true_iff.1 h1;rw [zG h1,zG h2,zG h3,zG h4]
 · rw[zG h]
theorem scalsB_eq:∀{l l':List Value},vZ l l'=true→l=l':=by
 intro l
 induction l with
 | nil=>intro l' h;cases l' with
  | nil=>rfl
  | cons b l'=>cases h
 | cons a l ih => intro l' h; cases l' with
  | nil=>cases h
  | cons b l'=>
   have h':(scalB a b && vZ l l')=true:=h;obtain⟨h1,h2⟩:=Bool.and_eq_true_iff.1 h';rw [scalB_eq h1,ih h2]
theorem sameB_eq{v v':Value}(h:sameB v v'=true):v=v':=by
 unfold sameB at h;split at h
 · rename_i a b;have e:=scalsB_eq h;obtain⟨a⟩:=a;obtain⟨b⟩:=b;have e:a=b:=e;rw [e]
 · rename_i a b;have e:=scalsB_eq h;obtain⟨a⟩:=a;obtain⟨b⟩:=b;have e:a=b:=e;rw [e]
 · rename_i f a b g c d;obtain⟨h1,h2⟩:=Bool.and_eq_true_iff.1 h;obtain⟨h2,h3⟩:=Bool.and_eq_true_iff.1 h2;have e1:=scalsB_eq h2;have e2:=scalsB_eq h3;obtain⟨a⟩:=a;obtain⟨b⟩:=b;obtain⟨c⟩:=c;obtain⟨d⟩:=d;have e1:a=c:=e1;have e2:b=d:=e2;rw [zG h1,e1,e2]
 · exact scalB_eq h
theorem countP_lt{α : Type}{p q: α→Bool}{l:List α}(h:∀x∈l,p x=true→q x=true){c: α}(hc:c∈l)(hp:p c=false)(hq:q c=true):l.countP p<l.countP q:=by
 obtain⟨A,B,rfl⟩:=List.append_of_mem hc;have h1:A.countP p≤A.countP q:=List.countP_mono_left fun x hx=>h x (by simp[hx]);have h2:B.countP p≤B.countP q:=List.countP_mono_left fun x hx=>h x (by simp[hx]);simp only[List.countP_append,List.countP_cons,hp,hq];simp;omega
section
variable {P:Program} {ng:Nat} {all:Array Oper} {M:Nat→Nat} {D E:List DOp} {C:Cfg}
variable {pre suf:List Rec} {ts:Fr} {ws:W} {lst:Nat→Prop} {ρ : Inj} {H:zB} {a:Act} {wd:World} {cs:List Frame}
theorem seg_ok{cx:Cx}:∀{A:List Rec} {t t':Fr} {w w':W},RecsOK P ng all cx A t w t' w'→(∀r∈A,r.x.kd≠3∧r.x.kd=zU r.x.o.op)→
 w'.d=w.d∧w'.u=w.u∧(∀b,b<w.n→zF w'.h b=zF w.h b)∧∀r∈A,r.x.kd=2→r.sk=false→zF w'.h r.w.n=zF r.w2.h r.w.n:=by
 intro A
 induction A with
 | nil=>intro t t' w w' h _;cases h;exact⟨rfl,rfl,fun _ _=>rfl,fun r hr=>by simp at hr⟩
 | cons r A ih =>
  intro t t' w w' h hk;have hk':∀r∈A,r.x.kd≠3∧r.x.kd=zU r.x.o.op:=fun q hq=>hk q (by simp[hq]);obtain⟨k3,kk⟩:=hk r (by simp)
  cases h with
  | cons hr hrs =>
   obtain⟨i1,i2,i3,i4⟩:=ih hrs hk'
   have key:r.w2.d=r.w.d∧r.w2.u=r.w.u∧(∀b,b<r.w.n→zF r.w2.h b=zF r.w.h b)∧(r.x.kd=2→r.sk=false→r.w.n<r.w2.n):=by
    cases hr with
    | skip=>exact⟨rfl,rfl,fun _ _=>rfl,fun _ h=>by cases h⟩
    | look hw hkk=>exact⟨rfl,rfl,fun _ _=>rfl,fun h=>by dsimp only at h;omega⟩
    | made hw hkk hn=>exact⟨rfl,rfl,fun b hb=>by dsimp only at hb ⊢;rw [zK,if_neg (by omega)],fun _ _=>Nat.lt_succ_self _⟩
    | act hw hkk ho hn=>
     exfalso
     rename_i x t w w2 v;have h9:zU x.o.op≤3:=by unfold zU;split <;> (try split) <;> omega
     dsimp only at k3 kk;omega
   obtain⟨k1,k2,k4,k5⟩:=key;have hn:=rec_n hr;refine⟨i1.trans k1,i2.trans k2,fun b hb=>(i3 b (by omega)).trans (k4 b hb),fun q hq h2 hsk=>?_⟩;rcases List.mem_cons.1 hq with rfl|hq
   · exact i3 _ (k5 h2 hsk)
   · exact i4 q hq h2 hsk
theorem maker_uniq{cx:Cx}{R:List Rec}{t t':Fr}{w w':W}(h:RecsOK P ng all cx R t w t' w'){r r':Rec}(hr:r∈R)(hr':r'∈R)(k:r.x.kd=2)(k':r'.x.kd=2)(s:r.sk=false)(s':r'.sk=false)(e:r.w.n=r'.w.n):r=r':=by
 have grow:∀{r:Rec},RecOK P ng all cx r→r.x.kd=2→r.sk=false→r.w.n<r.w2.n:=by
  intro r h k s
  cases h with
  | skip=>cases s
  | look hw hkk=>dsimp only at k;omega
  | made=>exact Nat.lt_succ_self _
  | act hw hkk=>exact absurd k hkk.2.2
 have key:∀{r r':Rec} {X Y Z:List Rec},r.x.kd=2→r.sk=false→R=X++r::(Y++r'::Z)→r.w.n<r'.w.n:=by
  intro r r' X Y Z k s hR;rw [hR]at h;obtain⟨t1,w1,_,h2⟩:=wY h
  cases h2 with
  | cons h3 h4=>
   have h5:=grow h3 k s;have h6:=((xM h4).2 r' (by simp)).2.1;omega
 rcases two_of hr hr' with h1|⟨X,Y,Z,h1⟩|⟨X,Y,Z,h1⟩
 · exact h1
 · have:=key k s h1;omega
 · have:=key k' s' h1;omega
theorem Inv.seg(I:Inv P ng all M D E C pre suf ts ws lst ρ H a wd cs)(K:RecPlan all M D){A S:List Rec}{t:Fr}{w:W}(hs:suf=A++S)(hA:RecsOK P ng all C.cx A ts ws t w)(h3:∀r∈A,r.x.kd≠3) :
 w.d=ws.d∧w.u=ws.u∧∀b B,b<w.n→ρ b=some B→zF w.h b=zF H b:=by
 have hD:∀r∈A,r.x∈D:=fun r hr=>by rw[I.dd];exact List.mem_append_left _ (List.mem_map.2 ⟨r,by rw[hs];simp [hr],rfl⟩)
 obtain⟨s1,s2,s3,s4⟩:=seg_ok hA fun r hr=>⟨h3 r hr,K.kd _ (hD r hr)⟩;refine⟨s1,s2,fun b B hb e=>?_⟩;rcases Nat.lt_or_ge b ws.n with h|h
 · rw[s3 b h,I.hh b h]
 · obtain⟨q,q1,q2,q3,q4,q5⟩:=I.ex b B h e;have hr2:=I.r2;rw [hs]at hr2;obtain⟨t1,w1,x1,x2⟩:=wY hr2
   have hqA:q∈A:=by
    rw[hs]at q1;rcases List.mem_append.1 q1 with h|h
    · exact h
    · exfalso
      have h6:=((xM x2).2 q h).2.1;have e1:=recs_end hA x1;rw [← e1]at h6;omega
   subst q5;rw [s4 q hqA q2 q3,I.mkd q q1 q2 q3 q4]
end
end Go.Ex
namespace Go.Ex
section
variable {P:Program} {ng:Nat} {all:Array Oper} {M:Nat→Nat} {D E:List DOp} {C:Cfg}
variable {pre suf:List Rec} {ts:Fr} {ws:W} {lst:Nat→Prop} {ρ : Inj} {H:zB} {a:Act} {wd:World} {cs:List Frame}
theorem Inv.mem(I:Inv P ng all M D E C pre suf ts ws lst ρ H a wd cs){r:Rec}(h:r∈pre++suf):r.x∈D:=by
 rw[I.dd];exact List.mem_append_left _ (List.mem_map.2 ⟨r,h,rfl⟩)
theorem Inv.head(I:Inv P ng all M D E C pre suf ts ws lst ρ H a wd cs):∃Y,hsOf pre [C.W0]=ws::Y∧Y.length=(pre.map (·.x)).countP (fun c=>Nat.beq c.kd 3):=by
 rcases I.last with h|⟨p,r,h,h3⟩
 · subst h;have:=I.r1;cases this
   exact⟨[],rfl,rfl⟩
 · have h1:=I.r1;rw [h]at h1;obtain⟨t1,w1,_,h2⟩:=wY h1
   cases h2 with
   | cons h3' h4=>
    cases h4
    refine⟨hsOf p [C.W0],?_,?_⟩
    · rw[h,hsOf_app];show cond (Nat.beq r.x.kd 3) (r.w2::hsOf p [C.W0]) (hsOf p [C.W0])=_;rw [h3];rfl
    · rw[h,hsOf_len];simp [h3]
theorem Inv.look(hP:yH ng P=true)(I:Inv P ng all M D E C pre suf ts ws lst ρ H a wd cs)(K:RecPlan all M D)
(hL:xC P (hsOf (pre++suf) [C.W0]).length (hsOf (pre++suf) [C.W0]) (lsOf (pre++suf) [])=true)
{A B:List Rec}{r:Rec}(hs:suf=A++r::B)(hA:RecsOK P ng all C.cx A ts ws r.t r.w)(hsk:r.sk=false)(hk:r.x.kd=0∨r.x.kd=1)(hq:xB r.x.o.op P r.t r.w.h=some r.v)
(hx:¬lst r.x.i)(hm:∀b,zW (M r.x.i) b=true→lst b)(hO:OpsR (ρ.cut r.w.n) r.t a r.x.o) :
 ∃v',(execOp a.eval r.x.o).run P wd = .ok (.value v') wd∧RV (ρ.cut r.w.n) r.v v':=by
 have hwn:ws.n≤r.w.n:=(xM hA).1;have hrm:r∈pre++suf:=by rw[hs];simp
 have hrD:=I.mem hrm;have hkd:=K.kd _ hrD;have hDr:D=(pre++A).map (·.x)++r.x::(B.map (·.x)++E):=by rw[I.dd,hs];simp
 rcases hk with hk|hk
 · rw[quiet_free (hkd.symm.trans hk) P r.t r.w.h H]at hq;exact quiet_ok hP (I.hp _ hwn) hO hq
 by_cases hlh:r.x.low=r.x.high
 ·
  have hno:∀q∈A,q.x.kd≠3:=by
   intro q hqA h3;have hql:¬lst q.x.i:=I.sl q (by rw[hs];simp [hqA]) h3;obtain⟨A1,A2,hA2⟩:=List.append_of_mem hqA;have hDq:D=(pre++A1).map (·.x)++q.x::(A2.map (·.x)++r.x::(B.map (·.x)++E)):=by rw[hDr,hA2];simp
   obtain⟨l1,l2⟩:=K.later hDq
   have hlt:=countP_lt (l:=D) (p:=fun c=>Nat.beq c.kd 3 && zW (M r.x.i) c.i) (q:=fun c=>Nat.beq c.kd 3 && (!zW (M c.i) r.x.i && !Nat.beq c.i r.x.i)) (c:=q.x)
    (fun c hc hp=>by
     obtain⟨p1,p2⟩:=Bool.and_eq_true_iff.1 hp
     have b1:zW (M c.i) r.x.i=false∧c.i≠r.x.i:=by
      rcases two_of hc hrD with e|⟨X,Y,Z,e⟩|⟨X,Y,Z,e⟩
      · exfalso
        rw[e,hk]at p1;cases p1
      · exact K.later e
      · rw[(K.later e).1]at p2;cases p2
     have b2:Nat.beq c.i r.x.i=false:=by
      cases e:Nat.beq c.i r.x.i with
      | false=>rfl
      | true=>exact absurd (zG e) b1.2
     simp only[p1,b1.1,b2];rfl)
    (by rw[hDq];simp)
    (by
     have:zW (M r.x.i) q.x.i=false:=by
      cases e:zW (M r.x.i) q.x.i with
      | false=>rfl
      | true=>exact absurd (hm _ e) hql
     simp only[this,Bool.and_false])
    (by
     have b2:Nat.beq q.x.i r.x.i=false:=by
      cases e:Nat.beq q.x.i r.x.i with
      | false=>rfl
      | true=>exact absurd (zG e) l2
     simp only[h3,l1,b2];rfl)
   rw[← K.low _ hrD]at hlt;have:=K.high _ hrD;omega
  obtain⟨_,_,s3⟩:=I.seg K hs hA hno;exact quiet_ok hP ((I.hp _ hwn).congr fun b B e=>let ⟨h1,h2⟩:=xU e;s3 b B h1 h2) hO hq
 ·
  have hmem:=lsOf_mem (pre++suf) [] r hrm hsk hk hlh;have hl:=looksOK_mem hL _ hmem;obtain⟨Y,hY1,hY2⟩:=I.head;obtain⟨X,hX⟩:=hsOf_ends suf (hsOf pre [C.W0]);rw [hsOf_app,hX,hY1]at hl
  have split:∀p:DOp→Bool,D.countP p=(pre.map (·.x)).countP p+((suf.map (·.x))++E).countP p:=by
   intro p;rw [I.dd,List.map_append,List.append_assoc,List.countP_append]
  have hlow:r.x.low≤Y.length:=by
   rw[K.low _ hrD,split,hY2]
   have z:((suf.map (·.x))++E).countP (fun c=>Nat.beq c.kd 3 && zW (M r.x.i) c.i)=0:=by
    rw[List.countP_eq_zero];intro c hc hp;obtain⟨p1,p2⟩:=Bool.and_eq_true_iff.1 hp;have hl':=hm _ p2;rcases List.mem_append.1 hc with hc|hc
    · obtain⟨q,hq1,rfl⟩:=List.mem_map.1 hc;exact I.sl q hq1 (zG p1) hl'
    · obtain⟨E1,E2,hE⟩:=List.append_of_mem hc;rw [(K.later (x:=r.x) (y:=c) (A:=(pre++A).map (·.x)) (B:=B.map (·.x)++E1) (C:=E2) (by rw[hDr,hE];simp)).1]at p2;cases p2
   rw[z];exact Nat.le_trans (Nat.le_of_eq (Nat.add_zero _)) (List.countP_mono_left fun c _ hp=>(Bool.and_eq_true_iff.1 hp).1)
  have hhigh:Y.length≤r.x.high:=by
   refine Nat.le_trans ?_ (K.high _ hrD);rw [split,hY2];refine Nat.le_trans (List.countP_mono_left fun c hc hp=>?_) (Nat.le_add_right _ _);obtain⟨q,hq1,rfl⟩:=List.mem_map.1 hc;have hql:=I.pl q hq1
   have b1:zW (M q.x.i) r.x.i=false:=by
    cases e:zW (M q.x.i) r.x.i with
    | false=>rfl
    | true=>exact absurd (I.closed _ hql _ e) hx
   have b2:Nat.beq q.x.i r.x.i=false:=by
    cases e:Nat.beq q.x.i r.x.i with
    | false=>rfl
    | true=>rw [zG e]at hql;exact absurd hql hx
   simp only[hp,b1,b2];rfl
  obtain⟨k1,v,k2,k3⟩:=lookOK_at hl hlow hhigh;have hv:v=r.v:=sameB_eq k3;subst hv;have k2:xB r.x.o.op P r.t ws.h=some r.v:=k2;rw [← quiet_at (h':=H) (hkd.symm.trans hk) P r.t k1 I.hh]at k2;exact quiet_ok hP (I.hp _ hwn) hO k2
theorem Inv.made(I:Inv P ng all M D E C pre suf ts ws lst ρ H a wd cs)(K:RecPlan all M D)(hc:∀o∈all.toList,vD ng (ntm P C.cx.fn) o=true)
{A B:List Rec}{r:Rec}{v:Nat→Value}{ob:AObj}(hs:suf=A++r::B)(hA:RecsOK P ng all C.cx A ts ws r.t r.w)(hk:r.x.kd=2)(hsk:r.sk=false)(hn:NewVal P ng r.x.o r.t v ob)
(hv:r.v=v r.w.n)(hw2:r.w2=W.mk r.w.d r.w.u (r.w.h.set .dead ob r.w.n) (r.w.n+1))
(hx:¬lst r.x.i)(hm:∀b,zW (M r.x.i) b=true→lst b)(hO:OpsR (ρ.cut r.w.n) r.t a r.x.o) :
 ∃v' wd' ρ1 H1,(execOp a.eval r.x.o).run P wd = .ok (.value v') wd'∧
  Inv P ng all M D E C pre suf ts ws (fun i=>lst i∨i=r.x.i) ρ1 H1 (a.put r.x.o.dst v') wd' cs:=by
 have hwn:ws.n≤r.w.n:=(xM hA).1;have hW0:C.W0.n≤ws.n:=(xM I.r1).1;have hr:r∈suf:=by rw[hs];simp
 obtain⟨Bl,o',v',b1,b2,b3,b4⟩:=hn (ρ.cut r.w.n) C.base C.w00 a wd H r.w.n hO (I.hp _ hwn)
 have hnone: ρ r.w.n=none:=by
  cases e: ρ r.w.n with
  | none=>rfl
  | some B=>
   obtain⟨q,q1,q2,q3,q4,q5⟩:=I.ex _ B hwn e;have:=maker_uniq I.r2 q1 hr q2 hk q3 hsk q5;rw [this]at q4;exact absurd q4 hx
 have hle:=Inj.le_put Bl hnone
 have hv':RV ((ρ.put r.w.n Bl).cut r.w2.n) r.v v':=by
  rw[hw2];show RV ((ρ.put r.w.n Bl).cut (r.w.n+1)) r.v v';rw [put_cut_succ,hv];exact b3
 refine⟨v',_,ρ.put r.w.n Bl,H.set .dead ob r.w.n,b2,I.note K hc hr (by omega) hx hm hle hv' ?_ ?_ ?_ ?_ ?_ ?_⟩
 · rw[put_cut_ge Bl hwn];exact⟨I.in0.fn,I.in0.kind,I.in0.rd,I.in0.rdf,I.in0.hp.push o',I.in0.dr,I.in0.ur,I.in0.fnd⟩
 · intro m hm';rcases Nat.lt_or_ge r.w.n m with h|h
   · rw[put_cut_lt Bl h];refine(I.hp m hm').add (by rw[yW h];exact hnone) h ob o' Bl b1 (b4.mono ?_);intro b B e;by_cases hb:b=r.w.n
     · simpa [Inj.put,hb] using e
     · simp[Inj.put,hb]at e ⊢;exact cut_le (Nat.le_of_lt h) _ _ e
   · rw[put_cut_ge Bl h]
     exact((I.hp m hm').push o').congr fun b B e=>by
      have:=(xU e).1;rw [zK,if_neg (by omega)]
 · intro m hm';rcases Nat.lt_or_ge r.w.n m with h|h
   · rw[put_cut_lt Bl h];exact(I.gr m hm').add (by omega) ob o' Bl b1
   · rw[put_cut_ge Bl h];exact((I.gr m hm').push o').congr fun b e=>by rw[zK,if_neg (by omega)]
 · intro b hb;rw [zK,if_neg (by omega)];exact I.hh b hb
 · intro q hq q2 q3 q4;rw [zK];by_cases h:r.w.n=q.w.n
   · have:=maker_uniq I.r2 hr hq hk q2 hsk q3 h;subst this;rw [if_pos rfl,hw2];show ob=zF (r.w.h.set .dead ob r.w.n) r.w.n;rw [zK,if_pos rfl]
   · rw[if_neg h];rcases q4 with q4|q4
     · exact I.mkd q hq q2 q3 q4
     · subst q4;exact absurd rfl h
 · intro b B hb e;by_cases h:b=r.w.n
   · exact⟨r,hr,hk,hsk,.inr rfl,h.symm⟩
   · obtain⟨q,q1,q2,q3,q4,q5⟩:=I.ex b B hb (by simpa [Inj.put,h] using e);exact⟨q,q1,q2,q3,.inl q4,q5⟩
end
end Go.Ex
namespace Go.Ex
section
variable {P:Program} {ng:Nat} {all:Array Oper} {M:Nat→Nat} {D E:List DOp} {C:Cfg}
variable {pre suf:List Rec} {ts:Fr} {ws:W} {lst:Nat→Prop} {ρ : Inj} {H:zB} {a:Act} {wd:World} {cs:List Frame}
theorem maker_grows{cx:Cx}{r:Rec}(h:RecOK P ng all cx r)(k:r.x.kd=2)(s:r.sk=false):r.w.n<r.w2.n:=by
 cases h with
 | skip=>cases s
 | look hw hkk=>dsimp only at k;omega
 | made=>exact Nat.lt_succ_self _
 | act hw hkk=>exact absurd k hkk.2.2
theorem Inv.at_act(I:Inv P ng all M D E C pre suf ts ws lst ρ H a wd cs)(K:RecPlan all M D){A S:List Rec}{t:Fr}{w:W}(hs:suf=A++S)(hA:RecsOK P ng all C.cx A ts ws t w)(hno:∀q∈A,q.x.kd≠3) :
 In0 P ng (ρ.cut w.n) C.base C.w00 C.b a wd cs C.cx w:=by
 have hwn:ws.n≤w.n:=(xM hA).1;obtain⟨s1,s2,s3⟩:=I.seg K hs hA hno;have hle:=cut_le (ρ := ρ) hwn;exact⟨I.in0.fn,I.in0.kind,I.in0.rd.mono hle,I.in0.rdf,(I.hp _ hwn).congr fun b B e=>let ⟨h1,h2⟩:=xU e;s3 b B h1 h2,by rw[s1];exact I.in0.dr.mono hle,by rw[s2];exact I.in0.ur.mono hle,I.in0.fnd⟩
theorem Inv.no_act(I:Inv P ng all M D E C pre suf ts ws lst ρ H a wd cs)(K:RecPlan all M D){A:List Rec}{S:List Rec}{x:DOp}{rest:List DOp}(hs:suf=A++S)(hD:D=(pre++A).map (·.x)++x::rest)(hk:x.kd=3)(hm:∀b,zW (M x.i) b=true→lst b) :
 (∀q∈A,q.x.kd≠3)∧∀q∈A,lst q.x.i:=by
 have hno:∀q∈A,q.x.kd≠3:=by
  intro q hq h3;have hql:¬lst q.x.i:=I.sl q (by rw[hs];simp [hq]) h3;obtain⟨A1,A2,hA2⟩:=List.append_of_mem hq;have hDq:D=(pre++A1).map (·.x)++q.x::(A2.map (·.x)++x::rest):=by rw[hD,hA2];simp
  obtain⟨l1,l2⟩:=K.later hDq;rcases K.act q.x (by rw[hDq];simp) x (by rw[hD];simp) h3 hk with h|h|h
  · exact l2 h
  · exact hql (hm _ h)
  · rw[l1]at h;cases h
 refine⟨hno,fun q hq=>hm _ ?_⟩;refine K.next (pre.map (·.x)) (A.map (·.x)) x rest (by rw[hD];simp) hk (fun y hy=>?_) q.x (List.mem_map.2 ⟨q,hq,rfl⟩);obtain⟨q',hq',rfl⟩:=List.mem_map.1 hy;exact hno q' hq'
theorem Inv.acted(I:Inv P ng all M D E C pre suf ts ws lst ρ H a wd cs)(K:RecPlan all M D)(hc:∀o∈all.toList,vD ng (ntm P C.cx.fn) o=true)
{A B:List Rec}{r:Rec}(hs:suf=A++r::B)(hA:RecsOK P ng all C.cx A ts ws r.t r.w)(hk:r.x.kd=3)
(hx:¬lst r.x.i)(hm:∀b,zW (M r.x.i) b=true→lst b){ρ':Inj}{a':Act}{wd':World}{cs':List Frame}{v':Value}
(in0:In0 P ng ρ' C.base C.w00 C.b a' wd' cs' C.cx r.w2)(ha:a'.tmps=a.tmps)(g:Grow (ρ.cut r.w.n) r.w.h r.w.n wd ρ' r.w2.h r.w2.n wd')(hcs:CsTo C.cx.df cs cs')(hv:RV ρ' r.v v') :
 ∃ρ1 H1,Inv P ng all M D E C (pre++A++[r]) B (putF r.t r.x.o.dst r.v) r.w2 (fun i=>lst i∨i=r.x.i) ρ1 H1 (a'.put r.x.o.dst v') wd' cs':=by
 have hwn:ws.n≤r.w.n:=(xM hA).1;have hW0:C.W0.n≤ws.n:=(xM I.r1).1;have hDr:D=(pre++A).map (·.x)++r.x::(B.map (·.x)++E):=by rw[I.dd,hs];simp
 have hrm:r∈pre++suf:=by rw[hs];simp
 have hrD:=I.mem hrm;obtain⟨hno,hAl⟩:=I.no_act K hs hDr hk hm;obtain⟨s1,s2,s3⟩:=I.seg K hs hA hno;have hkA:∀q∈A,q.x.kd≠3∧q.x.kd=zU q.x.o.op:=fun q hq=>⟨hno q hq,K.kd _ (I.mem (by rw[hs];simp [hq]))⟩;obtain⟨_,_,s4,_⟩:=seg_ok hA hkA;have hr2:=I.r2;rw [hs]at hr2;obtain⟨t1,w1,x1,x2⟩:=wY hr2;have ew:r.w=w1:=recs_end hA x1;subst ew
 have hB:RecsOK P ng all C.cx B (putF r.t r.x.o.dst r.v) r.w2 C.t1 C.w1∧RecOK P ng all C.cx r∧r.t=t1:=by
  cases x2 with
  | cons h1 h2=>exact⟨h2,h1,rfl⟩
 obtain⟨hB,hrok,et⟩:=hB;have hn:=rec_n hrok
 have inB:∀b Bk,r.w.n≤b→ρ b=some Bk→∃q∈B,q.x.kd=2∧q.sk=false∧lst q.x.i∧q.w.n=b:=by
  intro b Bk hb e;obtain⟨q,q1,q2,q3,q4,q5⟩:=I.ex b Bk (by omega) e;rw [hs]at q1;rcases List.mem_append.1 q1 with h|h
  · obtain⟨y1,y2,y3⟩:=(xM hA).2 q h;have:=maker_grows y1 q2 q3;omega
  · rcases List.mem_cons.1 h with h|h
    · rw[h,hk]at q2;cases q2
    · exact⟨q,h,q2,q3,q4,q5⟩
 obtain⟨H1,e1,e2⟩:=glue r.w2.h H r.w2.n (C.w1.n+1)
 have none':∀b,r.w.n≤b→b<r.w2.n→ρ b=none:=by
  intro b h1 h2
  cases e: ρ b with
  | none=>rfl
  | some Bk=>
   obtain⟨q,q1,q2,q3,q4,q5⟩:=inB b Bk h1 e;have:=((xM hB).2 q q1).2.1;omega
 have r1:∀b,b<r.w2.n→(fun b=>if b<r.w2.n then ρ' b else ρ b:Inj) b = ρ' b:=fun b h=>if_pos h;have r2:∀b,r.w2.n≤b→(fun b=>if b<r.w2.n then ρ' b else ρ b:Inj) b = ρ b:=fun b h=>if_neg (by omega);obtain⟨ρ1,r1,r2⟩:∃ρ1:Inj,(∀b,b<r.w2.n→ρ1 b = ρ' b)∧∀b,r.w2.n≤b→ρ1 b = ρ b:=⟨_,r1,r2⟩
 have c1: ρ1.cut r.w2.n = ρ':=by
  funext b
  rcases Nat.lt_or_ge b r.w2.n with h|h
  · rw[yW h,r1 b h]
  · rw[cut_ge h,in0.hp.dom b h]
 obtain⟨hle,hp⟩:=early (fun m hm=>I.hp m (by omega)) hn none' (fun b Bk hb e=>s3 b Bk hb e) in0.hp g r1 r2 e1 (fun b Bk hb e=>by
  obtain⟨q,q1,q2,q3,q4,q5⟩:=inB b Bk (by omega) e;have:=((xM hB).2 q q1).2.2;have:=rec_n ((xM hB).2 q q1).1;exact e2 b hb (by omega))
 have gr:=Grow.early (n0:=C.W0.n) (by omega) (fun m hm=>I.gr m (by omega)) hn (fun b hb=>by rw[s4 b (by omega),I.hh b (by omega)]) g r1 r2 e1
 have hdst:∀q∈pre++suf,lst q.x.i→∀d,q.x.o.dst=some d→r.x.o.dst≠some d:=by
  intro q hq hl d e e2;rcases K.pair q.x (I.mem hq) r.x hrD d e (.inr e2) with h|⟨h,_⟩
  · rw[h]at hl;exact hx hl
  · exact h e2
 have hlt:∀d,r.x.o.dst=some d→d<a'.tmps.size:=by
  intro d e
  have hmem:r.x.o∈all.toList:=by
   have ho:=K.at' r.x hrD;rw [← Array.getElem?_toList]at ho;exact List.mem_iff_getElem?.2 ⟨_,ho⟩
  have:=(Bool.and_eq_true_iff.1 (hc r.x.o hmem)).2;rw [e]at this;have h1:d<ntm P C.cx.fn:=zY this;rw [ha,I.sz];exact Nat.lt_of_lt_of_le h1 I.tm0.le
 have hall:pre++A++[r]++B=pre++suf:=by rw[hs];simp
 refine⟨ρ1,H1,?_,?_,hB,.inr ⟨_,r,rfl,hk⟩,?_,?_,?_,?_,?_,hp,gr,I.cst.trans hcs,e1,?_,?_,?_,?_,I.tm0.mono (cut_mono hle _),(put_size.trans (by rw[ha])).trans I.sz⟩
 · rw[hall];exact I.dd
 · refine vJ (vJ I.r1 hA) (.cons hrok (.nil _ _))
 · intro q hq;rcases List.mem_append.1 hq with hq|hq
   · rcases List.mem_append.1 hq with hq|hq
     · exact .inl (I.pl q hq)
     · exact .inl (hAl q hq)
   · simp at hq;subst hq;exact .inr rfl
 · intro q hq h3 hl;rcases hl with hl|hl
   · exact I.sl q (by rw[hs];simp [hq]) h3 hl
   · obtain⟨B1,B2,hB2⟩:=List.append_of_mem hq;exact(K.later (x:=r.x) (y:=q.x) (A:=(pre++A).map (·.x)) (B:=B1.map (·.x)) (C:=B2.map (·.x)++E) (by rw[hDr,hB2];simp)).2 hl.symm
 · intro i hi;rw [hall];rcases hi with hi|rfl
   · exact I.only i hi
   · exact⟨r,hrm,rfl⟩
 · intro i hi j hj;rcases hi with hi|rfl
   · exact .inl (I.closed i hi j hj)
   · exact .inl (hm j hj)
 · rw[c1];exact in0.act (put_defers a' _ _)
 · intro q hq q2 q3 q4;obtain⟨y1,y2,y3⟩:=(xM hB).2 q hq;have:=maker_grows y1 q2 q3;rw [e2 _ y2 (by omega)];refine I.mkd q (by rw[hs];simp [hq]) q2 q3 (q4.resolve_right fun e=>?_);obtain⟨B1,B2,hB2⟩:=List.append_of_mem hq;exact(K.later (x:=r.x) (y:=q.x) (A:=(pre++A).map (·.x)) (B:=B1.map (·.x)) (C:=B2.map (·.x)++E) (by rw[hDr,hB2];simp)).2 e.symm
 · intro b Bk hb e;rw [r2 b hb]at e;obtain⟨q,q1,q2,q3,q4,q5⟩:=inB b Bk (by omega) e;exact⟨q,q1,q2,q3,.inl q4,q5⟩
 · intro q hq hl d hd;rw [hall]at hq;by_cases hql:lst q.x.i
   · obtain⟨v2,y1,y2⟩:=I.val q hq hql d hd;exact⟨v2,by rw[put_at (hdst q hq hql d hd),ha];exact y1,y2.mono (cut_mono hle _)⟩
   · have hqr:q=r:=I.uniq K hq hrm (hl.resolve_left hql);subst hqr;exact⟨v',by rw[hd];exact put_self_at (hlt d hd),by rw[c1];exact hv⟩
 · intro d hd;rw [hall]at hd;rw [put_at (hd r hrm (.inr rfl)),ha];exact I.un d fun q hq hl=>hd q hq (.inl hl)
theorem rec_cases{cx:Cx}{r:Rec}(h:RecOK P ng all cx r) :
 (r.sk=true∧wanted all r.t r.x.o.guard=false∧r.v=undef∧r.w2=r.w)∨
 (r.sk=false∧wanted all r.t r.x.o.guard=true∧(r.x.kd=0∨r.x.kd=1)∧xB r.x.o.op P r.t r.w.h=some r.v∧r.w2=r.w)∨
 (r.sk=false∧wanted all r.t r.x.o.guard=true∧r.x.kd=2∧∃v ob,NewVal P ng r.x.o r.t v ob∧r.v=v r.w.n∧r.w2=W.mk r.w.d r.w.u (r.w.h.set .dead ob r.w.n) (r.w.n+1))∨
 (r.sk=false∧wanted all r.t r.x.o.guard=true∧(r.x.kd≠0∧r.x.kd≠1∧r.x.kd≠2)∧OpTo P ng r.x.o cx r.t r.w (.ret r.v) r.w2):=by
 cases h with
 | skip hw=>exact .inl ⟨rfl,hw,rfl,rfl⟩
 | look hw hk hq=>exact .inr (.inl ⟨rfl,hw,hk,hq,rfl⟩)
 | made hw hk hn=>exact .inr (.inr (.inl ⟨rfl,hw,hk,_,_,hn,rfl,rfl⟩))
 | act hw hk ho hn=>exact .inr (.inr (.inr ⟨rfl,hw,hk,ho⟩))
theorem Inv.step(hP:yH ng P=true)(I:Inv P ng all M D E C pre suf ts ws lst ρ H a wd cs)(K:RecPlan all M D)(hc:∀o∈all.toList,vD ng (ntm P C.cx.fn) o=true)
(hL:xC P (hsOf (pre++suf) [C.W0]).length (hsOf (pre++suf) [C.W0]) (lsOf (pre++suf) [])=true)
{r:Rec}(hr:r∈pre++suf)(hx:¬lst r.x.i)(hm:∀b,zW (M r.x.i) b=true→lst b)(is:List Nat)(kk:List Item) :
 ∃pre' suf' ts' ws' ρ1 H1 a1 wd1 cs1,Inv P ng all M D E C pre' suf' ts' ws' (fun i=>lst i∨i=r.x.i) ρ1 H1 a1 wd1 cs1∧pre'++suf'=pre++suf∧
  Steps P (lone (C.b.atR a (.inRegion all (r.x.i::is)::kk)) cs wd) (lone (C.b.atR a1 (.inRegion all is::kk)) cs1 wd1):=by
 have hrs:r∈suf:=(List.mem_append.1 hr).resolve_left fun h=>hx (I.pl r h);obtain⟨A,B,hs⟩:=List.append_of_mem hrs;have hrD:=I.mem hr;have hat:=K.at' _ hrD;have hDr:D=(pre++A).map (·.x)++r.x::(B.map (·.x)++E):=by rw[I.dd,hs];simp
 have hr2:=I.r2;rw [hs]at hr2;obtain⟨t1,w1,hA,x2⟩:=wY hr2
 have hB:RecOK P ng all C.cx r∧r.t=t1∧r.w=w1:=by
  cases x2 with
  | cons h1 h2=>exact⟨h1,rfl,rfl⟩
 obtain⟨hrok,et,ew⟩:=hB;subst et ew;obtain⟨hO,hW⟩:=I.looks K hc hs hDr hA hx hm;have hnd:r.x.kd≠3→∀c,r.x.o.op≠.defer c:=fun h3 c e=>h3 (by rw[K.kd _ hrD,e];rfl);have h9:r.x.kd≤3:=by rw[K.kd _ hrD];unfold zU;split <;> (try split) <;> omega
 rcases rec_cases hrok with⟨hsk,hw,hv,hw2⟩|⟨hsk,hw,hk,hq,hw2⟩|⟨hsk,hw,hk,v,ob,hn,hv,hw2⟩|⟨hsk,hw,hk,ho⟩
 · have hstep:Steps P (lone (C.b.atR a (.inRegion all (r.x.i::is)::kk)) cs wd) (lone (C.b.atR (a.put r.x.o.dst undef) (.inRegion all is::kk)) cs wd):=.one (skip_put hat (hW.trans hw));by_cases h3:r.x.kd=3
   · have hno:=(I.no_act K hs hDr h3 hm).1;have hi:=I.at_act K hs hA hno;obtain⟨ρ1,H1,hI⟩:=I.acted K hc hs hA h3 hx hm (v':=undef) (by rw[hw2];exact hi) rfl (by rw[hw2];exact Grow.refl _ _ _ _ hi.hp.dom) (CsTo.refl _ _) (by rw[hv];exact RV.undef _);exact⟨_,_,_,_,ρ1,H1,_,_,_,hI,by rw[hs];simp,hstep⟩
   · have hI:=I.calm K hc hrs h3 (.inr hsk) hx hm (v':=undef) (by rw[hv];exact RV.undef _);exact⟨_,_,_,_,ρ,H,_,_,_,hI,rfl,hstep⟩
 · obtain⟨v',y1,y2⟩:=I.look hP K hL hs hA hsk hk hq hx hm hO;have hI:=I.calm K hc hrs (by omega) (.inl (by omega)) hx hm (v':=v') (by rw[hw2];exact y2);exact⟨_,_,_,_,ρ,H,_,_,_,hI,rfl,.one (step_res (hnd (by omega)) hat (hW.trans hw) (.inl y1))⟩
 · obtain⟨v',wd',ρ1,H1,y1,hI⟩:=I.made K hc hs hA hk hsk hn hv hw2 hx hm hO;exact⟨_,_,_,_,ρ1,H1,_,_,_,hI,rfl,.one (step_res (hnd (by omega)) hat (hW.trans hw) (.inl y1))⟩
 · have h3:r.x.kd=3:=by omega
   have hno:=(I.no_act K hs hDr h3 hm).1;have hi:=I.at_act K hs hA hno;obtain⟨ρ',a',wd',cs',i1,i2,i3,i4,v',i5,i6⟩:=ho _ _ _ _ _ _ _ hi hO all r.x.i is kk hat (hW.trans hw);obtain⟨ρ1,H1,hI⟩:=I.acted K hc hs hA h3 hx hm i1 i2 i3 i4 i5;exact⟨_,_,_,_,ρ1,H1,_,_,_,hI,by rw[hs];simp,i6⟩
end
end Go.Ex
namespace Go.Ex
theorem map_split{α β : Type}{f: α→β}{l:List α}{A:List β}{x: β}{B:List β}(h:l.map f=A++x::B):∃A' x' B',l=A'++x'::B'∧A=A'.map f∧x=f x'∧B=B'.map f:=by
 obtain⟨A',r,e1,e2,e3⟩:=List.map_eq_append_iff.1 h;obtain⟨x',B',e4,e5,e6⟩:=List.map_eq_cons_iff.1 e3;exact⟨A',x',B',by rw[e1,e4],e2.symm,e5.symm,e6.symm⟩
theorem sees_bit{all:Array Oper}{M:Nat→Nat}{x:XOp}(h:XOK all M x){d:Nat}(hd:Sees all x.o d):zW x.lk d=true:=by
 rcases hd with hd|⟨g,b,h1,h2⟩
 · exact h.lk d hd
 · exact h.glk g b d h1 h2
theorem count_map{S:List XOp}{f:XOp→DOp}(hf:∀x,(f x).i=x.i∧(f x).kd=x.kd)(p:Nat→Bool):((S.filter fun x=>Nat.beq x.kd 3).filter fun c=>p c.i).length=(S.map f).countP fun c=>Nat.beq c.kd 3 && p c.i:=by
 rw[List.filter_filter,← List.countP_eq_length_filter,List.countP_map];congr 1
 funext c
 simp only[Function.comp,(hf c).1,(hf c).2];exact Bool.and_comm _ _
theorem PlanOK.recPlan{ops:Array Oper}{M:Nat→Nat}{xl S:List XOp}(h:PlanOK ops M xl S):RecPlan ops M (S.map (dopOf xl (S.filter fun x=>Nat.beq x.kd 3))):=by
 have hf:∀x,(dopOf xl (S.filter fun x=>Nat.beq x.kd 3) x).i=x.i∧(dopOf xl (S.filter fun x=>Nat.beq x.kd 3) x).kd=x.kd:=fun x=>⟨rfl,rfl⟩;have hm:∀x∈xl,x.m=M x.i:=fun x hx=>(h.ok x hx).m;refine⟨?_,?_,?_,?_,?_,?_,?_,?_,?_⟩
 · intro x hx;obtain⟨y,hy,rfl⟩:=List.mem_map.1 hx;exact h.at' y (h.sub y hy)
 · intro x hx;obtain⟨y,hy,rfl⟩:=List.mem_map.1 hx;exact(h.ok y (h.sub y hy)).kd
 · intro x hx b hb;obtain⟨y,hy,rfl⟩:=List.mem_map.1 hx;exact(h.ok y (h.sub y hy)).bits b (by rw[hm y (h.sub y hy)];exact hb)
 · intro A x B e;obtain⟨A',x',B',e1,rfl,rfl,rfl⟩:=map_split e;have hs:=h.sig;rw [e1]at hs;obtain⟨o1,o2⟩:=sig_ord hs;refine⟨fun b hb=>?_,fun y hy=>?_⟩
   · obtain⟨y,hy,e2⟩:=o1 b (by rw[hm x' (h.sub x' (by rw[e1];simp))];exact hb);exact⟨_,List.mem_map.2 ⟨y,hy,rfl⟩,e2⟩
   · obtain⟨y',hy',rfl⟩:=List.mem_map.1 hy;exact o2 y' hy'
 · intro A T x B e hk hT y hy;obtain⟨A',r,e1,e2,e3⟩:=List.map_eq_append_iff.1 e;obtain⟨T',x',B',e4,rfl,rfl,rfl⟩:=map_split e3;have hs:=h.sig;rw [e1,e4]at hs;obtain⟨y',hy',rfl⟩:=List.mem_map.1 hy;have:=sig_next hs hk (fun z hz=>hT _ (List.mem_map.2 ⟨z,hz,rfl⟩)) y' hy';rw [hm x' (h.sub x' (by rw[e1,e4];simp))]at this;exact this
 · intro x hx y hy d hd hs;obtain⟨x',hx',rfl⟩:=List.mem_map.1 hx;obtain⟨y',hy',rfl⟩:=List.mem_map.1 hy;have:=h.pair x' (h.sub x' hx') y' (h.sub y' hy') d hd (hs.imp (fun q=>sees_bit (h.ok y' (h.sub y' hy')) q) id);rw [hm x' (h.sub x' hx'),hm y' (h.sub y' hy')]at this;exact this
 · intro x hx y hy kx ky;obtain⟨x',hx',rfl⟩:=List.mem_map.1 hx;obtain⟨y',hy',rfl⟩:=List.mem_map.1 hy;have:=h.act x' (h.sub x' hx') y' (h.sub y' hy') kx ky;rw [hm x' (h.sub x' hx'),hm y' (h.sub y' hy')]at this;exact this
 · intro x hx;obtain⟨x',hx',rfl⟩:=List.mem_map.1 hx;rw [← count_map hf (fun i=>zW (M (dopOf xl (S.filter fun x=>Nat.beq x.kd 3) x').i) i)];show((S.filter fun x=>Nat.beq x.kd 3).filter fun c=>zW x'.m c.i).length=_;rw [hm x' (h.sub x' hx')];rfl
 · intro x hx;obtain⟨x',hx',rfl⟩:=List.mem_map.1 hx;have e:=count_map hf (S:=S) (fun i=> !zW (M i) x'.i && !Nat.beq i x'.i);refine Nat.le_of_eq (Eq.symm ?_);show((S.filter fun x=>Nat.beq x.kd 3).filter fun c=> !zW c.m x'.i && !Nat.beq c.i x'.i).length=_;refine Eq.trans (congrArg List.length (List.filter_congr fun c hc=>?_)) e;rw [hm c (h.sub c (List.mem_filter.1 hc).1)]
theorem PlanOK.solo{ops:Array Oper}{M:Nat→Nat}{xl S:List XOp}(h:PlanOK ops M xl S){x:DOp}(hx:x∈S.map (dopOf xl (S.filter fun x=>Nat.beq x.kd 3)))(hs:x.solo=true){i:Nat}(hi:i<ops.size) :
 x.i=i∨zW (M x.i) i=true∨zW (M i) x.i=true:=by
 obtain⟨x',hx',rfl⟩:=List.mem_map.1 hx;obtain⟨y,hy,rfl⟩:=h.cov i hi;have hs:(xl.all fun y=>Nat.beq x'.i y.i || zW x'.m y.i || zW y.m x'.i)=true:=hs;have:=List.all_eq_true.1 hs y hy;rw [(h.ok x' (h.sub x' hx')).m,(h.ok y hy).m]at this;simp only[Bool.or_eq_true]at this;rcases this with(e|e)|e
 · exact .inl (zG e)
 · exact .inr (.inl e)
 · exact .inr (.inr e)
theorem PlanOK.un{ops:Array Oper}{M:Nat→Nat}{xl S:List XOp}(h:PlanOK ops M xl S){x y:DOp}(hx:x∈S.map (dopOf xl (S.filter fun x=>Nat.beq x.kd 3)))(hy:y∈S.map (dopOf xl (S.filter fun x=>Nat.beq x.kd 3)))(hk:x.kd=3) :
 (x.un.any fun i=>Nat.beq i y.i)=true↔x.i≠y.i∧zW (M x.i) y.i=false∧zW (M y.i) x.i=false:=by
 obtain⟨x',hx',rfl⟩:=List.mem_map.1 hx;obtain⟨y',hy',rfl⟩:=List.mem_map.1 hy;have ex:=(h.ok x' (h.sub x' hx')).m;have ey:=(h.ok y' (h.sub y' hy')).m
 have step:∀z∈xl,(!(Nat.beq x'.i z.i || zW x'.m z.i || zW z.m x'.i))=true↔x'.i≠z.i∧zW (M x'.i) z.i=false∧zW (M z.i) x'.i=false:=fun z hz=>by
  rw[← ex,← (h.ok z hz).m,Bool.not_eq_true',Bool.or_eq_false_iff,Bool.or_eq_false_iff,and_assoc];refine and_congr_left fun _=>⟨fun e q=>(by rw[q,Nat.beq_refl]at e;cases e),fun q=>?_⟩
  cases e:Nat.beq x'.i z.i with
  | false=>rfl
  | true=>exact absurd (zG e) q
 have hk':x'.kd=3:=hk;show((cond (Nat.beq x'.kd 3) ((xl.filter fun z=> !(Nat.beq x'.i z.i || zW x'.m z.i || zW z.m x'.i)).map fun z=>z.i) []).any fun i=>Nat.beq i y'.i)=true↔x'.i≠y'.i∧zW (M x'.i) y'.i=false∧zW (M y'.i) x'.i=false;rw [hk'];show(((xl.filter fun z=> !(Nat.beq x'.i z.i || zW x'.m z.i || zW z.m x'.i)).map fun z=>z.i).any fun i=>Nat.beq i y'.i)=true↔x'.i≠y'.i∧zW (M x'.i) y'.i=false∧zW (M y'.i) x'.i=false;rw [List.any_eq_true];constructor
 · rintro ⟨i,hi,e⟩
   obtain⟨z,hz,rfl⟩:=List.mem_map.1 hi;obtain⟨z1,z2⟩:=List.mem_filter.1 hz;have:=(step z z1).1 z2;rw [zG e]at this;exact this
 · intro q;exact⟨y'.i,List.mem_map.2 ⟨y',List.mem_filter.2 ⟨h.sub y' hy',(step y' (h.sub y' hy')).2 q⟩,rfl⟩,Nat.beq_refl _⟩
theorem PlanOK.trans{ops:Array Oper}{M:Nat→Nat}{xl S:List XOp}(h:PlanOK ops M xl S){x y:DOp}(hx:x∈S.map (dopOf xl (S.filter fun x=>Nat.beq x.kd 3)))(hy:y∈S.map (dopOf xl (S.filter fun x=>Nat.beq x.kd 3)))(hb:zW (M x.i) y.i=true){b:Nat}(h2:zW (M y.i) b=true):zW (M x.i) b=true:=by
 obtain⟨x',hx',rfl⟩:=List.mem_map.1 hx;obtain⟨y',hy',rfl⟩:=List.mem_map.1 hy;have ex:=(h.ok x' (h.sub x' hx')).m;have ey:=(h.ok y' (h.sub y' hy')).m;have:=h.tr x' (h.sub x' hx') y' (h.sub y' hy');rw [ex,ey]at this;exact this hb b h2
theorem nodup_len:∀{l m:List Nat},l.Nodup→(∀x∈l,x∈m)→l.length≤m.length:=by
 intro l
 induction l with
 | nil=>intro m _ _;exact Nat.zero_le _
 | cons x l ih=>
  intro m hn hs;obtain⟨h1,h2⟩:=List.nodup_cons.1 hn;have hx:=hs x (by simp);have:=ih (m:=m.erase x) h2 fun y hy=>(List.mem_erase_of_ne (fun e=>h1 (by rw[← e];exact hy))).2 (hs y (by simp[hy]));rw [List.length_erase_of_mem hx]at this;have:0<m.length:=List.length_pos_of_mem hx;simp only[List.length_cons];omega
theorem PlanOK.all{ops:Array Oper}{M:Nat→Nat}{xl S:List XOp}(h:PlanOK ops M xl S){i:Nat}(hi:i<ops.size):∃x∈S.map (dopOf xl (S.filter fun x=>Nat.beq x.kd 3)),x.i=i:=by
 have K:=h.recPlan;generalize hD:S.map (dopOf xl (S.filter fun x=>Nat.beq x.kd 3))=D at K
 have hlen:D.length=ops.size:=by rw[← hD,List.length_map];exact h.len
 have hnd:(D.map (·.i)).Nodup:=by
  unfold List.Nodup;rw [List.pairwise_map]
  have key:∀(X Y:List DOp),D=X++Y→Y.Pairwise fun a b=>a.i≠b.i:=by
   intro X Y
   induction Y generalizing X with
   | nil=>intro _;exact .nil
   | cons y Y ih=>
    intro e;refine .cons (fun z hz=>?_) (ih (X++[y]) (by rw[e];simp));obtain⟨Y1,Y2,rfl⟩:=List.append_of_mem hz;exact(K.later e).2
  exact key [] D rfl
 refine Classical.byContradiction fun hno=>?_
 have hsub:∀x∈i::D.map (·.i),x∈List.range ops.size:=by
  intro x hx;rcases List.mem_cons.1 hx with rfl|hx
  · exact List.mem_range.2 hi
  · obtain⟨y,hy,rfl⟩:=List.mem_map.1 hx;have:=K.at' y hy;rcases Nat.lt_or_ge y.i ops.size with h1|h1
    · exact List.mem_range.2 h1
    · rw[Array.getElem?_eq_none h1]at this;cases this
 have:=nodup_len (List.nodup_cons.2 ⟨fun hx=>hno (let ⟨y,hy,e⟩:=List.mem_map.1 hx;⟨y,hy,e⟩),hnd⟩) hsub;simp at this;omega
theorem ready_mem{ops:Array Oper}{listed:Array Bool}{i:Nat}(h:i∈Region.ready .any ops listed) :
 i<ops.size∧listed.getD i true=false∧∃o,ops[i]? = some o∧∀e∈o.after.toList,wJ e=true→listed.getD e.on false=true:=by
 unfold Region.ready at h;obtain⟨h1,h2⟩:=List.mem_filter.1 h;obtain⟨h3,h4⟩:=Bool.and_eq_true_iff.1 h2;refine⟨List.mem_range.1 h1,by simpa using h3,?_⟩
 cases ho:ops[i]? with
 | none=>rw [ho]at h4;cases h4
 | some o=>
  rw[ho]at h4;refine⟨o,rfl,fun e he ha=>?_⟩;have h5:(o.after.all fun e=> !Region.binds .any e || listed.getD e.on false)=true:=h4;rw [Array.all_eq_true_iff_forall_mem]at h5;have:=h5 e (Array.mem_toList_iff.1 he);unfold wJ at ha;rw [ha]at this;simpa using this
theorem ready_mk{ops:Array Oper}{listed:Array Bool}{i:Nat}{o:Oper}(hi:ops[i]? = some o)(h:listed.getD i true=false)(he:∀e∈o.after.toList,wJ e=true→listed.getD e.on false=true):i∈Region.ready .any ops listed:=by
 have hlt:i<ops.size:=by
  rcases Nat.lt_or_ge i ops.size with h1|h1
  · exact h1
  · rw[Array.getElem?_eq_none h1]at hi;cases hi
 unfold Region.ready;refine List.mem_filter.2 ⟨List.mem_range.2 hlt,?_⟩;rw [h,hi];show(o.after.all fun e=> !Region.binds .any e || listed.getD e.on false)=true;rw [Array.all_eq_true_iff_forall_mem];intro e hm
 cases ha:Region.binds .any e with
 | false=>rfl
 | true=>simpa using he e (Array.mem_toList_iff.2 hm) ha
theorem ready_nil{ops:Array Oper}{listed:Array Bool}(hs:listed.size=ops.size)(hedge:∀i o,ops[i]? = some o→∀e∈o.after.toList,wJ e=true→e.on<i)(h:Region.ready .any ops listed=[]) :
 ∀n i,i<n→i<ops.size→listed.getD i false=true:=by
 intro n
 induction n with
 | zero=>intro i hi;omega
 | succ n ih=>
  intro i hi hlt;rcases Nat.lt_or_ge i n with h1|h1
  · exact ih i h1 hlt
  · have:i=n:=by omega
    subst this;have hlt':i<listed.size:=by omega
    have g1:listed.getD i true=listed[i]:=by simp[hlt']
    have g2:listed.getD i false=listed[i]:=by simp[hlt']
    cases e:listed.getD i true with
    | true=>rw [g2,← g1];exact e
    | false =>
     have hm:=ready_mk (ops:=ops) (Array.getElem?_eq_getElem hlt) e fun ed hed ha=>by
      have:=hedge i _ (Array.getElem?_eq_getElem hlt) ed hed ha;exact ih ed.on this (by omega)
     rw[h]at hm;simp at hm
def unlisted(n:Nat)(listed:Array Bool):Nat:=(List.range n).countP fun i=> !listed.getD i true
section
variable {P:Program} {ng:Nat} {all:Array Oper} {M:Nat→Nat} {D E:List DOp} {C:Cfg}
theorem Inv.lst_congr{pre suf:List Rec}{ts:Fr}{ws:W}{lst lst':Nat→Prop}{ρ : Inj}{H:zB}{a:Act}{wd:World}{cs:List Frame}(I:Inv P ng all M D E C pre suf ts ws lst ρ H a wd cs)(h:∀i,lst i↔lst' i) :
 Inv P ng all M D E C pre suf ts ws lst' ρ H a wd cs:=by
 have:lst=lst':=funext fun i=>propext (h i);rw [← this];exact I
theorem draw_go{Goal:Machine→List Item→Prop}(hG:∀m m1 kk,Steps P m m1→Goal m1 kk→Goal m kk)(hP:yH ng P=true)(K:RecPlan all M D)(hc:∀o∈all.toList,vD ng (ntm P C.cx.fn) o=true)
(hedge:∀i o,all[i]? = some o→∀e∈o.after.toList,wJ e=true→e.on<i)
(hbits:∀i o,all[i]? = some o→∀b,zW (M i) b=true→∃e∈o.after.toList,wJ e=true∧(b=e.on∨zW (M e.on) b=true))
{R:List Rec}(hL:xC P (hsOf R [C.W0]).length (hsOf R [C.W0]) (lsOf R [])=true)
(hnext:∀pre suf ts ws lst ρ H a wd cs,pre++suf=R→Inv P ng all M D E C pre suf ts ws lst ρ H a wd cs→∀i,i<all.size→¬lst i→(∀b,zW (M i) b=true→lst b)→
  (∃r∈R,r.x.i=i)∨∀is kk,Goal (lone (C.b.atR a (.inRegion all (i::is)::kk)) cs wd) kk)
(hend:∀pre suf ts ws lst ρ H a wd cs,pre++suf=R→Inv P ng all M D E C pre suf ts ws lst ρ H a wd cs→(∀i,i<all.size→lst i)→∀kk,Goal (lone (C.b.atR a (.inRegion all []::kk)) cs wd) kk) :
 ∀(fuel t:Nat) (listed:Array Bool) (pre suf:List Rec) (ts:Fr) (ws:W) (ρ : Inj) (H:zB) (a:Act) (wd:World) (cs:List Frame),pre++suf=R→listed.size=all.size→
  Inv P ng all M D E C pre suf ts ws (fun i=>listed.getD i false=true) ρ H a wd cs→unlisted all.size listed≤fuel→
  ∀kk,Goal (lone (C.b.atR a (.inRegion all (Region.linearise.go .any all fuel t listed [])::kk)) cs wd) kk:=by
 have swap:∀{listed:Array Bool} {i:Nat},i<listed.size→listed.getD i true=listed.getD i false:=by
  intro listed i h;simp [h]
 have finish:∀{listed:Array Bool} {pre suf:List Rec} {ts:Fr} {ws:W} {ρ : Inj} {H:zB} {a:Act} {wd:World} {cs:List Frame},pre++suf=R→listed.size=all.size→
  Inv P ng all M D E C pre suf ts ws (fun i=>listed.getD i false=true) ρ H a wd cs→(∀i,i<all.size→listed.getD i false=true)→∀kk,Goal (lone (C.b.atR a (.inRegion all []::kk)) cs wd) kk:=
  fun hR hs I hl kk=>hend _ _ _ _ _ _ _ _ _ _ hR I hl kk
 intro fuel
 induction fuel with
 | zero=>
  intro t listed pre suf ts ws ρ H a wd cs hR hs I hu kk;refine finish hR hs I (fun i hi=>?_) kk;have h0:unlisted all.size listed=0:=by omega
  have:=List.countP_eq_zero.1 h0 i (List.mem_range.2 hi);rw [← swap (by omega)];simpa using this
 | succ fuel ih =>
  intro t listed pre suf ts ws ρ H a wd cs hR hs I hu kk;simp only[Region.linearise.go]
  change Goal (lone (C.b.atR a (.inRegion all (match (Region.ready .any all listed)[t % (Region.ready .any all listed).length]? with
   | some i=>Region.linearise.go .any all fuel (t / (Region.ready .any all listed).length) (listed.setIfInBounds i true) [i]
   | none=>[].reverse)::kk)) cs wd) kk
  cases hi:(Region.ready .any all listed)[t % (Region.ready .any all listed).length]? with
  | none =>
   have hnil:Region.ready .any all listed=[]:=by
    cases hr:Region.ready .any all listed with
    | nil=>rfl
    | cons x xs=>
     rw[hr]at hi;have hlt:t % (x::xs).length<(x::xs).length:=Nat.mod_lt _ (by simp);simp at hi;simp at hlt;omega
   exact finish hR hs I (fun i h=>ready_nil hs hedge hnil (i+1) i (by omega) h) kk
  | some i =>
   simp only[];rw [linearise_go_acc,List.reverse_singleton,List.singleton_append];obtain⟨r1,r2,o,r3,r4⟩:=ready_mem (List.mem_of_getElem? hi)
   have hnl:¬listed.getD i false=true:=by
    rw[← swap (by omega),r2];exact Bool.false_ne_true
   have hm:∀b,zW (M i) b=true→listed.getD b false=true:=by
    intro b hb;obtain⟨e,e1,e2,e3⟩:=hbits i o r3 b hb;have h1:=r4 e e1 e2;rcases e3 with rfl|e3
    · exact h1
    · exact I.closed _ h1 _ e3
   rcases hnext _ _ _ _ _ _ _ _ _ _ hR I i r1 hnl hm with⟨r,hr,rfl⟩|hg
   · obtain⟨pre',suf',ts',ws',ρ1,H1,a1,wd1,cs1,I1,hR1,hst⟩:=I.step hP K hc (by rw[hR];exact hL) (by rw[hR];exact hr) hnl hm
      (Region.linearise.go .any all fuel (t / (Region.ready .any all listed).length) (listed.setIfInBounds r.x.i true) []) kk
     have hs1:(listed.setIfInBounds r.x.i true).size=all.size:=by simpa using hs
     have zF:∀j d,(listed.setIfInBounds r.x.i true).getD j d=if r.x.i=j then true else listed.getD j d:=by
      intro j d;by_cases hj:j<listed.size
      · have hj':j<(listed.setIfInBounds r.x.i true).size:=by simpa using hj
        simp[hj,Array.getElem_setIfInBounds]
      · have hne:r.x.i≠j:=by omega
        simp[hj,hne]
     refine hG _ _ _ hst (ih _ _ pre' suf' ts' ws' ρ1 H1 a1 wd1 cs1 (hR1.trans hR) hs1 (I1.lst_congr fun j=>?_) ?_ kk)
     · rw[zF];by_cases hj:r.x.i=j
       · simp[hj]
       · rw[if_neg hj];exact⟨fun h=>h.resolve_right fun e=>hj e.symm,.inl⟩
     · have:unlisted all.size (listed.setIfInBounds r.x.i true)<unlisted all.size listed:=
        countP_lt (fun j _ h=>by
         rw[zF]at h;by_cases hj:r.x.i=j
         · rw[if_pos hj]at h;cases h
         · rw[if_neg hj]at h;exact h) (List.mem_range.2 r1) (by rw[zF,if_pos rfl];rfl) (by rw[r2];rfl)
       omega
   · exact hg _ kk
end
end Go.Ex
