/- What the law leans on: an executor of the model that is sound, deduction over it, and the walks through the code (part 6 of 24). Conditions: those that each theorem states. -/
import Derived.Test.YtdipdkkpgjdnkaaGreatDoorVirLinesx5
import Derived.Defers

set_option linter.unusedVariables false
set_option linter.unusedSimpArgs false
namespace Go.Ex
section
variable {P:Program} {ng:Nat} {t:Fr} {w:W}
theorem scalEq_same{kd:TypeDesc}{k k':Value}(hk:wS kd k=true)(h:xQ k k'=some true):k'=k:=by
 unfold wS at hk;split at hk
 · rename_i kk k2 a;cases k' <;> simp only[xQ]at h <;> first|(cases h;done)|skip
   rename_i k3 b
   cases hq:xH k2 k3 with
   | false=>rw [hq]at h;cases h
   | true=>
    rw[hq]at h;injection h with h
    obtain rfl:=wP hq;rw [xI]at h;have:a=b:=by simpa using h
    rw[this]
 · rename_i s;cases k' <;> simp only[xQ]at h <;> first|(cases h;done)|skip
   injection h with h
   rw[vL]at h;rename_i s';have h2:s.data.toList=s'.data.toList:=by simpa using h
   have:s=s':=by
    cases s;cases s'
    simp only[ByteArray.mk.injEq];exact Array.toList_inj.1 h2
   rw[this]
 · rename_i b;cases k' <;> simp only[xQ]at h <;> first|(cases h;done)|skip
   rename_i b';cases b <;> cases b' <;> first|rfl|(cases h;done)
 · cases hk
theorem keyEq_same{kd:TypeDesc}{k k':Value}(hk:keyT P kd k=true)(h:keyEq k k'=some true):k'=k:=by
 rcases uO hk with hk|⟨len,e,cs,ed,ei,rfl,rfl,h1,h2,h3,h4,h5⟩
 · rw[keyEq_scal (scal_noagg hk)]at h;exact scalEq_same hk h
 · cases k' <;> first|(cases h;done)|skip
   rename_i ys;have h':scalsEq cs.toList ys.toList=some true:=h
   have key:∀{a b:List Value},(∀x∈a,wS ed x=true)→scalsEq a b=some true→b=a:=by
    intro a
    induction a with
    | nil=>intro b _ h;cases b with
     | nil=>rfl
     | cons _ _=>cases h
    | cons x a ih =>
     intro b ha h
     cases b with
     | nil=>cases h
     | cons y b =>
      simp only[scalsEq]at h
      cases hq:xQ x y with
      | none=>rw [hq]at h;cases h
      | some q =>
       rw[hq]at h
       cases q with
       | false=>cases h
       | true=>
        rw[scalEq_same (ha x (by simp)) hq,ih (fun z hz=>ha z (by simp[hz])) h]
   rw[Array.toList_inj.1 (key h5 h')]
theorem findE_at{kd:TypeDesc}{k:Value}(hk:keyT P kd k=true):∀{es:List MapEntry} {i j:Nat} {v:Value},findE k es i=some (some (j,v))→∃e,i≤j∧es[j - i]? = some e∧e.key=k:=by
 intro es
 induction es with
 | nil=>intro i j v h;simp [findE]at h
 | cons e es ih =>
  intro i j v h;simp only[findE]at h
  cases hs:keyEq k e.key with
  | none=>rw [hs]at h;cases h
  | some b =>
   rw[hs]at h
   cases b with
   | true=>
    dsimp only at h;injection h with h
    injection h with h
    injection h with h1 h2
    subst h1;exact⟨e,Nat.le_refl _,by simp,keyEq_same hk hs⟩
   | false=>
    obtain⟨e2,h1,h2,h3⟩:=ih h;refine⟨e2,by omega,?_,h3⟩;have:j - i=(j - (i+1))+1:=by omega
    rw[this,List.getElem?_cons_succ];exact h2
theorem scal_bits0{kd:TypeDesc}{k:Value}(hk:wS kd k=true)(m:Nat):Instr.sameBits m k k=true:=by
 unfold wS at hk;split at hk
 · simp[Instr.sameBits]
 · simp[Instr.sameBits,beq_toListBytes]
 · simp[Instr.sameBits]
 · cases hk
theorem scal_bits{kd:TypeDesc}{k:Value}(hk:keyT P kd k=true):Instr.sameBits 10000 k k=true:=by
 rcases uO hk with hk|⟨len,e,cs,ed,ei,rfl,rfl,h1,h2,h3,h4,h5⟩
 · exact scal_bits0 hk _
 · simp only[Instr.sameBits,BEq.rfl,Bool.true_and,List.all_eq_true];intro p hp
   have key:∀{l:List Value} {p:Value×Value},p∈l.zip l→p.1=p.2∧p.1∈l:=by
    intro l
    induction l with
    | nil=>intro p hp;simp at hp
    | cons x l ih=>
     intro p hp;rw [List.zip_cons_cons]at hp;rcases List.mem_cons.1 hp with rfl|hp
     · exact⟨rfl,by simp⟩
     · exact⟨(ih hp).1,List.mem_cons_of_mem _ (ih hp).2⟩
   obtain⟨x,y⟩:=p;obtain⟨g1,g2⟩:=key hp;dsimp only at g1 g2 ⊢;subst g1;exact scal_bits0 (h5 _ g2) _
theorem putE_ok{ρ : Inj}{k v v':Value}(hv:RV ρ v v'):∀{es es':List MapEntry} (i:Nat),EsR ρ es es'→EsR ρ (putE k v i es) (es'.modify i fun e=>{ e with key:=k,val:=v' }):=by
 intro es
 induction es with
 | nil=>
  intro es' i he;have:es'=[]:=by have:=he.1;cases es' <;> simp_all
  subst this;exact⟨by simp[putE],fun j e e' h1 h2=>by simp[putE]at h1⟩
 | cons e es ih =>
  intro es' i he
  cases es' with
  | nil=>have:=he.1;simp at this
  | cons e' es' =>
   have h0:=he.2 0 e e' rfl rfl;have he':EsR ρ es es':=⟨by have:=he.1;simpa using this,fun j a b h1 h2=>he.2 (j+1) a b (by simpa using h1) (by simpa using h2)⟩
   cases i with
   | zero =>
    refine⟨by have:=he.1;simpa [putE] using this,fun j a b h1 h2=>?_⟩
    cases j with
    | zero=>
     simp[putE]at h1 h2;subst h1 h2;exact⟨rfl,hv,h0.2.2⟩
    | succ j=>exact he'.2 j a b (by simpa [putE] using h1) (by simpa using h2)
   | succ i =>
    obtain⟨l1,l2⟩:=ih i he';refine⟨by simpa [putE] using l1,fun j a b h1 h2=>?_⟩
    cases j with
    | zero=>
     simp[putE]at h1 h2;subst h1 h2;exact h0
    | succ j=>exact l2 j a b (by simpa [putE] using h1) (by simpa using h2)
theorem xmapUpdate_ok{ty:TypeId}{x key v:Value}{h:zB}{k:zB→Bool}(hs:wU P ty x key v h k=true) :
 ∃h',k h'=true∧∀(n:Nat) (ρ : Inj) (base:Nat) (w0 wd:World) (x' key' v':Value),HeapR P ng ρ base w0 h n wd→RV ρ x x'→RV ρ key key'→RV ρ v v'→
  ∃wd',(Instr.mapUpdate ty x' key' v').run P wd = .ok () wd'∧HeapR P ng ρ base w0 h' n wd'∧Grow ρ h n wd ρ h' n wd':=by
 unfold wU at hs;split at hs
 case h_2=>cases hs
 rename_i kt et r hd;split at hs
 case h_2=>cases hs
 rename_i kd es clock hkd hg
 cases hsc:keyT P kd key with
 | false=>rw [hsc]at hs;cases hs
 | true=>
  rw[hsc]at hs;dsimp only[cond]at hs;have hdead:zF h r≠.dead:=by rw[hg];exact AObj.noConfusion
  split at hs
  case h_3=>cases hs
  · rename_i i w2 hf;rw [Tr.setK_eq]at hs;refine⟨_,hs,fun n ρ base w0 wd x' key' v' hH hx hk hv=>?_⟩;have hkk:=(uP hsc hk).symm;subst hkk;obtain⟨B,hb,rfl⟩:=hx.of_map;obtain⟨es',e1,he,hbb⟩:=map_at hH hb hg;obtain⟨r',h1,h2⟩:=vM (wd:=wd) hkd hsc he hf
    cases r' with
    | none=>exact h2.elim
    | some p =>
     obtain⟨j,w'⟩:=p;obtain⟨rfl,_⟩:=h2;obtain⟨e,_,e3,e4⟩:=findE_at hsc hf;have e3:es[i]? = some e:=by simpa using e3
     obtain⟨e',e5⟩:∃e',es'[i]? = some e':=by
      have:i<es.length:=by
       rcases Nat.lt_or_ge i es.length with h5|h5
       · exact h5
       · rw[List.getElem?_eq_none h5]at e3;cases e3
      exact⟨es'[i]'(he.1 ▸ this),List.getElem?_eq_getElem _⟩
     have e6:e'.key=key:=by rw[(he.2 i e e' e3 e5).1,e4]
     have e7:((((⟨es'⟩:Array MapEntry)[i]?).map (·.key)).getD key)=key:=by
      have:(⟨es'⟩:Array MapEntry)[i]? = some e':=by rw[← Array.getElem?_toList];exact e5
      rw[this];simp [e6]
     have hst:(Instr.keyThatStays key key).run P wd = .ok key wd:=by simp[Instr.keyThatStays,scal_bits hsc]
     have hlt:=hH.lt hb hdead;refine⟨{ wd with heap:=wd.heap.setIfInBounds B.b (.map ((⟨es'⟩:Array MapEntry).modify i fun e=>{ e with key:=key,val:=v' }) clock) },?_,?_⟩
     · simp only[Instr.mapUpdate,Sem.run_bind,zM hd,Result.andThen_ok,xD e1,check_ok (wd:=wd) hkd hsc false 9998,h1,e7,hst];simp [setObj,Sem.run,e1]
     · refine hH.turn hb hdead _ (.map ⟨es'.modify i fun e=>{ e with key:=key,val:=v' }⟩ clock) _ hbb (.map (putE_ok hv i he) hbb) ?_ (by simp) ?_ rfl rfl rfl
       · have:((⟨es'⟩:Array MapEntry).modify i fun e=>{ e with key:=key,val:=v' })=⟨es'.modify i fun e=>{ e with key:=key,val:=v' }⟩:=by
          apply Array.toList_inj.1;rw [Array.toList_modify]
         rw[this];simp [hlt]
       · intro c hc;show(wd.heap.setIfInBounds B.b _)[c]? = _;rw [Array.getElem?_setIfInBounds,if_neg (fun e=>hc e.symm)]
  · rename_i hf;rw [Tr.setK_eq]at hs;refine⟨_,hs,fun n ρ base w0 wd x' key' v' hH hx hk hv=>?_⟩;have hkk:=(uP hsc hk).symm;subst hkk;obtain⟨B,hb,rfl⟩:=hx.of_map;obtain⟨es',e1,he,hbb⟩:=map_at hH hb hg;obtain⟨r',h1,h2⟩:=vM (wd:=wd) hkd hsc he hf
    cases r' with
    | some p=>exact h2.elim
    | none=>
     have hlt:=hH.lt hb hdead;refine⟨{ wd with heap:=wd.heap.setIfInBounds B.b (.map ((⟨es'⟩:Array MapEntry).push { key:=key,val:=v',born:=clock }) (clock+1)) },?_,?_⟩
     · simp only[Instr.mapUpdate,Sem.run_bind,zM hd,Result.andThen_ok,xD e1,check_ok (wd:=wd) hkd hsc false 9998,h1];simp [setObj,Sem.run,e1]
     · refine hH.turn hb hdead _ (.map ⟨es'++[{ key:=key,val:=v',born:=clock }]⟩ (clock+1)) _ hbb (.map ?_ hbb) ?_ (by simp) ?_ rfl rfl rfl
       · refine⟨by have:=he.1;simp [this],fun i a b h1 h2=>?_⟩;by_cases hi:i<es.length
         · rw[List.getElem?_append_left hi]at h1;rw [List.getElem?_append_left (he.1 ▸ hi)]at h2;exact he.2 i a b h1 h2
         · rw[List.getElem?_append_right (by omega)]at h1;rw [List.getElem?_append_right (by have:=he.1;omega),← he.1]at h2
           cases hq:i - es.length with
           | zero=>
            rw[hq]at h1 h2;simp at h1 h2;subst h1 h2;exact⟨rfl,hv,rfl⟩
           | succ m=>rw [hq]at h1;simp at h1
       · have:((⟨es'⟩:Array MapEntry).push { key:=key,val:=v',born:=clock })=⟨es'++[{ key:=key,val:=v',born:=clock }]⟩:=by simp
         rw[this];simp [hlt]
       · intro c hc;show(wd.heap.setIfInBounds B.b _)[c]? = _;rw [Array.getElem?_setIfInBounds,if_neg (fun e=>hc e.symm)]
theorem range_ok{o:Oper}{ty:TypeId}{x:Operand}(hop:o.op = .range ty x){lo:Lo}{cx:Cx}{k:KV}{kp:KP}(h:eff o.op P lo cx t w k kp=true):∃w' v,EffVal P ng o t w v w'∧k w' v=true:=by
 rw[hop]at h;have h':(xK w fun h n mk=>xrangeM P ty (ev t x) h n fun v h n=>k (mk h n) v)=true:=h;rw [xL]at h';have hmem:x∈o.op.operands.toList:=by rw[hop];simp [Op.operands]
 unfold xrangeM at h';split at h'
 · rename_i kt et hd hx;rw [yJ]at h';refine⟨W.mk w.d w.u (w.h.set .dead (.siter none 0 [] 0) w.n) (w.n+1),.pointer (some ⟨w.n,0,none⟩),⟨rfl,rfl,fun ρ base w0 a wd hT hH=>?_⟩,h'⟩;have rx:=hT x hmem;rw [hx]at rx;obtain⟨a1,a2⟩:=hH.alloc (.siter none 0 [] 0) (.mapIter none 0 #[] 0) ⟨wd.heap.size,0,0⟩ rfl (.siter0 hH.size);refine⟨_,.pointer (some ⟨wd.heap.size,0,none⟩),_,.inl ?_,RV.ptr (B:=⟨wd.heap.size,0,0⟩) (yS _ _ _),a1,a2⟩;generalize hz:a.eval x=x' at rx
   cases rx
   simp[execOp,hop,hz,Instr.range,zM hd]
 · rename_i kt et r hd hx;split at h'
   case h_2=>cases h'
   rename_i es clock hg;rw [yJ]at h';refine⟨W.mk w.d w.u (w.h.set .dead (.siter (some r) clock [] clock) w.n) (w.n+1),.pointer (some ⟨w.n,0,none⟩),⟨rfl,rfl,fun ρ base w0 a wd hT hH=>?_⟩,h'⟩;have rx:=hT x hmem;rw [hx]at rx;obtain⟨B,hb,hz⟩:=rx.of_map;obtain⟨es',e1,he,hbb⟩:=map_at hH hb hg;have hle:=Inj.le_put (⟨wd.heap.size,0,0⟩:Bl) (hH.dom w.n (Nat.le_refl _));obtain⟨a1,a2⟩:=hH.alloc (.siter (some r) clock [] clock) (.mapIter (some B.b) clock #[] clock) ⟨wd.heap.size,0,0⟩ rfl (.siter (hle _ _ hb) hH.size);refine⟨_,.pointer (some ⟨wd.heap.size,0,none⟩),_,.inl ?_,RV.ptr (B:=⟨wd.heap.size,0,0⟩) (yS _ _ _),a1,a2⟩;simp [execOp,hop,hz,Instr.range,zM hd,xD e1]
 · cases h'
theorem seen_has(seen:List Nat)(b:Nat):(seen.any fun x=>Nat.beq x b)=(⟨seen⟩:Array Nat).contains b:=by
 rw[show(⟨seen⟩:Array Nat).contains b=seen.contains b from by simp]
 induction seen with
 | nil=>rfl
 | cons x seen ih =>
  rw[List.any_cons,List.contains_cons,ih];congr 1
  cases h:Nat.beq x b with
  | true=>have:=zG h;subst this;simp
  | false=>
   have:¬b=x:=fun e=>by subst e;rw [Nat.beq_refl]at h;cases h
   simp[this]
theorem left_ok{ρ : Inj}(p:Nat→Bool):∀{es es':List MapEntry},EsR ρ es es'→EsR ρ (es.filter fun e=>p e.born) (es'.filter fun e=>p e.born):=by
 intro es
 induction es with
 | nil=>
  intro es' he;have:es'=[]:=by have:=he.1;cases es' <;> simp_all
  subst this;exact he
 | cons e es ih =>
  intro es' he
  cases es' with
  | nil=>have:=he.1;simp at this
  | cons e' es' =>
   have h0:=he.2 0 e e' rfl rfl;have he':EsR ρ es es':=⟨by have:=he.1;simpa using this,fun j a b h1 h2=>he.2 (j+1) a b (by simpa using h1) (by simpa using h2)⟩;have ih:=ih he';rw [List.filter_cons,List.filter_cons,h0.2.2]
   cases p e.born with
   | false=>exact ih
   | true =>
    refine⟨by simp[ih.1],fun j a b h1 h2=>?_⟩
    cases j with
    | zero=>
     simp at h1 h2;subst h1 h2;exact h0
    | succ j=>exact ih.2 j a b (by simpa using h1) (by simpa using h2)
theorem all_born{ρ : Inj}(p:Nat→Bool){es es':List MapEntry}(he:EsR ρ es es'):(es.all fun e=>p e.born)=(es'.all fun e=>p e.born):=by
 induction es generalizing es' with
 | nil=>
  have:es'=[]:=by have:=he.1;cases es' <;> simp_all
  subst this;rfl
 | cons e es ih =>
  cases es' with
  | nil=>have:=he.1;simp at this
  | cons e' es'=>
   have h0:=he.2 0 e e' rfl rfl;have he':EsR ρ es es':=⟨by have:=he.1;simpa using this,fun j a b h1 h2=>he.2 (j+1) a b (by simpa using h1) (by simpa using h2)⟩;rw [List.all_cons,List.all_cons,ih he',h0.2.2]
theorem keyPlain_ok{k:Value}(h:keyPlain k=true)(ρ : Inj):RV ρ k k:=by
 cases k with
 | bool b=>exact RV.bool b
 | int k n=>exact RV.int k n
 | string s=>exact RV.string s
 | agg cs=>
  refine RV.agg rfl fun i v v' e1 e2=>?_;rw [e1]at e2;injection e2 with e2
  subst e2;have h':=List.all_eq_true.1 h v (List.mem_of_getElem? e1);cases v <;> first|(cases h';done)|exact RV.bool _|exact RV.int _ _|exact RV.string _
 | _=>cases h
theorem filt_arr{es':List MapEntry}(p:MapEntry→Bool):(⟨es'⟩:Array MapEntry).filter p=⟨es'.filter p⟩:=by
 apply Array.toList_inj.1;rw [Array.toList_filter]
theorem nextE_ok{ρ : Inj}{es es':List MapEntry}(he:EsR ρ es es'){seen:List Nat}{since:Nat}{r:Option MapEntry}(h:nextE es seen since=some r) :
 (r=none∧es'.filter (fun e=> !(⟨seen⟩:Array Nat).contains e.born)=[])∨∃e e',r=some e∧es'.filter (fun e=> !(⟨seen⟩:Array Nat).contains e.born)=[e']∧e'.key=e.key∧RV ρ e.val e'.val∧e'.born=e.born∧e'.born<since:=by
 have hl:=left_ok (ρ := ρ) (fun b=> !(⟨seen⟩:Array Nat).contains b) he;unfold nextE at h;simp only[seen_has]at h;split at h
 · rename_i hf;injection h with h
   rw[hf]at hl;refine .inl ⟨h.symm,?_⟩;have:=hl.1;exact List.length_eq_zero_iff.1 this.symm
 · rename_i e hf
   cases hb:Nat.blt e.born since with
   | false=>rw [hb]at h;cases h
   | true =>
    rw[hb]at h;injection h with h
    rw[hf]at hl;obtain⟨l1,l2⟩:=hl
    cases hq:es'.filter (fun e=> !(⟨seen⟩:Array Nat).contains e.born) with
    | nil=>rw [hq]at l1;cases l1
    | cons e' q =>
     rw[hq]at l1 l2
     have hq0:q=[]:=by
      have:1=q.length+1:=l1;exact List.length_eq_zero_iff.1 (by omega)
     subst hq0;obtain⟨g1,g2,g3⟩:=l2 0 e e' rfl rfl;exact .inr ⟨e,e',h.symm,rfl,g1,g2,g3,by rw[g3];exact zY hb⟩
 · cases h
theorem next_ok{o:Oper}{x:Operand}{s:Bool}(hop:o.op = .next x s){lo:Lo}{cx:Cx}{k:KV}{kp:KP}(h:eff o.op P lo cx t w k kp=true):∃w' v,EffVal P ng o t w v w'∧k w' v=true:=by
 rw[hop]at h;have h':(xK w fun h n mk=>cond s false (xnextM (ev t x) h fun v h=>k (mk h n) v))=true:=h;rw [xL]at h';have hmem:x∈o.op.operands.toList:=by rw[hop];simp [Op.operands]
 have hfo:(Question.mapNext 1).forced=true:=rfl
 cases s with
 | true=>cases h'
 | false=>
 dsimp only[cond]at h';unfold xnextM at h';split at h'
 case h_2=>cases h'
 rename_i b hx;split at h'
 case h_3=>cases h'
 · rename_i since seen last hg;refine⟨w,.tuple ⟨[.bool false]⟩,⟨rfl,rfl,fun ρ base w0 a wd hT hH=>?_⟩,h'⟩;have rx:=hT x hmem;rw [hx]at rx;obtain⟨B,hb,_,hz⟩:=rx.of_ptr;obtain⟨ob,e1,e2⟩:=hH.obj b B hb (by rw[hg];exact AObj.noConfusion);rw [hg]at e2;refine⟨ρ,.tuple ⟨[.bool false]⟩,wd,.inl ?_,RV.mk_tuple (RVs.cons (RV.bool _) (RVs.nil ρ)),hH,Grow.refl _ _ _ _ hH.dom⟩;cases e2
   simp[execOp,hop,hz,Instr.next,getObj,Sem.run,e1]
 · rename_i m since seen last hg;split at h'
   case h_2=>cases h'
   rename_i es clock hgm
   cases hc:((!seen.isEmpty && !es.isEmpty) && es.all fun e=>Nat.ble last e.born) with
   | true=>rw [hc]at h';cases h'
   | false=>
   rw[hc]at h';dsimp only[cond]at h';have hdead:zF w.h b≠.dead:=by rw[hg];exact AObj.noConfusion
   have pre:∀{ρ : Inj} {base:Nat} {w0:World} {a:Act} {wd:World},OpsR ρ t a o→HeapR P ng ρ base w0 w.h w.n wd→
    ∃B M es',ρ b=some B∧ρ m=some M∧a.eval x = .pointer (some ⟨B.b,0,none⟩)∧wd.heap[B.b]? = some (.mapIter (some M.b) since ⟨seen⟩ last)∧wd.heap[M.b]? = some (.map ⟨es'⟩ clock)∧EsR ρ es es'∧base≤B.b∧
     ((!(⟨seen⟩:Array Nat).isEmpty && !(⟨es'⟩:Array MapEntry).isEmpty) && (⟨es'⟩:Array MapEntry).all (·.born≥last))=false:=by
    intro ρ base w0 a wd hT hH;have rx:=hT x hmem;rw [hx]at rx;obtain⟨B,hb,_,hz⟩:=rx.of_ptr;obtain⟨ob,e1,e2⟩:=hH.obj b B hb hdead;rw [hg]at e2
    cases e2 with
    | siter hm hbb =>
     rename_i M;obtain⟨es',e3,he,_⟩:=map_at hH hm hgm;refine⟨B,M,es',hb,hm,hz,e1,e3,he,hbb,?_⟩;rw [← hc];have q1:(⟨seen⟩:Array Nat).isEmpty=seen.isEmpty:=by cases seen <;> rfl
     have q2:(⟨es'⟩:Array MapEntry).isEmpty=es.isEmpty:=by
      have:=he.1;cases es <;> cases es' <;> first|rfl|(simp at this)
     have q3:((⟨es'⟩:Array MapEntry).all (·.born≥last))=es.all fun e=>Nat.ble last e.born:=by
      rw[all_born (fun b=>Nat.ble last b) he];rw [← Array.all_toList];congr 1
      funext e
      show decide (last≤e.born)=Nat.ble last e.born
      cases hq:Nat.ble last e.born with
      | true=>exact decide_eq_true (Nat.le_of_ble_eq_true hq)
      | false=>exact decide_eq_false fun hl=>by rw[Nat.ble_eq_true_of_le hl]at hq;cases hq
     rw[q1,q2,q3]
   split at h'
   case h_3=>cases h'
   · rename_i hn;refine⟨w,.tuple ⟨[.bool false]⟩,⟨rfl,rfl,fun ρ base w0 a wd hT hH=>?_⟩,h'⟩;obtain⟨B,M,es',hb,hm,hz,e1,e3,he,hbb,hcc⟩:=pre hT hH;refine⟨ρ,.tuple ⟨[.bool false]⟩,wd,.inl ?_,RV.mk_tuple (RVs.cons (RV.bool _) (RVs.nil ρ)),hH,Grow.refl _ _ _ _ hH.dom⟩;rcases nextE_ok he hn with⟨_,hf⟩|⟨e,e',q,_⟩
     · have zF:(getObj B.b).run P wd = .ok (.mapIter (some M.b) since ⟨seen⟩ last) wd:=by simp[getObj,Sem.run,e1]
       simp only[execOp,hop,hz,Instr.next,Sem.run_bind,zF,Result.andThen_ok,xD e3,hcc,Bool.false_eq_true,if_false,filt_arr,hf,List.filter_nil];simp [hfo]
     · cases q
   · rename_i e hn
     cases hp:keyPlain e.key with
     | false=>rw [hp]at h';cases h'
     | true=>
     rw[hp]at h';dsimp only[cond]at h';rw [Tr.setK_eq]at h';refine⟨W.mk w.d w.u (w.h.set .dead (.siter (some m) since (seen++[e.born]) clock) b) w.n,.tuple ⟨[.bool true,e.key,e.val]⟩,⟨rfl,rfl,fun ρ base w0 a wd hT hH=>?_⟩,h'⟩;obtain⟨B,M,es',hb,hm,hz,e1,e3,he,hbb,hcc⟩:=pre hT hH;rcases nextE_ok he hn with⟨q,_⟩|⟨f,e',q,hf,g1,g2,g3,g4⟩
     · cases q
     · injection q with q
       subst q;have hlt:=hH.lt hb hdead;have zF:(getObj B.b).run P wd = .ok (.mapIter (some M.b) since ⟨seen⟩ last) wd:=by simp[getObj,Sem.run,e1]
       obtain⟨t1,t2⟩:=hH.turn hb hdead (.siter (some m) since (seen++[e.born]) clock) (.mapIter (some M.b) since ⟨seen++[e.born]⟩ clock) { wd with heap:=wd.heap.setIfInBounds B.b (.mapIter (some M.b) since ⟨seen++[e.born]⟩ clock) } hbb (.siter hm hbb) (by simp[hlt]) (by simp) (fun c hc=>by
        show(wd.heap.setIfInBounds B.b _)[c]? = _;rw [Array.getElem?_setIfInBounds,if_neg (fun e=>hc e.symm)]) rfl rfl rfl
       refine⟨ρ,.tuple ⟨[.bool true,e.key,e'.val]⟩,_,.inl ?_,RV.mk_tuple (RVs.cons (RV.bool _) (RVs.cons (keyPlain_ok hp ρ) (RVs.cons g2 (RVs.nil ρ)))),t1,t2⟩;have c1:decide (e'.born<since)=true:=decide_eq_true g4;have c2:decide (e'.born≥since)=false:=decide_eq_false (by omega);simp only[execOp,hop,hz,Instr.next,Sem.run_bind,zF,Result.andThen_ok,xD e3,hcc,Bool.false_eq_true,if_false,filt_arr,hf,List.filter_cons,c1,c2,List.filter_nil,if_true];simp [hfo,setObj,Sem.run,e1,g1,g3]
theorem find_born{ρ : Inj}{st:Nat}:∀{es es':List MapEntry},EsR ρ es es'→∀{e:MapEntry},(es.find? fun e=>Nat.beq e.born st)=some e→
 ∃e',(es'.find? fun e=>e.born == st)=some e'∧e'.key=e.key∧RV ρ e.val e'.val:=by
 intro es
 induction es with
 | nil=>intro es' _ e h;cases h
 | cons f es ih =>
  intro es' he e h
  cases es' with
  | nil=>have:=he.1;simp at this
  | cons f' es' =>
   obtain⟨g1,g2,g3⟩:=he.2 0 f f' rfl rfl;have he':EsR ρ es es':=⟨by have:=he.1;simpa using this,fun j a b h1 h2=>he.2 (j+1) a b (by simpa using h1) (by simpa using h2)⟩;rw [List.find?_cons]at h ⊢
   cases hb:Nat.beq f.born st with
   | true=>
    rw[hb]at h;injection h with h;subst h
    have hs:=zG hb;have:(f'.born == st)=true:=by rw[g3,hs];simp
    rw[this];exact⟨f',rfl,g1,g2⟩
   | false =>
    rw[hb]at h
    have:(f'.born == st)=false:=by
     rw[g3];refine beq_eq_false_iff_ne.2 fun e=>?_;rw [e,Nat.beq_refl]at hb;cases hb
    rw[this];exact ih he' h
theorem entry_ok{o:Oper}{x:Operand}(hop:o.op = .entry x){lo:Lo}{cx:Cx}{k:KV}{kp:KP}(h:eff o.op P lo cx t w k kp=true):∃w' v,EffVal P ng o t w v w'∧k w' v=true:=by
 rw[hop]at h;have h':(xK w fun h n mk=>xentryM (ev t x) h fun v=>k (mk h n) v)=true:=h;rw [xL]at h';have hmem:x∈o.op.operands.toList:=by rw[hop];simp [Op.operands]
 unfold xentryM at h';split at h'
 case h_2=>cases h'
 rename_i b hx;split at h'
 case h_2=>cases h'
 rename_i m since seen last hg;split at h'
 case h_2=>cases h'
 rename_i es clock st hgm hst
 cases hc:Nat.beq clock last with
 | false=>rw [hc]at h';cases h'
 | true=>
 rw[hc]at h';dsimp only[cond]at h';obtain rfl:=zG hc;split at h'
 case h_2=>cases h'
 rename_i e hf
 cases hp:keyPlain e.key with
 | false=>rw [hp]at h';cases h'
 | true=>
 rw[hp]at h';dsimp only[cond]at h';refine⟨w,.tuple ⟨[e.key,e.val]⟩,⟨rfl,rfl,fun ρ base w0 a wd hT hH=>?_⟩,h'⟩;have rx:=hT x hmem;rw [hx]at rx;obtain⟨B,hb,_,hz⟩:=rx.of_ptr;obtain⟨ob,e1,e2⟩:=hH.obj b B hb (by rw[hg];exact AObj.noConfusion);rw [hg]at e2
 cases e2 with
 | siter hm hbb=>
  rename_i M;obtain⟨es',e3,he,_⟩:=map_at hH hm hgm;obtain⟨e',f1,f2,f3⟩:=find_born he hf;refine⟨ρ,.tuple ⟨[e.key,e'.val]⟩,wd,.inl ?_,RV.mk_tuple (RVs.cons (keyPlain_ok hp ρ) (RVs.cons f3 (RVs.nil ρ))),hH,Grow.refl _ _ _ _ hH.dom⟩;have zF:(getObj B.b).run P wd = .ok (.mapIter (some M.b) since ⟨seen⟩ clock) wd:=by simp[getObj,Sem.run,e1]
  have hback:(⟨seen⟩:Array Nat).back? = some st:=by rw[← Array.getLast?_toList];exact hst
  have ffind:(⟨es'⟩:Array MapEntry).find? (fun e=>e.born == st)=some e':=by rw[← f1];simp
  simp only[execOp,hop,hz,Instr.entry,Sem.run_bind,zF,Result.andThen_ok,hback,xD e3];simp [f1,f2]
theorem mapUpdate_ok{o:Oper}{ty:TypeId}{m key v:Operand}(hop:o.op = .mapUpdate ty m key v∨o.op = .insert ty m key v){lo:Lo}{cx:Cx}{k:KV}{kp:KP}
(h:eff o.op P lo cx t w k kp=true):∃w' v,EffVal P ng o t w v w'∧k w' v=true:=by
 have h':(xK w fun h n mk=>wU P ty (ev t m) (ev t key) (ev t v) h fun h=>k (mk h n) undef)=true:=by
  rcases hop with hop|hop
  · rw[hop]at h;exact h
  · rw[hop]at h;exact h
 rw[xL]at h';obtain⟨h1,e1,e2⟩:=xmapUpdate_ok (ng:=ng) h'
 have hmem:∀x,x=m∨x=key∨x=v→x∈o.op.operands.toList:=by
  intro x hx;rcases hop with hop|hop <;> rw[hop] <;> simp[Op.operands] <;> exact hx
 refine⟨W.mk w.d w.u h1 w.n,undef,⟨rfl,rfl,fun ρ base w0 a wd hT hH=>?_⟩,e1⟩;have r1:=hT m (hmem _ (.inl rfl));have r2:=hT key (hmem _ (.inr (.inl rfl)));have r3:=hT v (hmem _ (.inr (.inr rfl)));obtain⟨wd',f1,f2,f3⟩:=e2 w.n ρ base w0 wd _ _ _ hH r1 r2 r3;refine⟨ρ,undef,wd',.inr ⟨?_,rfl⟩,RV.undef ρ,f2,f3⟩;rcases hop with hop|hop <;> simp[execOp,hop,f1]
theorem xclear_ok(hP:yH ng P=true){tys:List TypeId}{args:List Value}{rt:TypeId}{h:zB}{k:zB→Bool}(hs:xclear P tys args h k=true) :
 ∃h',k h'=true∧∀(n:Nat) (ρ : Inj) (base:Nat) (w0 wd:World) (args':List Value),HeapR P ng ρ base w0 h n wd→RVs ρ args args'→
  ∃wd',(Builtin.clear_ ⟨tys⟩ rt ⟨args'⟩).run P wd = .ok (.tuple #[]) wd'∧HeapR P ng ρ base w0 h' n wd'∧Grow ρ h n wd ρ h' n wd':=by
 unfold xclear at hs;split at hs
 case h_2=>cases hs
 rename_i ty tr x xr;have e1:(⟨ty::tr⟩:Array TypeId)[0]? = some ty:=by simp
 have e2:∀(x':Value) (l:List Value),(⟨x'::l⟩:Array Value)[0]? = some x':=fun _ _=>by simp
 split at hs
 · rename_i e ln c hd;refine⟨h,hs,fun n ρ base w0 wd args' hH hr=>?_⟩;obtain⟨x',l,rfl,hx,_⟩:=hr.of_cons;refine⟨wd,?_,hH,Grow.refl _ _ _ _ hH.dom⟩;cases hx
   simp[Builtin.clear_,zM hd]
 · rename_i e b off ln c hd;split at hs
   case h_2=>cases hs
   rename_i z hz
   cases hn:Nat.beq ln 0 with
   | true=>
    rw[hn]at hs;obtain rfl:=zG hn;refine⟨h,hs,fun n ρ base w0 wd args' hH hr=>?_⟩;obtain⟨x',l,rfl,hx,_⟩:=hr.of_cons;refine⟨wd,?_,hH,Grow.refl _ _ _ _ hH.dom⟩;rcases hx.of_slice with⟨B,o',c',_,rfl,_⟩|⟨_,_,_,a,rfl⟩ <;> simp[Builtin.clear_,zM hd]
   | false =>
    rw[hn]at hs;dsimp only[cond]at hs;have hln:ln≠0:=fun e=>by subst e;cases hn
    obtain⟨h',g1,gone,⟨cc,mm,zz,kd,gg,gl,ge⟩,g2⟩:=storeAt_ok (P:=P) (ng:=ng) hs;refine⟨h',g1,fun n ρ base w0 wd args' hH hr=>?_⟩;obtain⟨x',l,rfl,hx,_⟩:=hr.of_cons;rcases hx.of_slice with⟨B,o',c',hb,rfl,ho,_⟩|⟨h0,_⟩
    rotate_left
    · exact absurd h0 hln
    obtain rfl:=ho (by omega);have hzz:cellsOf z=z.cells.toList:=by cases z <;> rfl
    have hzc:=RV.cells (RV.plain (wI hP hz) ρ)
    have hrv:RVs ρ (rep (cellsOf z) ln) (Builtin.zeroCells z.cells ln).toList:=by
     by_cases hz0:z.cells.size=0
     · have h3:cellsOf z=[]:=by rw[hzz];exact List.length_eq_zero_iff.1 (by simpa using hz0)
       have h4:rep (cellsOf z) ln=[]:=List.length_eq_zero_iff.1 (by rw[wC,h3];simp);have h5:(Builtin.zeroCells z.cells ln).toList=[]:=List.length_eq_zero_iff.1 (by rw[Array.length_toList,zeroCells_size,hz0,Nat.mul_zero]);rw [h4,h5];exact RVs.nil ρ
     · have:=made_eq z.cells ln (by omega);unfold Builtin.zeroCells;rw [this,← hzz];refine⟨rfl,fun i v v' e1 e2=>?_⟩;rw [e1]at e2;injection e2 with e2;subst e2
       have hlt:i<ln*(cellsOf z).length:=by
        rcases Nat.lt_or_ge i (rep (cellsOf z) ln).length with h1|h1
        · rwa [wC]at h1
        · rw[List.getElem?_eq_none h1]at e1;cases e1
       rw[rep_get _ _ _ hlt]at e1;exact hzc.2 _ v v e1 (by rw[← hzz];exact e1)
    obtain⟨wd',f1,f2,f3⟩:=g2 n ρ base w0 wd B _ hH hb hrv;refine⟨wd',?_,f2,f3⟩
    cases ln with
    | zero=>exact absurd rfl hln
    | succ ln=>simp [Builtin.clear_,zM hd,wA hz,f1]
 · cases hs
theorem dropE_ok{ρ : Inj}:∀{es es':List MapEntry} (i:Nat),EsR ρ es es'→EsR ρ (dropE i es) (es'.eraseIdx i):=by
 intro es
 induction es with
 | nil=>
  intro es' i he;have:es'=[]:=by have:=he.1;cases es' <;> simp_all
  subst this;cases i <;> exact he
 | cons e es ih =>
  intro es' i he
  cases es' with
  | nil=>have:=he.1;simp at this
  | cons e' es' =>
   have he':EsR ρ es es':=⟨by have:=he.1;simpa using this,fun j a b h1 h2=>he.2 (j+1) a b (by simpa using h1) (by simpa using h2)⟩
   cases i with
   | zero=>exact he'
   | succ i =>
    obtain⟨l1,l2⟩:=ih i he';refine⟨by simpa [dropE] using l1,fun j a b h1 h2=>?_⟩
    cases j with
    | zero=>
     have g:=he.2 0 e e' rfl rfl;simp [dropE]at h1 h2;subst h1 h2;exact g
    | succ j=>exact l2 j a b (by simpa [dropE] using h1) (by simpa using h2)
theorem xdelete_ok{tys:List TypeId}{args:List Value}{rt:TypeId}{h:zB}{k:zB→Bool}(hs:xdelete P tys args h k=true) :
 ∃h',k h'=true∧∀(n:Nat) (ρ : Inj) (base:Nat) (w0 wd:World) (args':List Value),HeapR P ng ρ base w0 h n wd→RVs ρ args args'→
  ∃wd',(Builtin.delete_ ⟨tys⟩ rt ⟨args'⟩).run P wd = .ok (.tuple #[]) wd'∧HeapR P ng ρ base w0 h' n wd'∧Grow ρ h n wd ρ h' n wd':=by
 unfold xdelete at hs;split at hs
 case h_2=>cases hs
 rename_i ty tr x key xr;have e1:(⟨ty::tr⟩:Array TypeId)[0]? = some ty:=by simp
 have e2:∀(x' y':Value) (l:List Value),(⟨x'::y'::l⟩:Array Value)[0]? = some x':=fun _ _ _=>by simp
 have e3:∀(x' y':Value) (l:List Value),(⟨x'::y'::l⟩:Array Value)[1]? = some y':=fun _ _ _=>by simp
 split at hs
 case h_3=>cases hs
 · rename_i kt et hd;split at hs
   case h_2=>cases hs
   rename_i kd hkd
   cases hsc:keyT P kd key with
   | false=>rw [hsc]at hs;cases hs
   | true=>
    rw[hsc]at hs;refine⟨h,hs,fun n ρ base w0 wd args' hH hr=>?_⟩;obtain⟨x',l,rfl,hx,hr2⟩:=hr.of_cons;obtain⟨y',l2,rfl,hy,_⟩:=hr2.of_cons;have hkk:=(uP hsc hy).symm;subst hkk;refine⟨wd,?_,hH,Grow.refl _ _ _ _ hH.dom⟩;cases hx
    simp[Builtin.delete_,zM hd,check_ok (wd:=wd) hkd hsc true 9998]
 · rename_i kt et r hd;split at hs
   case h_2=>cases hs
   rename_i kd es clock hkd hg
   cases hsc:keyT P kd key with
   | false=>rw [hsc]at hs;cases hs
   | true=>
    rw[hsc]at hs;dsimp only[cond]at hs;have hdead:zF h r≠.dead:=by rw[hg];exact AObj.noConfusion
    split at hs
    case h_3=>cases hs
    · rename_i i w2 hf;rw [Tr.setK_eq]at hs;refine⟨_,hs,fun n ρ base w0 wd args' hH hr=>?_⟩;obtain⟨x',l,rfl,hx,hr2⟩:=hr.of_cons;obtain⟨y',l2,rfl,hy,_⟩:=hr2.of_cons;have hkk:=(uP hsc hy).symm;subst hkk;obtain⟨B,hb,rfl⟩:=hx.of_map;obtain⟨es',q1,he,hbb⟩:=map_at hH hb hg;obtain⟨r',h1,h2⟩:=vM (wd:=wd) hkd hsc he hf
      cases r' with
      | none=>exact h2.elim
      | some p=>
       obtain⟨j,w'⟩:=p;obtain⟨rfl,_⟩:=h2;have hlt:=hH.lt hb hdead;refine⟨{ wd with heap:=wd.heap.setIfInBounds B.b (.map ((⟨es'⟩:Array MapEntry).eraseIdxIfInBounds i) clock) },?_,?_⟩
       · simp only[Builtin.delete_,e1,e2,e3,Sem.run_bind,zM hd,Result.andThen_ok,xD q1,check_ok (wd:=wd) hkd hsc _ 9998,h1];simp [setObj,Sem.run,q1]
       · have hq:((⟨es'⟩:Array MapEntry).eraseIdxIfInBounds i)=⟨es'.eraseIdx i⟩:=by
          apply Array.toList_inj.1;rw [Array.toList_eraseIdxIfInBounds]
         refine hH.turn hb hdead _ (.map ⟨es'.eraseIdx i⟩ clock) _ hbb (.map (dropE_ok i he) hbb) ?_ (by simp) ?_ rfl rfl rfl
         · rw[hq];simp [hlt]
         · intro c hc;show(wd.heap.setIfInBounds B.b _)[c]? = _;rw [Array.getElem?_setIfInBounds,if_neg (fun e=>hc e.symm)]
    · rename_i hf;rw [Tr.setK_eq]at hs;refine⟨_,hs,fun n ρ base w0 wd args' hH hr=>?_⟩;obtain⟨x',l,rfl,hx,hr2⟩:=hr.of_cons;obtain⟨y',l2,rfl,hy,_⟩:=hr2.of_cons;have hkk:=(uP hsc hy).symm;subst hkk;obtain⟨B,hb,rfl⟩:=hx.of_map;obtain⟨es',q1,he,hbb⟩:=map_at hH hb hg;obtain⟨r',h1,h2⟩:=vM (wd:=wd) hkd hsc he hf
      cases r' with
      | some p=>exact h2.elim
      | none=>
       have hlt:=hH.lt hb hdead;refine⟨{ wd with heap:=wd.heap.setIfInBounds B.b (.map ⟨es'⟩ clock) },?_,?_⟩
       · simp only[Builtin.delete_,e1,e2,e3,Sem.run_bind,zM hd,Result.andThen_ok,xD q1,check_ok (wd:=wd) hkd hsc _ 9998,h1];simp [setObj,Sem.run,q1]
       · refine hH.turn hb hdead _ (.map ⟨es'⟩ clock) _ hbb (.map he hbb) (by simp[hlt]) (by simp) ?_ rfl rfl rfl;intro c hc;show(wd.heap.setIfInBounds B.b _)[c]? = _;rw [Array.getElem?_setIfInBounds,if_neg (fun e=>hc e.symm)]
end
end Go.Ex
namespace Go.Ex
inductive ChR (ρ : Inj):List PanicEntry→List PanicEntry→Prop
 | nil:ChR ρ [] []
 | cons {e e':PanicEntry} {l l':List PanicEntry} (hv:RV ρ e.v e'.v) (hr:e'.recovered=e.recovered) (hg:e'.goexit=e.goexit) (hl:ChR ρ l l'):ChR ρ (e::l) (e'::l')
inductive DRs (ρ : Inj):List Deferred→List Deferred→Prop
 | nil:DRs ρ [] []
 | coll {r:Nat} {B:Bl} {asz asz':Array Value} {l l':List Deferred} (h: ρ r=some B) (hl:DRs ρ l l'):DRs ρ (⟨.collected r,asz⟩::l) (⟨.collected B.b,asz'⟩::l')
 | fn {g:FuncId} {cap cap' asz asz':Array Value} {l l':List Deferred} (hc:RVs ρ cap.toList cap'.toList) (ha:RVs ρ asz.toList asz'.toList) (hl:DRs ρ l l') :
  DRs ρ (⟨.fn (.func g) cap,asz⟩::l) (⟨.fn (.func g) cap',asz'⟩::l')
theorem ChR.mono{ρ ρ':Inj}(h: ρ.le ρ'){l l':List PanicEntry}(r:ChR ρ l l'):ChR ρ' l l':=by
 induction r with
 | nil=>exact .nil
 | cons hv hr hg _ ih=>exact .cons (hv.mono h) hr hg ih
theorem DRs.mono{ρ ρ':Inj}(h: ρ.le ρ'){l l':List Deferred}(r:DRs ρ l l'):DRs ρ' l l':=by
 induction r with
 | nil=>exact .nil
 | coll e _ ih=>exact .coll (h _ _ e) ih
 | fn hc ha _ ih=>exact .fn (hc.mono h) (ha.mono h) ih
def ModeR(ρ : Inj)(mode:Option zJ)(m:FrameMode):Prop:=
 match mode with
 | none=>m = .returning
 | some c=>∃c',m = .panicking c'∧ChR ρ c c'
def UR(ρ : Inj)(df:Bool)(u:Option zJ)(cs:List Frame):Prop:=
 df=true→∃c0 r,cs=c0::r∧ModeR ρ u c0.mode
def CsTo(df:Bool)(cs cs':List Frame):Prop:=
 cs'=cs∨(df=true∧∃c0 r m,cs=c0::r∧cs' = { c0 with mode:=m }::r)
def RdR(ρ : Inj)(rd rd':Option Nat):Prop:=
 match rd,rd' with
 | none,none=>True
 | some l,some l'=>∃B,ρ l=some B∧B.b=l'
 | _,_=>False
theorem ModeR.mono{ρ ρ':Inj}(h: ρ.le ρ'){mode:Option zJ}{m:FrameMode}(r:ModeR ρ mode m):ModeR ρ' mode m:=by
 cases mode with
 | none=>exact r
 | some c=>obtain⟨c',e,hc⟩:=r;exact⟨c',e,hc.mono h⟩
theorem UR.mono{ρ ρ':Inj}(h: ρ.le ρ'){df:Bool}{u:Option zJ}{cs:List Frame}(r:UR ρ df u cs):UR ρ' df u cs:=
 fun e=>let ⟨c0,l,h1,h2⟩:=r e;⟨c0,l,h1,h2.mono h⟩
theorem RdR.mono{ρ ρ':Inj}(h: ρ.le ρ'){rd rd':Option Nat}(r:RdR ρ rd rd'):RdR ρ' rd rd':=by
 cases rd <;> cases rd' <;> first|exact r|(obtain⟨B,e,hb⟩:=r;exact⟨B,h _ _ e,hb⟩)
theorem CsTo.refl(df:Bool)(cs:List Frame):CsTo df cs cs:=.inl rfl
theorem CsTo.trans{df:Bool}{a b c:List Frame}(h:CsTo df a b)(k:CsTo df b c):CsTo df a c:=by
 rcases h with rfl|⟨hd,c0,r,m,rfl,rfl⟩
 · exact k
 · rcases k with rfl|⟨_,c1,r1,m1,e1,rfl⟩
   · exact .inr ⟨hd,c0,r,m,rfl,rfl⟩
   · injection e1 with e1 e2
     subst e1 e2;exact .inr ⟨hd,c0,r,m1,rfl,rfl⟩
def kindOfDf(df:Bool):CallKind:=match df with|true=>.deferred|false=>.normal
section
variable (P:Program) (ng:Nat)
structure In (ρ : Inj) (base:Nat) (w0:World) (b:Frame) (a:Act) (wd:World) (cs:List Frame) (cx:Cx) (t:Fr) (w:W):Prop where
 fn:b.fn=cx.fn
 kind:b.kind=kindOfDf cx.df
 rd:RdR ρ cx.round b.roundOf
 rdf:cx.round.isSome=true→cx.df=false
 tm:TmR ρ (ntm P cx.fn) t a.tmps
 hp:HeapR P ng ρ base w0 w.h w.n wd
 dr:DRs ρ w.d a.defers
 ur:UR ρ cx.df w.u cs
 fnd:∃fn,P.funcs[b.fn]? = some fn
structure InE (p:Prop) (ρ : Inj) (base:Nat) (w0:World) (b:Frame) (a:Act) (wd:World) (cs:List Frame) (cx:Cx) (t:Fr) (w:W):Prop where
 fn:b.fn=cx.fn
 kind:b.kind=kindOfDf cx.df
 rd:RdR ρ cx.round b.roundOf
 rdf:cx.round.isSome=true→cx.df=false
 tm:p∨TmR ρ (ntm P cx.fn) t a.tmps
 hp:HeapR P ng ρ base w0 w.h w.n wd
 dr:DRs ρ w.d a.defers
 ur:UR ρ cx.df w.u cs
 fnd:∃fn,P.funcs[b.fn]? = some fn
def Lost(x:AX)(w:W):Prop:=match x with
 | .panic _=>w.d=[]
 | _=>False
def Arr(m:Machine)(b:Frame)(k:List Item)(cs:List Frame)(ρ : Inj)(a:Act)(wd:World):AX→Prop
 | .normal=>Steps P m (lone (b.atR a k) cs wd)
 | .exit id=>∃k2,exitTo id k2=exitTo id k∧Steps P m (lone (b.atR a (.code (.exit id)::k2)) cs wd)
 | .goto l=>∃k2,gotoIn l k2=gotoIn l k∧Steps P m (lone (b.atR a (.code (.goto l)::k2)) cs wd)
 | .ret=>∃k2,Steps P m (lone (b.atR a (.code .ret::k2)) cs wd)
 | .panic c=>∃k2 c',ChR ρ c c'∧Steps P m (lone { b.atR a k2 with mode:=.panicking c' } cs wd)
def Leads(b:Frame)(k0 k:List Item)(cx:Cx)(t:Fr)(w:W)(x:AX)(t':Fr)(w':W):Prop:=
 ∀(ρ : Inj) (base:Nat) (w0:World) (a:Act) (wd:World) (cs:List Frame),In P ng ρ base w0 b a wd cs cx t w→
  ∃ρ' a' wd' cs',InE P ng (Lost x w') ρ' base w0 b a' wd' cs' cx t' w'∧Grow ρ w.h w.n wd ρ' w'.h w'.n wd'∧CsTo cx.df cs cs'∧Arr P (lone (b.atR a k0) cs wd) b k cs' ρ' a' wd' x
def CodeTo(c:Code)(cx:Cx)(t:Fr)(w:W)(x:AX)(t':Fr)(w':W):Prop:=
 yO ng (ntm P cx.fn) c=true→∀(b:Frame) (k:List Item),Leads P ng b (.code c::k) k cx t w x t' w'
def Leaves(fr:Frame)(wd:World)(ρ : Inj)(df:Bool):Out→Prop
 | .ret v=>∃v',fr.mode = .returning∧fr.defers=[]∧fr.kind=kindOfDf df∧(∃fn,P.funcs[fr.fn]? = some fn∧(results fn fr.tmps).run P wd = .ok v' wd)∧RV ρ v v'
 | .panic c=>∃c',fr.mode = .panicking c'∧fr.defers=[]∧(∃fn,P.funcs[fr.fn]? = some fn)∧ChR ρ c c'
def CallTo(f:FuncId)(args:List Value)(df:Bool)(u:Option zJ)(h:zB)(n:Nat)(o:Out)(u':Option zJ)(h':zB)(n':Nat):Prop:=
 (∃fn body,P.funcs[f]? = some fn∧fn.body=some body∧(fn.name == "runtime.NumGoroutine")=false)∧
 ∀(ρ : Inj) (base:Nat) (w0 wd:World) (args':List Value) (cs:List Frame),HeapR P ng ρ base w0 h n wd→RVs ρ args args'→UR ρ df u cs→
  ∃ρ' wd' fr cs',Steps P (lone (Frame.enter P f ⟨args'⟩ (kindOfDf df)) cs wd) (lone fr cs' wd')∧HeapR P ng ρ' base w0 h' n' wd'∧Grow ρ h n wd ρ' h' n' wd'∧CsTo df cs cs'∧UR ρ' df u' cs'∧fr.fn=f∧Leaves P fr wd' ρ' df o
def Back(m:Machine)(c:Frame)(cs:List Frame)(wd:World)(ρ : Inj):Out→Prop
 | .ret v=>∃v',RV ρ v v'∧Steps P m (lone (c.finish v') cs wd)
 | .panic ch=>∃ch',ChR ρ ch ch'∧Steps P m (lone (c.raise ch') cs wd)
def RoundTo(l:Nat)(args:List Value)(h:zB)(n:Nat)(o:Out)(h':zB)(n':Nat):Prop:=
 ∀(ρ : Inj) (base:Nat) (w0 wd:World) (args':List Value) (B:Bl) (c:Frame) (cs:List Frame),HeapR P ng ρ base w0 h n wd→ρ l=some B→RVs ρ args args'→
  ∃f tmps asg body,(Instr.yield B.b ⟨args'⟩).run P wd = .ok (.round B.b f tmps asg body) wd∧
  ∃ρ' wd',HeapR P ng ρ' base w0 h' n' wd'∧Grow ρ h n wd ρ' h' n' wd'∧Back P (lone (Frame.round B.b f tmps asg body .normal) (c::cs) wd) c cs wd' ρ' o
def LeaveTo(fn:Func)(mode:Option zJ)(t:Fr)(w:W)(o:Out)(u':Option zJ)(h':zB)(n':Nat):Prop:=
 ∀(ρ : Inj) (base:Nat) (w0:World) (b:Frame) (a:Act) (wd:World) (cs:List Frame) (df:Bool),InE P ng (mode.isSome=true∧w.d=[]) ρ base w0 b a wd cs ⟨b.fn,none,df⟩ t w→P.funcs[b.fn]? = some fn→∀(k:List Item) (m:FrameMode),ModeR ρ mode m→
  ∃ρ' wd' fr cs',Steps P (lone { b.atR a k with mode:=m } cs wd) (lone fr cs' wd')∧HeapR P ng ρ' base w0 h' n' wd'∧Grow ρ w.h w.n wd ρ' h' n' wd'∧CsTo df cs cs'∧UR ρ' df u' cs'∧fr.fn=b.fn∧Leaves P fr wd' ρ' df o
structure Sound (lo:Lo):Prop where
 code:∀c cx t w k,lo.code c cx t w k=true→∃x t' w',k x t' w'=true∧CodeTo P ng c cx t w x t' w'
 call:∀f args df u h n k,lo.call f args df u h n k=true→∃o u' h' n',k o u' h' n'=true∧CallTo P ng f args df u h n o u' h' n'
 round:∀l args h n k,lo.round l args h n k=true→∃o h' n',k o h' n'=true∧RoundTo P ng l args h n o h' n'
 leave:∀fn mode t w k,lo.leave fn mode t w k=true→∃o u' h' n',k o u' h' n'=true∧LeaveTo P ng fn mode t w o u' h' n'
end
section
variable {P:Program} {ng:Nat}
theorem In.e{p:Prop}{ρ : Inj}{base:Nat}{w0:World}{b:Frame}{a:Act}{wd:World}{cs:List Frame}{cx:Cx}{t:Fr}{w:W}(h:In P ng ρ base w0 b a wd cs cx t w):InE P ng p ρ base w0 b a wd cs cx t w:=
 ⟨h.fn,h.kind,h.rd,h.rdf,.inr h.tm,h.hp,h.dr,h.ur,h.fnd⟩
theorem InE.i{p:Prop}{ρ : Inj}{base:Nat}{w0:World}{b:Frame}{a:Act}{wd:World}{cs:List Frame}{cx:Cx}{t:Fr}{w:W}(h:InE P ng p ρ base w0 b a wd cs cx t w)(hp:¬p):In P ng ρ base w0 b a wd cs cx t w:=
 ⟨h.fn,h.kind,h.rd,h.rdf,h.tm.resolve_left hp,h.hp,h.dr,h.ur,h.fnd⟩
theorem InE.mono{p q:Prop}{ρ : Inj}{base:Nat}{w0:World}{b:Frame}{a:Act}{wd:World}{cs:List Frame}{cx:Cx}{t:Fr}{w:W}(h:InE P ng p ρ base w0 b a wd cs cx t w)(hp:p→q):InE P ng q ρ base w0 b a wd cs cx t w:=
 ⟨h.fn,h.kind,h.rd,h.rdf,h.tm.imp_left hp,h.hp,h.dr,h.ur,h.fnd⟩
theorem sound_bot:Sound P ng Lo.bot:=⟨fun _ _ _ _ _ h=>(Bool.false_ne_true h).elim,fun _ _ _ _ _ _ _ h=>(Bool.false_ne_true h).elim,fun _ _ _ _ _ h=>(Bool.false_ne_true h).elim,fun _ _ _ _ _ h=>(Bool.false_ne_true h).elim⟩
theorem Arr.of_steps{m m1:Machine}{b:Frame}{k:List Item}{cs:List Frame}{ρ : Inj}{a:Act}{wd:World}{x:AX}(h:Steps P m m1)(r:Arr P m1 b k cs ρ a wd x):Arr P m b k cs ρ a wd x:=by
 cases x with
 | normal=>exact h.trans r
 | exit id=>obtain⟨k2,e,s⟩:=r;exact⟨k2,e,h.trans s⟩
 | goto l=>obtain⟨k2,e,s⟩:=r;exact⟨k2,e,h.trans s⟩
 | ret=>obtain⟨k2,s⟩:=r;exact⟨k2,h.trans s⟩
 | panic c=>obtain⟨k2,c',e,s⟩:=r;exact⟨k2,c',e,h.trans s⟩
theorem zP{b:Frame}{k0 k1 k:List Item}{cx:Cx}{t t':Fr}{w w':W}{x:AX}(h:∀a cs wd,step P (lone (b.atR a k0) cs wd) = .next (lone (b.atR a k1) cs wd))
(r:Leads P ng b k1 k cx t w x t' w'):Leads P ng b k0 k cx t w x t' w':=by
 intro ρ base w0 a wd cs hI;obtain⟨ρ',a',wd',cs',h1,h2,h3,h4⟩:=r ρ base w0 a wd cs hI;exact⟨ρ',a',wd',cs',h1,h2,h3,h4.of_steps (.one (h a cs wd))⟩
theorem wE(b:Frame)(k:List Item)(cx:Cx)(t:Fr)(w:W):Leads P ng b k k cx t w .normal t w:=
 fun ρ _ _ a wd cs hI=>⟨ρ,a,wd,cs,hI.e,Grow.refl _ _ _ _ hI.hp.dom,CsTo.refl _ _,Steps.refl _ _⟩
theorem Leads.trans{b:Frame}{k0 k1 k:List Item}{cx:Cx}{t t1 t2:Fr}{w w1 w2:W}{x:AX}(h:Leads P ng b k0 k1 cx t w .normal t1 w1)(r:Leads P ng b k1 k cx t1 w1 x t2 w2) :
 Leads P ng b k0 k cx t w x t2 w2:=by
 intro ρ base w0 a wd cs hI;obtain⟨ρ1,a1,wd1,cs1,h1,h2,h3,h4⟩:=h ρ base w0 a wd cs hI;obtain⟨ρ2,a2,wd2,cs2,g1,g2,g3,g4⟩:=r ρ1 base w0 a1 wd1 cs1 (h1.i fun h=>h);exact⟨ρ2,a2,wd2,cs2,g1,h2.trans g2,h3.trans g3,g4.of_steps h4⟩
theorem Leads.pass{b:Frame}{k0 k1 k:List Item}{cx:Cx}{t t1:Fr}{w w1:W}{x:AX}(h:Leads P ng b k0 k1 cx t w x t1 w1)(hn:x≠.normal)
(he:∀id,x = .exit id→exitTo id k1=exitTo id k)(hg:∀l,x = .goto l→gotoIn l k1=gotoIn l k):Leads P ng b k0 k cx t w x t1 w1:=by
 intro ρ base w0 a wd cs hI;obtain⟨ρ1,a1,wd1,cs1,h1,h2,h3,h4⟩:=h ρ base w0 a wd cs hI;refine⟨ρ1,a1,wd1,cs1,h1,h2,h3,?_⟩
 cases x with
 | normal=>exact absurd rfl hn
 | exit id=>obtain⟨k2,e,s⟩:=h4;exact⟨k2,e.trans (he id rfl),s⟩
 | goto l=>obtain⟨k2,e,s⟩:=h4;exact⟨k2,e.trans (hg l rfl),s⟩
 | ret=>exact h4
 | panic c=>exact h4
end
end Go.Ex
namespace Go.Ex
section
variable {P:Program} {ng:Nat}
theorem stepR_scope{b:Frame}{a:Act}{k:List Item}{cs:List Frame}{w:World}{c:Code} :
 step P (lone (b.atR a (.code (.scope c)::k)) cs w) = .next (lone (b.atR a (.code c :: .inScope c::k)) cs w):=
 step_lone_go (by simp[stepG,stepG.exec,Frame.atR])
theorem stepR_inScope{b:Frame}{a:Act}{k:List Item}{cs:List Frame}{w:World}{c:Code} :
 step P (lone (b.atR a (.inScope c::k)) cs w) = .next (lone (b.atR a k) cs w):=
 step_lone_go (by simp[stepG,stepG.exec,Frame.atR])
theorem Steps.tail{m m1 m2:Machine}(h:Steps P m m2)(hs:step P m = .next m1)(hne:m≠m2):Steps P m1 m2:=by
 obtain⟨n,hn⟩:=h
 cases n with
 | zero=>
  simp only[runN]at hn;injection hn with hn
  exact absurd hn hne
 | succ n=>
  simp only[runN,hs]at hn;exact⟨n,hn⟩
theorem lone_inj{fr fr':Frame}{cs cs':List Frame}{w w':World}(h:lone fr cs w=lone fr' cs' w'):fr=fr':=by
 have h1:(lone fr cs w).gs=(lone fr' cs' w').gs:=by rw[h]
 have h2:(#[({ frame:=fr,callers:=cs,status:=.running,dying:=none }:Goroutine)]:Array Goroutine) = #[{ frame:=fr',callers:=cs',status:=.running,dying:=none }]:=h1;have h3:=congrArg (fun x:Array Goroutine=>x.toList) h2;simp at h3;exact h3.1
theorem atR_todo{b:Frame}{a a':Act}{k k':List Item}(h:b.atR a k=b.atR a' k'):k=k':=by
 have:(b.atR a k).todo=(b.atR a' k').todo:=by rw[h]
 exact this
theorem leads_unloop{b:Frame}{k:List Item}{c:Code}{cx:Cx}{t t':Fr}{w w':W}{x:AX}(h:Leads P ng b (.code (.loop c)::k) k cx t w x t' w'):Leads P ng b (.code c :: .inLoop c::k) k cx t w x t' w':=by
 intro ρ base w0 a wd cs hI;obtain⟨ρ',a',wd',cs',h1,h2,h3,h4⟩:=h ρ base w0 a wd cs hI;refine⟨ρ',a',wd',cs',h1,h2,h3,?_⟩
 cases x with
 | normal =>
  exact Steps.tail h4 stepR_loop fun e=>by
   have:=congrArg List.length (atR_todo (lone_inj e));simp at this
 | exit id =>
  obtain⟨k2,e,s⟩:=h4
  exact⟨k2,e,Steps.tail s stepR_loop fun e=>by
   have:=atR_todo (lone_inj e);injection this with this
   injection this with this
   cases this⟩
 | goto l =>
  obtain⟨k2,e,s⟩:=h4
  exact⟨k2,e,Steps.tail s stepR_loop fun e=>by
   have:=atR_todo (lone_inj e);injection this with this
   injection this with this
   cases this⟩
 | ret =>
  obtain⟨k2,s⟩:=h4
  exact⟨k2,Steps.tail s stepR_loop fun e=>by
   have:=atR_todo (lone_inj e);injection this with this
   injection this with this
   cases this⟩
 | panic ch =>
  obtain⟨k2,ch',e,s⟩:=h4
  exact⟨k2,ch',e,Steps.tail s stepR_loop fun e=>by
   have h9:=congrArg Frame.mode (lone_inj e);cases h9⟩
theorem leads_block{b:Frame}{k0 k:List Item}{id:Nat}{cx:Cx}{t t':Fr}{w w':W}(h:Leads P ng b k0 (.inBlock id::k) cx t w (.exit id) t' w'):Leads P ng b k0 k cx t w .normal t' w':=by
 intro ρ base w0 a wd cs hI;obtain⟨ρ',a',wd',cs',h1,h2,h3,k2,e,s⟩:=h ρ base w0 a wd cs hI;refine⟨ρ',a',wd',cs',h1.mono fun h=>h,h2,h3,s.trans (.one (stepR_exit ?_))⟩;rw [e];simp [exitTo]
theorem xcode_ok{lo:Lo}(hS:Sound P ng lo)
(hreg:∀id ops draw cx t w k,xcode P lo (.region id ops draw) cx t w k=true→∃x t' w',k x t' w'=true∧CodeTo P ng (.region id ops draw) cx t w x t' w')
(hrf:∀f params asg body cx t w k,xcode P lo (.rangeFunc f params asg body) cx t w k=true→∃x t' w',k x t' w'=true∧CodeTo P ng (.rangeFunc f params asg body) cx t w x t' w') :
 ∀c cx t w k,xcode P lo c cx t w k=true→∃x t' w',k x t' w'=true∧CodeTo P ng c cx t w x t' w':=by
 intro c
 induction c with
 | skip=>exact fun cx t w k h=>⟨.normal,t,w,h,fun _ b k=>zP (fun _ _ _=>stepR_skip) (wE b k cx t w)⟩
 | label l=>exact fun cx t w k h=>⟨.normal,t,w,h,fun _ b k=>zP (fun _ _ _=>stepR_label) (wE b k cx t w)⟩
 | region id ops draw=>exact hreg id ops draw
 | rangeFunc f params asg body _ _=>exact hrf f params asg body
 | exit id=>exact fun cx t w k h=>⟨.exit id,t,w,h,fun _ b k ρ _ _ a wd cs hI=>⟨ρ,a,wd,cs,hI.e,Grow.refl _ _ _ _ hI.hp.dom,CsTo.refl _ _,k,rfl,Steps.refl _ _⟩⟩
 | goto l=>exact fun cx t w k h=>⟨.goto l,t,w,h,fun _ b k ρ _ _ a wd cs hI=>⟨ρ,a,wd,cs,hI.e,Grow.refl _ _ _ _ hI.hp.dom,CsTo.refl _ _,k,rfl,Steps.refl _ _⟩⟩
 | ret=>exact fun cx t w k h=>⟨.ret,t,w,h,fun _ b k ρ _ _ a wd cs hI=>⟨ρ,a,wd,cs,hI.e,Grow.refl _ _ _ _ hI.hp.dom,CsTo.refl _ _,k,Steps.refl _ _⟩⟩
 | refuse why=>exact fun cx t w k h=>(Bool.false_ne_true h).elim
 | seq a b iha ihb =>
  intro cx t w k h;obtain⟨x,t1,w1,hk,h1⟩:=iha cx t w _ h;have ok:∀{N},yO ng N (.seq a b)=true→yO ng N a=true∧yO ng N b=true:=fun h=>Bool.and_eq_true_iff.1 h
  have pass:x≠.normal→CodeTo P ng (.seq a b) cx t w x t1 w1:=fun hx hc fr k=>
   zP (fun _ _ _=>stepR_seq) ((h1 (ok hc).1 fr (.code b::k)).pass hx (fun _ _=>rfl) (fun _ _=>rfl))
  cases x with
  | normal=>
   obtain⟨x2,t2,w2,hk2,h2⟩:=ihb cx t1 w1 k hk;exact⟨x2,t2,w2,hk2,fun hc fr k=>zP (fun _ _ _=>stepR_seq) ((h1 (ok hc).1 fr (.code b::k)).trans (h2 (ok hc).2 fr k))⟩
  | exit i=>exact⟨_,t1,w1,hk,pass AX.noConfusion⟩
  | goto i=>exact⟨_,t1,w1,hk,pass AX.noConfusion⟩
  | ret=>exact⟨_,t1,w1,hk,pass AX.noConfusion⟩
  | panic c=>exact⟨_,t1,w1,hk,pass AX.noConfusion⟩
 | cond c a b iha ihb =>
  intro cx t w k h;have h':onBool (ev t c) (fun q=>Bool.rec (xcode P lo b cx t w k) (xcode P lo a cx t w k) q) false=true:=h;rcases onBool_some h' with⟨q,hq,h2⟩|h2
  case inr=>cases h2
  have fin:∀{x t' w'},CodeTo P ng (if q then a else b) cx t w x t' w'→CodeTo P ng (.cond c a b) cx t w x t' w':=by
   intro x t' w' hc hok fr k ρ base w0 ac wd cs hI;obtain⟨o1,o2⟩:=Bool.and_eq_true_iff.1 hok;obtain⟨o2,o3⟩:=Bool.and_eq_true_iff.1 o2;have hr:=ev_rv hI.hp hI.tm o1;rw [hq]at hr;have hr:=hr.of_bool;obtain⟨ρ',a',wd',cs',h1,h2,h3,h4⟩:=hc (by cases q <;> assumption) fr k ρ base w0 ac wd cs hI;exact⟨ρ',a',wd',cs',h1,h2,h3,h4.of_steps (.one (stepR_cond hr))⟩
  cases q with
  | true=>obtain⟨x,t',w',hk,h3⟩:=iha cx t w k h2;exact⟨x,t',w',hk,fin h3⟩
  | false=>obtain⟨x,t',w',hk,h3⟩:=ihb cx t w k h2;exact⟨x,t',w',hk,fin h3⟩
 | block id b ih =>
  intro cx t w k h;obtain⟨x,t1,w1,hk,h1⟩:=ih cx t w _ h;have ok:∀{N},yO ng N (.block id b)=true→yO ng N b=true:=fun h=>h
  have pass:x≠.normal→(∀i,x = .exit i→i≠id)→CodeTo P ng (.block id b) cx t w x t1 w1:=fun hx hi hc fr k=>
   zP (fun _ _ _=>stepR_block) ((h1 (ok hc) fr (.inBlock id::k)).pass hx (fun i e=>by
    have:(id == i)=false:=by simpa using fun e2=>hi i e e2.symm
    simp[exitTo,this]) (fun _ _=>rfl))
  cases x with
  | normal=>exact⟨.normal,t1,w1,hk,fun hc fr k=>zP (fun _ _ _=>stepR_block) ((h1 (ok hc) fr (.inBlock id::k)).trans (zP (fun _ _ _=>stepR_inBlock) (wE fr k cx t1 w1)))⟩
  | exit i =>
   have hk':(Bool.rec (k (.exit i) t1 w1) (k .normal t1 w1) (Nat.beq i id):Bool)=true:=hk
   cases hi:Nat.beq i id with
   | true=>
    rw[hi]at hk';obtain rfl:=zG hi;exact⟨.normal,t1,w1,hk',fun hc fr k=>zP (fun _ _ _=>stepR_block) (leads_block (h1 (ok hc) fr (.inBlock i::k)))⟩
   | false =>
    rw[hi]at hk'
    exact⟨_,t1,w1,hk',pass AX.noConfusion fun j e e2=>by
     injection e with e
     subst e e2;rw [Nat.beq_refl]at hi;cases hi⟩
  | goto i=>exact⟨_,t1,w1,hk,pass AX.noConfusion fun _ e=>by cases e⟩
  | ret=>exact⟨_,t1,w1,hk,pass AX.noConfusion fun _ e=>by cases e⟩
  | panic c=>exact⟨_,t1,w1,hk,pass AX.noConfusion fun _ e=>by cases e⟩
 | loop b ih =>
  intro cx t w k h;obtain⟨x,t1,w1,hk,h1⟩:=ih cx t w _ h
  have pass:x≠.normal→CodeTo P ng (.loop b) cx t w x t1 w1:=fun hx hc fr k=>
   zP (fun _ _ _=>stepR_loop) ((h1 hc fr (.inLoop b::k)).pass hx (fun _ _=>rfl) (fun _ _=>rfl))
  cases x with
  | normal =>
   obtain⟨x2,t2,w2,hk2,h2⟩:=hS.code _ _ _ _ _ hk
   exact⟨x2,t2,w2,hk2,fun hc fr k=>zP (fun _ _ _=>stepR_loop)
    ((h1 hc fr (.inLoop b::k)).trans (zP (fun _ _ _=>stepR_inLoop) (leads_unloop (h2 hc fr k))))⟩
  | exit i=>exact⟨_,t1,w1,hk,pass AX.noConfusion⟩
  | goto i=>exact⟨_,t1,w1,hk,pass AX.noConfusion⟩
  | ret=>exact⟨_,t1,w1,hk,pass AX.noConfusion⟩
  | panic c=>exact⟨_,t1,w1,hk,pass AX.noConfusion⟩
 | scope b ih =>
  intro cx t w k h;obtain⟨x,t1,w1,hk,h1⟩:=ih cx t w _ h
  have pass:x≠.normal→(∀l,x≠.goto l)→CodeTo P ng (.scope b) cx t w x t1 w1:=fun hx hg hc fr k=>
   zP (fun _ _ _=>stepR_scope) ((h1 hc fr (.inScope b::k)).pass hx (fun _ _=>rfl) (fun l e=>absurd e (hg l)))
  cases x with
  | normal=>exact⟨.normal,t1,w1,hk,fun hc fr k=>zP (fun _ _ _=>stepR_scope) ((h1 hc fr (.inScope b::k)).trans (zP (fun _ _ _=>stepR_inScope) (wE fr k cx t1 w1)))⟩
  | exit i=>exact⟨_,t1,w1,hk,pass AX.noConfusion fun _=>AX.noConfusion⟩
  | goto i=>exact(Bool.false_ne_true hk).elim
  | ret=>exact⟨_,t1,w1,hk,pass AX.noConfusion fun _=>AX.noConfusion⟩
  | panic c=>exact⟨_,t1,w1,hk,pass AX.noConfusion fun _=>AX.noConfusion⟩
end
end Go.Ex
namespace Go.Ex
section
variable {P:Program} {ng:Nat}
def pushed(P:Program):Next→Option Frame
 | .enter f args=>some (Frame.enter P f args .normal)
 | .round l f tmps a b=>some (Frame.round l f tmps a b .normal)
 | _=>none
def InvTo(P:Program)(ng:Nat)(f:Value)(args:List Value)(h:zB)(n:Nat)(o:Out)(h':zB)(n':Nat):Prop:=
 ∀(ρ : Inj) (base:Nat) (w0 wd:World) (f':Value) (args':List Value),HeapR P ng ρ base w0 h n wd→RV ρ f f'→RVs ρ args args'→
  ∃d nx fr,(Deferred.ofValue f' ⟨args'⟩).run P wd = .ok d wd∧(invoke d.target d.args).run P wd = .ok nx wd∧pushed P nx=some fr∧
   ∀(c:Frame) (cs:List Frame),∃ρ' wd',HeapR P ng ρ' base w0 h' n' wd'∧Grow ρ h n wd ρ' h' n' wd'∧Back P (lone fr (c::cs) wd) c cs wd' ρ' o
theorem callFunc_enter {f:FuncId} {fn:Func} {body:Code} (hf:P.funcs[f]? = some fn) (hb:fn.body=some body) (hn:(fn.name == "runtime.NumGoroutine")=false) (args:Array Value) (wd:World) :
 (callFunc f args).run P wd = .ok (.enter f args) wd:=by
 have hn':fn.name≠ "runtime.NumGoroutine" :=by simpa using hn
 simp only[callFunc,program,Sem.run_bind];simp [Sem.run,hf,hb,hn']
theorem leaves_back{m:Machine}{fr c:Frame}{cs:List Frame}{wd:World}{ρ : Inj}{o:Out}(hs:Steps P m (lone fr (c::cs) wd))(hl:Leaves P fr wd ρ false o):Back P m c cs wd ρ o:=by
 cases o with
 | ret v=>
  obtain⟨v',h1,h2,h3,h4,h5⟩:=hl;refine⟨v',h5,hs.trans (.one ?_)⟩;exact step_leave_returned ⟨h1,h2,h3,h4⟩
 | panic ch=>
  obtain⟨c',h1,h2,h3,h4⟩:=hl;refine⟨c',h4,hs.trans (.one ?_)⟩;exact step_leave_panicked ⟨h1,h2,h3⟩
theorem xinvoke_ok{lo:Lo}(hS:Sound P ng lo){f:Value}{args:List Value}{h:zB}{n:Nat}{k:Value→zB→Nat→Bool}{kp:zJ→zB→Nat→Bool}(hx:xinvoke lo f args h n k kp=true) :
 ∃o h' n',(Out.rec (motive:=fun _=>Bool) (fun v=>k v h' n') (fun c=>kp c h' n') o)=true∧InvTo P ng f args h n o h' n':=by
 unfold xinvoke at hx;split at hx
 · rename_i g first cap;obtain⟨o,u',h',n',hk,⟨fn,body,e1,e2,e3⟩,hc⟩:=hS.call _ _ _ _ _ _ _ hx;refine⟨o,h',n',hk,fun ρ base w0 wd f' args' hH hf ha=>?_⟩
   cases hf with
   | func hy hfl hcl f1 c1=>
    rename_i first' cap';have r1:(Deferred.ofValue (.func (.func g) first' cap') ⟨args'⟩).run P wd = .ok { target:=.fn (.func g) cap',args:=first'++⟨args'⟩ } wd:=by simp[Deferred.ofValue]
    have r2:(invoke (.fn (.func g) cap') (first'++⟨args'⟩)).run P wd = .ok (.enter g (first'++⟨args'⟩++cap')) wd:=callFunc_enter e1 e2 e3 _ wd;refine⟨{ target:=.fn (.func g) cap',args:=first'++⟨args'⟩ },.enter g (first'++⟨args'⟩++cap'),Frame.enter P g (first'++⟨args'⟩++cap') .normal,r1,r2,by simp only[pushed],fun c cs=>?_⟩
    · have hr:RVs ρ (first.toList++(args++cap.toList)) (first'.toList++(args'++cap'.toList)):=RVs.append ⟨hfl,f1⟩ (ha.append ⟨hcl,c1⟩);obtain⟨ρ',wd',fr,cs',s1,s2,s3,s4,s5,s6,s7⟩:=hc ρ base w0 wd _ (c::cs) hH hr (fun e=>by cases e)
      have hcs:cs'=c::cs:=by
       rcases s4 with e|⟨e,_⟩
       · exact e
       · cases e
      subst hcs
      have earr:(first'++(⟨args'⟩:Array Value)++cap')=⟨first'.toList++(args'++cap'.toList)⟩:=by
       apply Array.toList_inj.1;simp
      refine⟨ρ',wd',s2,s3,?_⟩;rw [earr];exact leaves_back s1 s7
 · rename_i l first cap;obtain⟨o,h',n',hk,hc⟩:=hS.round _ _ _ _ _ hx;refine⟨o,h',n',by cases o <;> exact hk,fun ρ base w0 wd f' args' hH hf ha=>?_⟩
   cases hf with
   | func hy=>exact absurd rfl (hy l)
   | yield hl=>
    rename_i B;obtain⟨f,tmps,asg,body,q1,_⟩:=hc ρ base w0 wd args' B default [] hH hl (by simpa using ha);have r1:(Deferred.ofValue (.func (.yield B.b) #[] #[]) ⟨args'⟩).run P wd = .ok { target:=.fn (.yield B.b) #[],args:=⟨args'⟩ } wd:=by simp[Deferred.ofValue]
    have r2:(invoke (.fn (.yield B.b) #[]) ⟨args'⟩).run P wd = .ok (.round B.b f tmps asg body) wd:=q1;refine⟨{ target:=.fn (.yield B.b) #[],args:=⟨args'⟩ },.round B.b f tmps asg body,Frame.round B.b f tmps asg body .normal,r1,r2,by simp only[pushed],fun c cs=>?_⟩
    · obtain⟨f2,tmps2,asg2,body2,q2,ρ',wd',q3,q4,q5⟩:=hc ρ base w0 wd args' B c cs hH hl (by simpa using ha);rw [q1]at q2;injection q2 with q2 _
      injection q2 with _ q6 q7 q8 q9
      subst q6 q7 q8 q9;exact⟨ρ',wd',q3,q4,q5⟩
 · cases hx
theorem bodyOf_some{f:FuncId}{fn:Func}{body:Code}(h:bodyOf P f=some (fn,body)):P.funcs[f]? = some fn∧fn.body=some body:=by
 unfold bodyOf at h;split at h
 · rename_i fn2 e;split at h
   · rename_i b e2;injection h with h
     injection h with h1 h2
     subst h1 h2;have:=tab_some e;exact⟨by rw[← Array.getElem?_toList];exact this,e2⟩
   · cases h
 · cases h
theorem fn_ok(hP:yH ng P=true){f:FuncId}{fn:Func}(h:P.funcs[f]? = some fn):fnOK ng fn=true:=by
 unfold yH at hP;refine List.all_eq_true.1 (Bool.and_eq_true_iff.1 hP).1 fn ?_;rw [← Array.getElem?_toList]at h;exact List.mem_iff_getElem?.2 ⟨f,h⟩
theorem body_ok(hP:yH ng P=true){f:FuncId}{fn:Func}{body:Code}(h:P.funcs[f]? = some fn)(hb:fn.body=some body) :
 yO ng fn.ntmps body=true∧(fn.name == "runtime.NumGoroutine")=false:=by
 have h1:=fn_ok hP h;unfold fnOK at h1;rw [hb]at h1;have h2:=(Bool.and_eq_true_iff.1 h1).1;obtain⟨h3,h4⟩:=Bool.and_eq_true_iff.1 h2;refine⟨h3,?_⟩;simpa [bne] using h4
theorem ntm_eq{f:FuncId}{fn:Func}(h:P.funcs[f]? = some fn):ntm P f=fn.ntmps:=by simp[ntm,h]
theorem args0_true{t:Fr}{i:Nat}{l:List Value}{k:Fr→Bool}(h:args0 t i l k=true):k (Tr.ofListFrom undef t i l)=true:=by
 induction l generalizing t i with
 | nil=>exact h
 | cons v r ih=>
  have h':(xA v fun v=>fsetK t i v fun t=>args0 t (Nat.succ i) r k)=true:=h;rw [yI]at h';unfold fsetK at h';rw [Tr.setK_eq]at h';exact ih h'
theorem xcall_ok{lo:Lo}(hP:yH ng P=true)(hS:Sound P ng lo){f:FuncId}{args:List Value}{df:Bool}{u:Option zJ}{h:zB}{n:Nat}{k:KO}(hx:xcall P lo f args df u h n k=true) :
 ∃o u' h' n',k o u' h' n'=true∧CallTo P ng f args df u h n o u' h' n':=by
 unfold xcall at hx
 cases hb:bodyOf P f with
 | none=>rw [hb]at hx;cases hx
 | some p =>
  obtain⟨fn,body⟩:=p;rw [hb]at hx;obtain⟨e1,e2⟩:=bodyOf_some hb;obtain⟨e3,e4⟩:=body_ok hP e1 e2
  have hx1:(Bool.rec false (args0 fr0 0 args fun t=>
   lo.code body ⟨f,none,df⟩ t ⟨[],u,h,n⟩ fun x t w=>AX.rec (lo.leave fn none t w k) (fun _=>false) (fun _=>false) (lo.leave fn none t w k) (fun c=>lo.leave fn (some c) t w k) x) (Nat.ble args.length fn.ntmps):Bool)=true:=hx
  have hlen:Nat.ble args.length fn.ntmps=true:=by
   cases e:Nat.ble args.length fn.ntmps with
   | true=>rfl
   | false=>rw [e]at hx1;cases hx1
  rw[hlen]at hx1;have hlen:=yQ hlen;have hx2:=args0_true hx1;obtain⟨x,t',w',hk,hc⟩:=hS.code _ _ _ _ _ hx2;rw [← ntm_eq e1]at e3
  have start:∀(ρ : Inj) (base:Nat) (w0 wd:World) (args':List Value) (cs:List Frame),HeapR P ng ρ base w0 h n wd→RVs ρ args args'→UR ρ df u cs→
   ∃(b:Frame) (a:Act),b.fn=f∧b.roundOf=none∧Frame.enter P f ⟨args'⟩ (kindOfDf df)=b.atR a [.code body]∧
    In P ng ρ base w0 b a wd cs ⟨f,none,df⟩ (Tr.ofListFrom undef fr0 0 args) ⟨[],u,h,n⟩:=by
   intro ρ base w0 wd args' cs hH ha hu;refine⟨{ (default:Frame) with fn:=f,kind:=kindOfDf df,roundOf:=none },{ tmps:=(⟨args'⟩:Array Value)++Array.replicate (fn.ntmps - args'.length) undef,defers:=[] },rfl,rfl,?_,?_⟩
   · simp[Frame.enter,Frame.atR,e1,e2]
   · refine⟨rfl,rfl,trivial,(fun e=>by cases e),⟨?_,?_⟩,hH,.nil,hu,fn,e1⟩
     · show((⟨args'⟩:Array Value)++Array.replicate (fn.ntmps - args'.length) undef).size=ntm P f;have:=ha.1;rw [ntm_eq e1];simp;omega
     · intro i v hv;have hv:((⟨args'⟩:Array Value)++Array.replicate (fn.ntmps - args'.length) undef)[i]? = some v:=hv;unfold fget;rw [Tr.get_ofListFrom];rw [← Array.getElem?_toList,Array.toList_append]at hv;by_cases hi:i<args'.length
       · rw[if_pos ⟨Nat.zero_le _,by have:=ha.1;omega⟩];rw [List.getElem?_append_left (by simpa using hi)]at hv;have hl:i<args.length:=by have:=ha.1;omega
         have:args[i]? = some (args.getD (i - 0) undef):=by simp[List.getElem?_eq_getElem hl]
         exact ha.2 i _ v this (by simpa using hv)
       · rw[if_neg (by have:=ha.1;omega)];rw [List.getElem?_append_right (by simpa using hi)]at hv
         have:v=undef:=by
          simp[List.getElem?_replicate]at hv;exact hv.2.symm
         subst this
         have hg:Tr.get undef fr0 i=undef:=by
          unfold fr0;exact Tr.get_leaf _ _
         rw[hg];exact RV.undef ρ
  have fin:∀{mode:Option zJ},lo.leave fn mode t' w' k=true→(Lost x w'→mode.isSome=true∧w'.d=[])→(∀(b:Frame) (ρ : Inj) (a:Act) (wd:World) (cs:List Frame) (m0:Machine),b.roundOf=none→Arr P m0 b [] cs ρ a wd x→∃k2 m,ModeR ρ mode m∧Steps P m0 (lone { b.atR a k2 with mode:=m } cs wd))→
   ∃o u' h' n',k o u' h' n'=true∧CallTo P ng f args df u h n o u' h' n':=by
   intro mode hl hlost hm;obtain⟨o,u',h',n',k1,hl2⟩:=hS.leave _ _ _ _ _ hl;refine⟨o,u',h',n',k1,⟨fn,body,e1,e2,e4⟩,fun ρ base w0 wd args' cs hH ha hu=>?_⟩;obtain⟨b,a,b1,b2,b3,hI⟩:=start ρ base w0 wd args' cs hH ha hu;obtain⟨ρ1,a1,wd1,cs1,i1,g1,c1,r1⟩:=hc e3 b [] ρ base w0 a wd cs hI;obtain⟨k2,m,hmode,hst⟩:=hm b ρ1 a1 wd1 cs1 _ b2 r1;have i2:InE P ng (mode.isSome=true∧w'.d=[]) ρ1 base w0 b a1 wd1 cs1 ⟨b.fn,none,df⟩ t' w':=by rw[b1];exact i1.mono hlost
   obtain⟨ρ2,wd2,fr,cs2,s1,s2,s3,s4,s5,s6,s7⟩:=hl2 ρ1 base w0 b a1 wd1 cs1 df i2 (by rw[b1];exact e1) k2 m hmode;refine⟨ρ2,wd2,fr,cs2,?_,s2,g1.trans s3,c1.trans s4,s5,s6.trans b1,s7⟩;rw [b3];exact hst.trans s1
  cases x with
  | normal=>exact fin (mode:=none) hk (fun h=>h.elim) fun b ρ a wd cs m0 hb hr=>⟨[],.returning,rfl,Steps.trans hr (.one (stepR_end hb))⟩
  | ret =>
   exact fin (mode:=none) hk (fun h=>h.elim) fun b ρ a wd cs m0 hb hr=>by
    obtain⟨k2,s⟩:=hr;exact⟨.code .ret::k2,.returning,rfl,s.trans (.one (stepR_ret hb))⟩
  | panic c =>
   exact fin (mode:=some c) hk (fun h=>⟨rfl,h⟩) fun b ρ a wd cs m0 hb hr=>by
    obtain⟨k2,c',hcr,s⟩:=hr;exact⟨k2,.panicking c',⟨c',rfl,hcr⟩,s⟩
  | exit i=>exact(Bool.false_ne_true hk).elim
  | goto i=>exact(Bool.false_ne_true hk).elim
end
end Go.Ex
