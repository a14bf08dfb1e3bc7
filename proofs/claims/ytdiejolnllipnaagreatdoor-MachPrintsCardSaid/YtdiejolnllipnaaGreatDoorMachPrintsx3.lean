/- What the law leans on, part 3 of 24. Conditions: those that each theorem states. -/
import Derived.Test.YtdiejolnllipnaaGreatDoorMachPrintsx2
import Derived.WideKeyRuns
import Derived.Laws.CopyRow

set_option linter.unusedVariables false
set_option linter.unusedSimpArgs false
namespace Go.Ex
section
section
variable {P:Program} {ng:Nat} {ρ : Inj} {base:Nat} {w0:World} {hp:zB} {n:Nat} {wd:World}
theorem un_ok{op:UnOp}{x x':Value}(hx:RV ρ x x'){v:Value}(h:aUn op x=some v):∃v',(Op.unary op x').run P wd = .ok v' wd/\RV ρ v v':=by
 unfold aUn at h;split at h
 . injection h with h;subst h
   obtain rfl:=hx.of_int;refine⟨_,?_,RV.int _ _⟩;simp [Op.unary,Op.intArith,wU,isub_eq]
 . injection h with h;subst h
   obtain rfl:=hx.of_bool;exact⟨_,rfl,RV.bool _⟩
 . cases h
theorem convert_ok{src dst:TypeId}{x x':Value}(hx:RV ρ x x')(hs:∃d,und P src=some d){v:Value}(h:sY P dst x=some v) :
 ∃v',(convert src dst x').run P wd = .ok v' wd/\RV ρ v v':=by
 obtain⟨d,hd⟩:=hs;unfold sY at h;split at h
 . rename_i k k' m hdst;injection h with h;subst h
   obtain rfl:=hx.of_int;refine⟨_,?_,RV.int _ _⟩;simp only[convert,Sem.run_bind,zR hd,zR hdst,Result.andThen_ok];cases d <;> simp[Conv.intToInt,wU]
 . rename_i s hdst;injection h with h;subst h
   obtain rfl:=hx.of_string;refine⟨_,?_,RV.string _⟩;simp only[convert,Sem.run_bind,zR hd,zR hdst,Result.andThen_ok];cases d <;> rfl
 . cases h
theorem scalEq_now{kd:TypeDesc}{k k':Value}{r:Bool}(hk:uD kd k=true)(h:wH k k'=some r):Instr.sameNow kd k k'=some r:=by
 unfold uD at hk;split at hk
 . rename_i kk k2 a;cases k' <;> simp only[wH]at h <;> first|(cases h;done)|skip
   rename_i k3 b
   cases hq:tJ k2 k3 with
   | false=>rw [hq]at h;cases h
   | true=>
    rw[hq]at h;injection h with h;subst h
    obtain rfl:=sG hq;simp [Instr.sameNow,wQ];rfl
 . rename_i s;cases k' <;> simp only[wH]at h <;> first|(cases h;done)|skip
   injection h with h;subst h
   simp[Instr.sameNow,tV,beq_toListBytes,ByteArray.toList_eq]
 . rename_i b;cases k' <;> simp only[wH]at h <;> first|(cases h;done)|skip
   injection h with h;subst h
   simp only[Instr.sameNow];rename_i b';cases b <;> cases b' <;> rfl
 . cases hk
def FR(ρ : Inj)(r r':Option (Nat×Value)):Prop:=
 match r,r' with
 | none,none=>True
 | some (i,v),some (j,v')=>i=j/\RV ρ v v'
 | _,_=>False
theorem keyEq_scal{k k':Value}(h:∀a,k≠.agg a):keyEq k k'=wH k k':=by
 cases k <;> first|(exact absurd rfl (h _))|(cases k' <;> rfl)
theorem scal_noagg{kd:TypeDesc}{k:Value}(hk:uD kd k=true):∀a,k≠.agg a:=by
 intro a e;subst e;cases kd <;> cases hk
theorem rW{kd:TypeDesc}{k:Value}(h:keyT P kd k=true):uD kd k=true\/
 ∃len e cs ed ei,kd = .array len e/\k = .agg cs/\und P e=some ed/\inf? P e=some ei/\ei.size=1/\cs.toList.length=len/\∀x∈cs.toList,uD ed x=true:=by
 unfold keyT at h;split at h
 . rename_i len e cs;split at h
   . rename_i ed ei h1 h2;obtain⟨g1,g2⟩:=ak.1 h;obtain⟨g2,g3⟩:=ak.1 g2;exact .inr ⟨len,e,cs,ed,ei,rfl,rfl,h1,h2,zT g1,zT g2,aH.1 g3⟩
   . cases h
 . exact .inl h
theorem find_ok{kd:TypeDesc}{k:Value}(hk:uD kd k=true):∀{es es':List MapEntry},EsR ρ es es'->∀{i:Nat} {r:Option (Nat×Value)},findE k es i=some r->
 ∃r',Instr.findNow kd k es' i=some r'/\FR ρ r r':=by
 intro es
 induction es with
 | nil=>
  intro es' he i r h;have:es'=[]:=by have:=he.1;cases es' <;> simp_all
  subst this;simp only[findE]at h;injection h with h;subst h
  exact⟨none,rfl,trivial⟩
 | cons e es ih =>
  intro es' he i r h
  cases es' with
  | nil=>have:=he.1;simp at this
  | cons e' es' =>
   obtain⟨hk1,fC,fP⟩:=he.2 0 e e' rfl rfl;have ip:EsR ρ es es':=⟨by have:=he.1;simpa using this,λj a b h1 h2=>he.2 (j+1) a b (by simpa using h1) (by simpa using h2)⟩;simp only[findE]at h;rw [keyEq_scal (scal_noagg hk)]at h
   cases hs:wH k e.key with
   | none=>rw [hs]at h;cases h
   | some b =>
    rw[hs]at h;have hn:=scalEq_now hk hs
    cases b with
    | true=>
     dsimp only at h;injection h with h;subst h
     refine⟨some (i,e'.val),?_,rfl,fC⟩;simp only[Instr.findNow,hk1,hn]
    | false=>
     dsimp only at h;obtain⟨r',h1,h2⟩:=ih ip h;refine⟨r',?_,h2⟩;simp only[Instr.findNow,hk1,hn];exact h1
theorem scalsEq_items{ed:TypeDesc}{e:TypeId}(hd:und P e=some ed){xs ys:Array Value}(hx:∀x∈xs.toList,uD ed x=true):∀(j i:Nat),i+j=xs.toList.length->∀{r:Bool},scalsEq (xs.toList.drop i) (ys.toList.drop i)=some r->∀d,
 (Op.eqItems (d+1) e 1 xs ys (List.range' i j)).run P wd = .ok r wd:=by
 intro j
 induction j with
 | zero=>
  intro i hi r h d;rw [List.drop_eq_nil_of_le qJ]at h
  cases hy:ys.toList.drop i with
  | nil=>rw [hy]at h;injection h with h;subst h;simp [Op.eqItems]
  | cons _ _=>rw [hy]at h;cases h
 | succ j ih =>
  intro i hi r h d;have eD:i<xs.toList.length:=by omega
  rw[du eD]at h
  cases hy:ys.toList.drop i with
  | nil=>rw [hy]at h;cases h
  | cons y yr =>
   have eK:i<ys.toList.length:=by
    rcases aS i ys.toList.length with h1|h1
    . exact h1
    . rw[List.drop_eq_nil_of_le h1]at hy;cases hy
   rw[du eK]at hy;injection hy with hy1 hy2
   rw[du eK]at h;simp only[scalsEq]at h;have hs:=hx _ (aM eD);have pk:=uG hd hs;have p1:=run_part_plain (P:=P) wd pk (xs:=xs) (off:=i*1) (by rw[aQ,<- aO];exact aa eD);have p2:=run_part_plain (P:=P) wd pk (xs:=ys) (off:=i*1) (by rw[aQ,<- aO];exact aa eK)
   cases hq:wH (xs.toList[i]) (ys.toList[i]) with
   | none=>rw [hq]at h;cases h
   | some b =>
    rw[hq]at h;have p3:=scalEq_run (wd:=wd) hd hs hq d;rw [List.range'_succ]
    cases b with
    | true=>
     simp only[Op.eqItems,Sem.run_bind,p1,p2,p3,Result.andThen_ok];simpa using ih (i+1) qJ  h d
    | false=>
     injection h with h;subst h
     simp only[Op.eqItems,Sem.run_bind,p1,p2,p3,Result.andThen_ok];simp
theorem keyEq_run{len:Nat}{e kt:TypeId}{cs:Array Value}{ed:TypeDesc}{ei:TypeInfo}(hkt:und P kt=some (.array len e))(hd:und P e=some ed)(hi:inf? P e=some ei)(h1:ei.size=1)(hl:cs.toList.length=len)
(hx:∀x∈cs.toList,uD ed x=true){k':Value}{r:Bool}(h:keyEq (.agg cs) k'=some r):(Op.equal kt (.agg cs) k').run P wd = .ok r wd:=by
 cases k' <;> first|(cases h;done)|skip
 rename_i ys;have h':scalsEq cs.toList ys.toList=some r:=h;have:=scalsEq_items (wd:=wd) hd hx len 0 qJ  (ys:=ys) h' 9998;have hc:P.cellsOf e=1:=by simp[Program.cellsOf,(xY hi).2,h1]
 show(Op.equalIn 10000 kt (.agg cs) (.agg ys)).run P wd=_;rw [run_equalIn_array wd 9999 cs ys (wI hkt) (xY hi).2,hc,List.range_eq_range'];exact this
theorem check_ok{kd:TypeDesc}{kt:TypeId}{k:Value}(hd:und P kt=some kd)(hk:keyT P kd k=true)(empty:Bool)(m:Nat):(Instr.checkKey empty (m+2) kt k).run P wd = .ok () wd:=by
 rcases rW hk with hk|⟨len,e,cs,ed,ei,rfl,rfl,h1,h2,h3,h4,h5⟩
 . unfold uD at hk;split at hk
   all_goals first
    | (cases hk;done)
    | simp[Instr.checkKey,zR hd]
 . rw[Instr.checkKey];simp only[Sem.run_bind,zR hd,Result.andThen_ok];simp only[Std.Legacy.Range.forIn_eq_forIn_range',Std.Legacy.Range.size,Nat.sub_zero,Nat.add_one_sub_one,Nat.div_one]
   have each:∀i∈List.range' 0 len,i<cs.toList.length:=λi hi=>by
    have:=List.mem_range'_1.1 hi;omega
   generalize List.range' 0 len=is at each
   induction is with
   | nil=>simp
   | cons j is ih =>
    have eD:=each j qL;have hs:=h5 _ (aM eD);have hc:P.cellsOf e=1:=by simp[Program.cellsOf,(xY h2).2,h3]
    have p1:=run_part_plain (P:=P) wd (uG h1 hs) (xs:=cs) (off:=j*P.cellsOf e) (by rw[hc,aQ,<- aO];exact aa eD)
    have p2:(Instr.checkKey empty (m+1) e (cs.toList[j])).run P wd = .ok () wd:=by
     generalize cs.toList[j]=x at hs
     unfold uD at hs;split at hs
     all_goals first
      | (cases hs;done)
      | simp[Instr.checkKey,zR h1]
    simp only[List.forIn_cons,Sem.run_bind,run_sizeOf wd (xY h2).2,Result.andThen_ok,p1,p2,Sem.run_pure];exact ih (λy hy=>each y (by simp[hy]))
theorem findKey_ok{kd:TypeDesc}{kt:TypeId}{k:Value}(hd:und P kt=some kd)(hk:keyT P kd k=true){es es':List MapEntry}(he:EsR ρ es es'){r:Option (Nat×Value)}(h:findE k es 0=some r) :
 ∃r',(Instr.findKey kt k es').run P wd = .ok r' wd/\FR ρ r r':=by
 rcases rW hk with hk|⟨len,e,cs,ed,ei,rfl,rfl,h1,h2,h3,h4,h5⟩
 . obtain⟨r',h1,h2⟩:=find_ok hk he h;exact⟨r',by simp[Instr.findKey,zR hd,h1],h2⟩
 . rw[run_findKey_eq wd (by rw[wI hd])]
   have key:∀{es es':List MapEntry},EsR ρ es es'->∀{i:Nat} {r:Option (Nat×Value)},findE (.agg cs) es i=some r->∃r',(Instr.findAsking kt (.agg cs) es' i).run P wd = .ok r' wd/\FR ρ r r':=by
    intro es
    induction es with
    | nil=>
     intro es' he i r h;have:es'=[]:=by have:=he.1;cases es' <;> simp_all
     subst this;simp only[findE]at h;injection h with h;subst h
     exact⟨none,by simp[Instr.findAsking],trivial⟩
    | cons f es ih =>
     intro es' he i r h
     cases es' with
     | nil=>have:=he.1;simp at this
     | cons f' es' =>
      obtain⟨hk1,fC,fP⟩:=he.2 0 f f' rfl rfl;have ip:EsR ρ es es':=⟨by have:=he.1;simpa using this,λj a b h1 h2=>he.2 (j+1) a b (by simpa using h1) (by simpa using h2)⟩;simp only[findE]at h
      cases hs:keyEq (.agg cs) f.key with
      | none=>rw [hs]at h;cases h
      | some b =>
       rw[hs]at h;have hn:=keyEq_run (wd:=wd) hd h1 h2 h3 h4 h5 hs
       cases b with
       | true=>
        dsimp only at h;injection h with h;subst h
        exact⟨some (i,f'.val),by simp[Instr.findAsking,hk1,hn],rfl,fC⟩
       | false=>
        dsimp only at h;obtain⟨r',g1,g2⟩:=ih ip h;exact⟨r',by simp[Instr.findAsking,hk1,hn,g1],g2⟩
   exact key he h
theorem scal_same{kd:TypeDesc}{k k':Value}(hk:keyT P kd k=true)(hr:RV ρ k k'):k'=k:=by
 rcases rW hk with hk|⟨len,e,cs,ed,ei,rfl,rfl,h1,h2,h3,h4,h5⟩
 . exact scal_rv hk hr
 . obtain⟨c',rfl,hc⟩:=hr.of_agg
   have:c'.toList=cs.toList:=by
    apply dy;intro i;rcases aS i cs.toList.length with eD|eD
    . obtain⟨v',e1,e2⟩:=rvs_at hc (aa eD);rw [e1,aa eD,scal_rv (h5 _ (aM eD)) e2]
    . rw[aw (by rw[<- hc.1];exact eD),aw eD]
   rw[cJ.1 this]
theorem map_at(hH:HeapR P ng ρ base w0 hp n wd){r:Nat}{B:Bl}(hb: ρ r=some B){es:List MapEntry}{clock:Nat}(hg:zG hp r = .map es clock) :
 ∃es',wd.heap[B.b]? = some (.map ⟨es'⟩ clock)/\EsR ρ es es'/\base<=B.b:=by
 obtain⟨o,e1,e2⟩:=hH.obj r B hb (by rw[hg];exact AObj.noConfusion);rw [hg]at e2
 cases e2 with
 | map he fg=>exact⟨_,e1,he,fg⟩
theorem rX{r:Nat}{es':List MapEntry}{clock:Nat}(h:wd.heap[r]? = some (.map ⟨es'⟩ clock)):(getObj r).run P wd = .ok (.map ⟨es'⟩ clock) wd:=by
 simp[getObj,Sem.run,h]
theorem lookup_ok(hP:xC ng P=true)(hH:HeapR P ng ρ base w0 hp n wd){ty:TypeId}{x x' k k':Value}{ok:Bool}(hx:RV ρ x x')(hk:RV ρ k k'){v:Value}(h:xG P hp ty x k ok=some v) :
 ∃v',(Instr.lookup ty x' k' ok).run P wd = .ok v' wd/\RV ρ v v':=by
 unfold xG at h;split at h
 case h_2=>cases h
 rename_i kt et hd;split at h
 case h_2=>cases h
 rename_i kd z fU hz
 cases hs:keyT P kd k with
 | false=>rw [hs]at h;cases h
 | true =>
  rw[hs]at h;dsimp only[cond]at h;obtain rfl:=scal_same hs hk;have hzp:=tT hP hz
  have mk:∀(w w':Value) (b:Bool),RV ρ w w'->RV ρ (cond ok (.tuple #[w,.bool b]) w) (if ok=true then .tuple #[w',.bool b] else w'):=by
   intro w w' b hr
   cases ok with
   | true=>exact RV.mk_tuple (RVs.cons hr (RVs.cons (RV.bool b) (RVs.nil ρ)))
   | false=>exact hr
  split at h
  . injection h with h;subst h
    cases hx
    refine⟨_,?_,mk z z false (RV.plain hzp ρ)⟩;simp [Instr.lookup,zR hd,check_ok fU hs true 9998,Instr.findKey,zR fU,Instr.findNow,vV hz]
  . rename_i r;obtain⟨B,hb,rfl⟩:=hx.of_map;split at h
    . rename_i es clock hg;obtain⟨es',e1,he,_⟩:=map_at hH hb hg;have hck:=check_ok (wd:=wd) fU hs;split at h
      . rename_i i w hf;injection h with h;subst h
        obtain⟨r',h1,h2⟩:=findKey_ok (wd:=wd) fU hs he hf
        cases r' with
        | none=>exact h2.elim
        | some p=>
         obtain⟨j,w'⟩:=p;refine⟨_,?_,mk w w' true h2.2⟩;simp [Instr.lookup,zR hd,rX e1,hck _ 9998,h1]
      . rename_i hf;injection h with h;subst h
        obtain⟨r',h1,h2⟩:=findKey_ok (wd:=wd) fU hs he hf
        cases r' with
        | some p=>exact h2.elim
        | none=>
         refine⟨_,?_,mk z z false (RV.plain hzp ρ)⟩;simp [Instr.lookup,zR hd,rX e1,hck _ 9998,h1,vV hz]
      . cases h
    . cases h
  . cases h
theorem typeAssert_ok(hP:xC ng P=true){x x':Value}{xt asserted:TypeId}{ok:Bool}(hx:RV ρ x x'){v:Value}(h:wO P x asserted ok=some v) :
 ∃v',(Instr.typeAssert x' xt asserted ok).run P wd = .ok v' wd/\RV ρ v v':=by
 unfold wO at h;split at h
 . cases h
 . rename_i d hnot hd;have fN:∀ms,d≠.interface ms:=λms e=>hnot ms e
   have zz:∀z,xI P asserted=some z->ok=true->v = .tuple #[z,.bool false]->RV ρ v (.tuple #[z,.bool false]):=by
    intro z hz _ hv;rw [hv];exact RV.mk_tuple (RVs.cons (RV.plain (tT hP hz) ρ) (RVs.cons (RV.bool _) (RVs.nil ρ)))
   split at h
   . rename_i t w
     cases hx with
     | iface hw =>
      rename_i w'
      cases hq:Nat.beq t asserted with
      | true=>
       rw[hq]at h;obtain rfl:=zT hq;dsimp only[cond]at h;injection h with h;subst h
       refine⟨if ok=true then .tuple #[w',.bool true] else w',?_,?_⟩
       . simp only[Instr.typeAssert,Sem.run_bind,zR hd,Result.andThen_ok];cases d <;> first|(exact absurd rfl (fN _))|simp
       . cases ok with
         | true=>exact RV.mk_tuple (RVs.cons hw (RVs.cons (RV.bool _) (RVs.nil ρ)))
         | false=>exact hw
      | false =>
       rw[hq]at h;have eJ:¬t=asserted:=λe=>by subst e;rw [aR]at hq;cases hq
       cases ok with
       | false=>cases h
       | true =>
        dsimp only[cond]at h
        cases hz:xI P asserted with
        | none=>rw [hz]at h;cases h
        | some z=>
         rw[hz]at h;injection h with h
         refine⟨.tuple #[z,.bool false],?_,zz z hz rfl h.symm⟩;simp only[Instr.typeAssert,Sem.run_bind,zR hd,Result.andThen_ok];cases d <;> first|(exact absurd rfl (fN _))|simp [eJ,vV hz]
   . cases hx
     cases ok with
     | false=>cases h
     | true =>
      dsimp only[cond]at h
      cases hz:xI P asserted with
      | none=>rw [hz]at h;cases h
      | some z=>
       rw[hz]at h;injection h with h
       refine⟨.tuple #[z,.bool false],?_,zz z hz rfl h.symm⟩;simp only[Instr.typeAssert,Sem.run_bind,zR hd,Result.andThen_ok];cases d <;> first|(exact absurd rfl (fN _))|simp [vV hz]
   . cases h
 . cases h
theorem len_ok(hH:HeapR P ng ρ base w0 hp n wd){ty rt:TypeId}{x x':Value}(hx:RV ρ x x'){v:Value}(h:aLen P hp ty x=some v)(tys:List TypeId)(rest:List Value) :
 ∃v',(Builtin.len_ ⟨ty::tys⟩ rt ⟨x'::rest⟩).run P wd = .ok v' wd/\RV ρ v v':=by
 unfold aLen at h;split at h
 . rename_i e a m c hd;injection h with h;subst h
   refine⟨.int .i64 (.ofNat m),?_,RV.int _ _⟩;cases hx <;> simp[Builtin.len_,zR hd,goInt]
 . rename_i s hd;injection h with h;subst h
   obtain rfl:=hx.of_string;refine⟨.int .i64 (.ofNat s.data.toList.length),?_,RV.int _ _⟩;simp [Builtin.len_,zR hd,goInt]
 . rename_i m e hd;injection h with h;subst h
   refine⟨.int .i64 (.ofNat m),?_,RV.int _ _⟩;simp [Builtin.len_,zR hd,goInt]
 . rename_i e1 e2 hd;injection h with h;subst h
   cases hx
   refine⟨.int .i64 (.ofNat 0),?_,RV.int _ _⟩;simp [Builtin.len_,zR hd,goInt]
 . rename_i e1 e2 r hd;obtain⟨B,hb,rfl⟩:=hx.of_map;split at h
   . rename_i es clock hg;injection h with h;subst h
     obtain⟨es',h1,he,_⟩:=map_at hH hb hg;refine⟨.int .i64 (.ofNat es.length),?_,RV.int _ _⟩;simp [Builtin.len_,zR hd,goInt,rX h1,he.1]
   . cases h
 . cases h
theorem cap_ok{ty rt:TypeId}{x x':Value}(hx:RV ρ x x'){v:Value}(h:aCap P ty x=some v)(tys:List TypeId)(rest:List Value) :
 ∃v',(Builtin.cap_ ⟨ty::tys⟩ rt ⟨x'::rest⟩).run P wd = .ok v' wd/\RV ρ v v':=by
 unfold aCap at h;split at h
 . rename_i e a m c hd
   cases hq:Nat.beq c inf with
   | true=>rw [hq]at h;cases h
   | false=>
    rw[hq]at h;dsimp only[cond]at h;injection h with h;subst h
    refine⟨.int .i64 (.ofNat c),?_,RV.int _ _⟩
    cases hx with
    | nilSlice=>simp [Builtin.cap_,zR hd,goInt]
    | slice=>simp [Builtin.cap_,zR hd,goInt]
    | slice0 _ a=>simp [Builtin.cap_,zR hd,goInt]
    | opened=>rw [aR]at hq;cases hq
 . rename_i m e hd;injection h with h;subst h
   refine⟨.int .i64 (.ofNat m),?_,RV.int _ _⟩;simp [Builtin.cap_,zR hd,goInt]
 . cases h
theorem max_fold(big:Bool):∀{l l':List Value} {x v:Value},RVs ρ l l'->aMax big x l=some v->(l=[]/\v=x)\/∃k i r,x = .int k i/\v = .int k r/\
 (l'.foldlM (if big=true then Builtin.max2 else Builtin.min2) (.int k i)).run P wd = .ok (.int k r) wd:=by
 intro l
 induction l with
 | nil=>intro l' x v hl h;simp only[aMax]at h;injection h with h;exact .inl ⟨rfl,h.symm⟩
 | cons y l ih =>
  intro l' x v hl h;obtain⟨y',r',rfl,hy,hr⟩:=hl.of_cons;cases x <;> cases y <;> simp only[aMax]at h <;> first|(cases h;done)|skip
  rename_i k i k' j;obtain rfl:=hy.of_int
  cases hk:tJ k k' with
  | false=>rw [hk]at h;cases h
  | true =>
   rw[hk]at h;obtain rfl:=sG hk;have h:aMax big (.int k (cond (cond big (iltB i j) (iltB j i)) j i)) l=some v:=h;right
   have step:((if big=true then Builtin.max2 else Builtin.min2) (.int k i) (.int k j)).run P wd = .ok (.int k (cond (cond big (iltB i j) (iltB j i)) j i)) wd:=by
    rw[iltB_eq,iltB_eq]
    cases big with
    | true=>
     by_cases hij:i<j <;> simp[Builtin.max2,hij]
    | false=>
     by_cases hij:j<i <;> simp[Builtin.min2,hij]
   rcases ih hr h with⟨rfl,rfl⟩|⟨k2,i2,r2,e1,e2,e3⟩
   . obtain rfl:=hr.of_nil;exact⟨k,i,_,rfl,rfl,by rw[List.foldlM_cons,Sem.run_bind,step,Result.andThen_ok];rfl⟩
   . injection e1 with e4 e5
     subst e4;refine⟨k,i,r2,rfl,e2,?_⟩;rw [List.foldlM_cons,Sem.run_bind,step,Result.andThen_ok,e5];exact e3
theorem max_ok{big:Bool}{x x':Value}{l l':List Value}(hx:RV ρ x x')(hl:RVs ρ l l'){v:Value}(h:aMax big x l=some v)(tys:Array TypeId)(rt:TypeId) :
 ∃v',((if big=true then Builtin.max_ else Builtin.min_) tys rt ⟨x'::l'⟩).run P wd = .ok v' wd/\RV ρ v v':=by
 rcases max_fold (P:=P) (wd:=wd) big hl h with⟨rfl,rfl⟩|⟨k,i,r,rfl,rfl,e⟩
 . obtain rfl:=hl.of_nil;refine⟨x',?_,hx⟩;cases big <;> rfl
 . obtain rfl:=hx.of_int;refine⟨_,?_,RV.int k r⟩;cases big <;> exact e
theorem aBin_int_plain{op:BinOp}{t:TypeId}{ox oy:Operand}{k k':IntKind}{a b:Int}{v:Value}(h:aBin P op t ox oy (.int k a) (.int k' b)=some v):sF v=true:=by
 unfold aBin at h;dsimp only at h;split at h
 . exact shift_plain h
 . exact shift_plain h
 . cases hk:tJ k k' with
   | false=>rw [hk]at h;cases h
   | true=>rw [hk]at h;exact arith_plain h
theorem intOp_plain{op:BinOp}{k:IntKind}{a b:Int}{s:Option Value}{v:Value}(h:intOp op k a b s=some v):sF v=true\/s=some v:=by
 have hw:∀r:Int,(Int.rec (λm=>some (Value.int k (.ofNat m))) (λm=>some (Value.int k (.negSucc m))) r:Option Value)=some v->sF v=true:=by
  intro r h5;cases r <;> (injection h5 with h5;subst h5;rfl)
 cases op with
 | add=>exact .inl (hw _ h)
 | sub=>exact .inl (hw _ h)
 | eql=>left;injection h with h;subst h;rfl
 | neq=>left;injection h with h;subst h;rfl
 | lss=>left;injection h with h;subst h;rfl
 | leq=>left;injection h with h;subst h;rfl
 | gtr=>left;injection h with h;subst h;rfl
 | geq=>left;injection h with h;subst h;rfl
 | _=>exact .inr h
theorem binV_ok{op:BinOp}{t:TypeId}{ox oy:Operand}{x y x' y':Value}(hx:RV ρ x x')(hy:RV ρ y y'){v:Value}(h:binV P op t ox oy x y=some v) :
 ∃v',(xK op t ox oy x' y').run P wd = .ok v' wd/\RV ρ v v':=by
 unfold binV at h;rcases onInt_some h with⟨k1,a,e1,h1⟩|h1
 . rcases onInt_some h1 with⟨k2,b,e2,h2⟩|h2
   . cases hk:tJ k1 k2 with
     | false=>rw [hk]at h2;exact bin_ok hx hy h2
     | true=>
      rw[hk]at h2;have h3:intOp op k1 a b (aBin P op t ox oy x y)=some v:=h2;obtain rfl:=sG hk;subst e1 e2;obtain rfl:=hx.of_int;obtain rfl:=hy.of_int;rcases intOp_ok (P:=P) (wd:=wd) (t:=t) (ox:=ox) (oy:=oy) h3 with h4|h4
      . refine⟨v,h4,?_⟩
        have:sF v=true:=by
         rcases intOp_plain h3 with h5|h5
         . exact h5
         . exact aBin_int_plain h5
        exact RV.plain this ρ
      . exact bin_ok (RV.int _ _) (RV.int _ _) h4
   . exact bin_ok hx hy h2
 . exact bin_ok hx hy h1
end
end
section
section
variable {P:Program} {ng:Nat} {ρ : Inj} {base:Nat} {w0:World} {hp:zB} {n:Nat} {wd:World} {N:Nat} {t:Fr} {a:Act}
theorem arr_map(f:Operand->Value)(l:Array Operand):l.map f=⟨l.toList.map f⟩:=by
 cases l;simp
theorem sH(f:Operand->Value)(b:Builtin)(args:Array Operand)(tys:Array TypeId)(ty:TypeId) :
 (resolve f ⟨.builtin b,args,tys⟩ ty).run P wd = .ok { target:=.builtin b tys ty (args.map λ| .const _=>true|_=>false),args:=args.map f } wd:=rfl
theorem quiet_ok(hP:xC ng P=true)(hH:HeapR P ng ρ base w0 hp n wd){o:Oper}(E:∀x,x∈o.op.operands.toList->RV ρ (ev t x) (a.eval x)){v:Value}(h:uF o.op P t hp=some v) :
 ∃v',(execOp a.eval o).run P wd = .ok (.value v') wd/\RV ρ v v':=by
 have val:∀{s:Sem Value} {v:Value},(∃v',s.run P wd = .ok v' wd/\RV ρ v v')->execOp a.eval o=(do pure (Next.value (<- s)))->∃v',(execOp a.eval o).run P wd = .ok (.value v') wd/\RV ρ v v':=by
  intro s v ⟨v',e1,e2⟩ e3;refine⟨v',?_,e2⟩;rw [e3,Sem.run_bind,e1];rfl
 obtain⟨dst,op,type,pos,after,guard⟩:=o;dsimp only at h E val ⊢
 cases op with
 | move x=>
  have h':xU (ev t x) some=some v:=h;rw [yN]at h';injection h' with h';subst h'
  exact⟨_,rfl,E x qO⟩
 | assign x=>
  have h':xU (ev t x) some=some v:=h;rw [yN]at h';injection h' with h';subst h'
  exact⟨_,rfl,E x qO⟩
 | pick c x y =>
  have h':onBool (ev t c) (λb=>xU (Bool.rec (ev t y) (ev t x) b) some) none=some v:=h;rcases onBool_some h' with⟨b,e1,e2⟩|e2
  case inr=>cases e2
  rw[yN]at e2;injection e2 with e2
  have hc:=E c qO;rw [e1]at hc;have hcb:=hc.of_bool
  cases b with
  | true=>
   refine⟨a.eval x,?_,by rw[<- e2];exact E x qO⟩;simp [execOp,hcb,asBool]
  | false=>
   refine⟨a.eval y,?_,by rw[<- e2];exact E y qO⟩;simp [execOp,hcb,asBool]
 | build ty parts=>
  have h':aBuild P ty (parts.toList.map λp=>(p.1,ev t p.2))=some v:=h;refine val (build_ok hP (ps':=parts.toList.map λp=>(p.1,a.eval p.2)) (PsR.map _ _ _ λp hp=>E p.2 ?_) h') ?_
  . simp only[Op.operands,aB];exact⟨p,hp,rfl⟩
  . have:(parts.map λ(x:Nat×Operand)=>(x.1,a.eval x.2))=⟨parts.toList.map λp=>(p.1,a.eval p.2)⟩:=by cases parts;simp
    simp only[execOp];rw [<- this]
 | load ty x=>exact val (load_ok hH (E x qO) h) rfl
 | nilCheck x =>
  have hx:=E x qO 
  have h':(match ev t x with
   | .pointer (some p)=>some (.pointer (some p))
   | .func (.func f) fs cs=>some (.func (.func f) fs cs)
   | .func (.yield f) fs cs=>some (.func (.yield f) fs cs)
   | .map r=>some (.map r)
   | .slice p i c=>some (.slice p i c)
   | _=>none)=some v:=h
  have key:ev t x=v/\(∀u u',RV ρ u u'->u=v->(match u' with
   | .pointer none | .nilIface | .nilFunc=>False
   | .func (.method _) _ _=>False
   | _=>True)):=by
   split at h' <;> first
    | (cases h';done)
    | (rename_i e;injection h' with h';subst h';exact⟨e,λu u' hu hv=>(by subst hv;cases hu <;> trivial)⟩)
  refine⟨a.eval x,?_,key.1 ▸ hx⟩;have hk:=key.2 _ _ hx key.1;simp only[execOp]
  split <;> first
   | (rename_i e;rw [e]at hk;exact hk.elim)
   | rfl
 | binOp op ty x y yt=>
  have h':binV P op ty x y (ev t x) (ev t y)=some v:=h;exact val (binV_ok (E x qO) (E y qO) h') rfl
 | unOp op ty x=>
  have h':aUn op (ev t x)=some v:=h;exact val (un_ok (E x qO) h') rfl
 | convert src dst' x =>
  have h':(match und P src with
   | some _=>sY P dst' (ev t x)
   | none=>none)=some v:=h
  cases hs:und P src with
  | none=>rw [hs]at h';cases h'
  | some d=>rw [hs]at h';exact val (convert_ok (E x qO) ⟨d,hs⟩ h') rfl
 | makeInterface ty x =>
  have h':(match und P ty with
   | some (.interface _)=>none
   | some _=>xU (ev t x) λv=>some (.iface ty v)
   | none=>none)=some v:=h
  have hx:=E x qO;refine val (s:=Instr.makeInterface ty (a.eval x)) (v:=v) ?_ rfl;split at h'
  . cases h'
  . rename_i d fN hd;rw [yN]at h';injection h' with h';subst h'
    refine⟨.iface ty (a.eval x),?_,.iface hx⟩;simp only[Instr.makeInterface,Sem.run_bind,zR hd,Result.andThen_ok];cases d <;> first|rfl|exact absurd rfl (fN _)
  . cases h'
 | makeFunc fn first cap =>
  cases fn with
  | func f=>
   have h':some (Value.func (.func f) ⟨first.toList.map (ev t)⟩ ⟨cap.toList.map (ev t)⟩)=some v:=h;injection h' with h';subst h'
   refine⟨.func (.func f) (first.map a.eval) (cap.map a.eval),rfl,?_⟩;rw [arr_map,arr_map];have h1:=RVs.map (ρ := ρ) (ev t) a.eval first.toList λx hx=>E x (by simp[Op.operands,hx]);have h2:=RVs.map (ρ := ρ) (ev t) a.eval cap.toList λx hx=>E x (by simp[Op.operands,hx]);exact .func (by intro l;exact Fn.noConfusion) h1.1 h2.1 h1.2 h2.2
  | _=>cases h
 | slice ty x lo hi mx =>
  have h':xS P hp ty (ev t x) (lo.map (ev t)) (hi.map (ev t)) (mx.map (ev t))=some v:=h
  have orv:∀(z:Option Operand),(∀y,z=some y->y∈(Op.slice ty x lo hi mx).operands.toList)->ORV ρ (z.map (ev t)) (z.map a.eval):=by
   intro z hz
   cases z with
   | none=>trivial
   | some y=>exact E y (hz y rfl)
  refine val (slice_ok hH (E x qO) (orv lo ?_) (orv hi ?_) (orv mx ?_) h') rfl
  . intro y e;subst e;simp [Op.operands]
  . intro y e;subst e;simp [Op.operands]
  . intro y e;subst e;simp [Op.operands]
 | fieldAddr ty x f =>
  have h':onPtr (ev t x) (λb off=>Option.rec none (λo=>some (.pointer (some ⟨b,Nat.add off o,none⟩))) (offOf P ty f)) none=some v:=h;have hx:=E x qO;rcases rU h' with⟨b,off,e1,e2⟩|e2
  case inr=>cases e2
  cases hf:offOf P ty f with
  | none=>rw [hf]at e2;cases e2
  | some o=>
   rw[hf]at e2;have e2':some (Value.pointer (some ⟨b,Nat.add off o,none⟩))=some v:=e2;injection e2' with e2';subst e2'
   rw[e1]at hx;obtain⟨B,hb,_,eV⟩:=hx.of_ptr;refine val (s:=Instr.fieldAt ty (a.eval x) f) ⟨.pointer (some ⟨B.b,off+o,none⟩),?_,RV.ptr hb⟩ rfl;rw [eV];exact fieldAddr_ok hf
 | field ty x f=>
  have h':aField P ty (ev t x) f=some v:=h;exact val (field_ok (E x qO) h') rfl
 | indexAddr ty x ix =>
  have h':onInt (ev t ix) (λ_ i=>Int.rec (λi=>Ix.rec none
   (λsz=>onSlice (ev t x) (λb off len _=>Bool.rec none (some (.pointer (some ⟨b,Nat.add off (Nat.mul i sz),none⟩))) (Nat.blt i len)) none)
   (λlen sz=>onPtr (ev t x) (λb off=>Bool.rec none (some (.pointer (some ⟨b,Nat.add off (Nat.mul i sz),none⟩))) (Nat.blt i len)) none) (ixOf P ty)) (λ_=>none) i) none=some v:=h
  rcases onInt_some h' with⟨k,i,e1,e2⟩|e2
  case inr=>cases e2
  have hix:=E ix qO;rw [e1]at hix;have hix':=hix.of_int;refine val (s:=Instr.indexAt ty (a.eval x) (a.eval ix)) ?_ rfl;rw [hix'];exact indexAddr_ok (E x qO) e2
 | index ty x ix=>
  have h':aIndex P ty (ev t x) (ev t ix)=some v:=h;exact val (index_ok (E x qO) (E ix qO) h') rfl
 | lookup ty x key ok=>
  have h':xG P hp ty (ev t x) (ev t key) ok=some v:=h;exact val (lookup_ok hP hH (E x qO) (E key qO) h') rfl
 | typeAssert x xt asserted ok=>
  have h':wO P (ev t x) asserted ok=some v:=h;exact val (typeAssert_ok hP (E x qO) h') rfl
 | extract x i =>
  have h':(match ev t x with
   | .tuple vs=>Option.rec none (λv=>xU v some) (vs.toList[i]?)
   | _=>none)=some v:=h
  split at h'
  . rename_i vs e
    cases hv:vs.toList[i]? with
    | none=>rw [hv]at h';cases h'
    | some u=>
     rw[hv]at h';have h2:xU u some=some v:=h';rw [yN]at h2;injection h2 with h2;subst h2
     exact val (extract_ok (E x qO) e hv) rfl
  . cases h'
 | call c =>
  obtain⟨callee,args,tys⟩:=c
  cases callee with
  | builtin b =>
   have h':quietB P b tys.toList (args.toList.map (ev t)) hp=some v:=h;have ha:=RVs.map (ρ := ρ) (ev t) a.eval args.toList λx hx=>E x (by simp[Op.operands,Call.operands,hx])
   have run:∀{s:Sem Value},(∃v',s.run P wd = .ok v' wd/\RV ρ v v')->
    builtin b tys type (args.map λ| .const _=>true|_=>false) (args.map a.eval)=(do pure (Next.value (<- s)))->
    ∃v',(execOp a.eval ⟨dst,.call ⟨.builtin b,args,tys⟩,type,pos,after,guard⟩).run P wd = .ok (.value v') wd/\RV ρ v v':=by
    intro s ⟨v',e1,e2⟩ e3;refine⟨v',?_,e2⟩;simp only[execOp,Sem.run_bind,sH,Result.andThen_ok,invoke];rw [e3,Sem.run_bind,e1];rfl
   have eY:args.map a.eval=⟨args.toList.map a.eval⟩:=arr_map _ _;have mK:tys=⟨tys.toList⟩:=rfl;generalize args.toList.map (ev t)=l at h' ha
   unfold quietB at h';split at h'
   . split at h'
     . rename_i x r ty tr e2;obtain⟨x',r',e3,hx,hr⟩:=ha.of_cons;refine run (len_ok (rt:=type) hH hx h' tr r') ?_;rw [eY,e3,mK,e2];rfl
     . cases h'
   . split at h'
     . rename_i x r ty tr e2;obtain⟨x',r',e3,hx,hr⟩:=ha.of_cons;refine run (cap_ok (rt:=type) hx h' tr r') ?_;rw [eY,e3,mK,e2];rfl
     . cases h'
   . split at h'
     . rename_i x r;obtain⟨x',r',e3,hx,hr⟩:=ha.of_cons;refine run (max_ok (big:=true) hx hr h' tys type) ?_;rw [eY,e3];rfl
     . cases h'
   . cases h'
  | _=>cases h
 | _=>cases h
end
end
section
theorem rD{c:Tr Value}{i:Nat}{l:List Value}{k:Tr Value->Bool}(h:xN c i l k=true) :
 (∀v∈l,v.oneCell'=true)/\k (Tr.ofListFrom undef c i l)=true:=by
 induction l generalizing c i with
 | nil=>exact⟨λ_ h=>by simp at h,h⟩
 | cons v r ih =>
  have h':(forceOne v λv=>c.setK undef v i λc'=>xN c' (Nat.succ i) r k)=true:=h;obtain⟨h1,h2⟩:=forceOne_true h';rw [Tr.setK_eq]at h2;obtain⟨h3,h4⟩:=ih h2
  exact⟨λx hx=>by
   rcases au.1 hx with rfl|hx
   . exact h1
   . exact h3 x hx,h4⟩
theorem yM(h:zB)(n:Nat)(o:AObj)(k:zB->Nat->Bool):yD h n o k=k (h.set .dead o n) (n+1):=by
 unfold yD;rw [Tr.setK_eq]
def Res(r:Result Next)(v:Value)(w:World):Prop:=r = .ok (.value v) w\/(r = .ok .skip w/\v=undef)
section
variable (P:Program) (ng:Nat)
def OpsR(ρ : Inj)(t:Fr)(a:Act)(o:Oper):Prop:=∀x,x∈o.op.operands.toList->RV ρ (ev t x) (a.eval x)
def EffVal(o:Oper)(t:Fr)(w:W)(v:Value)(w':W):Prop:=
 w'.d=w.d/\w'.u=w.u/\∀(ρ : Inj) (base:Nat) (w0:World) (a:Act) (wd:World),OpsR ρ t a o->HeapR P ng ρ base w0 w.h w.n wd->
  ∃ρ' v' wd',Res ((execOp a.eval o).run P wd) v' wd'/\RV ρ' v v'/\HeapR P ng ρ' base w0 w'.h w'.n wd'/\Grow ρ w.h w.n wd ρ' w'.h w'.n wd'
variable {P ng} {t:Fr} {w:W}
variable (P ng) in
def NewVal(o:Oper)(t:Fr)(v:Nat->Value)(ob:AObj):Prop:=
 ∀(ρ : Inj) (base:Nat) (w0:World) (a:Act) (wd:World) (h:zB) (m n:Nat),OpsR ρ t a o->HeapR P ng ρ base w0 h m wd->ρ n=none->
  ∃(B:Bl) (o':Obj) (v':Value),B.b=wd.heap.size/\(execOp a.eval o).run P wd = .ok (.value v') { wd with heap:=wd.heap.push o' }/\RV (ρ.put n B) (v n) v'/\ObjR P ng (ρ.put n B) base B ob o'
theorem NewVal.eff{o:Oper}{v:Nat->Value}{ob:AObj}(hn:NewVal P ng o t v ob):EffVal P ng o t w (v w.n) (W.mk w.d w.u (w.h.set .dead ob w.n) (w.n+1)):=by
 refine⟨rfl,rfl,fun ρ base w0 a wd hT hH=>?_⟩;obtain⟨B,o',v',h1,h2,h3,h4⟩:=hn ρ base w0 a wd w.h w.n w.n hT hH (hH.dom _ (ad _));obtain⟨h5,h6⟩:=hH.alloc ob o' B h1 h4;exact⟨_,v',_,.inl h2,h3,h5,h6⟩
theorem effVal_quiet(hP:xC ng P=true){o:Oper}{v:Value}(h:uF o.op P t w.h=some v):EffVal P ng o t w v w:=by
 refine⟨rfl,rfl,fun ρ base w0 a wd hT hH=>?_⟩;obtain⟨v',e1,e2⟩:=quiet_ok hP hH hT h;exact⟨ρ,v',wd,.inl e1,e2,hH,Grow.refl _ _ _ _ hH.dom⟩
theorem HeapR.newRowT{ρ : Inj}{base:Nat}{w0:World}{h:zB}{m n:Nat}{wd:World}(r:HeapR P ng ρ base w0 h m wd)(hn: ρ n=none){cs:List Value}{cs':Array Value}(hc:RVs ρ cs cs'.toList)(el:TypeId){z:Nat}(hz0:z≠0->z=el+1) :
 ObjR P ng (ρ.put n ⟨wd.heap.size,cs'.size,0⟩) base ⟨wd.heap.size,cs'.size,0⟩ (.cells (Tr.ofListFrom undef .lF 0 cs) cs.length z 0) (.cells cs' el (0,0)):=by
 have hle:=Inj.le_put (⟨wd.heap.size,cs'.size,0⟩:Bl) hn;have hl:cs.length=cs'.size:=by have:=hc.1;simpa using this
 exact .cells (by show cs.length<=cs'.size;omega) rfl (λ_=>hl) ⟨λh=>absurd h qK,λ_ h=>hz0 h⟩ (λi v' hi e=>by
  rw[Tr.get_ofListFrom,if_pos qJ];have e1:cs[i]? = some (cs.getD (i - 0) undef):=by simp[aa hi]
  exact(hc.2 i _ v' e1 (by simpa using e)).mono hle) (λ_=>r.size) (λ_=>⟨rfl,rfl⟩)
theorem HeapR.newRow{ρ : Inj}{base:Nat}{w0:World}{h:zB}{n:Nat}{wd:World}(r:HeapR P ng ρ base w0 h n wd){cs:List Value}{cs':Array Value}(hc:RVs ρ cs cs'.toList)(el:TypeId) :
 ObjR P ng (ρ.put n ⟨wd.heap.size,cs'.size,0⟩) base ⟨wd.heap.size,cs'.size,0⟩ (.cells (Tr.ofListFrom undef .lF 0 cs) cs.length 0 0) (.cells cs' el (0,0)):=r.newRowT (r.dom _ (ad _)) hc el λh=>absurd rfl h
theorem xZ(ρ : Inj)(n:Nat)(B:Bl):(ρ.put n B) n=some B:=by simp[Inj.put]
theorem uS(w:W)(f:zB->Nat->(zB->Nat->W)->Bool):tK w f=f w.h w.n (W.mk w.d w.u):=by cases w;rfl
theorem alloc_ok(hP:xC ng P=true){o:Oper}{el:TypeId}(eT:o.op = .alloc el){lo:Lo}{cx:Cx}{k:KV}{kp:KP}(h:eff o.op P lo cx t w k kp=true) :
 ∃v ob,NewVal P ng o t v ob/\k (W.mk w.d w.u (w.h.set .dead ob w.n) (w.n+1)) (v w.n)=true:=by
 rw[eT]at h;have h':(tK w λh n mk=>Option.rec false (λz=>yD h n (mkCellsT (cellsOf z) el) λh' n'=>k (mk h' n') (.pointer (some ⟨n,0,none⟩))) (xI P el))=true:=h;rw [uS]at h'
 cases hz:xI P el with
 | none=>rw [hz]at h';cases h'
 | some z=>
  rw[hz]at h';have h2:yD w.h w.n (mkCellsT (cellsOf z) el) (λh' n'=>k (W.mk w.d w.u h' n') (.pointer (some ⟨w.n,0,none⟩)))=true:=h';rw [yM]at h2;refine⟨λn=>.pointer (some ⟨n,0,none⟩),_,fun ρ base w0 a wd h m n hT hH hn=>?_,h2⟩;refine⟨_,_,.pointer (some ⟨wd.heap.size,0,none⟩),rfl,?_,?_,hH.newRowT hn (RV.cells (RV.plain (tT hP hz) ρ)) el λ_=>rfl⟩
  . simp[execOp,eT,Instr.alloc,vV hz,newVar,newRow]
  . exact RV.ptr (B:=⟨wd.heap.size,z.cells.size,0⟩) (xZ _ _ _)
theorem box_ok{o:Oper}{el:TypeId}{x:Operand}(eT:o.op = .box el x){lo:Lo}{cx:Cx}{k:KV}{kp:KP}(h:eff o.op P lo cx t w k kp=true) :
 ∃v ob,NewVal P ng o t v ob/\k (W.mk w.d w.u (w.h.set .dead ob w.n) (w.n+1)) (v w.n)=true:=by
 rw[eT]at h
 have h':(tK w λh n mk=>xN .lF 0 (cellsOf (ev t x)) λc=>
  yD h n (.cells c (cellsOf (ev t x)).length (Nat.succ el) 0) λh' n'=>k (mk h' n') (.pointer (some ⟨n,0,none⟩)))=true:=h
 rw[uS]at h';obtain⟨_,h2⟩:=rD h';rw [yM]at h2;refine⟨λn=>.pointer (some ⟨n,0,none⟩),_,fun ρ base w0 a wd h m n hT hH hn=>?_,h2⟩;have hx:RV ρ (ev t x) (a.eval x):=hT x ((by simp[eT,Op.operands]));refine⟨_,_,.pointer (some ⟨wd.heap.size,0,none⟩),rfl,?_,?_,hH.newRowT hn hx.cells el λ_=>rfl⟩
 . simp[execOp,eT,Instr.box,newVar,newRow]
 . exact RV.ptr (B:=⟨wd.heap.size,(a.eval x).cells.size,0⟩) (xZ _ _ _)
theorem tW(z:List Value):∀k,(rep z k).length=k*z.length:=by
 intro k
 induction k with
 | zero=>simp [rep]
 | succ k ih=>simp [rep,ih,cL];omega
theorem rep_get(z:List Value):∀(k j:Nat),j<k*z.length->(rep z k)[j]? = z[j % z.length]? :=by
 intro k
 induction k with
 | zero=>intro j h;simp at h
 | succ k ih=>
  intro j h;rw [rep,List.getElem?_append];by_cases hj:j<z.length
  . rw[if_pos hj,Nat.mod_eq_of_lt hj]
  . rw[if_neg hj];have fy:z.length<=j:=by omega
    have:j - z.length<k*z.length:=by rw[cL]at h;omega
    rw[ih _ this];congr 1
    conv=>rhs;rw [<- Nat.sub_add_cancel fy,Nat.add_mod_right]
theorem made_eq(z:Array Value)(k:Nat)(hz:1<=z.size):((Array.range (k*z.size)).map (λi=>z[i % z.size]!)).toList=rep z.toList k:=by
 apply dy;intro j;by_cases hj:j<k*z.size
 . have hm:j % z.size<z.size:=Nat.mod_lt _ qJ;have h2:j<k*z.toList.length:=by simpa using hj
   rw[rep_get _ _ _ h2];simp [hj,hm]
 . have h2:(rep z.toList k).length<=j:=by rw[tW];simp;omega
   rw[aw h2];rw [aw qM]
theorem buildSlice_ok(hP:xC ng P=true){o:Oper}{ty:TypeId}{len:Nat}{parts:Array (Nat×Operand)}(eT:o.op = .buildSlice ty len parts){lo:Lo}{cx:Cx}{k:KV}{kp:KP}
   (h:eff o.op P lo cx t w k kp=true):∃v ob,NewVal P ng o t v ob/\k (W.mk w.d w.u (w.h.set .dead ob w.n) (w.n+1)) (v w.n)=true:=by
  rw[eT]at h
  have h':(tK w λh n mk=>Option.rec false (λob=>yD h n ob λh' n'=>k (mk h' n') (.slice (some ⟨n,0,none⟩) len len))
      (wP P ty len (parts.toList.map λp=>(p.1,ev t p.2))))=true:=h
  rw[uS]at h'
  cases hb:wP P ty len (parts.toList.map λp=>(p.1,ev t p.2)) with
  | none=>rw [hb]at h';cases h'
  | some ob =>
    rw[hb]at h';have h2:yD w.h w.n ob (λh' n'=>k (W.mk w.d w.u h' n') (.slice (some ⟨w.n,0,none⟩) len len))=true:=h';rw [yM]at h2;refine⟨λn=>.slice (some ⟨n,0,none⟩) len len,_,fun ρ base w0 a wd h m n hT hH hn=>?_,h2⟩;unfold wP at hb;split at hb
    case h_2=>cases hb
    rename_i e hd;split at hb
    case h_2=>cases hb
    rename_i z ei hz hi
    cases hc:(Nat.ble 1 ei.size && Nat.beq (cellsOf z).length ei.size && Nat.ble (Nat.mul len ei.size) 16777216) with
    | false=>rw [hc]at hb;cases hb
    | true =>
      rw[hc]at hb;dsimp only[cond]at hb;obtain⟨iB,hc3⟩:=ak.1 hc;obtain⟨iB,hc2⟩:=ak.1 iB;have iB:=xQ iB;have hc2:=zT hc2;have hc3:len*ei.size<=16777216:=xQ hc3;split at hb
      case h_2=>cases hb
      rename_i cs hf;injection hb with hb
      subst hb;have hzc:=RV.cells (RV.plain (tT hP hz) ρ);have hzs:z.cells.size=ei.size:=by have:=hzc.1;simp at this;omega
      have gP:PsR ρ (parts.toList.map λp=>(p.1,ev t p.2)) (parts.toList.map λp=>(p.1,a.eval p.2)):=
        PsR.map _ _ _ λp hp=>hT p.2 ((by
          simp only[eT,Op.operands,aB];exact⟨p,hp,rfl⟩))
      have ik:cellsOf z=z.cells.toList:=by cases z <;> rfl
      have hrep:RVs ρ (rep (cellsOf z) len) ((Array.range (len*ei.size)).map (λi=>z.cells[i % z.cells.size]!)).toList:=by
        have:=made_eq z.cells len qJ;rw [hzs]at this ⊢;rw [this,<- ik];refine⟨rfl,λi v v' e1 e2=>?_⟩;rw [e1]at e2;injection e2 with e2;subst e2
        have eD:i<len*(cellsOf z).length:=by
          rcases aS i (rep (cellsOf z) len).length with h1|h1
          . rwa [tW]at h1
          . rw[aw h1]at e1;cases e1
        rw[rep_get _ _ _ eD]at e1;exact hzc.2 _ v v e1 (by rw[<- ik];exact e1)
      obtain⟨r',f1,f2⟩:=fill_ok (λi=>some (Nat.mul i ei.size,ei.size)) gP hrep hf;refine⟨_,_,.slice (some ⟨wd.heap.size,0,none⟩) len len,rfl,?_,?_,hH.newRowT hn f2 e λh=>absurd rfl h⟩
      . have hbig : ¬ (len * ei.size > 2 ^ 24) := by have : (2 : Nat) ^ 24 = 16777216 := by decide
                                                     omega
        have gK:(parts.map λ(x:Nat×Operand)=>(x.1,a.eval x.2)).toList=parts.toList.map λp=>(p.1,a.eval p.2):=by simp
        have f1':Instr.fill (λi=>some (i*ei.size,ei.size)) ((Array.range (len*ei.size)).map (λi=>z.cells[i % z.cells.size]!)) (parts.toList.map λp=>(p.1,a.eval p.2))=some r':=f1;simp only[execOp,eT,Instr.buildSlice,Sem.run_bind,zR hd,Result.andThen_ok,xE hi,if_neg hbig,gK];by_cases hz0:len*ei.size=0
        . have kH:len=0:=by
            rcases Nat.mul_eq_zero.1 hz0 with h0|h0
            . exact h0
            . omega
          subst kH;simp only[bI]at f1' ⊢;have e0:∀f:Nat->Value,(Array.range 0).map f = #[]:=λf=>by simp
          rw[e0]at f1';simp only[if_true,Sem.run_bind,Sem.run_pure,Result.andThen_ok,e0,f1'];simp [newRow]
        . simp only[if_neg hz0,Sem.run_bind,vV hz,Result.andThen_ok,Sem.run_pure,f1'];simp [newRow]
      . refine RV.slice (B:=⟨wd.heap.size,r'.size,0⟩) (xZ _ _ _) ?_ (ad _) (.inl rfl);intro eM;rw [eM]at hc3;have:inf*ei.size>=inf:=Nat.le_mul_of_pos_right _ qJ;have h9:inf=1000000000000000000:=rfl;omega
theorem makeMap_ok{o:Oper}{ty:TypeId}{r:Option Operand}(eT:o.op = .makeMap ty r){lo:Lo}{cx:Cx}{k:KV}{kp:KP}
(h:eff o.op P lo cx t w k kp=true):∃v ob,NewVal P ng o t v ob/\k (W.mk w.d w.u (w.h.set .dead ob w.n) (w.n+1)) (v w.n)=true:=by
 rw[eT]at h
 cases r with
 | some r=>
  have h':(tK w λ_ _ _=>false)=true:=h;rw [uS]at h';cases h'
 | none=>
  have h':(tK w λh n mk=>yD h n (.map [] 0) λh' n'=>k (mk h' n') (.map (some n)))=true:=h;rw [uS,yM]at h';refine⟨λn=>.map (some n),_,fun ρ base w0 a wd h m n hT hH hn=>?_,h'⟩;refine⟨⟨wd.heap.size,0,0⟩,.map #[] 0,.map (some wd.heap.size),rfl,?_,?_,.map ⟨rfl,λi e e' h=>by simp at h⟩ hH.size⟩
  . simp[execOp,eT,Instr.makeMap]
  . exact RV.map (B:=⟨wd.heap.size,0,0⟩) (xZ _ _ _)
theorem storeAt_ok{h:zB}{b off:Nat}{vs:List Value}{k:zB->Bool}(hs:storeAt h b off vs k=true) :
 ∃h',k h'=true/\(∀v∈vs,v.oneCell'=true)/\(∃c m z kd,zG h b = .cells c m z kd/\off+vs.length<=m/\h'=h.set .dead (.cells (Tr.ofListFrom undef c off vs) m z kd) b)/\
  ∀(n:Nat) (ρ : Inj) (base:Nat) (w0 wd:World) (B:Bl) (vs':List Value),HeapR P ng ρ base w0 h n wd->ρ b=some B->RVs ρ vs vs'->
   ∃wd',(storeCells ⟨B.b,off,none⟩ vs').run P wd = .ok () wd'/\HeapR P ng ρ base w0 h' n wd'/\Grow ρ h n wd ρ h' n wd':=by
 unfold storeAt at hs;rcases onCells_some hs with⟨c,m,z,kd,hg,h1⟩|h1
 case inr=>cases h1
 cases hk:Nat.beq kd 2 with
 | true=>rw [hk]at h1;cases h1
 | false =>
  rw[hk]at h1
  cases hle:Nat.ble (Nat.add off vs.length) m with
  | false=>rw [hle]at h1;cases h1
  | true =>
   rw[hle]at h1;have h2:xN c off vs (λc'=>h.setK .dead (.cells c' m z kd) b k)=true:=h1;obtain⟨fm,h3⟩:=rD h2;rw [Tr.setK_eq]at h3;have fR:off+vs.length<=m:=xQ hle;refine⟨_,h3,fm,⟨c,m,z,kd,hg,fR,rfl⟩,?_⟩;intro n ρ base w0 wd B vs' hH hb hv;have fU:kd≠2:=λe=>by subst e;cases hk
   obtain⟨o,e1,e2⟩:=hH.obj b B hb (by rw[hg];exact AObj.noConfusion);rw [hg]at e2
   cases e2 with
   | cells hn hs' hk' hz' jl fg hf =>
    rename_i c' el l0 h0;obtain⟨rfl,rfl⟩:=hf fU;have eN:vs'.length=vs.length:=hv.1.symm
    have iO:∀v∈vs',v.oneCell'=true:=by
     intro v' hm;obtain⟨i,hi⟩:=aj.1 hm
     have eD:i<vs.length:=by
      rcases aS i vs'.length with h5|h5
      . omega
      . rw[aw h5]at hi;cases hi
     have:=hv.2 i vs[i] v' (aa eD) hi;exact this.one (fm _ (aM eD))
    have hst:=run_storeCells_at P B.b off el vs' 0 c' wd e1 qJ  iO;refine⟨_,hst,?_⟩;refine hH.turn hb (by rw[hg];exact AObj.noConfusion) _ (.cells (c'.toList.take (off+0)++vs'++c'.toList.drop (off+0+vs'.length)).toArray el (0,0)) _ (fg fU) ?_ (setRow_heap wd B.b c' _ el _ e1) ?_ (λx hx=>setRow_other wd B.b x _ hx) rfl rfl rfl
    . have hsz:(c'.toList.take (off+0)++vs'++c'.toList.drop (off+0+vs'.length)).length=c'.size:=by simp;omega
      refine .cells hn (by simpa using hsz.trans hs') hk' hz' (λi v' hi e=>?_) fg (λ_=>⟨rfl,rfl⟩);rw [Tr.get_ofListFrom];have e':(c'.toList.take (off+0)++vs'++c'.toList.drop (off+0+vs'.length))[i]? = some v':=by simpa using e
      by_cases h6:off<=i/\i<off+vs.length
      . rw[if_pos h6];rw [ba,ax qM,az qM]at e';have fh:i - (c'.toList.take (off+0)).length=i - off:=by simp;omega
        rw[fh]at e';have eD:i - off<vs.length:=by omega
        have:vs[i - off]? = some (vs.getD (i - off) undef):=by simp[aa eD]
        exact hv.2 _ _ v' this e'
      . rw[if_neg h6];apply jl i v' hi;by_cases h7:i<off
        . rw[ba,az qM,aJ qJ]at e';simpa using e'
        . rw[ax qM,List.getElem?_drop]at e';have:off+0+vs'.length+(i - (c'.toList.take (off+0)++vs').length)=i:=by simp;omega
          rw[this]at e';simpa using e'
    . simp[World.setRow]
theorem store_ok{o:Oper}{ty:TypeId}{x v:Operand}(eT:o.op = .store ty x v){lo:Lo}{cx:Cx}{k:KV}{kp:KP}
(h:eff o.op P lo cx t w k kp=true):∃w' v,EffVal P ng o t w v w'/\k w' v=true:=by
 rw[eT]at h
 have h':(tK w λh n mk=>onPtr (ev t x) (λb off=>Sh.rec false
  (Bool.rec false (storeAt h b off (cellsOf (ev t v)) λh'=>k (mk h' n) undef) (Nat.beq (cellsOf (ev t v)).length 1))
  (λsz=>Bool.rec false (storeAt h b off (cellsOf (ev t v)) λh'=>k (mk h' n) undef) (Nat.beq (cellsOf (ev t v)).length sz)) (yP P ty)) false)=true:=h
 rw[uS]at h';rcases rU h' with⟨b,off,hx,h2⟩|h2
 case inr=>cases h2
 have key:∃i,inf? P ty=some i/\(cellsOf (ev t v)).length=i.size/\storeAt w.h b off (cellsOf (ev t v)) (λh'=>k (W.mk w.d w.u h' w.n) undef)=true:=by
  cases hs:yP P ty with
  | bad=>rw [hs]at h2;cases h2
  | scal=>
   rw[hs]at h2;obtain⟨d,i,_,_,hi,h1⟩:=shape_scal hs
   cases hl:Nat.beq (cellsOf (ev t v)).length 1 with
   | false=>rw [hl]at h2;cases h2
   | true=>rw [hl]at h2;exact⟨i,hi,by rw[h1];exact zT hl,h2⟩
  | agg sz=>
   rw[hs]at h2;dsimp only at h2;obtain⟨d,i,_,_,hi,h1⟩:=shape_agg hs
   cases hl:Nat.beq (cellsOf (ev t v)).length sz with
   | false=>rw [hl]at h2;cases h2
   | true=>rw [hl]at h2;exact⟨i,hi,by rw[h1];exact zT hl,h2⟩
 obtain⟨i,hi,eN,h3⟩:=key;obtain⟨h',e1,_,_,e2⟩:=storeAt_ok (P:=P) (ng:=ng) h3;refine⟨W.mk w.d w.u h' w.n,undef,⟨rfl,rfl,fun ρ base w0 a wd hT hH=>?_⟩,e1⟩;have hxr:=hT x ((by simp[eT,Op.operands]));have hvr:=hT v ((by simp[eT,Op.operands]));rw [hx]at hxr;obtain⟨B,hb,_,eV⟩:=hxr.of_ptr;obtain⟨wd',f1,f2,f3⟩:=e2 w.n ρ base w0 wd B (a.eval v).cells.toList hH hb hvr.cells;refine⟨ρ,undef,wd',.inr ⟨?_,rfl⟩,RV.undef ρ,f2,f3⟩;have hsz:(a.eval v).cells.size=i.size:=by have:=hvr.cells.1;simp at this;omega
 have hx'':a.eval x = .pointer (some ⟨B.b,off,none⟩):=eV;simp [execOp,eT,Instr.storeAt,Instr.sureAddr,hx'',storeVar,xE hi,hsz,f1]
end
end
section
theorem growBy_le(m:Nat):∀(r c:Nat),c<=2*m+192->Builtin.growBy m r c<=2*m+192:=by
 intro r
 induction r with
 | zero=>intro c h;exact h
 | succ r ih=>
  intro c h;unfold Builtin.growBy;split
  . exact h
  . apply ih;omega
theorem nextcap_le{m c:Nat}(h:c<m):Builtin.nextslicecap m c<=2*m+192:=by
 unfold Builtin.nextslicecap;split
 . omega
 . split
   . omega
   . exact growBy_le m 4 c qJ 
section
variable {P:Program} {ng:Nat}
theorem rowOf_ok{ρ : Inj}{base:Nat}{w0:World}{h:zB}{n:Nat}{wd:World}(hH:HeapR P ng ρ base w0 h n wd){size m:Nat}{x x':Value}(hx:RV ρ x x'){l:List Value}(hr:rowOf h size m x=some l)
(kW:∀s,x = .string s->size=1):∃l',RVs ρ l l'/\(Builtin.firstCells size m x').run P wd = .ok ⟨l'⟩ wd:=by
 unfold rowOf at hr;split at hr
 . cases hm:Nat.beq m 0 with
   | false=>rw [hm]at hr;cases hr
   | true=>
    rw[hm]at hr;injection hr with hr;subst hr
    cases hx
    exact⟨[],RVs.nil ρ,rfl⟩
 . rename_i b off len c;rcases hx.of_slice with⟨B,o',c',hb,rfl,ho,hl,_⟩|⟨rfl,rfl,_,a,rfl⟩
   rotate_left
   . have key:m=0/\l=[]:=by
      split at hr
      . rename_i cc kn z kd hg
        cases hc:(Nat.ble m 0 && Nat.ble (Nat.add off (Nat.mul m size)) kn) with
        | false=>rw [hc]at hr;cases hr
        | true=>
         rw[hc]at hr;dsimp only[cond]at hr;injection hr with hr;subst hr
         have h1:=xQ (ak.1 hc).1;obtain rfl:m=0:=by omega
         refine⟨rfl,?_⟩;rw [show Nat.mul 0 size=0 from bI size];rfl
      . rename_i cc kn hg
        cases hc:(Nat.ble m 0 && Nat.ble (Nat.add off (Nat.mul m size)) kn) with
        | false=>rw [hc]at hr;cases hr
        | true=>
         rw[hc]at hr;dsimp only[cond]at hr;obtain⟨hu,rfl⟩:=knownL_some hr;have h1:=xQ (ak.1 hc).1;obtain rfl:m=0:=by omega
         refine⟨rfl,?_⟩;rw [show Nat.mul 0 size=0 from bI size];rfl
      . cases hr
     obtain⟨rfl,rfl⟩:=key;refine⟨[],RVs.nil ρ,?_⟩;simp only[Builtin.firstCells,bI];rfl
   split at hr
   . rename_i cc kn z kd hg
     cases hc:(Nat.ble m len && Nat.ble (Nat.add off (Nat.mul m size)) kn) with
     | false=>rw [hc]at hr;cases hr
     | true=>
      rw[hc]at hr;dsimp only[cond]at hr;injection hr with hr;subst hr
      obtain⟨h1,h2⟩:=ak.1 hc;have h1:=xQ h1;have h2:off+m*size<=kn:=xQ h2;obtain⟨l',r1,r2⟩:=run_loadRow hH hb hg h2;refine⟨l',r1,?_⟩;by_cases h0:m*size=0
      . have:l'=[]:=by
         have:=r1.1;rw [h0]at this;simp [Tr.toListFrom]at this;exact aP.1 this.symm
        subst this;simp only[Builtin.firstCells,h0];rfl
      . have h3:0<len:=by
         rcases bK m with e|e
         . subst e;simp at h0
         . omega
        rw[ho h3];exact r2
   . rename_i cc kn hg
     cases hc:(Nat.ble m len && Nat.ble (Nat.add off (Nat.mul m size)) kn) with
     | false=>rw [hc]at hr;cases hr
     | true=>
      rw[hc]at hr;dsimp only[cond]at hr;obtain⟨hu,rfl⟩:=knownL_some hr;obtain⟨h1,h2⟩:=ak.1 hc;have h1:=xQ h1;have h2:off+m*size<=kn:=xQ h2;obtain⟨l',r1,r2⟩:=run_loadRows hH hb hg h2 hu;refine⟨l',r1,?_⟩;by_cases h0:m*size=0
      . have:l'=[]:=by
         have:=r1.1;rw [h0]at this;simp [Tr.toListFrom]at this;exact aP.1 this.symm
        subst this;simp only[Builtin.firstCells,h0];rfl
      . have h3:0<len:=by
         rcases bK m with e|e
         . subst e;simp at h0
         . omega
        rw[ho h3];exact r2
   . cases hr
 . rename_i s;injection hr with hr;subst hr
   obtain rfl:=hx.of_string;refine⟨((s.extract 0 m).data.map λb=>Value.int .u8 b.toNat).toList,?_,?_⟩
   . rw[str_extract];simp only[Array.toList_map,List.drop_zero,Nat.sub_zero];refine⟨by simp,λi v v' e1 e2=>?_⟩;rw [ao]at e1 e2
     cases hq:(s.data.toList.take m)[i]? with
     | none=>rw [hq]at e1;cases e1
     | some q=>
      rw[hq]at e1 e2;injection e1 with e1
      injection e2 with e2
      subst e1 e2;exact RV.int _ _
   . rfl
 . cases hr
theorem lenV_ok{ρ : Inj}{x x':Value}(hx:RV ρ x x'){m:Nat}(h:lenV x=some m)(wd:World):(Builtin.lenOf x').run P wd = .ok m wd:=by
 unfold lenV at h;split at h
 . injection h with h;subst h
   cases hx <;> rfl
 . injection h with h;subst h
   obtain rfl:=hx.of_string;rfl
 . cases h
def isIntT:TypeDesc->Bool
 | .int _=>true
 | _=>false
def appSem(e:TypeId)(ei:TypeInfo)(xd:TypeDesc)(x':Value)(m:Nat):Sem (Array Value):=
 if isIntT xd=true then(if m*ei.size=0 then pure #[] else do pure (Builtin.zeroCells (<- zeroValue e).cells m)) else Builtin.firstCells ei.size m x'
def appLen(wd:World)(P:Program)(xd:TypeDesc)(x':Value)(m:Nat):Prop:=
 if isIntT xd=true then ∃k,x' = .int k (m:Int)/\m<100000 else(Builtin.lenOf x').run P wd = .ok m wd
theorem uH(hP:xC ng P=true){ρ : Inj}{base:Nat}{w0:World}{h:zB}{n:Nat}{wd:World}(hH:HeapR P ng ρ base w0 h n wd){e:TypeId}{ei:TypeInfo}{xd:TypeDesc}{x x':Value}(hx:RV ρ x x')
{z:Value}(hz:xI P e=some z){m:Nat}{new:List Value}(ha:xD P h e ei.size xd x=some (m,new)) :
 appLen wd P xd x' m/\∃new',RVs ρ new new'/\(appSem e ei xd x' m).run P wd = .ok ⟨new'⟩ wd/\new.length=m*ei.size:=by
 unfold xD at ha;unfold appLen appSem;split at ha
 . rename_i kk;split at ha
   . rename_i m2 z2 hn hz2;rw [hz]at hz2;injection hz2 with hz2;subst hz2
     cases hc:(Nat.blt m2 100000 && Nat.beq (cellsOf z).length ei.size) with
     | false=>rw [hc]at ha;cases ha
     | true=>
      rw[hc]at ha;dsimp only[cond]at ha;injection ha with ha
      injection ha with ha1 ha2
      subst ha1 ha2;obtain⟨h1,h2⟩:=ak.1 hc;have h1:=xJ h1;have h2:=zT h2;obtain⟨k,rfl⟩:=natOf_some hn;obtain rfl:=hx.of_int;refine⟨⟨k,rfl,h1⟩,?_⟩;have ik:cellsOf z=z.cells.toList:=by cases z <;> rfl
      have hzc:=RV.cells (RV.plain (tT hP hz) ρ);have hzs:z.cells.size=ei.size:=by rw[ik]at h2;simpa using h2
      by_cases h0:m2*ei.size=0
      . refine⟨[],?_,?_,?_⟩
        . have:rep (cellsOf z) m2=[]:=aP.1 (by rw[tW,h2];exact h0);rw [this];exact RVs.nil ρ
        . simp[isIntT,h0]
        . rw[tW,h2]
      . refine⟨(Builtin.zeroCells z.cells m2).toList,?_,?_,by rw[tW,h2]⟩
        . have hsz1:1<=z.cells.size:=by
           rcases bK z.cells.size with e0|e0
           . rw[hzs]at e0;rw [e0]at h0;simp at h0
           . exact e0
          have:=made_eq z.cells m2 hsz1;unfold Builtin.zeroCells;rw [this,<- ik];refine⟨rfl,λi v v' e1 e2=>?_⟩;rw [e1]at e2;injection e2 with e2;subst e2
          have eD:i<m2*(cellsOf z).length:=by
           rcases aS i (rep (cellsOf z) m2).length with h1|h1
           . rwa [tW]at h1
           . rw[aw h1]at e1;cases e1
          rw[rep_get _ _ _ eD]at e1;exact hzc.2 _ v v e1 (by rw[<- ik];exact e1)
        . simp[isIntT,h0,vV hz]
   . cases ha
 . rename_i fN;have jv:isIntT xd=false:=by cases xd <;> first|rfl|exact absurd rfl (fN _)
   rw[jv];simp only[bz,if_false]
   cases hl:lenV x with
   | none=>rw [hl]at ha;cases ha
   | some m2 =>
    rw[hl]at ha;dsimp only at ha
    cases hs:strFits ei.size x with
    | false=>rw [hs]at ha;cases ha
    | true =>
     rw[hs]at ha;dsimp only[cond]at ha
     cases hr:rowOf h ei.size m2 x with
     | none=>rw [hr]at ha;cases ha
     | some l=>
      rw[hr]at ha;dsimp only at ha;injection ha with ha
      injection ha with ha1 ha2
      subst ha1 ha2;have kW:∀s,x = .string s->ei.size=1:=λs e=>by subst e;exact zT hs
      obtain⟨l',r1,r2⟩:=rowOf_ok hH hx hr kW;refine⟨lenV_ok hx hl wd,l',r1,r2,?_⟩;unfold rowOf at hr;split at hr
      . cases hm:Nat.beq m2 0 with
        | false=>rw [hm]at hr;cases hr
        | true=>
         rw[hm]at hr;injection hr with hr;subst hr
         obtain rfl:=zT hm;simp
      . rename_i b off len c;split at hr
        . rename_i cc kn z2 kd hg
          cases hc:(Nat.ble m2 len && Nat.ble (Nat.add off (Nat.mul m2 ei.size)) kn) with
          | false=>rw [hc]at hr;cases hr
          | true=>
           rw[hc]at hr;dsimp only[cond]at hr;injection hr with hr;subst hr
           exact Tr.length_toListFrom _ _ _ _
        . rename_i cc kn hg
          cases hc:(Nat.ble m2 len && Nat.ble (Nat.add off (Nat.mul m2 ei.size)) kn) with
          | false=>rw [hc]at hr;cases hr
          | true=>
           rw[hc]at hr;dsimp only[cond]at hr;obtain⟨_,rfl⟩:=knownL_some hr;exact Tr.length_toListFrom _ _ _ _
        . cases hr
      . rename_i s;injection hr with hr;subst hr
        simp only[lenV]at hl;injection hl with hl
        rw[kW s rfl,<- hl];simp
      . cases hr
end
end
section
section
variable {P:Program} {ng:Nat}
theorem isIntT_or(xd:TypeDesc):(∃k,xd = .int k)\/(isIntT xd=false/\∀k,xd≠.int k):=by
 cases xd
 case int k=>exact .inl ⟨k,rfl⟩
 all_goals exact .inr ⟨rfl,λ_=>TypeDesc.noConfusion⟩
theorem int_facts{m:Nat}{b:Nat}(hm:m<100000)(hb:b<100000) :
 IntKind.i64.wrap ((m:Nat):Int)=(m:Int)/\¬((m:Int)<0)/\¬((m:Int)*((b:Nat):Int) > 2 ^ 48):=by
 refine⟨IntWalk.i64_in _ qJ,by omega,?_⟩;have b1:m*b<=100000*100000:=eh qJ qJ;have e:(m:Int)*((b:Nat):Int)=((m*b:Nat):Int):=by push_cast;rfl
 rw[e];have:(2:Int) ^ 48=281474976710656:=by decide
 omega
theorem uJ{wd wd':World}{sT xT e rt:TypeId}{ei:TypeInfo}{xd:TypeDesc}{base:Option Addr}{sLen sCap m:Nat}{x':Value}{new':List Value}{tr:List TypeId}{xr:List Value}
(hd:und P sT=some (.slice e))(hxd:und P xT=some xd)(hi:inf? P e=some ei)(hl:appLen wd P xd x' m)(hb:ei.bytes<100000)(hn:sLen+m<=sCap)
(ha:(appSem e ei xd x' m).run P wd = .ok ⟨new'⟩ wd)
(hst:match base with
  | some a=>(storeCells (a.add (sLen*ei.size)) new').run P wd = .ok () wd'
  | none=>wd'=wd) :
 (Builtin.append_ ⟨sT::xT::tr⟩ rt ⟨.slice base sLen sCap::x'::xr⟩).run P wd = .ok (.slice base (sLen+m) sCap) wd':=by
 unfold appSem at ha;unfold appLen at hl;have e1:(⟨sT::xT::tr⟩:Array TypeId)[0]? = some sT:=by simp
 have e2:(⟨sT::xT::tr⟩:Array TypeId)[1]? = some xT:=by simp
 have e3:(⟨.slice base sLen sCap::x'::xr⟩:Array Value)[0]? = some (.slice base sLen sCap):=by simp
 have e4:(⟨.slice base sLen sCap::x'::xr⟩:Array Value)[1]? = some x':=by simp
 unfold Builtin.append_;simp only[e1,e2,e3,e4,Sem.run_bind,zR hd,zR hxd,xE hi,Result.andThen_ok,Sem.run_pure];rcases isIntT_or xd with⟨kk,rfl⟩|⟨hz,fN⟩
 . simp only[isIntT,if_true]at ha hl;obtain⟨k,rfl,hm⟩:=hl;obtain⟨w1,n1,t1⟩:=int_facts hm hb;simp only[if_true,Sem.run_bind,asInt,asIntOf,Sem.run_pure,Result.andThen_ok,w1,if_neg n1,runTI (xY hi).2,if_neg t1,bM,if_pos hn,Bool.not_true,bz,if_false];rw [ha];simp only[Result.andThen_ok]
   cases base with
   | none=>subst hst;rfl
   | some a=>dsimp only at hst ⊢;rw [Sem.run_bind,hst];rfl
 . rw[hz]at ha hl;simp only[bz,if_false]at ha hl;cases xd
   case int=>exact absurd rfl (fN _)
   all_goals simp only[bz,if_false,hl,Result.andThen_ok,if_pos hn,Sem.run_bind,d9,if_true]
   all_goals rw[ha]
   all_goals simp only[Result.andThen_ok]
   all_goals cases base with
   | none=>subst hst;rfl
   | some a=>dsimp only at hst ⊢;rw [Sem.run_bind,hst];rfl
theorem append_grows{wd:World}{sT xT e rt:TypeId}{ei:TypeInfo}{xd:TypeDesc}{base:Option Addr}{sLen sCap m:Nat}{x' z:Value}{old' new':List Value}{tr:List TypeId}{xr:List Value}
(hd:und P sT=some (.slice e))(hxd:und P xT=some xd)(hi:inf? P e=some ei)(hz:xI P e=some z)(hl:appLen wd P xd x' m)(hb:ei.bytes<100000)(hn:¬sLen+m<=sCap)(hm:sLen+m<1000000)
(ha':(appSem e ei xd x' m).run P { wd with drawn:=wd.drawn+1 } = .ok ⟨new'⟩ { wd with drawn:=wd.drawn+1 })
(gm:(Builtin.firstCells ei.size sLen (.slice base sLen sCap)).run P { wd with drawn:=wd.drawn+1 } = .ok ⟨old'⟩ { wd with drawn:=wd.drawn+1 }) :
 ∃newCap dr,sLen+m<=newCap/\
 (Builtin.append_ ⟨sT::xT::tr⟩ rt ⟨.slice base sLen sCap::x'::xr⟩).run P wd =
  .ok (.slice (some ⟨wd.heap.size,0,none⟩) (sLen+m) newCap) { wd with drawn:=dr,heap:=wd.heap.push (.cells ((⟨old'⟩:Array Value)++⟨new'⟩++Builtin.zeroCells z.cells (newCap - (sLen+m))) e) }:=by
 have e1:(⟨sT::xT::tr⟩:Array TypeId)[0]? = some sT:=by simp
 have e2:(⟨sT::xT::tr⟩:Array TypeId)[1]? = some xT:=by simp
 have e3:(⟨.slice base sLen sCap::x'::xr⟩:Array Value)[0]? = some (.slice base sLen sCap):=by simp
 have e4:(⟨.slice base sLen sCap::x'::xr⟩:Array Value)[1]? = some x':=by simp
 have jx:∀q:Prop,¬(((sLen+m:Nat):Int) > IntKind.i64.max/\q):=by
  have:IntKind.i64.max=9223372036854775807:=by decide
  rw[this]
  rintro q ⟨h,_⟩
  omega
 have hnc:¬(Builtin.nextslicecap (sLen+m) sCap*ei.bytes > 2 ^ 48):=by
  have h1:=nextcap_le (m:=sLen+m) (c:=sCap) qJ;have h2:Builtin.nextslicecap (sLen+m) sCap*ei.bytes<=2000192*100000:=eh qJ qJ;have:(2:Nat) ^ 48=281474976710656:=by decide
  omega
 refine⟨(Question.appendCap (sLen+m) sCap e).cut (wd.tape wd.drawn (.appendCap (sLen+m) sCap e)),wd.drawn+1,?_,?_⟩
 . simp[Question.cut]
 . unfold appSem at ha';unfold appLen at hl;unfold Builtin.append_;simp only[e1,e2,e3,e4,Sem.run_bind,zR hd,zR hxd,xE hi,Result.andThen_ok,Sem.run_pure];rcases isIntT_or xd with⟨kk,rfl⟩|⟨hz2,fN⟩
   . simp only[isIntT,if_true]at ha' hl;obtain⟨k,rfl,hm2⟩:=hl;obtain⟨w1,n1,t1⟩:=int_facts hm2 hb;simp only[if_true,Sem.run_bind,asInt,asIntOf,Sem.run_pure,Result.andThen_ok,w1,if_neg n1,runTI (xY hi).2,if_neg t1,bM,if_neg hn,if_neg (jx _),Bool.not_true,bz,if_false,if_neg hnc];have hch:(choose (Question.appendCap (sLen+m) sCap e)).run P wd = .ok ((Question.appendCap (sLen+m) sCap e).cut (wd.tape wd.drawn (Question.appendCap (sLen+m) sCap e))) { wd with drawn:=wd.drawn+1 }:=rfl;rw [hch];simp only[Result.andThen_ok,run_askRoom];rw [gm];simp only[Result.andThen_ok];rw [ha'];simp only[Result.andThen_ok,vV hz,newRow];rfl
   . rw[hz2]at ha' hl;simp only[bz,if_false]at ha' hl;cases xd
     case int=>exact absurd rfl (fN _)
     all_goals simp only[bz,if_false,hl,Sem.run_bind,Result.andThen_ok,runTI (xY hi).2,if_neg hn,if_neg (jx _),if_neg hnc,d9,if_true]
     all_goals
      have hch:(choose (Question.appendCap (sLen+m) sCap e)).run P wd = .ok ((Question.appendCap (sLen+m) sCap e).cut (wd.tape wd.drawn (Question.appendCap (sLen+m) sCap e))) { wd with drawn:=wd.drawn+1 }:=rfl;rw [hch];simp only[Result.andThen_ok,run_askRoom];rw [gm];simp only[Result.andThen_ok];rw [ha'];simp only[Result.andThen_ok,vV hz,newRow];rfl
end
end
end Go.Ex
