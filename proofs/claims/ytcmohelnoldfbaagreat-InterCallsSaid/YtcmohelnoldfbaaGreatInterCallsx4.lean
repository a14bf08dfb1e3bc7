/- What the law leans on: an executor of the model that is sound, deduction over it, and the walks through the code (part 4 of 13). Conditions: those that each theorem states. -/
import Derived.Test.YtcmohelnoldfbaaGreatInterCallsx3

set_option linter.unusedVariables false
set_option linter.unusedSimpArgs false
namespace Go.Ex
theorem growBy_le(m:Nat):∀(r c:Nat),c≤2*m+192→Builtin.growBy m r c≤2*m+192:=by
 intro r
 induction r with
 | zero=>intro c h;exact h
 | succ r ih=>
  intro c h;unfold Builtin.growBy;split
  · exact h
  · apply ih;omega
theorem nextcap_le{m c:Nat}(h:c<m):Builtin.nextslicecap m c≤2*m+192:=by
 unfold Builtin.nextslicecap;split
 · omega
 · split
   · omega
   · exact growBy_le m 4 c (by omega)
section
variable {P:Program} {ng:Nat}
theorem rowOf_ok{ρ : Inj}{base:Nat}{w0:World}{h:zB}{n:Nat}{wd:World}(hH:HeapR P ng ρ base w0 h n wd){size m:Nat}{x x':Value}(hx:RV ρ x x'){l:List Value}(hr:rowOf h size m x=some l)
(hstr:∀s,x = .string s→size=1):∃l',RVs ρ l l'∧(Builtin.firstCells size m x').run P wd = .ok ⟨l'⟩ wd:=by
 unfold rowOf at hr;split at hr
 · cases hm:Nat.beq m 0 with
   | false=>rw [hm]at hr;cases hr
   | true=>
    rw[hm]at hr;injection hr with hr;subst hr
    cases hx
    exact⟨[],RVs.nil ρ,rfl⟩
 · rename_i b off len c;rcases hx.of_slice with⟨B,o',c',hb,rfl,ho,hl,_⟩|⟨rfl,rfl,_,a,rfl⟩
   rotate_left
   · have key:m=0∧l=[]:=by
      split at hr
      · rename_i cc kn z kd hg
        cases hc:(Nat.ble m 0 && Nat.ble (Nat.add off (Nat.mul m size)) kn) with
        | false=>rw [hc]at hr;cases hr
        | true=>
         rw[hc]at hr;dsimp only[cond]at hr;injection hr with hr;subst hr
         have h1:=yJ (Bool.and_eq_true_iff.1 hc).1;obtain rfl:m=0:=by omega
         refine⟨rfl,?_⟩;rw [show Nat.mul 0 size=0 from Nat.zero_mul size];rfl
      · rename_i cc kn hg
        cases hc:(Nat.ble m 0 && Nat.ble (Nat.add off (Nat.mul m size)) kn) with
        | false=>rw [hc]at hr;cases hr
        | true=>
         rw[hc]at hr;dsimp only[cond]at hr;obtain⟨hu,rfl⟩:=knownL_some hr;have h1:=yJ (Bool.and_eq_true_iff.1 hc).1;obtain rfl:m=0:=by omega
         refine⟨rfl,?_⟩;rw [show Nat.mul 0 size=0 from Nat.zero_mul size];rfl
      · cases hr
     obtain⟨rfl,rfl⟩:=key;refine⟨[],RVs.nil ρ,?_⟩;simp only[Builtin.firstCells,Nat.zero_mul];rfl
   split at hr
   · rename_i cc kn z kd hg
     cases hc:(Nat.ble m len && Nat.ble (Nat.add off (Nat.mul m size)) kn) with
     | false=>rw [hc]at hr;cases hr
     | true=>
      rw[hc]at hr;dsimp only[cond]at hr;injection hr with hr;subst hr
      obtain⟨h1,h2⟩:=Bool.and_eq_true_iff.1 hc;have h1:=yJ h1;have h2:off+m*size≤kn:=yJ h2;obtain⟨l',r1,r2⟩:=run_loadRow hH hb hg h2;refine⟨l',r1,?_⟩;by_cases h0:m*size=0
      · have:l'=[]:=by
         have:=r1.1;rw [h0]at this;simp [Tr.toListFrom]at this;exact List.length_eq_zero_iff.1 this.symm
        subst this;simp only[Builtin.firstCells,h0];rfl
      · have h3:0<len:=by
         rcases Nat.eq_zero_or_pos m with e|e
         · subst e;simp at h0
         · omega
        rw[ho h3];exact r2
   · rename_i cc kn hg
     cases hc:(Nat.ble m len && Nat.ble (Nat.add off (Nat.mul m size)) kn) with
     | false=>rw [hc]at hr;cases hr
     | true=>
      rw[hc]at hr;dsimp only[cond]at hr;obtain⟨hu,rfl⟩:=knownL_some hr;obtain⟨h1,h2⟩:=Bool.and_eq_true_iff.1 hc;have h1:=yJ h1;have h2:off+m*size≤kn:=yJ h2;obtain⟨l',r1,r2⟩:=run_loadRows hH hb hg h2 hu;refine⟨l',r1,?_⟩;by_cases h0:m*size=0
      · have:l'=[]:=by
         have:=r1.1;rw [h0]at this;simp [Tr.toListFrom]at this;exact List.length_eq_zero_iff.1 this.symm
        subst this;simp only[Builtin.firstCells,h0];rfl
      · have h3:0<len:=by
         rcases Nat.eq_zero_or_pos m with e|e
         · subst e;simp at h0
         · omega
        rw[ho h3];exact r2
   · cases hr
 · rename_i s;injection hr with hr;subst hr
   obtain rfl:=hx.of_string;refine⟨((s.extract 0 m).data.map fun b=>Value.int .u8 b.toNat).toList,?_,?_⟩
   · rw[str_extract];simp only[Array.toList_map,List.drop_zero,Nat.sub_zero];refine⟨by simp,fun i v v' e1 e2=>?_⟩;rw [List.getElem?_map]at e1 e2
     cases hq:(s.data.toList.take m)[i]? with
     | none=>rw [hq]at e1;cases e1
     | some q=>
      rw[hq]at e1 e2;injection e1 with e1
      injection e2 with e2
      subst e1 e2;exact RV.int _ _
   · rfl
 · cases hr
theorem lenV_ok{ρ : Inj}{x x':Value}(hx:RV ρ x x'){m:Nat}(h:lenV x=some m)(wd:World):(Builtin.lenOf x').run P wd = .ok m wd:=by
 unfold lenV at h;split at h
 · injection h with h;subst h
   cases hx <;> rfl
 · injection h with h;subst h
   obtain rfl:=hx.of_string;rfl
 · cases h
def isIntT:TypeDesc→Bool
 | .int _=>true
 | _=>false
def appSem(e:TypeId)(ei:TypeInfo)(xd:TypeDesc)(x':Value)(m:Nat):Sem (Array Value):=
 if isIntT xd=true then(if m*ei.size=0 then pure #[] else do pure (Builtin.zeroCells (← zeroValue e).cells m)) else Builtin.firstCells ei.size m x'
def appLen(wd:World)(P:Program)(xd:TypeDesc)(x':Value)(m:Nat):Prop:=
 if isIntT xd=true then ∃k,x' = .int k (m:Int)∧m<100000 else(Builtin.lenOf x').run P wd = .ok m wd
theorem wH(hP:zU ng P=true){ρ : Inj}{base:Nat}{w0:World}{h:zB}{n:Nat}{wd:World}(hH:HeapR P ng ρ base w0 h n wd){e:TypeId}{ei:TypeInfo}{xd:TypeDesc}{x x':Value}(hx:RV ρ x x')
{z:Value}(hz:zZ P e=some z){m:Nat}{new:List Value}(ha:xF P h e ei.size xd x=some (m,new)) :
 appLen wd P xd x' m∧∃new',RVs ρ new new'∧(appSem e ei xd x' m).run P wd = .ok ⟨new'⟩ wd∧new.length=m*ei.size:=by
 unfold xF at ha;unfold appLen appSem;split at ha
 · rename_i kk;split at ha
   · rename_i m2 z2 hn hz2;rw [hz]at hz2;injection hz2 with hz2;subst hz2
     cases hc:(Nat.blt m2 100000 && Nat.beq (cellsOf z).length ei.size) with
     | false=>rw [hc]at ha;cases ha
     | true=>
      rw[hc]at ha;dsimp only[cond]at ha;injection ha with ha
      injection ha with ha1 ha2
      subst ha1 ha2;obtain⟨h1,h2⟩:=Bool.and_eq_true_iff.1 hc;have h1:=zS h1;have h2:=zD h2;obtain⟨k,rfl⟩:=natOf_some hn;obtain rfl:=hx.of_int;refine⟨⟨k,rfl,h1⟩,?_⟩;have hzz:cellsOf z=z.cells.toList:=by cases z <;> rfl
      have hzc:=RV.cells (RV.plain (xP hP hz) ρ);have hzs:z.cells.size=ei.size:=by rw[hzz]at h2;simpa using h2
      by_cases h0:m2*ei.size=0
      · refine⟨[],?_,?_,?_⟩
        · have:rep (cellsOf z) m2=[]:=List.length_eq_zero_iff.1 (by rw[xI,h2];exact h0);rw [this];exact RVs.nil ρ
        · simp[isIntT,h0]
        · rw[xI,h2]
      · refine⟨(Builtin.zeroCells z.cells m2).toList,?_,?_,by rw[xI,h2]⟩
        · have hsz1:1≤z.cells.size:=by
           rcases Nat.eq_zero_or_pos z.cells.size with e0|e0
           · rw[hzs]at e0;rw [e0]at h0;simp at h0
           · exact e0
          have:=made_eq z.cells m2 hsz1;unfold Builtin.zeroCells;rw [this,← hzz];refine⟨rfl,fun i v v' e1 e2=>?_⟩;rw [e1]at e2;injection e2 with e2;subst e2
          have hlt:i<m2*(cellsOf z).length:=by
           rcases Nat.lt_or_ge i (rep (cellsOf z) m2).length with h1|h1
           · rwa [xI]at h1
           · rw[List.getElem?_eq_none h1]at e1;cases e1
          rw[rep_get _ _ _ hlt]at e1;exact hzc.2 _ v v e1 (by rw[← hzz];exact e1)
        · simp[isIntT,h0,xH hz]
   · cases ha
 · rename_i hni;have hint:isIntT xd=false:=by cases xd <;> first|rfl|exact absurd rfl (hni _)
   rw[hint];simp only[Bool.false_eq_true,if_false]
   cases hl:lenV x with
   | none=>rw [hl]at ha;cases ha
   | some m2 =>
    rw[hl]at ha;dsimp only at ha
    cases hs:strFits ei.size x with
    | false=>rw [hs]at ha;cases ha
    | true =>
     rw[hs]at ha;dsimp only[cond]at ha
     cases hr:rowOf h ei.size m2 x with
     | none=>rw [hr]at ha;cases ha
     | some l=>
      rw[hr]at ha;dsimp only at ha;injection ha with ha
      injection ha with ha1 ha2
      subst ha1 ha2;have hstr:∀s,x = .string s→ei.size=1:=fun s e=>by subst e;exact zD hs
      obtain⟨l',r1,r2⟩:=rowOf_ok hH hx hr hstr;refine⟨lenV_ok hx hl wd,l',r1,r2,?_⟩;unfold rowOf at hr;split at hr
      · cases hm:Nat.beq m2 0 with
        | false=>rw [hm]at hr;cases hr
        | true=>
         rw[hm]at hr;injection hr with hr;subst hr
         obtain rfl:=zD hm;simp
      · rename_i b off len c;split at hr
        · rename_i cc kn z2 kd hg
          cases hc:(Nat.ble m2 len && Nat.ble (Nat.add off (Nat.mul m2 ei.size)) kn) with
          | false=>rw [hc]at hr;cases hr
          | true=>
           rw[hc]at hr;dsimp only[cond]at hr;injection hr with hr;subst hr
           exact Tr.length_toListFrom _ _ _ _
        · rename_i cc kn hg
          cases hc:(Nat.ble m2 len && Nat.ble (Nat.add off (Nat.mul m2 ei.size)) kn) with
          | false=>rw [hc]at hr;cases hr
          | true=>
           rw[hc]at hr;dsimp only[cond]at hr;obtain⟨_,rfl⟩:=knownL_some hr;exact Tr.length_toListFrom _ _ _ _
        · cases hr
      · rename_i s;injection hr with hr;subst hr
        simp only[lenV]at hl;injection hl with hl
        rw[hstr s rfl,← hl];simp
      · cases hr
end
end Go.Ex
namespace Go.Ex
section
variable {P:Program} {ng:Nat}
theorem isIntT_or(xd:TypeDesc):(∃k,xd = .int k)∨(isIntT xd=false∧∀k,xd≠.int k):=by
 cases xd
 case int k=>exact .inl ⟨k,rfl⟩
 all_goals exact .inr ⟨rfl,fun _=>TypeDesc.noConfusion⟩
theorem int_facts{m:Nat}{b:Nat}(hm:m<100000)(hb:b<100000) :
 IntKind.i64.wrap ((m:Nat):Int)=(m:Int)∧¬((m:Int)<0)∧¬((m:Int)*((b:Nat):Int) > 2 ^ 48):=by
 refine⟨IntWalk.i64_in _ (by omega),by omega,?_⟩;have b1:m*b≤100000*100000:=Nat.mul_le_mul (by omega) (by omega);have e:(m:Int)*((b:Nat):Int)=((m*b:Nat):Int):=by push_cast;rfl
 rw[e];have:(2:Int) ^ 48=281474976710656:=by decide
 omega
theorem wI{wd wd':World}{sT xT e rt:TypeId}{ei:TypeInfo}{xd:TypeDesc}{base:Option Addr}{sLen sCap m:Nat}{x':Value}{new':List Value}{tr:List TypeId}{xr:List Value}
(hd:und P sT=some (.slice e))(hxd:und P xT=some xd)(hi:inf? P e=some ei)(hl:appLen wd P xd x' m)(hb:ei.bytes<100000)(hn:sLen+m≤sCap)
(ha:(appSem e ei xd x' m).run P wd = .ok ⟨new'⟩ wd)
(hst:match base with
  | some a=>(storeCells (a.add (sLen*ei.size)) new').run P wd = .ok () wd'
  | none=>wd'=wd) :
 (Builtin.append_ ⟨sT::xT::tr⟩ rt ⟨.slice base sLen sCap::x'::xr⟩).run P wd = .ok (.slice base (sLen+m) sCap) wd':=by
 unfold appSem at ha;unfold appLen at hl;have e1:(⟨sT::xT::tr⟩:Array TypeId)[0]? = some sT:=by simp
 have e2:(⟨sT::xT::tr⟩:Array TypeId)[1]? = some xT:=by simp
 have e3:(⟨.slice base sLen sCap::x'::xr⟩:Array Value)[0]? = some (.slice base sLen sCap):=by simp
 have e4:(⟨.slice base sLen sCap::x'::xr⟩:Array Value)[1]? = some x':=by simp
 unfold Builtin.append_;simp only[e1,e2,e3,e4,Sem.run_bind,zG hd,zG hxd,yA hi,Result.andThen_ok,Sem.run_pure];rcases isIntT_or xd with⟨kk,rfl⟩|⟨hz,hni⟩
 · simp only[isIntT,if_true]at ha hl;obtain⟨k,rfl,hm⟩:=hl;obtain⟨w1,n1,t1⟩:=int_facts hm hb;simp only[if_true,Sem.run_bind,asInt,asIntOf,Sem.run_pure,Result.andThen_ok,w1,if_neg n1,runTI (yM hi).2,if_neg t1,Int.toNat_natCast,if_pos hn,Bool.not_true,Bool.false_eq_true,if_false];rw [ha];simp only[Result.andThen_ok]
   cases base with
   | none=>subst hst;rfl
   | some a=>dsimp only at hst ⊢;rw [Sem.run_bind,hst];rfl
 · rw[hz]at ha hl;simp only[Bool.false_eq_true,if_false]at ha hl;cases xd
   case int=>exact absurd rfl (hni _)
   all_goals simp only[Bool.false_eq_true,if_false,hl,Result.andThen_ok,if_pos hn,Sem.run_bind,Bool.not_false,if_true]
   all_goals rw[ha]
   all_goals simp only[Result.andThen_ok]
   all_goals cases base with
   | none=>subst hst;rfl
   | some a=>dsimp only at hst ⊢;rw [Sem.run_bind,hst];rfl
theorem append_grows{wd:World}{sT xT e rt:TypeId}{ei:TypeInfo}{xd:TypeDesc}{base:Option Addr}{sLen sCap m:Nat}{x' z:Value}{old' new':List Value}{tr:List TypeId}{xr:List Value}
(hd:und P sT=some (.slice e))(hxd:und P xT=some xd)(hi:inf? P e=some ei)(hz:zZ P e=some z)(hl:appLen wd P xd x' m)(hb:ei.bytes<100000)(hn:¬sLen+m≤sCap)(hm:sLen+m<1000000)
(ha':(appSem e ei xd x' m).run P { wd with drawn:=wd.drawn+1 } = .ok ⟨new'⟩ { wd with drawn:=wd.drawn+1 })
(ho':(Builtin.firstCells ei.size sLen (.slice base sLen sCap)).run P { wd with drawn:=wd.drawn+1 } = .ok ⟨old'⟩ { wd with drawn:=wd.drawn+1 }) :
 ∃newCap dr,sLen+m≤newCap∧
 (Builtin.append_ ⟨sT::xT::tr⟩ rt ⟨.slice base sLen sCap::x'::xr⟩).run P wd =
  .ok (.slice (some ⟨wd.heap.size,0,none⟩) (sLen+m) newCap) { wd with drawn:=dr,heap:=wd.heap.push (.cells ((⟨old'⟩:Array Value)++⟨new'⟩++Builtin.zeroCells z.cells (newCap - (sLen+m))) e) }:=by
 have e1:(⟨sT::xT::tr⟩:Array TypeId)[0]? = some sT:=by simp
 have e2:(⟨sT::xT::tr⟩:Array TypeId)[1]? = some xT:=by simp
 have e3:(⟨.slice base sLen sCap::x'::xr⟩:Array Value)[0]? = some (.slice base sLen sCap):=by simp
 have e4:(⟨.slice base sLen sCap::x'::xr⟩:Array Value)[1]? = some x':=by simp
 have hmax:∀q:Prop,¬(((sLen+m:Nat):Int) > IntKind.i64.max∧q):=by
  have:IntKind.i64.max=9223372036854775807:=by decide
  rw[this]
  rintro q ⟨h,_⟩
  omega
 have hnc:¬(Builtin.nextslicecap (sLen+m) sCap*ei.bytes > 2 ^ 48):=by
  have h1:=nextcap_le (m:=sLen+m) (c:=sCap) (by omega);have h2:Builtin.nextslicecap (sLen+m) sCap*ei.bytes≤2000192*100000:=Nat.mul_le_mul (by omega) (by omega);have:(2:Nat) ^ 48=281474976710656:=by decide
  omega
 refine⟨(Question.appendCap (sLen+m) sCap e).cut (wd.tape wd.drawn (.appendCap (sLen+m) sCap e)),wd.drawn+1,?_,?_⟩
 · simp[Question.cut]
 · unfold appSem at ha';unfold appLen at hl;unfold Builtin.append_;simp only[e1,e2,e3,e4,Sem.run_bind,zG hd,zG hxd,yA hi,Result.andThen_ok,Sem.run_pure];rcases isIntT_or xd with⟨kk,rfl⟩|⟨hz2,hni⟩
   · simp only[isIntT,if_true]at ha' hl;obtain⟨k,rfl,hm2⟩:=hl;obtain⟨w1,n1,t1⟩:=int_facts hm2 hb;simp only[if_true,Sem.run_bind,asInt,asIntOf,Sem.run_pure,Result.andThen_ok,w1,if_neg n1,runTI (yM hi).2,if_neg t1,Int.toNat_natCast,if_neg hn,if_neg (hmax _),Bool.not_true,Bool.false_eq_true,if_false,if_neg hnc];have hch:(choose (Question.appendCap (sLen+m) sCap e)).run P wd = .ok ((Question.appendCap (sLen+m) sCap e).cut (wd.tape wd.drawn (Question.appendCap (sLen+m) sCap e))) { wd with drawn:=wd.drawn+1 }:=rfl;rw [hch];simp only[Result.andThen_ok,run_askRoom];rw [ho'];simp only[Result.andThen_ok];rw [ha'];simp only[Result.andThen_ok,xH hz,newRow];rfl
   · rw[hz2]at ha' hl;simp only[Bool.false_eq_true,if_false]at ha' hl;cases xd
     case int=>exact absurd rfl (hni _)
     all_goals simp only[Bool.false_eq_true,if_false,hl,Sem.run_bind,Result.andThen_ok,runTI (yM hi).2,if_neg hn,if_neg (hmax _),if_neg hnc,Bool.not_false,if_true]
     all_goals
      have hch:(choose (Question.appendCap (sLen+m) sCap e)).run P wd = .ok ((Question.appendCap (sLen+m) sCap e).cut (wd.tape wd.drawn (Question.appendCap (sLen+m) sCap e))) { wd with drawn:=wd.drawn+1 }:=rfl;rw [hch];simp only[Result.andThen_ok,run_askRoom];rw [ho'];simp only[Result.andThen_ok];rw [ha'];simp only[Result.andThen_ok,xH hz,newRow];rfl
end
end Go.Ex
namespace Go.Ex
section
variable {P:Program} {ng:Nat}
theorem HeapR.kill{ρ : Inj}{base:Nat}{w0:World}{h:zB}{n:Nat}{wd:World}(r:HeapR P ng ρ base w0 h n wd)(b:Nat) :
 HeapR P ng ρ base w0 (h.set .dead .dead b) n wd∧Grow ρ h n wd ρ (h.set .dead .dead b) n wd:=by
 have live:∀x,zF (h.set .dead .dead b) x≠.dead→zF (h.set .dead .dead b) x=zF h x∧zF h x≠.dead:=by
  intro x hx;rw [zH]at hx ⊢;by_cases e:b=x
  · rw[if_pos e]at hx;exact absurd rfl hx
  · rw[if_neg e]at hx ⊢;exact⟨rfl,hx⟩
 refine⟨⟨r.dom,?_,?_,r.below,r.size,r.glob,r.ngn⟩,⟨Nat.le_refl _,fun _ _=>rfl,?_,fun _ _ _=>rfl,Nat.le_refl _,?_,rfl⟩⟩
 · intro x X e hx;obtain⟨e1,e2⟩:=live x hx;rw [e1];exact r.obj x X e e2
 · intro x y X Y ex ey hx hy;exact r.inj x y X Y ex ey (live x hx).2 (live y hy).2
 · intro x X hx e;rw [r.dom x hx]at e;cases e
 · intro x hx e;rw [zH];split
   · rfl
   · exact e
theorem HeapR.anew{ρ : Inj}{base:Nat}{w0:World}{h:zB}{n:Nat}{wd:World}(r:HeapR P ng ρ base w0 h n wd){b:Nat}{A B:Bl}(hb: ρ b=some A)(hl:zF h b≠.dead)(hAB:B.b=A.b)
(o:AObj)(o':Obj)(wd':World)(hbase:base≤B.b)(hr:ObjR P ng (ρ.put n B) base B o o')(hw:wd'.heap[B.b]? = some o')(hsz:wd'.heap.size=wd.heap.size)
(hk:∀c,c≠B.b→wd'.heap[c]? = wd.heap[c]?)(h1:wd'.os=wd.os)(h2:wd'.tape=wd.tape)(h3:wd'.output=wd.output) :
 HeapR P ng (ρ.put n B) base w0 ((h.set .dead .dead b).set .dead o n) (n+1) wd'∧Grow ρ h n wd (ρ.put n B) ((h.set .dead .dead b).set .dead o n) (n+1) wd':=by
 have hn: ρ n=none:=r.dom n (Nat.le_refl _);have hle:=Inj.le_put B hn;have hbn:b≠n:=fun e=>by rw[e,hn]at hb;cases hb
 have get:∀x,zF ((h.set .dead .dead b).set .dead o n) x=if n=x then o else if b=x then .dead else zF h x:=by
  intro x;rw [zH,zH]
 have live:∀x,x≠n→zF ((h.set .dead .dead b).set .dead o n) x≠.dead→zF ((h.set .dead .dead b).set .dead o n) x=zF h x∧zF h x≠.dead∧x≠b:=by
  intro x hx hd;rw [get,if_neg (fun e=>hx e.symm)]at hd ⊢;by_cases e:b=x
  · rw[if_pos e]at hd;exact absurd rfl hd
  · rw[if_neg e]at hd ⊢;exact⟨rfl,hd,fun e2=>e e2.symm⟩
 have oldρ : ∀x,x≠n→(ρ.put n B) x = ρ x:=fun x hx=>by simp[Inj.put,hx]
 refine⟨⟨?_,?_,?_,?_,by rw[hsz];exact r.size,?_,?_⟩,⟨by omega,?_,?_,?_,by omega,?_,h2⟩⟩
 · intro x hx;rw [oldρ x (by omega)];exact r.dom x (by omega)
 · intro x X e hx;by_cases hxn:x=n
   · subst hxn;rw [yD]at e;injection e with e;subst e
     refine⟨o',hw,?_⟩;rw [get,if_pos rfl];exact hr
   · obtain⟨e1,e2,e3⟩:=live x hxn hx;rw [oldρ x hxn]at e;obtain⟨ob,f1,f2⟩:=r.obj x X e e2;refine⟨ob,?_,?_⟩
     · rw[hk _ (fun e4=>e3 (r.inj x b X A e hb e2 hl (e4.trans hAB))),f1]
     · rw[e1];exact f2.mono hle
 · intro x y X Y ex ey hx hy hxy;by_cases hxn:x=n
   · by_cases hyn:y=n
     · rw[hxn,hyn]
     · obtain⟨e1,e2,e3⟩:=live y hyn hy;subst hxn;rw [yD]at ex;injection ex with ex;subst ex
       rw[oldρ y hyn]at ey;exact absurd (r.inj y b Y A ey hb e2 hl (hxy.symm.trans hAB)) e3
   · obtain⟨e1,e2,e3⟩:=live x hxn hx;rw [oldρ x hxn]at ex;by_cases hyn:y=n
     · subst hyn;rw [yD]at ey;injection ey with ey;subst ey
       exact absurd (r.inj x b X A ex hb e2 hl (hxy.trans hAB)) e3
     · obtain⟨f1,f2,f3⟩:=live y hyn hy;rw [oldρ y hyn]at ey;exact r.inj x y X Y ex ey e2 f2 hxy
 · exact r.below.trans ⟨h1,h2,h3,by omega,fun k hk'=>hk k (by omega)⟩
 · intro g hg;obtain⟨G,e1,e2⟩:=r.glob g hg;exact⟨G,hle _ _ e1,e2⟩
 · have:=r.ngn;omega
 · intro x hx;exact oldρ x (by omega)
 · intro x X hx e;by_cases hxn:x=n
   · subst hxn;rw [yD]at e;injection e with e;subst e
     refine .inr ⟨b,A,?_,hb,hAB.symm,hl⟩;rcases Nat.lt_or_ge b x with h5|h5
     · exact h5
     · rw[r.dom b h5]at hb;cases hb
   · rw[oldρ x hxn,r.dom x (by omega)]at e;cases e
 · intro c _ hn';exact hk c fun e=>hn' b A hb hl (by rw[e,hAB])
 · intro x hx e;rw [get,if_neg (by omega)];split
   · rfl
   · exact e
theorem HeapR.drawn{ρ : Inj}{base:Nat}{w0:World}{h:zB}{n:Nat}{wd:World}(r:HeapR P ng ρ base w0 h n wd)(d:Nat):HeapR P ng ρ base w0 h n { wd with drawn:=d }:=
 ⟨r.dom,r.obj,r.inj,⟨r.below.os,r.below.tape,r.below.output,r.below.size,r.below.block⟩,r.size,r.glob,r.ngn⟩
theorem zeroCells_size(z:Array Value)(k:Nat):(Builtin.zeroCells z k).size=k*z.size:=by simp[Builtin.zeroCells]
theorem HeapR.grown{ρ : Inj}{base:Nat}{w0:World}{h:zB}{n:Nat}{wd:World}(r:HeapR P ng ρ base w0 h n wd){c:Tr Value}{need size newCap:Nat}{old' new':List Value}{z:Array Value}{e:TypeId}{dr:Nat}
(hl:old'.length+new'.length=need*size)(hz:z.size=size)(hn:need≤newCap)
(hv:∀(i:Nat) (v':Value),i<need*size→(old'++new')[i]? = some v'→RV ρ (Tr.get undef c i) v') :
 HeapR P ng (ρ.put n ⟨wd.heap.size,newCap*size,size⟩) base w0 (h.set .dead (.cells c (need*size) (zc e size) 1) n) (n+1)
  { wd with drawn:=dr,heap:=wd.heap.push (.cells ((⟨old'⟩:Array Value)++⟨new'⟩++Builtin.zeroCells z (newCap - need)) e) }∧
  Grow ρ h n wd (ρ.put n ⟨wd.heap.size,newCap*size,size⟩) (h.set .dead (.cells c (need*size) (zc e size) 1) n) (n+1)
   { wd with drawn:=dr,heap:=wd.heap.push (.cells ((⟨old'⟩:Array Value)++⟨new'⟩++Builtin.zeroCells z (newCap - need)) e) }:=by
 have hle:=Inj.le_put (⟨wd.heap.size,newCap*size,size⟩:Bl) (r.dom n (Nat.le_refl _));have hmul:need*size≤newCap*size:=Nat.mul_le_mul_right _ hn
 have hobj:ObjR P ng (ρ.put n ⟨wd.heap.size,newCap*size,size⟩) base ⟨wd.heap.size,newCap*size,size⟩ (.cells c (need*size) (zc e size) 1)
  (.cells ((⟨old'⟩:Array Value)++⟨new'⟩++Builtin.zeroCells z (newCap - need)) e (0,0)):=by
  refine .cells hmul ?_ (fun h=>absurd rfl h) ⟨fun _=>rfl,fun h=>absurd h (by decide)⟩ ?_ (fun _=>r.size) (fun _=>⟨rfl,rfl⟩)
  · show((⟨old'⟩:Array Value)++⟨new'⟩++Builtin.zeroCells z (newCap - need)).size=newCap*size;have e1:((⟨old'⟩:Array Value)++(⟨new'⟩:Array Value)).size=old'.length+new'.length:=by simp
    rw[Array.size_append,e1,zeroCells_size,hz,hl,← Nat.add_mul];congr 1;omega
  · intro i v' hi e1;refine(hv i v' hi ?_).mono hle;have e2:(((⟨old'⟩:Array Value)++⟨new'⟩++Builtin.zeroCells z (newCap - need)).toList)[i]? = some v':=by rw[Array.getElem?_toList];exact e1
    rw[Array.toList_append,Array.toList_append,List.getElem?_append_left (by simp;omega)]at e2;exact e2
 obtain⟨a1,a2⟩:=(r.drawn dr).alloc (.cells c (need*size) (zc e size) 1) _ ⟨wd.heap.size,newCap*size,size⟩ rfl hobj;exact⟨a1,⟨a2.nn,a2.old,a2.new,a2.keep,a2.size,a2.dead,a2.tape⟩⟩
theorem growOpen_ok(hP:zU ng P=true){h:zB}{n b sLen m:Nat}{sT xT e rt:TypeId}{ei:TypeInfo}{xd:TypeDesc}{x z:Value}{new:List Value}{k:Value→zB→Nat→Bool}{tr:List TypeId}
(hd:und P sT=some (.slice e))(hxd:und P xT=some xd)(hi:inf? P e=some ei)(hz:zZ P e=some z)(hsz:1≤ei.size)(hzl:(cellsOf z).length=ei.size)(hm:sLen+m<1000000)(hb:ei.bytes<100000)
(ha:xF P h e ei.size xd x=some (m,new))
(hg:growOpen h n b sLen m ei.size (zc e ei.size) new k=true) :
 ∃v h' n',k v h' n'=true∧∀(ρ : Inj) (base:Nat) (w0 wd:World) (s' x':Value) (xr:List Value),HeapR P ng ρ base w0 h n wd→RV ρ (.slice (some ⟨b,0,none⟩) sLen inf) s'→RV ρ x x'→
  ∃ρ' v' wd',(Builtin.append_ ⟨sT::xT::tr⟩ rt ⟨s'::x'::xr⟩).run P wd = .ok v' wd'∧RV ρ' v v'∧HeapR P ng ρ' base w0 h' n' wd'∧Grow ρ h n wd ρ' h' n' wd':=by
 unfold growOpen at hg;split at hg
 case h_2=>cases hg
 rename_i c kn zz hgb
 cases hzz:Nat.beq zz (zc e ei.size) with
 | false=>rw [hzz]at hg;cases hg
 | true =>
  rw[hzz]at hg;dsimp only[cond]at hg;obtain rfl:=zD hzz;have hdead:zF h b≠.dead:=by rw[hgb];exact AObj.noConfusion
  have facts:∀(ρ : Inj) (base:Nat) (w0 wd:World) (s' x':Value),HeapR P ng ρ base w0 h n wd→RV ρ (.slice (some ⟨b,0,none⟩) sLen inf) s'→RV ρ x x'→
   ∃(B:Bl) (c':Nat) (cs:Array Value) (el:TypeId) (new':List Value),ρ b=some B∧s' = .slice (some ⟨B.b,0,none⟩) sLen c'∧sLen≤c'∧c'*ei.size=B.n∧wd.heap[B.b]? = some (.cells cs el (0,0))∧cs.size=B.n∧kn≤B.n∧
    (B.z=ei.size∧el=e)∧base≤B.b∧(∀(i:Nat) (v':Value),i<kn→cs[i]? = some v'→RV ρ (Tr.get undef c i) v')∧
    appLen wd P xd x' m∧RVs ρ new new'∧(appSem e ei xd x' m).run P wd = .ok ⟨new'⟩ wd∧new.length=m*ei.size:=by
   intro ρ base w0 wd s' x' hH hs hx;rcases hs.of_slice with⟨B,o',c',hb',rfl,_,hl,hcs⟩|⟨_,h0,_⟩
   rotate_left
   · exact absurd h0 (by decide)
   obtain⟨o,e1,e2⟩:=hH.obj b B hb' hdead;rw [hgb]at e2
   cases e2 with
   | cells hn hs' hk' hz' hv' hbb hf =>
    rename_i cs el l0 h0;obtain⟨rfl,rfl⟩:=hf (by decide);obtain⟨hel,hBz⟩:=zc_inj (hz'.1 rfl)
    have hc2:o'=0∧c'*ei.size=B.n:=by
     rcases hcs with⟨h1,_⟩|⟨_,⟨h1,h2⟩|⟨_,h1⟩⟩
     · exact absurd rfl h1
     · exact⟨h1,by rw[hBz];simpa using h2⟩
     · exact absurd h1 (Nat.lt_irrefl _)
    obtain⟨rfl,hcn⟩:=hc2;obtain⟨a1,new',a2,a3,a4⟩:=wH hP hH hx hz ha;exact⟨B,c',cs,el,new',hb',rfl,hl,hcn,e1,hs',hn,⟨hBz.symm,hel.symm⟩,hbb (by decide),hv',a1,a2,a3,a4⟩
  cases hin:Nat.ble (Nat.mul (Nat.add sLen m) ei.size) kn with
  | true=>
   rw[hin]at hg;have hin:(sLen+m)*ei.size≤kn:=yJ hin;obtain⟨h',g1,_,_,g2⟩:=storeAt_ok (P:=P) (ng:=ng) hg;refine⟨_,h',n,g1,fun ρ base w0 wd s' x' xr hH hs hx=>?_⟩;obtain⟨B,c',cs,el,new',f1,rfl,f3,f4,f5,f6,f7,⟨f8,f8e⟩,f9,f10,f11,f12,f13,f14⟩:=facts ρ base w0 wd s' x' hH hs hx;obtain⟨wd',q1,q2,q3⟩:=g2 n ρ base w0 wd B new' hH f1 f12;have hfit:sLen+m≤c':=Nat.le_of_mul_le_mul_right (by omega:(sLen+m)*ei.size≤c'*ei.size) hsz;refine⟨ρ,.slice (some ⟨B.b,0,none⟩) (sLen+m) c',wd',?_,?_,q2,q3⟩
   · exact wI hd hxd hi f11 hb hfit f13 (by
      dsimp only;rw [add_eq,Nat.zero_add];exact q1)
   · exact .opened f1 hfit (.inl ⟨rfl,by rw[f8];simpa using f4⟩)
  | false =>
   rw[hin]at hg;dsimp only[cond]at hg
   cases hkn:Nat.ble (Nat.mul sLen ei.size) kn with
   | false=>rw [hkn]at hg;cases hg
   | true=>
    rw[hkn]at hg;have hkn:sLen*ei.size≤kn:=yJ hkn;obtain⟨hone,g2⟩:=vL hg;rw [Tr.setK_eq,zR]at g2;refine⟨_,_,_,g2,fun ρ base w0 wd s' x' xr hH hs hx=>?_⟩;obtain⟨B,c',cs,el,new',f1,rfl,f3,f4,f5,f6,f7,⟨f8,f8e⟩,f9,f10,f11,f12,f13,f14⟩:=facts ρ base w0 wd s' x' hH hs hx;have hlen:new'.length=m*ei.size:=f12.1.symm.trans f14;have hmul:(sLen+m)*ei.size=sLen*ei.size+m*ei.size:=Nat.add_mul _ _ _;by_cases hfit:sLen+m≤c'
    · have hfit2:(sLen+m)*ei.size≤c'*ei.size:=Nat.mul_le_mul_right _ hfit
      have hone':∀v∈new',v.oneCell'=true:=by
       intro v' hm;obtain⟨i,hi⟩:=List.mem_iff_getElem?.1 hm
       have hlt:i<new.length:=by
        rcases Nat.lt_or_ge i new'.length with h5|h5
        · have:=f12.1;omega
        · rw[List.getElem?_eq_none h5]at hi;cases hi
       have:=f12.2 i new[i] v' (List.getElem?_eq_getElem hlt) hi;exact this.one (hone _ (List.getElem_mem hlt))
      have hst:=run_storeCells_at P B.b (sLen*ei.size) el new' 0 cs wd f5 (by omega) hone';have hsz2:(cs.toList.take (sLen*ei.size+0)++new'++cs.toList.drop (sLen*ei.size+0+new'.length)).length=cs.size:=by simp;omega
      obtain⟨r1,r2⟩:=hH.anew f1 hdead (B:=B) rfl (.cells (Tr.ofListFrom undef c (sLen*ei.size) new) ((sLen+m)*ei.size) (zc e ei.size) 1)
       (.cells (cs.toList.take (sLen*ei.size+0)++new'++cs.toList.drop (sLen*ei.size+0+new'.length)).toArray el (0,0)) _ f9 (by
        refine .cells (by omega) (by simpa using hsz2.trans f6) (fun h=>absurd rfl h) ⟨fun _=>by rw[f8,f8e],fun h=>absurd h (by decide)⟩ (fun i v' hi e=>?_) (fun _=>f9) (fun _=>⟨rfl,rfl⟩);have hle:=Inj.le_put B (hH.dom n (Nat.le_refl _));rw [Tr.get_ofListFrom];have e':(cs.toList.take (sLen*ei.size+0)++new'++cs.toList.drop (sLen*ei.size+0+new'.length))[i]? = some v':=by simpa using e
        by_cases h6:sLen*ei.size≤i∧i<sLen*ei.size+new.length
        · rw[if_pos h6];rw [List.append_assoc,List.getElem?_append_right (by simp;omega),List.getElem?_append_left (by simp;omega)]at e';have hi2:i - (cs.toList.take (sLen*ei.size+0)).length=i - sLen*ei.size:=by simp;omega
          rw[hi2]at e';have hlt:i - sLen*ei.size<new.length:=by omega
          have:new[i - sLen*ei.size]? = some (new.getD (i - sLen*ei.size) undef):=by simp[List.getElem?_eq_getElem hlt]
          exact(f12.2 _ _ v' this e').mono hle
        · rw[if_neg h6];refine(f10 i v' (by omega) ?_).mono hle;rw [List.append_assoc,List.getElem?_append_left (by simp;omega),List.getElem?_take_of_lt (by omega)]at e';simpa using e') (setRow_heap wd B.b cs _ el _ f5) (by simp[World.setRow]) (fun x hx=>setRow_other wd B.b x _ hx) rfl rfl rfl
      refine⟨_,.slice (some ⟨B.b,0,none⟩) (sLen+m) c',_,?_,?_,r1,r2⟩
      · exact wI hd hxd hi f11 hb hfit f13 (by
         dsimp only;rw [add_eq,Nat.zero_add];exact hst)
      · exact .opened (yD _ _ _) hfit (.inl ⟨rfl,by rw[f8];simpa using f4⟩)
    · have hHd:=hH.drawn (wd.drawn+1);obtain⟨_,new2,b2,b3,_⟩:=wH hP hHd hx hz ha;obtain⟨old',o1,o2⟩:=run_loadRow hHd f1 hgb (off:=0) (k:=sLen*ei.size) (by omega);have hold:old'.length=sLen*ei.size:=by rw[← o1.1];exact Tr.length_toListFrom _ _ _ _
      have hnew2:new2.length=m*ei.size:=b2.1.symm.trans f14;obtain⟨newCap,dr,p1,p2⟩:=append_grows (base:=some ⟨B.b,0,none⟩) (tr:=tr) (xr:=xr) (rt:=rt) hd hxd hi hz f11 hb hfit hm b3 o2
      have hzz2:z.cells.size=ei.size:=by
       have:cellsOf z=z.cells.toList:=by cases z <;> rfl
       rw[this]at hzl;simpa using hzl
      obtain⟨k1,k2⟩:=hH.kill b
      obtain⟨r1,r2⟩:=k1.grown (c:=Tr.ofListFrom undef c (sLen*ei.size) new) (need:=sLen+m) (old':=old') (new':=new2) (z:=z.cells) (e:=e) (dr:=dr) (newCap:=newCap) (size:=ei.size) (by omega) hzz2 p1 (by
       intro i v' hi e1;rw [Tr.get_ofListFrom];by_cases h6:sLen*ei.size≤i∧i<sLen*ei.size+new.length
       · rw[if_pos h6];rw [List.getElem?_append_right (by omega)]at e1;have hi2:i - old'.length=i - sLen*ei.size:=by rw[hold]
         rw[hi2]at e1;have hlt:i - sLen*ei.size<new.length:=by omega
         have:new[i - sLen*ei.size]? = some (new.getD (i - sLen*ei.size) undef):=by simp[List.getElem?_eq_getElem hlt]
         exact b2.2 _ _ v' this e1
       · rw[if_neg h6];rw [List.getElem?_append_left (by omega)]at e1
         have:(Tr.toListFrom undef c 0 (sLen*ei.size))[i]? = some (Tr.get undef c i):=by
          rw[Tr.getElem?_toListFrom,if_pos (by omega),Nat.zero_add]
         exact o1.2 i _ v' this e1)
      exact⟨_,_,_,p2,.opened (yD _ _ _) p1 (.inl ⟨rfl,by simp⟩),r1,k2.trans r2⟩
theorem growEx_ok(hP:zU ng P=true){h:zB}{n sLen cap m:Nat}{bs:Option Addr}{sT xT e rt:TypeId}{ei:TypeInfo}{xd:TypeDesc}{x z:Value}{new:List Value}{k:Value→zB→Nat→Bool}{tr:List TypeId}
(hd:und P sT=some (.slice e))(hxd:und P xT=some xd)(hi:inf? P e=some ei)(hz:zZ P e=some z)(_hsz:1≤ei.size)(hzl:(cellsOf z).length=ei.size)(hm:sLen+m<1000000)(hb:ei.bytes<100000)(hcap:cap≠inf)
(ha:xF P h e ei.size xd x=some (m,new))
(hg:growEx h n bs sLen cap m ei.size (zc e ei.size) new k=true) :
 ∃v h' n',k v h' n'=true∧∀(ρ : Inj) (base:Nat) (w0 wd:World) (s' x':Value) (xr:List Value),HeapR P ng ρ base w0 h n wd→RV ρ (.slice bs sLen cap) s'→RV ρ x x'→
  ∃ρ' v' wd',(Builtin.append_ ⟨sT::xT::tr⟩ rt ⟨s'::x'::xr⟩).run P wd = .ok v' wd'∧RV ρ' v v'∧HeapR P ng ρ' base w0 h' n' wd'∧Grow ρ h n wd ρ' h' n' wd':=by
 unfold growEx at hg
 cases hin:Nat.ble (Nat.add sLen m) cap with
 | true=>
  rw[hin]at hg;have hin:sLen+m≤cap:=yJ hin;dsimp only[cond]at hg;split at hg
  case h_3=>cases hg
  · rename_i b off;obtain⟨h',g1,_,⟨cc,mm,zz,kd,gg,gl,ge⟩,g2⟩:=storeAt_ok (P:=P) (ng:=ng) hg;refine⟨_,h',n,g1,fun ρ base w0 wd s' x' xr hH hs hx=>?_⟩;obtain⟨a1,new',a2,a3,a4⟩:=wH hP hH hx hz ha
    cases hs with
    | opened=>exact absurd rfl hcap
    | slice0 f1 a=>
     obtain⟨B,f1⟩:∃B,ρ b=some B:=⟨_,f1⟩;obtain rfl:m=0:=by omega
     have hn0:new'=[]:=List.length_eq_zero_iff.1 (by rw[← a2.1,a4,Nat.zero_mul]);subst hn0;obtain⟨wd',q1,q2,q3⟩:=g2 n ρ base w0 wd B [] hH f1 a2;have q1':Result.ok () wd=Result.ok () wd':=q1;injection q1' with _ q1'
     subst q1';refine⟨ρ,.slice (some a) 0 0,wd,?_,.slice0 f1 a,q2,q3⟩;exact wI (base:=some a) (m:=0) hd hxd hi a1 hb hin a3 rfl
    | slice f1 hc hl ho=>
     rename_i B o';obtain⟨wd',q1,q2,q3⟩:=g2 n ρ base w0 wd B new' hH f1 a2;refine⟨ρ,.slice (some ⟨B.b,o',none⟩) (sLen+m) cap,wd',?_,.slice f1 hc hin ho,q2,q3⟩;refine wI hd hxd hi a1 hb hin a3 ?_;dsimp only;rw [add_eq];rcases ho with rfl|ho
     · exact q1
     · have:m*ei.size=0:=by
        have:m=0:=by omega
        rw[this,Nat.zero_mul]
       have hn0:new'=[]:=List.length_eq_zero_iff.1 (by rw[← a2.1,a4,this]);subst hn0;exact q1
  · cases hm0:Nat.beq m 0 with
    | false=>rw [hm0]at hg;cases hg
    | true =>
     rw[hm0]at hg;obtain rfl:=zD hm0;refine⟨_,h,n,hg,fun ρ base w0 wd s' x' xr hH hs hx=>?_⟩;obtain⟨a1,new',a2,a3,a4⟩:=wH hP hH hx hz ha
     cases hs with
     | nilSlice=>
      refine⟨ρ,.slice none sLen cap,wd,?_,.nilSlice _ _ hcap,hH,Grow.refl _ _ _ _ hH.dom⟩;exact wI (base:=none) (m:=0) hd hxd hi a1 hb hin a3 rfl
 | false =>
  rw[hin]at hg;dsimp only[cond]at hg
  have hin:¬sLen+m≤cap:=fun e=>by
   have:Nat.ble (Nat.add sLen m) cap=true:=Nat.ble_eq ▸ e;rw [hin]at this;cases this
  split at hg
  case h_2=>cases hg
  rename_i old ho;obtain⟨_,g2⟩:=vL hg;rw [zR]at g2;refine⟨_,_,_,g2,fun ρ base w0 wd s' x' xr hH hs hx=>?_⟩;have hHd:=hH.drawn (wd.drawn+1);obtain⟨a1,new',a2,a3,a4⟩:=wH hP hHd hx hz ha;obtain⟨old',o1,o2⟩:=rowOf_ok hHd hs ho (fun s e=>by cases e)
  have holen:old.length=sLen*ei.size:=by
   unfold rowOf at ho;split at ho
   · rename_i cq
     cases hq:Nat.beq sLen 0 with
     | false=>rw [hq]at ho;cases ho
     | true=>
      rw[hq]at ho;injection ho with ho;subst ho
      obtain rfl:=zD hq;simp
   · rename_i bq oq lq cq heq;injection heq with hq1 hq2 hq3
     split at ho
     · rename_i c1 kn1 z1 kd1 hg1
       cases hcq:(Nat.ble sLen sLen && Nat.ble (Nat.add oq (Nat.mul sLen ei.size)) kn1) with
       | false=>subst hq2;rw [hcq]at ho;cases ho
       | true=>
        subst hq2;rw [hcq]at ho;dsimp only[cond]at ho;injection ho with ho;subst ho
        exact Tr.length_toListFrom _ _ _ _
     · rename_i c1 kn1 hg1
       cases hcq:(Nat.ble sLen sLen && Nat.ble (Nat.add oq (Nat.mul sLen ei.size)) kn1) with
       | false=>subst hq2;rw [hcq]at ho;cases ho
       | true=>
        subst hq2;rw [hcq]at ho;dsimp only[cond]at ho;obtain⟨_,rfl⟩:=knownL_some ho;exact Tr.length_toListFrom _ _ _ _
     · cases ho
   · rename_i heq;cases heq
   · cases ho
  have hold':old'.length=sLen*ei.size:=by rw[← o1.1,holen]
  have hnew':new'.length=m*ei.size:=by rw[← a2.1,a4]
  have hmul:(sLen+m)*ei.size=sLen*ei.size+m*ei.size:=Nat.add_mul _ _ _
  have hzz2:z.cells.size=ei.size:=by
   have:cellsOf z=z.cells.toList:=by cases z <;> rfl
   rw[this]at hzl;simpa using hzl
  obtain⟨bs',hs',hbs⟩:∃bs',s' = .slice bs' sLen cap∧True:=by
   cases hs with
   | nilSlice=>exact⟨_,rfl,trivial⟩
   | slice=>exact⟨_,rfl,trivial⟩
   | slice0 _ a=>exact⟨_,rfl,trivial⟩
   | opened=>exact absurd rfl hcap
  subst hs'
  have a1':appLen wd P xd x' m:=by
   unfold appLen at a1 ⊢;split
   · rename_i hq;rw [if_pos hq]at a1;exact a1
   · rename_i hq;rw [if_neg hq]at a1;unfold xF at ha;split at ha
     · exact absurd rfl hq
     · cases hl:lenV x with
       | none=>rw [hl]at ha;cases ha
       | some m2=>
        have h1:=lenV_ok (P:=P) hx hl wd;have h2:=lenV_ok (P:=P) hx hl { wd with drawn:=wd.drawn+1 };rw [h2]at a1;injection a1 with a1
        rw[← a1];exact h1
  obtain⟨newCap,dr,p1,p2⟩:=append_grows (base:=bs') (tr:=tr) (xr:=xr) (rt:=rt) hd hxd hi hz a1' hb hin hm a3 o2;have hall:=o1.append a2
  obtain⟨r1,r2⟩:=hH.grown (c:=Tr.ofListFrom undef .lF 0 (old++new)) (need:=sLen+m) (old':=old') (new':=new') (z:=z.cells) (e:=e) (dr:=dr) (newCap:=newCap) (size:=ei.size) (by omega) hzz2 p1 (by
   intro i v' hi e1;have hlt:i<(old++new).length:=by simp;omega
   rw[Tr.get_ofListFrom,if_pos (by omega)];have:(old++new)[i]? = some ((old++new).getD (i - 0) undef):=by simp[List.getElem?_eq_getElem hlt]
   exact hall.2 i _ v' this e1)
  exact⟨_,_,_,p2,.opened (yD _ _ _) p1 (.inl ⟨rfl,by simp⟩),r1,r2⟩
theorem xappend_ok(hP:zU ng P=true){h:zB}{n:Nat}{tys:List TypeId}{args:List Value}{rt:TypeId}{k:Value→zB→Nat→Bool}(hx:xappend P tys args h n k=true) :
 ∃v h' n',k v h' n'=true∧∀(ρ : Inj) (base:Nat) (w0 wd:World) (args':List Value),HeapR P ng ρ base w0 h n wd→RVs ρ args args'→
  ∃ρ' v' wd',(Builtin.append_ ⟨tys⟩ rt ⟨args'⟩).run P wd = .ok v' wd'∧RV ρ' v v'∧HeapR P ng ρ' base w0 h' n' wd'∧Grow ρ h n wd ρ' h' n' wd':=by
 unfold xappend at hx;split at hx
 case h_2=>cases hx
 rename_i sT xT tr bs sLen cap x xr;split at hx
 case h_2=>cases hx
 rename_i e xd hd hxd;split at hx
 case h_2=>cases hx
 rename_i ei z hi hz
 cases ha:xF P h e ei.size xd x with
 | none=>rw [ha]at hx;cases hx
 | some p =>
  obtain⟨m,new⟩:=p;rw [ha]at hx;dsimp only at hx
  cases hc:(Nat.beq ei.size 0 || !Nat.beq (cellsOf z).length ei.size || !Nat.blt (Nat.add sLen m) 1000000 || !Nat.blt ei.bytes 100000) with
  | true=>rw [hc]at hx;cases hx
  | false =>
   rw[hc]at hx;dsimp only[cond]at hx;simp only[Bool.or_eq_false_iff,Bool.not_eq_false']at hc;obtain⟨⟨⟨q1,q2⟩,q3⟩,q4⟩:=hc
   have q1:1≤ei.size:=by
    rcases Nat.eq_zero_or_pos ei.size with e0|e0
    · rw[e0]at q1;cases q1
    · exact e0
   have q2:=zD q2;have q3:sLen+m<1000000:=zS q3;have q4:=zS q4
   have pass:∀{R:Prop},(∃v h' n',k v h' n'=true∧∀(ρ : Inj) (base:Nat) (w0 wd:World) (s' x':Value) (xr':List Value),HeapR P ng ρ base w0 h n wd→RV ρ (.slice bs sLen cap) s'→RV ρ x x'→
    ∃ρ' v' wd',(Builtin.append_ ⟨sT::xT::tr⟩ rt ⟨s'::x'::xr'⟩).run P wd = .ok v' wd'∧RV ρ' v v'∧HeapR P ng ρ' base w0 h' n' wd'∧Grow ρ h n wd ρ' h' n' wd')→
    ∃v h' n',k v h' n'=true∧∀(ρ : Inj) (base:Nat) (w0 wd:World) (args':List Value),HeapR P ng ρ base w0 h n wd→RVs ρ (.slice bs sLen cap::x::xr) args'→
    ∃ρ' v' wd',(Builtin.append_ ⟨sT::xT::tr⟩ rt ⟨args'⟩).run P wd = .ok v' wd'∧RV ρ' v v'∧HeapR P ng ρ' base w0 h' n' wd'∧Grow ρ h n wd ρ' h' n' wd':=by
    rintro - ⟨v,h',n',k1,k2⟩
    refine⟨v,h',n',k1,fun ρ base w0 wd args' hH hr=>?_⟩;obtain⟨s',l1,rfl,hs,hr⟩:=hr.of_cons;obtain⟨x',l2,rfl,hx,_⟩:=hr.of_cons;exact k2 ρ base w0 wd s' x' l2 hH hs hx
   apply pass (R:=True)
   cases hm0:(Nat.beq m 0 && !Nat.beq cap 0 && (Nat.beq cap inf || Nat.ble sLen cap)) with
   | true =>
    rw[hm0]at hx;simp only[Bool.and_eq_true]at hm0;obtain⟨⟨m1,m2⟩,m3⟩:=hm0;obtain rfl:=zD m1;refine⟨_,h,n,hx,fun ρ base w0 wd s' x' xr' hH hs hx=>?_⟩;obtain⟨a1,new',a2,a3,a4⟩:=wH hP hH hx hz ha;have hn0:new'=[]:=List.length_eq_zero_iff.1 (by rw[← a2.1,a4,Nat.zero_mul]);subst hn0
    have key:∃bs' c',s' = .slice bs' sLen c'∧sLen≤c':=by
     cases hs with
     | nilSlice _ _ hc=>
      refine⟨_,_,rfl,?_⟩;rcases Bool.or_eq_true_iff.1 m3 with e1|e1
      · exact absurd (zD e1) hc
      · exact yJ e1
     | slice _ _ hl _=>exact⟨_,_,rfl,hl⟩
     | slice0 _ a=>exact⟨_,_,rfl,Nat.le_refl _⟩
     | opened _ hl _=>exact⟨_,_,rfl,hl⟩
    obtain⟨bs',c',rfl,hle⟩:=key;refine⟨ρ,.slice bs' sLen c',wd,?_,hs,hH,Grow.refl _ _ _ _ hH.dom⟩;exact wI (m:=0) hd hxd hi a1 q4 hle a3 (by cases bs' <;> rfl)
   | false =>
    rw[hm0]at hx;dsimp only[cond]at hx
    cases hc:Nat.beq cap inf with
    | true=>
     rw[hc]at hx;obtain rfl:=zD hc;dsimp only at hx;split at hx
     · rename_i b;exact growOpen_ok hP hd hxd hi hz q1 q2 q3 q4 ha hx
     · cases hx
    | false=>
     rw[hc]at hx;have hcap:cap≠inf:=fun e=>by subst e;rw [Nat.beq_refl]at hc;cases hc
     exact growEx_ok hP hd hxd hi hz q1 q2 q3 q4 hcap ha hx
end
end Go.Ex
namespace Go.Ex
section
variable {P:Program} {ng:Nat} {t:Fr} {w:W}
theorem scalEq_same{kd:TypeDesc}{k k':Value}(hk:wF kd k=true)(h:yX k k'=some true):k'=k:=by
 unfold wF at hk;split at hk
 · rename_i kk k2 a;cases k' <;> simp only[yX]at h <;> first|(cases h;done)|skip
   rename_i k3 b
   cases hq:wN k2 k3 with
   | false=>rw [hq]at h;cases h
   | true=>
    rw[hq]at h;injection h with h
    obtain rfl:=vD hq;rw [xD]at h;have:a=b:=by simpa using h
    rw[this]
 · rename_i s;cases k' <;> simp only[yX]at h <;> first|(cases h;done)|skip
   injection h with h
   rw[wV]at h;rename_i s';have h2:s.data.toList=s'.data.toList:=by simpa using h
   have:s=s':=by
    cases s;cases s'
    simp only[ByteArray.mk.injEq];exact Array.toList_inj.1 h2
   rw[this]
 · rename_i b;cases k' <;> simp only[yX]at h <;> first|(cases h;done)|skip
   rename_i b';cases b <;> cases b' <;> first|rfl|(cases h;done)
 · cases hk
theorem keyEq_same{kd:TypeDesc}{k k':Value}(hk:keyT P kd k=true)(h:keyEq k k'=some true):k'=k:=by
 rcases vR hk with hk|⟨len,e,cs,ed,ei,rfl,rfl,h1,h2,h3,h4,h5⟩
 · rw[keyEq_scal (scal_noagg hk)]at h;exact scalEq_same hk h
 · cases k' <;> first|(cases h;done)|skip
   rename_i ys;have h':scalsEq cs.toList ys.toList=some true:=h
   have key:∀{a b:List Value},(∀x∈a,wF ed x=true)→scalsEq a b=some true→b=a:=by
    intro a
    induction a with
    | nil=>intro b _ h;cases b with
     | nil=>rfl
     | cons _ _=>cases h
    | cons x a ih =>
     intro b ha h
     cases b with
     | nil=>cases h
     | cons y b =>
      simp only[scalsEq]at h
      cases hq:yX x y with
      | none=>rw [hq]at h;cases h
      | some q =>
       rw[hq]at h
       cases q with
       | false=>cases h
       | true=>
        rw[scalEq_same (ha x (by simp)) hq,ih (fun z hz=>ha z (by simp[hz])) h]
   rw[Array.toList_inj.1 (key h5 h')]
theorem findE_at{kd:TypeDesc}{k:Value}(hk:keyT P kd k=true):∀{es:List MapEntry} {i j:Nat} {v:Value},vA k es i=some (some (j,v))→∃e,i≤j∧es[j - i]? = some e∧e.key=k:=by
 intro es
 induction es with
 | nil=>intro i j v h;simp [vA]at h
 | cons e es ih =>
  intro i j v h;simp only[vA]at h
  cases hs:keyEq k e.key with
  | none=>rw [hs]at h;cases h
  | some b =>
   rw[hs]at h
   cases b with
   | true=>
    dsimp only at h;injection h with h
    injection h with h
    injection h with h1 h2
    subst h1;exact⟨e,Nat.le_refl _,by simp,keyEq_same hk hs⟩
   | false=>
    obtain⟨e2,h1,h2,h3⟩:=ih h;refine⟨e2,by omega,?_,h3⟩;have:j - i=(j - (i+1))+1:=by omega
    rw[this,List.getElem?_cons_succ];exact h2
theorem scal_bits0{kd:TypeDesc}{k:Value}(hk:wF kd k=true)(m:Nat):Instr.sameBits m k k=true:=by
 unfold wF at hk;split at hk
 · simp[Instr.sameBits]
 · simp[Instr.sameBits,beq_toListBytes]
 · simp[Instr.sameBits]
 · cases hk
theorem scal_bits{kd:TypeDesc}{k:Value}(hk:keyT P kd k=true):Instr.sameBits 10000 k k=true:=by
 rcases vR hk with hk|⟨len,e,cs,ed,ei,rfl,rfl,h1,h2,h3,h4,h5⟩
 · exact scal_bits0 hk _
 · simp only[Instr.sameBits,BEq.rfl,Bool.true_and,List.all_eq_true];intro p hp
   have key:∀{l:List Value} {p:Value×Value},p∈l.zip l→p.1=p.2∧p.1∈l:=by
    intro l
    induction l with
    | nil=>intro p hp;simp at hp
    | cons x l ih=>
     intro p hp;rw [List.zip_cons_cons]at hp;rcases List.mem_cons.1 hp with rfl|hp
     · exact⟨rfl,by simp⟩
     · exact⟨(ih hp).1,List.mem_cons_of_mem _ (ih hp).2⟩
   obtain⟨x,y⟩:=p;obtain⟨g1,g2⟩:=key hp;dsimp only at g1 g2 ⊢;subst g1;exact scal_bits0 (h5 _ g2) _
theorem putE_ok{ρ : Inj}{k v v':Value}(hv:RV ρ v v'):∀{es es':List MapEntry} (i:Nat),EsR ρ es es'→EsR ρ (putE k v i es) (es'.modify i fun e=>{ e with key:=k,val:=v' }):=by
 intro es
 induction es with
 | nil=>
  intro es' i he;have:es'=[]:=by have:=he.1;cases es' <;> simp_all
  subst this;exact⟨by simp[putE],fun j e e' h1 h2=>by simp[putE]at h1⟩
 | cons e es ih =>
  intro es' i he
  cases es' with
  | nil=>have:=he.1;simp at this
  | cons e' es' =>
   have h0:=he.2 0 e e' rfl rfl;have he':EsR ρ es es':=⟨by have:=he.1;simpa using this,fun j a b h1 h2=>he.2 (j+1) a b (by simpa using h1) (by simpa using h2)⟩
   cases i with
   | zero =>
    refine⟨by have:=he.1;simpa [putE] using this,fun j a b h1 h2=>?_⟩
    cases j with
    | zero=>
     simp[putE]at h1 h2;subst h1 h2;exact⟨rfl,hv,h0.2.2⟩
    | succ j=>exact he'.2 j a b (by simpa [putE] using h1) (by simpa using h2)
   | succ i =>
    obtain⟨l1,l2⟩:=ih i he';refine⟨by simpa [putE] using l1,fun j a b h1 h2=>?_⟩
    cases j with
    | zero=>
     simp[putE]at h1 h2;subst h1 h2;exact h0
    | succ j=>exact l2 j a b (by simpa [putE] using h1) (by simpa using h2)
theorem xmapUpdate_ok{ty:TypeId}{x key v:Value}{h:zB}{k:zB→Bool}(hs:xG P ty x key v h k=true) :
 ∃h',k h'=true∧∀(n:Nat) (ρ : Inj) (base:Nat) (w0 wd:World) (x' key' v':Value),HeapR P ng ρ base w0 h n wd→RV ρ x x'→RV ρ key key'→RV ρ v v'→
  ∃wd',(Instr.mapUpdate ty x' key' v').run P wd = .ok () wd'∧HeapR P ng ρ base w0 h' n wd'∧Grow ρ h n wd ρ h' n wd':=by
 unfold xG at hs;split at hs
 case h_2=>cases hs
 rename_i kt et r hd;split at hs
 case h_2=>cases hs
 rename_i kd es clock hkd hg
 cases hsc:keyT P kd key with
 | false=>rw [hsc]at hs;cases hs
 | true=>
  rw[hsc]at hs;dsimp only[cond]at hs;have hdead:zF h r≠.dead:=by rw[hg];exact AObj.noConfusion
  split at hs
  case h_3=>cases hs
  · rename_i i w2 hf;rw [Tr.setK_eq]at hs;refine⟨_,hs,fun n ρ base w0 wd x' key' v' hH hx hk hv=>?_⟩;have hkk:=(vS hsc hk).symm;subst hkk;obtain⟨B,hb,rfl⟩:=hx.of_map;obtain⟨es',e1,he,hbb⟩:=map_at hH hb hg;obtain⟨r',h1,h2⟩:=wW (wd:=wd) hkd hsc he hf
    cases r' with
    | none=>exact h2.elim
    | some p =>
     obtain⟨j,w'⟩:=p;obtain⟨rfl,_⟩:=h2;obtain⟨e,_,e3,e4⟩:=findE_at hsc hf;have e3:es[i]? = some e:=by simpa using e3
     obtain⟨e',e5⟩:∃e',es'[i]? = some e':=by
      have:i<es.length:=by
       rcases Nat.lt_or_ge i es.length with h5|h5
       · exact h5
       · rw[List.getElem?_eq_none h5]at e3;cases e3
      exact⟨es'[i]'(he.1 ▸ this),List.getElem?_eq_getElem _⟩
     have e6:e'.key=key:=by rw[(he.2 i e e' e3 e5).1,e4]
     have e7:((((⟨es'⟩:Array MapEntry)[i]?).map (·.key)).getD key)=key:=by
      have:(⟨es'⟩:Array MapEntry)[i]? = some e':=by rw[← Array.getElem?_toList];exact e5
      rw[this];simp [e6]
     have hst:(Instr.keyThatStays key key).run P wd = .ok key wd:=by simp[Instr.keyThatStays,scal_bits hsc]
     have hlt:=hH.lt hb hdead;refine⟨{ wd with heap:=wd.heap.setIfInBounds B.b (.map ((⟨es'⟩:Array MapEntry).modify i fun e=>{ e with key:=key,val:=v' }) clock) },?_,?_⟩
     · simp only[Instr.mapUpdate,Sem.run_bind,zG hd,Result.andThen_ok,yQ e1,check_ok (wd:=wd) hkd hsc false 9998,h1,e7,hst];simp [setObj,Sem.run,e1]
     · refine hH.turn hb hdead _ (.map ⟨es'.modify i fun e=>{ e with key:=key,val:=v' }⟩ clock) _ hbb (.map (putE_ok hv i he) hbb) ?_ (by simp) ?_ rfl rfl rfl
       · have:((⟨es'⟩:Array MapEntry).modify i fun e=>{ e with key:=key,val:=v' })=⟨es'.modify i fun e=>{ e with key:=key,val:=v' }⟩:=by
          apply Array.toList_inj.1;rw [Array.toList_modify]
         rw[this];simp [hlt]
       · intro c hc;show(wd.heap.setIfInBounds B.b _)[c]? = _;rw [Array.getElem?_setIfInBounds,if_neg (fun e=>hc e.symm)]
  · rename_i hf;rw [Tr.setK_eq]at hs;refine⟨_,hs,fun n ρ base w0 wd x' key' v' hH hx hk hv=>?_⟩;have hkk:=(vS hsc hk).symm;subst hkk;obtain⟨B,hb,rfl⟩:=hx.of_map;obtain⟨es',e1,he,hbb⟩:=map_at hH hb hg;obtain⟨r',h1,h2⟩:=wW (wd:=wd) hkd hsc he hf
    cases r' with
    | some p=>exact h2.elim
    | none=>
     have hlt:=hH.lt hb hdead;refine⟨{ wd with heap:=wd.heap.setIfInBounds B.b (.map ((⟨es'⟩:Array MapEntry).push { key:=key,val:=v',born:=clock }) (clock+1)) },?_,?_⟩
     · simp only[Instr.mapUpdate,Sem.run_bind,zG hd,Result.andThen_ok,yQ e1,check_ok (wd:=wd) hkd hsc false 9998,h1];simp [setObj,Sem.run,e1]
     · refine hH.turn hb hdead _ (.map ⟨es'++[{ key:=key,val:=v',born:=clock }]⟩ (clock+1)) _ hbb (.map ?_ hbb) ?_ (by simp) ?_ rfl rfl rfl
       · refine⟨by have:=he.1;simp [this],fun i a b h1 h2=>?_⟩;by_cases hi:i<es.length
         · rw[List.getElem?_append_left hi]at h1;rw [List.getElem?_append_left (he.1 ▸ hi)]at h2;exact he.2 i a b h1 h2
         · rw[List.getElem?_append_right (by omega)]at h1;rw [List.getElem?_append_right (by have:=he.1;omega),← he.1]at h2
           cases hq:i - es.length with
           | zero=>
            rw[hq]at h1 h2;simp at h1 h2;subst h1 h2;exact⟨rfl,hv,rfl⟩
           | succ m=>rw [hq]at h1;simp at h1
       · have:((⟨es'⟩:Array MapEntry).push { key:=key,val:=v',born:=clock })=⟨es'++[{ key:=key,val:=v',born:=clock }]⟩:=by simp
         rw[this];simp [hlt]
       · intro c hc;show(wd.heap.setIfInBounds B.b _)[c]? = _;rw [Array.getElem?_setIfInBounds,if_neg (fun e=>hc e.symm)]
theorem range_ok{o:Oper}{ty:TypeId}{x:Operand}(hop:o.op = .range ty x){lo:Lo}{cx:Cx}{k:KV}{kp:KP}(h:eff o.op P lo cx t w k kp=true):∃w' v,EffVal P ng o t w v w'∧k w' v=true:=by
 rw[hop]at h;have h':(yR w fun h n mk=>xrangeM P ty (ev t x) h n fun v h n=>k (mk h n) v)=true:=h;rw [yS]at h';have hmem:x∈o.op.operands.toList:=by rw[hop];simp [Op.operands]
 unfold xrangeM at h';split at h'
 · rename_i kt et hd hx;rw [zR]at h';refine⟨W.mk w.d w.u (w.h.set .dead (.siter none 0 [] 0) w.n) (w.n+1),.pointer (some ⟨w.n,0,none⟩),⟨rfl,rfl,fun ρ base w0 a wd hT hH=>?_⟩,h'⟩;have rx:=hT x hmem;rw [hx]at rx;obtain⟨a1,a2⟩:=hH.alloc (.siter none 0 [] 0) (.mapIter none 0 #[] 0) ⟨wd.heap.size,0,0⟩ rfl (.siter0 hH.size);refine⟨_,.pointer (some ⟨wd.heap.size,0,none⟩),_,.inl ?_,RV.ptr (B:=⟨wd.heap.size,0,0⟩) (yD _ _ _),a1,a2⟩;generalize hz:a.eval x=x' at rx
   cases rx
   simp[execOp,hop,hz,Instr.range,zG hd]
 · rename_i kt et r hd hx;split at h'
   case h_2=>cases h'
   rename_i es clock hg;rw [zR]at h';refine⟨W.mk w.d w.u (w.h.set .dead (.siter (some r) clock [] clock) w.n) (w.n+1),.pointer (some ⟨w.n,0,none⟩),⟨rfl,rfl,fun ρ base w0 a wd hT hH=>?_⟩,h'⟩;have rx:=hT x hmem;rw [hx]at rx;obtain⟨B,hb,hz⟩:=rx.of_map;obtain⟨es',e1,he,hbb⟩:=map_at hH hb hg;have hle:=Inj.le_put (⟨wd.heap.size,0,0⟩:Bl) (hH.dom w.n (Nat.le_refl _));obtain⟨a1,a2⟩:=hH.alloc (.siter (some r) clock [] clock) (.mapIter (some B.b) clock #[] clock) ⟨wd.heap.size,0,0⟩ rfl (.siter (hle _ _ hb) hH.size);refine⟨_,.pointer (some ⟨wd.heap.size,0,none⟩),_,.inl ?_,RV.ptr (B:=⟨wd.heap.size,0,0⟩) (yD _ _ _),a1,a2⟩;simp [execOp,hop,hz,Instr.range,zG hd,yQ e1]
 · cases h'
theorem seen_has(seen:List Nat)(b:Nat):(seen.any fun x=>Nat.beq x b)=(⟨seen⟩:Array Nat).contains b:=by
 rw[show(⟨seen⟩:Array Nat).contains b=seen.contains b from by simp]
 induction seen with
 | nil=>rfl
 | cons x seen ih =>
  rw[List.any_cons,List.contains_cons,ih];congr 1
  cases h:Nat.beq x b with
  | true=>have:=zD h;subst this;simp
  | false=>
   have:¬b=x:=fun e=>by subst e;rw [Nat.beq_refl]at h;cases h
   simp[this]
theorem left_ok{ρ : Inj}(p:Nat→Bool):∀{es es':List MapEntry},EsR ρ es es'→EsR ρ (es.filter fun e=>p e.born) (es'.filter fun e=>p e.born):=by
 intro es
 induction es with
 | nil=>
  intro es' he;have:es'=[]:=by have:=he.1;cases es' <;> simp_all
  subst this;exact he
 | cons e es ih =>
  intro es' he
  cases es' with
  | nil=>have:=he.1;simp at this
  | cons e' es' =>
   have h0:=he.2 0 e e' rfl rfl;have he':EsR ρ es es':=⟨by have:=he.1;simpa using this,fun j a b h1 h2=>he.2 (j+1) a b (by simpa using h1) (by simpa using h2)⟩;have ih:=ih he';rw [List.filter_cons,List.filter_cons,h0.2.2]
   cases p e.born with
   | false=>exact ih
   | true =>
    refine⟨by simp[ih.1],fun j a b h1 h2=>?_⟩
    cases j with
    | zero=>
     simp at h1 h2;subst h1 h2;exact h0
    | succ j=>exact ih.2 j a b (by simpa using h1) (by simpa using h2)
theorem all_born{ρ : Inj}(p:Nat→Bool){es es':List MapEntry}(he:EsR ρ es es'):(es.all fun e=>p e.born)=(es'.all fun e=>p e.born):=by
 induction es generalizing es' with
 | nil=>
  have:es'=[]:=by have:=he.1;cases es' <;> simp_all
  subst this;rfl
 | cons e es ih =>
  cases es' with
  | nil=>have:=he.1;simp at this
  | cons e' es'=>
   have h0:=he.2 0 e e' rfl rfl;have he':EsR ρ es es':=⟨by have:=he.1;simpa using this,fun j a b h1 h2=>he.2 (j+1) a b (by simpa using h1) (by simpa using h2)⟩;rw [List.all_cons,List.all_cons,ih he',h0.2.2]
theorem keyPlain_ok{k:Value}(h:keyPlain k=true)(ρ : Inj):RV ρ k k:=by
 cases k with
 | bool b=>exact RV.bool b
 | int k n=>exact RV.int k n
 | string s=>exact RV.string s
 | agg cs=>
  refine RV.agg rfl fun i v v' e1 e2=>?_;rw [e1]at e2;injection e2 with e2
  subst e2;have h':=List.all_eq_true.1 h v (List.mem_of_getElem? e1);cases v <;> first|(cases h';done)|exact RV.bool _|exact RV.int _ _|exact RV.string _
 | _=>cases h
theorem filt_arr{es':List MapEntry}(p:MapEntry→Bool):(⟨es'⟩:Array MapEntry).filter p=⟨es'.filter p⟩:=by
 apply Array.toList_inj.1;rw [Array.toList_filter]
theorem nextE_ok{ρ : Inj}{es es':List MapEntry}(he:EsR ρ es es'){seen:List Nat}{since:Nat}{r:Option MapEntry}(h:nextE es seen since=some r) :
 (r=none∧es'.filter (fun e=> !(⟨seen⟩:Array Nat).contains e.born)=[])∨∃e e',r=some e∧es'.filter (fun e=> !(⟨seen⟩:Array Nat).contains e.born)=[e']∧e'.key=e.key∧RV ρ e.val e'.val∧e'.born=e.born∧e'.born<since:=by
 have hl:=left_ok (ρ := ρ) (fun b=> !(⟨seen⟩:Array Nat).contains b) he;unfold nextE at h;simp only[seen_has]at h;split at h
 · rename_i hf;injection h with h
   rw[hf]at hl;refine .inl ⟨h.symm,?_⟩;have:=hl.1;exact List.length_eq_zero_iff.1 this.symm
 · rename_i e hf
   cases hb:Nat.blt e.born since with
   | false=>rw [hb]at h;cases h
   | true =>
    rw[hb]at h;injection h with h
    rw[hf]at hl;obtain⟨l1,l2⟩:=hl
    cases hq:es'.filter (fun e=> !(⟨seen⟩:Array Nat).contains e.born) with
    | nil=>rw [hq]at l1;cases l1
    | cons e' q =>
     rw[hq]at l1 l2
     have hq0:q=[]:=by
      have:1=q.length+1:=l1;exact List.length_eq_zero_iff.1 (by omega)
     subst hq0;obtain⟨g1,g2,g3⟩:=l2 0 e e' rfl rfl;exact .inr ⟨e,e',h.symm,rfl,g1,g2,g3,by rw[g3];exact zS hb⟩
 · cases h
theorem next_ok{o:Oper}{x:Operand}{s:Bool}(hop:o.op = .next x s){lo:Lo}{cx:Cx}{k:KV}{kp:KP}(h:eff o.op P lo cx t w k kp=true):∃w' v,EffVal P ng o t w v w'∧k w' v=true:=by
 rw[hop]at h;have h':(yR w fun h n mk=>cond s false (xnextM (ev t x) h fun v h=>k (mk h n) v))=true:=h;rw [yS]at h';have hmem:x∈o.op.operands.toList:=by rw[hop];simp [Op.operands]
 have hfo:(Question.mapNext 1).forced=true:=rfl
 cases s with
 | true=>cases h'
 | false=>
 dsimp only[cond]at h';unfold xnextM at h';split at h'
 case h_2=>cases h'
 rename_i b hx;split at h'
 case h_3=>cases h'
 · rename_i since seen last hg;refine⟨w,.tuple ⟨[.bool false]⟩,⟨rfl,rfl,fun ρ base w0 a wd hT hH=>?_⟩,h'⟩;have rx:=hT x hmem;rw [hx]at rx;obtain⟨B,hb,_,hz⟩:=rx.of_ptr;obtain⟨ob,e1,e2⟩:=hH.obj b B hb (by rw[hg];exact AObj.noConfusion);rw [hg]at e2;refine⟨ρ,.tuple ⟨[.bool false]⟩,wd,.inl ?_,RV.mk_tuple (RVs.cons (RV.bool _) (RVs.nil ρ)),hH,Grow.refl _ _ _ _ hH.dom⟩;cases e2
   simp[execOp,hop,hz,Instr.next,getObj,Sem.run,e1]
 · rename_i m since seen last hg;split at h'
   case h_2=>cases h'
   rename_i es clock hgm
   cases hc:((!seen.isEmpty && !es.isEmpty) && es.all fun e=>Nat.ble last e.born) with
   | true=>rw [hc]at h';cases h'
   | false=>
   rw[hc]at h';dsimp only[cond]at h';have hdead:zF w.h b≠.dead:=by rw[hg];exact AObj.noConfusion
   have pre:∀{ρ : Inj} {base:Nat} {w0:World} {a:Act} {wd:World},OpsR ρ t a o→HeapR P ng ρ base w0 w.h w.n wd→
    ∃B M es',ρ b=some B∧ρ m=some M∧a.eval x = .pointer (some ⟨B.b,0,none⟩)∧wd.heap[B.b]? = some (.mapIter (some M.b) since ⟨seen⟩ last)∧wd.heap[M.b]? = some (.map ⟨es'⟩ clock)∧EsR ρ es es'∧base≤B.b∧
     ((!(⟨seen⟩:Array Nat).isEmpty && !(⟨es'⟩:Array MapEntry).isEmpty) && (⟨es'⟩:Array MapEntry).all (·.born≥last))=false:=by
    intro ρ base w0 a wd hT hH;have rx:=hT x hmem;rw [hx]at rx;obtain⟨B,hb,_,hz⟩:=rx.of_ptr;obtain⟨ob,e1,e2⟩:=hH.obj b B hb hdead;rw [hg]at e2
    cases e2 with
    | siter hm hbb =>
     rename_i M;obtain⟨es',e3,he,_⟩:=map_at hH hm hgm;refine⟨B,M,es',hb,hm,hz,e1,e3,he,hbb,?_⟩;rw [← hc];have q1:(⟨seen⟩:Array Nat).isEmpty=seen.isEmpty:=by cases seen <;> rfl
     have q2:(⟨es'⟩:Array MapEntry).isEmpty=es.isEmpty:=by
      have:=he.1;cases es <;> cases es' <;> first|rfl|(simp at this)
     have q3:((⟨es'⟩:Array MapEntry).all (·.born≥last))=es.all fun e=>Nat.ble last e.born:=by
      rw[all_born (fun b=>Nat.ble last b) he];rw [← Array.all_toList];congr 1
      funext e
      show decide (last≤e.born)=Nat.ble last e.born
      cases hq:Nat.ble last e.born with
      | true=>exact decide_eq_true (Nat.le_of_ble_eq_true hq)
      | false=>exact decide_eq_false fun hl=>by rw[Nat.ble_eq_true_of_le hl]at hq;cases hq
     rw[q1,q2,q3]
   split at h'
   case h_3=>cases h'
   · rename_i hn;refine⟨w,.tuple ⟨[.bool false]⟩,⟨rfl,rfl,fun ρ base w0 a wd hT hH=>?_⟩,h'⟩;obtain⟨B,M,es',hb,hm,hz,e1,e3,he,hbb,hcc⟩:=pre hT hH;refine⟨ρ,.tuple ⟨[.bool false]⟩,wd,.inl ?_,RV.mk_tuple (RVs.cons (RV.bool _) (RVs.nil ρ)),hH,Grow.refl _ _ _ _ hH.dom⟩;rcases nextE_ok he hn with⟨_,hf⟩|⟨e,e',q,_⟩
     · have zF:(getObj B.b).run P wd = .ok (.mapIter (some M.b) since ⟨seen⟩ last) wd:=by simp[getObj,Sem.run,e1]
       simp only[execOp,hop,hz,Instr.next,Sem.run_bind,zF,Result.andThen_ok,yQ e3,hcc,Bool.false_eq_true,if_false,filt_arr,hf,List.filter_nil];simp [hfo]
     · cases q
   · rename_i e hn
     cases hp:keyPlain e.key with
     | false=>rw [hp]at h';cases h'
     | true=>
     rw[hp]at h';dsimp only[cond]at h';rw [Tr.setK_eq]at h';refine⟨W.mk w.d w.u (w.h.set .dead (.siter (some m) since (seen++[e.born]) clock) b) w.n,.tuple ⟨[.bool true,e.key,e.val]⟩,⟨rfl,rfl,fun ρ base w0 a wd hT hH=>?_⟩,h'⟩;obtain⟨B,M,es',hb,hm,hz,e1,e3,he,hbb,hcc⟩:=pre hT hH;rcases nextE_ok he hn with⟨q,_⟩|⟨f,e',q,hf,g1,g2,g3,g4⟩
     · cases q
     · injection q with q
       subst q;have hlt:=hH.lt hb hdead;have zF:(getObj B.b).run P wd = .ok (.mapIter (some M.b) since ⟨seen⟩ last) wd:=by simp[getObj,Sem.run,e1]
       obtain⟨t1,t2⟩:=hH.turn hb hdead (.siter (some m) since (seen++[e.born]) clock) (.mapIter (some M.b) since ⟨seen++[e.born]⟩ clock) { wd with heap:=wd.heap.setIfInBounds B.b (.mapIter (some M.b) since ⟨seen++[e.born]⟩ clock) } hbb (.siter hm hbb) (by simp[hlt]) (by simp) (fun c hc=>by
        show(wd.heap.setIfInBounds B.b _)[c]? = _;rw [Array.getElem?_setIfInBounds,if_neg (fun e=>hc e.symm)]) rfl rfl rfl
       refine⟨ρ,.tuple ⟨[.bool true,e.key,e'.val]⟩,_,.inl ?_,RV.mk_tuple (RVs.cons (RV.bool _) (RVs.cons (keyPlain_ok hp ρ) (RVs.cons g2 (RVs.nil ρ)))),t1,t2⟩;have c1:decide (e'.born<since)=true:=decide_eq_true g4;have c2:decide (e'.born≥since)=false:=decide_eq_false (by omega);simp only[execOp,hop,hz,Instr.next,Sem.run_bind,zF,Result.andThen_ok,yQ e3,hcc,Bool.false_eq_true,if_false,filt_arr,hf,List.filter_cons,c1,c2,List.filter_nil,if_true];simp [hfo,setObj,Sem.run,e1,g1,g3]
theorem find_born{ρ : Inj}{st:Nat}:∀{es es':List MapEntry},EsR ρ es es'→∀{e:MapEntry},(es.find? fun e=>Nat.beq e.born st)=some e→
 ∃e',(es'.find? fun e=>e.born == st)=some e'∧e'.key=e.key∧RV ρ e.val e'.val:=by
 intro es
 induction es with
 | nil=>intro es' _ e h;cases h
 | cons f es ih =>
  intro es' he e h
  cases es' with
  | nil=>have:=he.1;simp at this
  | cons f' es' =>
   obtain⟨g1,g2,g3⟩:=he.2 0 f f' rfl rfl;have he':EsR ρ es es':=⟨by have:=he.1;simpa using this,fun j a b h1 h2=>he.2 (j+1) a b (by simpa using h1) (by simpa using h2)⟩;rw [List.find?_cons]at h ⊢
   cases hb:Nat.beq f.born st with
   | true=>
    rw[hb]at h;injection h with h;subst h
    have hs:=zD hb;have:(f'.born == st)=true:=by rw[g3,hs];simp
    rw[this];exact⟨f',rfl,g1,g2⟩
   | false =>
    rw[hb]at h
    have:(f'.born == st)=false:=by
     rw[g3];refine beq_eq_false_iff_ne.2 fun e=>?_;rw [e,Nat.beq_refl]at hb;cases hb
    rw[this];exact ih he' h
theorem entry_ok{o:Oper}{x:Operand}(hop:o.op = .entry x){lo:Lo}{cx:Cx}{k:KV}{kp:KP}(h:eff o.op P lo cx t w k kp=true):∃w' v,EffVal P ng o t w v w'∧k w' v=true:=by
 rw[hop]at h;have h':(yR w fun h n mk=>xentryM (ev t x) h fun v=>k (mk h n) v)=true:=h;rw [yS]at h';have hmem:x∈o.op.operands.toList:=by rw[hop];simp [Op.operands]
 unfold xentryM at h';split at h'
 case h_2=>cases h'
 rename_i b hx;split at h'
 case h_2=>cases h'
 rename_i m since seen last hg;split at h'
 case h_2=>cases h'
 rename_i es clock st hgm hst
 cases hc:Nat.beq clock last with
 | false=>rw [hc]at h';cases h'
 | true=>
 rw[hc]at h';dsimp only[cond]at h';obtain rfl:=zD hc;split at h'
 case h_2=>cases h'
 rename_i e hf
 cases hp:keyPlain e.key with
 | false=>rw [hp]at h';cases h'
 | true=>
 rw[hp]at h';dsimp only[cond]at h';refine⟨w,.tuple ⟨[e.key,e.val]⟩,⟨rfl,rfl,fun ρ base w0 a wd hT hH=>?_⟩,h'⟩;have rx:=hT x hmem;rw [hx]at rx;obtain⟨B,hb,_,hz⟩:=rx.of_ptr;obtain⟨ob,e1,e2⟩:=hH.obj b B hb (by rw[hg];exact AObj.noConfusion);rw [hg]at e2
 cases e2 with
 | siter hm hbb=>
  rename_i M;obtain⟨es',e3,he,_⟩:=map_at hH hm hgm;obtain⟨e',f1,f2,f3⟩:=find_born he hf;refine⟨ρ,.tuple ⟨[e.key,e'.val]⟩,wd,.inl ?_,RV.mk_tuple (RVs.cons (keyPlain_ok hp ρ) (RVs.cons f3 (RVs.nil ρ))),hH,Grow.refl _ _ _ _ hH.dom⟩;have zF:(getObj B.b).run P wd = .ok (.mapIter (some M.b) since ⟨seen⟩ clock) wd:=by simp[getObj,Sem.run,e1]
  have hback:(⟨seen⟩:Array Nat).back? = some st:=by rw[← Array.getLast?_toList];exact hst
  have ffind:(⟨es'⟩:Array MapEntry).find? (fun e=>e.born == st)=some e':=by rw[← f1];simp
  simp only[execOp,hop,hz,Instr.entry,Sem.run_bind,zF,Result.andThen_ok,hback,yQ e3];simp [f1,f2]
theorem mapUpdate_ok{o:Oper}{ty:TypeId}{m key v:Operand}(hop:o.op = .mapUpdate ty m key v∨o.op = .insert ty m key v){lo:Lo}{cx:Cx}{k:KV}{kp:KP}
(h:eff o.op P lo cx t w k kp=true):∃w' v,EffVal P ng o t w v w'∧k w' v=true:=by
 have h':(yR w fun h n mk=>xG P ty (ev t m) (ev t key) (ev t v) h fun h=>k (mk h n) undef)=true:=by
  rcases hop with hop|hop
  · rw[hop]at h;exact h
  · rw[hop]at h;exact h
 rw[yS]at h';obtain⟨h1,e1,e2⟩:=xmapUpdate_ok (ng:=ng) h'
 have hmem:∀x,x=m∨x=key∨x=v→x∈o.op.operands.toList:=by
  intro x hx;rcases hop with hop|hop <;> rw[hop] <;> simp[Op.operands] <;> exact hx
 refine⟨W.mk w.d w.u h1 w.n,undef,⟨rfl,rfl,fun ρ base w0 a wd hT hH=>?_⟩,e1⟩;have r1:=hT m (hmem _ (.inl rfl));have r2:=hT key (hmem _ (.inr (.inl rfl)));have r3:=hT v (hmem _ (.inr (.inr rfl)));obtain⟨wd',f1,f2,f3⟩:=e2 w.n ρ base w0 wd _ _ _ hH r1 r2 r3;refine⟨ρ,undef,wd',.inr ⟨?_,rfl⟩,RV.undef ρ,f2,f3⟩;rcases hop with hop|hop <;> simp[execOp,hop,f1]
theorem xclear_ok(hP:zU ng P=true){tys:List TypeId}{args:List Value}{rt:TypeId}{h:zB}{k:zB→Bool}(hs:xclear P tys args h k=true) :
 ∃h',k h'=true∧∀(n:Nat) (ρ : Inj) (base:Nat) (w0 wd:World) (args':List Value),HeapR P ng ρ base w0 h n wd→RVs ρ args args'→
  ∃wd',(Builtin.clear_ ⟨tys⟩ rt ⟨args'⟩).run P wd = .ok (.tuple #[]) wd'∧HeapR P ng ρ base w0 h' n wd'∧Grow ρ h n wd ρ h' n wd':=by
 unfold xclear at hs;split at hs
 case h_2=>cases hs
 rename_i ty tr x xr;have e1:(⟨ty::tr⟩:Array TypeId)[0]? = some ty:=by simp
 have e2:∀(x':Value) (l:List Value),(⟨x'::l⟩:Array Value)[0]? = some x':=fun _ _=>by simp
 split at hs
 · rename_i e ln c hd;refine⟨h,hs,fun n ρ base w0 wd args' hH hr=>?_⟩;obtain⟨x',l,rfl,hx,_⟩:=hr.of_cons;refine⟨wd,?_,hH,Grow.refl _ _ _ _ hH.dom⟩;cases hx
   simp[Builtin.clear_,zG hd]
 · rename_i e b off ln c hd;split at hs
   case h_2=>cases hs
   rename_i z hz
   cases hn:Nat.beq ln 0 with
   | true=>
    rw[hn]at hs;obtain rfl:=zD hn;refine⟨h,hs,fun n ρ base w0 wd args' hH hr=>?_⟩;obtain⟨x',l,rfl,hx,_⟩:=hr.of_cons;refine⟨wd,?_,hH,Grow.refl _ _ _ _ hH.dom⟩;rcases hx.of_slice with⟨B,o',c',_,rfl,_⟩|⟨_,_,_,a,rfl⟩ <;> simp[Builtin.clear_,zG hd]
   | false =>
    rw[hn]at hs;dsimp only[cond]at hs;have hln:ln≠0:=fun e=>by subst e;cases hn
    obtain⟨h',g1,gone,⟨cc,mm,zz,kd,gg,gl,ge⟩,g2⟩:=storeAt_ok (P:=P) (ng:=ng) hs;refine⟨h',g1,fun n ρ base w0 wd args' hH hr=>?_⟩;obtain⟨x',l,rfl,hx,_⟩:=hr.of_cons;rcases hx.of_slice with⟨B,o',c',hb,rfl,ho,_⟩|⟨h0,_⟩
    rotate_left
    · exact absurd h0 hln
    obtain rfl:=ho (by omega);have hzz:cellsOf z=z.cells.toList:=by cases z <;> rfl
    have hzc:=RV.cells (RV.plain (xP hP hz) ρ)
    have hrv:RVs ρ (rep (cellsOf z) ln) (Builtin.zeroCells z.cells ln).toList:=by
     by_cases hz0:z.cells.size=0
     · have h3:cellsOf z=[]:=by rw[hzz];exact List.length_eq_zero_iff.1 (by simpa using hz0)
       have h4:rep (cellsOf z) ln=[]:=List.length_eq_zero_iff.1 (by rw[xI,h3];simp);have h5:(Builtin.zeroCells z.cells ln).toList=[]:=List.length_eq_zero_iff.1 (by rw[Array.length_toList,zeroCells_size,hz0,Nat.mul_zero]);rw [h4,h5];exact RVs.nil ρ
     · have:=made_eq z.cells ln (by omega);unfold Builtin.zeroCells;rw [this,← hzz];refine⟨rfl,fun i v v' e1 e2=>?_⟩;rw [e1]at e2;injection e2 with e2;subst e2
       have hlt:i<ln*(cellsOf z).length:=by
        rcases Nat.lt_or_ge i (rep (cellsOf z) ln).length with h1|h1
        · rwa [xI]at h1
        · rw[List.getElem?_eq_none h1]at e1;cases e1
       rw[rep_get _ _ _ hlt]at e1;exact hzc.2 _ v v e1 (by rw[← hzz];exact e1)
    obtain⟨wd',f1,f2,f3⟩:=g2 n ρ base w0 wd B _ hH hb hrv;refine⟨wd',?_,f2,f3⟩
    cases ln with
    | zero=>exact absurd rfl hln
    | succ ln=>simp [Builtin.clear_,zG hd,xH hz,f1]
 · cases hs
theorem dropE_ok{ρ : Inj}:∀{es es':List MapEntry} (i:Nat),EsR ρ es es'→EsR ρ (dropE i es) (es'.eraseIdx i):=by
 intro es
 induction es with
 | nil=>
  intro es' i he;have:es'=[]:=by have:=he.1;cases es' <;> simp_all
  subst this;cases i <;> exact he
 | cons e es ih =>
  intro es' i he
  cases es' with
  | nil=>have:=he.1;simp at this
  | cons e' es' =>
   have he':EsR ρ es es':=⟨by have:=he.1;simpa using this,fun j a b h1 h2=>he.2 (j+1) a b (by simpa using h1) (by simpa using h2)⟩
   cases i with
   | zero=>exact he'
   | succ i =>
    obtain⟨l1,l2⟩:=ih i he';refine⟨by simpa [dropE] using l1,fun j a b h1 h2=>?_⟩
    cases j with
    | zero=>
     have g:=he.2 0 e e' rfl rfl;simp [dropE]at h1 h2;subst h1 h2;exact g
    | succ j=>exact l2 j a b (by simpa [dropE] using h1) (by simpa using h2)
theorem xdelete_ok{tys:List TypeId}{args:List Value}{rt:TypeId}{h:zB}{k:zB→Bool}(hs:xdelete P tys args h k=true) :
 ∃h',k h'=true∧∀(n:Nat) (ρ : Inj) (base:Nat) (w0 wd:World) (args':List Value),HeapR P ng ρ base w0 h n wd→RVs ρ args args'→
  ∃wd',(Builtin.delete_ ⟨tys⟩ rt ⟨args'⟩).run P wd = .ok (.tuple #[]) wd'∧HeapR P ng ρ base w0 h' n wd'∧Grow ρ h n wd ρ h' n wd':=by
 unfold xdelete at hs;split at hs
 case h_2=>cases hs
 rename_i ty tr x key xr;have e1:(⟨ty::tr⟩:Array TypeId)[0]? = some ty:=by simp
 have e2:∀(x' y':Value) (l:List Value),(⟨x'::y'::l⟩:Array Value)[0]? = some x':=fun _ _ _=>by simp
 have e3:∀(x' y':Value) (l:List Value),(⟨x'::y'::l⟩:Array Value)[1]? = some y':=fun _ _ _=>by simp
 split at hs
 case h_3=>cases hs
 · rename_i kt et hd;split at hs
   case h_2=>cases hs
   rename_i kd hkd
   cases hsc:keyT P kd key with
   | false=>rw [hsc]at hs;cases hs
   | true=>
    rw[hsc]at hs;refine⟨h,hs,fun n ρ base w0 wd args' hH hr=>?_⟩;obtain⟨x',l,rfl,hx,hr2⟩:=hr.of_cons;obtain⟨y',l2,rfl,hy,_⟩:=hr2.of_cons;have hkk:=(vS hsc hy).symm;subst hkk;refine⟨wd,?_,hH,Grow.refl _ _ _ _ hH.dom⟩;cases hx
    simp[Builtin.delete_,zG hd,check_ok (wd:=wd) hkd hsc true 9998]
 · rename_i kt et r hd;split at hs
   case h_2=>cases hs
   rename_i kd es clock hkd hg
   cases hsc:keyT P kd key with
   | false=>rw [hsc]at hs;cases hs
   | true=>
    rw[hsc]at hs;dsimp only[cond]at hs;have hdead:zF h r≠.dead:=by rw[hg];exact AObj.noConfusion
    split at hs
    case h_3=>cases hs
    · rename_i i w2 hf;rw [Tr.setK_eq]at hs;refine⟨_,hs,fun n ρ base w0 wd args' hH hr=>?_⟩;obtain⟨x',l,rfl,hx,hr2⟩:=hr.of_cons;obtain⟨y',l2,rfl,hy,_⟩:=hr2.of_cons;have hkk:=(vS hsc hy).symm;subst hkk;obtain⟨B,hb,rfl⟩:=hx.of_map;obtain⟨es',q1,he,hbb⟩:=map_at hH hb hg;obtain⟨r',h1,h2⟩:=wW (wd:=wd) hkd hsc he hf
      cases r' with
      | none=>exact h2.elim
      | some p=>
       obtain⟨j,w'⟩:=p;obtain⟨rfl,_⟩:=h2;have hlt:=hH.lt hb hdead;refine⟨{ wd with heap:=wd.heap.setIfInBounds B.b (.map ((⟨es'⟩:Array MapEntry).eraseIdxIfInBounds i) clock) },?_,?_⟩
       · simp only[Builtin.delete_,e1,e2,e3,Sem.run_bind,zG hd,Result.andThen_ok,yQ q1,check_ok (wd:=wd) hkd hsc _ 9998,h1];simp [setObj,Sem.run,q1]
       · have hq:((⟨es'⟩:Array MapEntry).eraseIdxIfInBounds i)=⟨es'.eraseIdx i⟩:=by
          apply Array.toList_inj.1;rw [Array.toList_eraseIdxIfInBounds]
         refine hH.turn hb hdead _ (.map ⟨es'.eraseIdx i⟩ clock) _ hbb (.map (dropE_ok i he) hbb) ?_ (by simp) ?_ rfl rfl rfl
         · rw[hq];simp [hlt]
         · intro c hc;show(wd.heap.setIfInBounds B.b _)[c]? = _;rw [Array.getElem?_setIfInBounds,if_neg (fun e=>hc e.symm)]
    · rename_i hf;rw [Tr.setK_eq]at hs;refine⟨_,hs,fun n ρ base w0 wd args' hH hr=>?_⟩;obtain⟨x',l,rfl,hx,hr2⟩:=hr.of_cons;obtain⟨y',l2,rfl,hy,_⟩:=hr2.of_cons;have hkk:=(vS hsc hy).symm;subst hkk;obtain⟨B,hb,rfl⟩:=hx.of_map;obtain⟨es',q1,he,hbb⟩:=map_at hH hb hg;obtain⟨r',h1,h2⟩:=wW (wd:=wd) hkd hsc he hf
      cases r' with
      | some p=>exact h2.elim
      | none=>
       have hlt:=hH.lt hb hdead;refine⟨{ wd with heap:=wd.heap.setIfInBounds B.b (.map ⟨es'⟩ clock) },?_,?_⟩
       · simp only[Builtin.delete_,e1,e2,e3,Sem.run_bind,zG hd,Result.andThen_ok,yQ q1,check_ok (wd:=wd) hkd hsc _ 9998,h1];simp [setObj,Sem.run,q1]
       · refine hH.turn hb hdead _ (.map ⟨es'⟩ clock) _ hbb (.map he hbb) (by simp[hlt]) (by simp) ?_ rfl rfl rfl;intro c hc;show(wd.heap.setIfInBounds B.b _)[c]? = _;rw [Array.getElem?_setIfInBounds,if_neg (fun e=>hc e.symm)]
end
end Go.Ex
namespace Go.Ex
inductive ChR (ρ : Inj):List PanicEntry→List PanicEntry→Prop
 | nil:ChR ρ [] []
 | cons {e e':PanicEntry} {l l':List PanicEntry} (hv:RV ρ e.v e'.v) (hr:e'.recovered=e.recovered) (hg:e'.goexit=e.goexit) (hl:ChR ρ l l'):ChR ρ (e::l) (e'::l')
inductive DRs (ρ : Inj):List Deferred→List Deferred→Prop
 | nil:DRs ρ [] []
 | coll {r:Nat} {B:Bl} {asz asz':Array Value} {l l':List Deferred} (h: ρ r=some B) (hl:DRs ρ l l'):DRs ρ (⟨.collected r,asz⟩::l) (⟨.collected B.b,asz'⟩::l')
 | fn {g:FuncId} {cap cap' asz asz':Array Value} {l l':List Deferred} (hc:RVs ρ cap.toList cap'.toList) (ha:RVs ρ asz.toList asz'.toList) (hl:DRs ρ l l') :
  DRs ρ (⟨.fn (.func g) cap,asz⟩::l) (⟨.fn (.func g) cap',asz'⟩::l')
theorem ChR.mono{ρ ρ':Inj}(h: ρ.le ρ'){l l':List PanicEntry}(r:ChR ρ l l'):ChR ρ' l l':=by
 induction r with
 | nil=>exact .nil
 | cons hv hr hg _ ih=>exact .cons (hv.mono h) hr hg ih
theorem DRs.mono{ρ ρ':Inj}(h: ρ.le ρ'){l l':List Deferred}(r:DRs ρ l l'):DRs ρ' l l':=by
 induction r with
 | nil=>exact .nil
 | coll e _ ih=>exact .coll (h _ _ e) ih
 | fn hc ha _ ih=>exact .fn (hc.mono h) (ha.mono h) ih
def ModeR(ρ : Inj)(mode:Option zE)(m:FrameMode):Prop:=
 match mode with
 | none=>m = .returning
 | some c=>∃c',m = .panicking c'∧ChR ρ c c'
def UR(ρ : Inj)(df:Bool)(u:Option zE)(cs:List Frame):Prop:=
 df=true→∃c0 r,cs=c0::r∧ModeR ρ u c0.mode
def CsTo(df:Bool)(cs cs':List Frame):Prop:=
 cs'=cs∨(df=true∧∃c0 r m,cs=c0::r∧cs' = { c0 with mode:=m }::r)
def RdR(ρ : Inj)(rd rd':Option Nat):Prop:=
 match rd,rd' with
 | none,none=>True
 | some l,some l'=>∃B,ρ l=some B∧B.b=l'
 | _,_=>False
theorem ModeR.mono{ρ ρ':Inj}(h: ρ.le ρ'){mode:Option zE}{m:FrameMode}(r:ModeR ρ mode m):ModeR ρ' mode m:=by
 cases mode with
 | none=>exact r
 | some c=>obtain⟨c',e,hc⟩:=r;exact⟨c',e,hc.mono h⟩
theorem UR.mono{ρ ρ':Inj}(h: ρ.le ρ'){df:Bool}{u:Option zE}{cs:List Frame}(r:UR ρ df u cs):UR ρ' df u cs:=
 fun e=>let ⟨c0,l,h1,h2⟩:=r e;⟨c0,l,h1,h2.mono h⟩
theorem RdR.mono{ρ ρ':Inj}(h: ρ.le ρ'){rd rd':Option Nat}(r:RdR ρ rd rd'):RdR ρ' rd rd':=by
 cases rd <;> cases rd' <;> first|exact r|(obtain⟨B,e,hb⟩:=r;exact⟨B,h _ _ e,hb⟩)
theorem CsTo.refl(df:Bool)(cs:List Frame):CsTo df cs cs:=.inl rfl
theorem CsTo.trans{df:Bool}{a b c:List Frame}(h:CsTo df a b)(k:CsTo df b c):CsTo df a c:=by
 rcases h with rfl|⟨hd,c0,r,m,rfl,rfl⟩
 · exact k
 · rcases k with rfl|⟨_,c1,r1,m1,e1,rfl⟩
   · exact .inr ⟨hd,c0,r,m,rfl,rfl⟩
   · injection e1 with e1 e2
     subst e1 e2;exact .inr ⟨hd,c0,r,m1,rfl,rfl⟩
def kindOfDf(df:Bool):CallKind:=match df with|true=>.deferred|false=>.normal
section
variable (P:Program) (ng:Nat)
structure In (ρ : Inj) (base:Nat) (w0:World) (b:Frame) (a:Act) (wd:World) (cs:List Frame) (cx:Cx) (t:Fr) (w:W):Prop where
 fn:b.fn=cx.fn
 kind:b.kind=kindOfDf cx.df
 rd:RdR ρ cx.round b.roundOf
 rdf:cx.round.isSome=true→cx.df=false
 tm:TmR ρ (ntm P cx.fn) t a.tmps
 hp:HeapR P ng ρ base w0 w.h w.n wd
 dr:DRs ρ w.d a.defers
 ur:UR ρ cx.df w.u cs
 fnd:∃fn,P.funcs[b.fn]? = some fn
structure InE (p:Prop) (ρ : Inj) (base:Nat) (w0:World) (b:Frame) (a:Act) (wd:World) (cs:List Frame) (cx:Cx) (t:Fr) (w:W):Prop where
 fn:b.fn=cx.fn
 kind:b.kind=kindOfDf cx.df
 rd:RdR ρ cx.round b.roundOf
 rdf:cx.round.isSome=true→cx.df=false
 tm:p∨TmR ρ (ntm P cx.fn) t a.tmps
 hp:HeapR P ng ρ base w0 w.h w.n wd
 dr:DRs ρ w.d a.defers
 ur:UR ρ cx.df w.u cs
 fnd:∃fn,P.funcs[b.fn]? = some fn
def Lost(x:AX)(w:W):Prop:=match x with
 | .panic _=>w.d=[]
 | _=>False
def Arr(m:Machine)(b:Frame)(k:List Item)(cs:List Frame)(ρ : Inj)(a:Act)(wd:World):AX→Prop
 | .normal=>Steps P m (lone (b.atR a k) cs wd)
 | .exit id=>∃k2,exitTo id k2=exitTo id k∧Steps P m (lone (b.atR a (.code (.exit id)::k2)) cs wd)
 | .goto l=>∃k2,gotoIn l k2=gotoIn l k∧Steps P m (lone (b.atR a (.code (.goto l)::k2)) cs wd)
 | .ret=>∃k2,Steps P m (lone (b.atR a (.code .ret::k2)) cs wd)
 | .panic c=>∃k2 c',ChR ρ c c'∧Steps P m (lone { b.atR a k2 with mode:=.panicking c' } cs wd)
def Leads(b:Frame)(k0 k:List Item)(cx:Cx)(t:Fr)(w:W)(x:AX)(t':Fr)(w':W):Prop:=
 ∀(ρ : Inj) (base:Nat) (w0:World) (a:Act) (wd:World) (cs:List Frame),In P ng ρ base w0 b a wd cs cx t w→
  ∃ρ' a' wd' cs',InE P ng (Lost x w') ρ' base w0 b a' wd' cs' cx t' w'∧Grow ρ w.h w.n wd ρ' w'.h w'.n wd'∧CsTo cx.df cs cs'∧Arr P (lone (b.atR a k0) cs wd) b k cs' ρ' a' wd' x
def CodeTo(c:Code)(cx:Cx)(t:Fr)(w:W)(x:AX)(t':Fr)(w':W):Prop:=
 yB ng (ntm P cx.fn) c=true→∀(b:Frame) (k:List Item),Leads P ng b (.code c::k) k cx t w x t' w'
def Leaves(fr:Frame)(wd:World)(ρ : Inj)(df:Bool):Out→Prop
 | .ret v=>∃v',fr.mode = .returning∧fr.defers=[]∧fr.kind=kindOfDf df∧(∃fn,P.funcs[fr.fn]? = some fn∧(results fn fr.tmps).run P wd = .ok v' wd)∧RV ρ v v'
 | .panic c=>∃c',fr.mode = .panicking c'∧fr.defers=[]∧(∃fn,P.funcs[fr.fn]? = some fn)∧ChR ρ c c'
def CallTo(f:FuncId)(args:List Value)(df:Bool)(u:Option zE)(h:zB)(n:Nat)(o:Out)(u':Option zE)(h':zB)(n':Nat):Prop:=
 (∃fn body,P.funcs[f]? = some fn∧fn.body=some body∧(fn.name == "runtime.NumGoroutine")=false)∧
 ∀(ρ : Inj) (base:Nat) (w0 wd:World) (args':List Value) (cs:List Frame),HeapR P ng ρ base w0 h n wd→RVs ρ args args'→UR ρ df u cs→
  ∃ρ' wd' fr cs',Steps P (lone (Frame.enter P f ⟨args'⟩ (kindOfDf df)) cs wd) (lone fr cs' wd')∧HeapR P ng ρ' base w0 h' n' wd'∧Grow ρ h n wd ρ' h' n' wd'∧CsTo df cs cs'∧UR ρ' df u' cs'∧fr.fn=f∧Leaves P fr wd' ρ' df o
def Back(m:Machine)(c:Frame)(cs:List Frame)(wd:World)(ρ : Inj):Out→Prop
 | .ret v=>∃v',RV ρ v v'∧Steps P m (lone (c.finish v') cs wd)
 | .panic ch=>∃ch',ChR ρ ch ch'∧Steps P m (lone (c.raise ch') cs wd)
def RoundTo(l:Nat)(args:List Value)(h:zB)(n:Nat)(o:Out)(h':zB)(n':Nat):Prop:=
 ∀(ρ : Inj) (base:Nat) (w0 wd:World) (args':List Value) (B:Bl) (c:Frame) (cs:List Frame),HeapR P ng ρ base w0 h n wd→ρ l=some B→RVs ρ args args'→
  ∃f tmps asg body,(Instr.yield B.b ⟨args'⟩).run P wd = .ok (.round B.b f tmps asg body) wd∧
  ∃ρ' wd',HeapR P ng ρ' base w0 h' n' wd'∧Grow ρ h n wd ρ' h' n' wd'∧Back P (lone (Frame.round B.b f tmps asg body .normal) (c::cs) wd) c cs wd' ρ' o
def LeaveTo(fn:Func)(mode:Option zE)(t:Fr)(w:W)(o:Out)(u':Option zE)(h':zB)(n':Nat):Prop:=
 ∀(ρ : Inj) (base:Nat) (w0:World) (b:Frame) (a:Act) (wd:World) (cs:List Frame) (df:Bool),InE P ng (mode.isSome=true∧w.d=[]) ρ base w0 b a wd cs ⟨b.fn,none,df⟩ t w→P.funcs[b.fn]? = some fn→∀(k:List Item) (m:FrameMode),ModeR ρ mode m→
  ∃ρ' wd' fr cs',Steps P (lone { b.atR a k with mode:=m } cs wd) (lone fr cs' wd')∧HeapR P ng ρ' base w0 h' n' wd'∧Grow ρ w.h w.n wd ρ' h' n' wd'∧CsTo df cs cs'∧UR ρ' df u' cs'∧fr.fn=b.fn∧Leaves P fr wd' ρ' df o
structure Sound (lo:Lo):Prop where
 code:∀c cx t w k,lo.code c cx t w k=true→∃x t' w',k x t' w'=true∧CodeTo P ng c cx t w x t' w'
 call:∀f args df u h n k,lo.call f args df u h n k=true→∃o u' h' n',k o u' h' n'=true∧CallTo P ng f args df u h n o u' h' n'
 round:∀l args h n k,lo.round l args h n k=true→∃o h' n',k o h' n'=true∧RoundTo P ng l args h n o h' n'
 leave:∀fn mode t w k,lo.leave fn mode t w k=true→∃o u' h' n',k o u' h' n'=true∧LeaveTo P ng fn mode t w o u' h' n'
end
section
variable {P:Program} {ng:Nat}
theorem In.e{p:Prop}{ρ : Inj}{base:Nat}{w0:World}{b:Frame}{a:Act}{wd:World}{cs:List Frame}{cx:Cx}{t:Fr}{w:W}(h:In P ng ρ base w0 b a wd cs cx t w):InE P ng p ρ base w0 b a wd cs cx t w:=
 ⟨h.fn,h.kind,h.rd,h.rdf,.inr h.tm,h.hp,h.dr,h.ur,h.fnd⟩
theorem InE.i{p:Prop}{ρ : Inj}{base:Nat}{w0:World}{b:Frame}{a:Act}{wd:World}{cs:List Frame}{cx:Cx}{t:Fr}{w:W}(h:InE P ng p ρ base w0 b a wd cs cx t w)(hp:¬p):In P ng ρ base w0 b a wd cs cx t w:=
 ⟨h.fn,h.kind,h.rd,h.rdf,h.tm.resolve_left hp,h.hp,h.dr,h.ur,h.fnd⟩
theorem InE.mono{p q:Prop}{ρ : Inj}{base:Nat}{w0:World}{b:Frame}{a:Act}{wd:World}{cs:List Frame}{cx:Cx}{t:Fr}{w:W}(h:InE P ng p ρ base w0 b a wd cs cx t w)(hp:p→q):InE P ng q ρ base w0 b a wd cs cx t w:=
 ⟨h.fn,h.kind,h.rd,h.rdf,h.tm.imp_left hp,h.hp,h.dr,h.ur,h.fnd⟩
theorem sound_bot:Sound P ng Lo.bot:=⟨fun _ _ _ _ _ h=>(Bool.false_ne_true h).elim,fun _ _ _ _ _ _ _ h=>(Bool.false_ne_true h).elim,fun _ _ _ _ _ h=>(Bool.false_ne_true h).elim,fun _ _ _ _ _ h=>(Bool.false_ne_true h).elim⟩
theorem Arr.of_steps{m m1:Machine}{b:Frame}{k:List Item}{cs:List Frame}{ρ : Inj}{a:Act}{wd:World}{x:AX}(h:Steps P m m1)(r:Arr P m1 b k cs ρ a wd x):Arr P m b k cs ρ a wd x:=by
 cases x with
 | normal=>exact h.trans r
 | exit id=>obtain⟨k2,e,s⟩:=r;exact⟨k2,e,h.trans s⟩
 | goto l=>obtain⟨k2,e,s⟩:=r;exact⟨k2,e,h.trans s⟩
 | ret=>obtain⟨k2,s⟩:=r;exact⟨k2,h.trans s⟩
 | panic c=>obtain⟨k2,c',e,s⟩:=r;exact⟨k2,c',e,h.trans s⟩
theorem zI{b:Frame}{k0 k1 k:List Item}{cx:Cx}{t t':Fr}{w w':W}{x:AX}(h:∀a cs wd,step P (lone (b.atR a k0) cs wd) = .next (lone (b.atR a k1) cs wd))
(r:Leads P ng b k1 k cx t w x t' w'):Leads P ng b k0 k cx t w x t' w':=by
 intro ρ base w0 a wd cs hI;obtain⟨ρ',a',wd',cs',h1,h2,h3,h4⟩:=r ρ base w0 a wd cs hI;exact⟨ρ',a',wd',cs',h1,h2,h3,h4.of_steps (.one (h a cs wd))⟩
theorem xJ(b:Frame)(k:List Item)(cx:Cx)(t:Fr)(w:W):Leads P ng b k k cx t w .normal t w:=
 fun ρ _ _ a wd cs hI=>⟨ρ,a,wd,cs,hI.e,Grow.refl _ _ _ _ hI.hp.dom,CsTo.refl _ _,Steps.refl _ _⟩
theorem Leads.trans{b:Frame}{k0 k1 k:List Item}{cx:Cx}{t t1 t2:Fr}{w w1 w2:W}{x:AX}(h:Leads P ng b k0 k1 cx t w .normal t1 w1)(r:Leads P ng b k1 k cx t1 w1 x t2 w2) :
 Leads P ng b k0 k cx t w x t2 w2:=by
 intro ρ base w0 a wd cs hI;obtain⟨ρ1,a1,wd1,cs1,h1,h2,h3,h4⟩:=h ρ base w0 a wd cs hI;obtain⟨ρ2,a2,wd2,cs2,g1,g2,g3,g4⟩:=r ρ1 base w0 a1 wd1 cs1 (h1.i fun h=>h);exact⟨ρ2,a2,wd2,cs2,g1,h2.trans g2,h3.trans g3,g4.of_steps h4⟩
theorem Leads.pass{b:Frame}{k0 k1 k:List Item}{cx:Cx}{t t1:Fr}{w w1:W}{x:AX}(h:Leads P ng b k0 k1 cx t w x t1 w1)(hn:x≠.normal)
(he:∀id,x = .exit id→exitTo id k1=exitTo id k)(hg:∀l,x = .goto l→gotoIn l k1=gotoIn l k):Leads P ng b k0 k cx t w x t1 w1:=by
 intro ρ base w0 a wd cs hI;obtain⟨ρ1,a1,wd1,cs1,h1,h2,h3,h4⟩:=h ρ base w0 a wd cs hI;refine⟨ρ1,a1,wd1,cs1,h1,h2,h3,?_⟩
 cases x with
 | normal=>exact absurd rfl hn
 | exit id=>obtain⟨k2,e,s⟩:=h4;exact⟨k2,e.trans (he id rfl),s⟩
 | goto l=>obtain⟨k2,e,s⟩:=h4;exact⟨k2,e.trans (hg l rfl),s⟩
 | ret=>exact h4
 | panic c=>exact h4
end
end Go.Ex
