/- What the law leans on: an executor of the model that is sound, deduction over it, and the walks through the code (part 4 of 24). Conditions: those that each theorem states. -/
import Derived.Test.YtdipdkkpgjdnkaaGreatDoorVirLinesx3
import Derived.ChangeKeysEq
import Derived.Laws.StructEq
import Derived.WideKeyRuns

set_option linter.unusedVariables false
set_option linter.unusedSimpArgs false
namespace Go.Ex
theorem byte_ext{a b:UInt8}(h:a.toNat=b.toNat):a=b:=UInt8.toNat_inj.1 h
theorem vL:∀(x y:List UInt8),vG x y=(x == y):=by
 intro x
 induction x with
 | nil=>intro y;cases y <;> rfl
 | cons a x ih =>
  intro y
  cases y with
  | nil=>rfl
  | cons b y =>
   simp only[vG]
   cases h:Nat.beq a.toNat b.toNat with
   | true=>
    have:=byte_ext (zG h);subst this;simp [ih]
   | false=>
    have:¬a=b:=fun e=>by subst e;rw [Nat.beq_refl]at h;cases h
    simp[this]
section
variable {P:Program} {ρ : Inj} {wd:World}
def yU(op:BinOp)(t:TypeId)(ox oy:Operand)(x y:Value):Sem Value:=do eqGuard op t ox oy x y;binOp op t x y
theorem intOp_ok{op:BinOp}{t:TypeId}{ox oy:Operand}{k:IntKind}{a b:Int}{s:Option Value}{v:Value}(h:intOp op k a b s=some v) :
 (yU op t ox oy (.int k a) (.int k b)).run P wd = .ok v wd∨s=some v:=by
 cases op with
 | add =>
  left
  have h':(Int.rec (fun m=>some (Value.int k (.ofNat m))) (fun m=>some (Value.int k (.negSucc m))) (wL k (iadd a b)):Option Value)=some v:=h
  have:v = .int k (k.wrap (a+b)):=by
   rw[wB,iadd_eq]at h';cases hw:k.wrap (a+b) <;> rw[hw]at h' <;> (injection h' with h';exact h'.symm)
  subst this;simp [yU,eqGuard,binOp,Op.intArith]
 | sub =>
  left
  have h':(Int.rec (fun m=>some (Value.int k (.ofNat m))) (fun m=>some (Value.int k (.negSucc m))) (wL k (isub a b)):Option Value)=some v:=h
  have:v = .int k (k.wrap (a - b)):=by
   rw[wB,isub_eq]at h';cases hw:k.wrap (a - b) <;> rw[hw]at h' <;> (injection h' with h';exact h'.symm)
  subst this;simp [yU,eqGuard,binOp,Op.intArith]
 | eql=>left;injection h with h;subst h;simp [yU,eqGuard,binOp,Op.intCmp,xI];rfl
 | neq=>
  left
  have h':some (Value.bool (Bool.rec true false (ieqB a b)))=some v:=h;injection h' with h';subst h'
  rw[xI];by_cases e:a=b <;> simp[yU,eqGuard,binOp,Op.intCmp,e]
 | lss=>left;injection h with h;subst h;simp [yU,eqGuard,binOp,Op.intCmp,iltB_eq]
 | leq=>left;injection h with h;subst h;simp [yU,eqGuard,binOp,Op.intCmp,ileB_eq]
 | gtr=>left;injection h with h;subst h;simp [yU,eqGuard,binOp,Op.intCmp,iltB_eq]
 | geq=>left;injection h with h;subst h;simp [yU,eqGuard,binOp,Op.intCmp,ileB_eq]
 | _=>right;exact h
theorem uB{bits x:Nat}(hx:x<2 ^ bits):(BitVec.ofInt bits (x:Int)).toNat=x:=by
 rw[BitVec.ofInt_natCast,BitVec.toNat_ofNat,Nat.mod_eq_of_lt hx]
theorem land_ofNat(bits x y:Nat)(hx:x<2 ^ bits)(hy:y<2 ^ bits):((BitVec.ofInt bits (x:Int)) &&& (BitVec.ofInt bits (y:Int))).toNat=x &&& y:=by
 rw[BitVec.toNat_and,uB hx,uB hy]
theorem lor_ofNat(bits x y:Nat)(hx:x<2 ^ bits)(hy:y<2 ^ bits):((BitVec.ofInt bits (x:Int)) ||| (BitVec.ofInt bits (y:Int))).toNat=x ||| y:=by
 rw[BitVec.toNat_or,uB hx,uB hy]
theorem xor_ofNat(bits x y:Nat)(hx:x<2 ^ bits)(hy:y<2 ^ bits):((BitVec.ofInt bits (x:Int)) ^^^ (BitVec.ofInt bits (y:Int))).toNat=x ^^^ y:=by
 rw[BitVec.toNat_xor,uB hx,uB hy]
theorem andNot_ofNat(bits x y:Nat)(hx:x<2 ^ bits)(hy:y<2 ^ bits):((BitVec.ofInt bits (x:Int)) &&& ~~~(BitVec.ofInt bits (y:Int))).toNat=x ^^^ (x &&& y):=by
 rw[BitVec.toNat_and];apply Nat.eq_of_testBit_eq;intro i;rw [Nat.testBit_and,Nat.testBit_xor,Nat.testBit_and,uB hx];by_cases hi:i<bits
 · have:(~~~(BitVec.ofInt bits (y:Int))).toNat.testBit i = !(y.testBit i):=by
    have h1:(~~~(BitVec.ofInt bits (y:Int))).toNat.testBit i=(~~~(BitVec.ofInt bits (y:Int))).getLsbD i:=rfl;rw [h1,BitVec.getLsbD_not];have h2:(BitVec.ofInt bits (y:Int)).getLsbD i=(BitVec.ofInt bits (y:Int)).toNat.testBit i:=rfl;rw [h2,uB hy];simp [hi]
   rw[this];cases x.testBit i <;> cases y.testBit i <;> rfl
 · have:x.testBit i=false:=Nat.testBit_lt_two_pow (Nat.lt_of_lt_of_le hx (Nat.pow_le_pow_right (by omega) (by omega)));simp [this]
theorem wrap_nat{k:IntKind}{m:Nat}(h:k = .i64→m<9223372036854775808)(h2:k≠.i64→k.signed=false∧m<2 ^ k.bits):k.wrap (m:Int)=(m:Int):=by
 by_cases hk:k = .i64
 · subst hk;have:=h rfl;rw [IntWalk.i64_in];omega
 · obtain⟨h3,h4⟩:=h2 hk;unfold IntKind.wrap;rw [h3];simp only[Bool.false_and,Bool.false_eq_true,if_false];have:(m:Int)<(2:Int) ^ k.bits:=by exact_mod_cast h4
   exact Int.emod_eq_of_lt (by omega) this
theorem bitsOp_ok{op:BinOp}{t:TypeId}{ox oy:Operand}{k:IntKind}{x y:Nat}{r:Nat}(hx:x<2 ^ k.bits)(hy:y<2 ^ k.bits)
(hr:(op = .and∧r=Nat.land x y)∨(op = .or∧r=Nat.lor x y)∨(op = .xor∧r=Nat.xor x y)∨(op = .andNot∧r=Nat.xor x (Nat.land x y)))
(hw:k.wrap (r:Int)=(r:Int)):(yU op t ox oy (.int k (x:Int)) (.int k (y:Int))).run P wd = .ok (.int k (r:Int)) wd:=by
 rcases hr with⟨rfl,e⟩|⟨rfl,e⟩|⟨rfl,e⟩|⟨rfl,e⟩
 · have:((BitVec.ofInt k.bits (x:Int)) &&& (BitVec.ofInt k.bits (y:Int))).toNat=r:=by rw[land_ofNat _ _ _ hx hy,e];rfl
   simp[yU,eqGuard,binOp,Op.intBits,this,hw,-BitVec.toNat_and,-BitVec.ofInt_natCast]
 · have:((BitVec.ofInt k.bits (x:Int)) ||| (BitVec.ofInt k.bits (y:Int))).toNat=r:=by rw[lor_ofNat _ _ _ hx hy,e];rfl
   simp[yU,eqGuard,binOp,Op.intBits,this,hw,-BitVec.toNat_or,-BitVec.ofInt_natCast]
 · have:((BitVec.ofInt k.bits (x:Int)) ^^^ (BitVec.ofInt k.bits (y:Int))).toNat=r:=by rw[xor_ofNat _ _ _ hx hy,e];rfl
   simp[yU,eqGuard,binOp,Op.intBits,this,hw,-BitVec.toNat_xor,-BitVec.ofInt_natCast]
 · have:((BitVec.ofInt k.bits (x:Int)) &&& ~~~(BitVec.ofInt k.bits (y:Int))).toNat=r:=by rw[andNot_ofNat _ _ _ hx hy,e];rfl
   simp[yU,eqGuard,binOp,Op.intBits,this,hw,-BitVec.toNat_and,-BitVec.ofInt_natCast]
theorem xor_land_le(x y:Nat):Nat.xor x (Nat.land x y)≤x:=by
 have h:Nat.xor x (Nat.land x y)=x &&& (x ^^^ (x &&& y)):=by
  apply Nat.eq_of_testBit_eq;intro i;show(x ^^^ (x &&& y)).testBit i=_;simp only[Nat.testBit_xor,Nat.testBit_and];cases x.testBit i <;> cases y.testBit i <;> rfl
 rw[h];exact Nat.and_le_left
theorem lim_some{k:IntKind}{m:Nat}(h:bitLim k=some m):∃e,m=2 ^ e∧e≤k.bits∧∀r:Nat,r<m→k.wrap (r:Int)=(r:Int):=by
 cases k <;> simp only[bitLim]at h <;> cases h
 · exact⟨63,by decide,by decide,fun r hr=>wrap_nat (fun _=>hr) (fun e=>absurd rfl e)⟩
 · exact⟨8,by decide,by decide,fun r hr=>wrap_nat (fun e=>by cases e) (fun _=>⟨rfl,by simpa [IntKind.bits] using hr⟩)⟩
 · exact⟨16,by decide,by decide,fun r hr=>wrap_nat (fun e=>by cases e) (fun _=>⟨rfl,by simpa [IntKind.bits] using hr⟩)⟩
 · exact⟨32,by decide,by decide,fun r hr=>wrap_nat (fun e=>by cases e) (fun _=>⟨rfl,by simpa [IntKind.bits] using hr⟩)⟩
 · exact⟨64,by decide,by decide,fun r hr=>wrap_nat (fun e=>by cases e) (fun _=>⟨rfl,by simpa [IntKind.bits] using hr⟩)⟩
theorem bitNat_lt{op:BinOp}{x y r e:Nat}(hx:x<2 ^ e)(hy:y<2 ^ e)(h:bitNat op x y=some r):r<2 ^ e:=by
 cases op <;> simp only[bitNat]at h <;> cases h
 · exact Nat.lt_of_le_of_lt Nat.and_le_left hx
 · exact Nat.or_lt_two_pow hx hy
 · exact Nat.xor_lt_two_pow hx hy
 · exact Nat.lt_of_le_of_lt (xor_land_le x y) hx
theorem bits_ok{op:BinOp}{t:TypeId}{ox oy:Operand}{k:IntKind}{a b:Int}{v:Value}(h:aBits op k a b=some v) :
 (yU op t ox oy (.int k a) (.int k b)).run P wd = .ok v wd:=by
 unfold aBits at h;split at h
 · rename_i x y m hm
   cases hc:(Nat.blt x m && Nat.blt y m) with
   | false=>rw [hc]at h;cases h
   | true =>
    rw[hc]at h;obtain⟨h1,h2⟩:=Bool.and_eq_true_iff.1 hc;have h1:=zY h1;have h2:=zY h2
    cases hr:bitNat op x y with
    | none=>rw [hr]at h;cases h
    | some r=>
     rw[hr]at h;injection h with h
     subst h;obtain⟨e,rfl,he,hw⟩:=lim_some hm;have hlt:=bitNat_lt h1 h2 hr;have hle:2 ^ e≤2 ^ k.bits:=Nat.pow_le_pow_right (by omega) he;refine bitsOp_ok (by omega) (by omega) ?_ (hw r hlt);cases op <;> simp only[bitNat]at hr <;> cases hr
     · exact .inl ⟨rfl,rfl⟩
     · exact .inr (.inl ⟨rfl,rfl⟩)
     · exact .inr (.inr (.inl ⟨rfl,rfl⟩))
     · exact .inr (.inr (.inr ⟨rfl,rfl⟩))
 · rename_i x y m hm
   cases hc:(Nat.blt x m && Nat.blt y m) with
   | false=>rw [hc]at h;cases h
   | true=>
    rw[hc]at h;obtain⟨h1,h2⟩:=Bool.and_eq_true_iff.1 hc;have h1:=zY h1;have h2:=zY h2;dsimp only[cond]at h;split at h
    · injection h with h
      subst h;obtain⟨e,rfl,he,hw⟩:=lim_some hm;have hle:2 ^ e≤2 ^ k.bits:=Nat.pow_le_pow_right (by omega) he;have hlt:Nat.xor y (Nat.land y x)<2 ^ e:=Nat.lt_of_le_of_lt (xor_land_le y x) h2
      have hn:BitVec.ofInt k.bits (Int.negSucc x) = ~~~(BitVec.ofInt k.bits (x:Int)):=by
       apply BitVec.eq_of_toNat_eq;simp
      have e2:((BitVec.ofInt k.bits (Int.negSucc x)) &&& (BitVec.ofInt k.bits (y:Int))).toNat=Nat.xor y (Nat.land y x):=by
       rw[hn,BitVec.and_comm];exact andNot_ofNat _ _ _ (by omega) (by omega)
      have hw2:=hw _ hlt;show(yU .and t ox oy (.int k (.negSucc x)) (.int k (y:Int))).run P wd = .ok (.int k ((Nat.xor y (Nat.land y x):Nat):Int)) wd;simp [yU,eqGuard,binOp,Op.intBits,-BitVec.toNat_and,-BitVec.ofInt_natCast];rw [show(~~~BitVec.ofNat k.bits x)=BitVec.ofInt k.bits (Int.negSucc x) by rw[hn];simp,e2];exact hw2
    · cases h
 · cases h
theorem arith_ok{op:BinOp}{t:TypeId}{ox oy:Operand}{k:IntKind}{a b:Int}{v:Value}(h:aArith op k a b=some v) :
 (yU op t ox oy (.int k a) (.int k b)).run P wd = .ok v wd:=by
 cases op with
 | add=>injection h with h;subst h;simp [yU,eqGuard,binOp,Op.intArith,wB,iadd_eq]
 | sub=>injection h with h;subst h;simp [yU,eqGuard,binOp,Op.intArith,wB,isub_eq]
 | mul=>injection h with h;subst h;simp [yU,eqGuard,binOp,Op.intArith,wB]
 | quo=>
  have h':cond (ieqB b 0) none (some (.int k (wL k (Int.tdiv a b))))=some v:=h;rw [xI]at h';by_cases e:b=0
  · simp[e]at h'
  · simp only[e,decide_false,cond]at h';injection h' with h';subst h'
    simp[yU,eqGuard,binOp,Op.intDiv,e,wB]
 | rem=>
  have h':cond (ieqB b 0) none (some (.int k (Int.tmod a b)))=some v:=h;rw [xI]at h';by_cases e:b=0
  · simp[e]at h'
  · simp only[e,decide_false,cond]at h';injection h' with h';subst h'
    simp[yU,eqGuard,binOp,Op.intDiv,e]
 | eql=>injection h with h;subst h;simp [yU,eqGuard,binOp,Op.intCmp,xI];rfl
 | neq=>injection h with h;subst h;by_cases e:a=b <;> simp[yU,eqGuard,binOp,Op.intCmp,xI,e]
 | lss=>injection h with h;subst h;simp [yU,eqGuard,binOp,Op.intCmp,iltB_eq]
 | leq=>injection h with h;subst h;simp [yU,eqGuard,binOp,Op.intCmp,ileB_eq]
 | gtr=>injection h with h;subst h;simp [yU,eqGuard,binOp,Op.intCmp,iltB_eq]
 | geq=>injection h with h;subst h;simp [yU,eqGuard,binOp,Op.intCmp,ileB_eq]
 | and=>exact bits_ok h
 | or=>exact bits_ok h
 | xor=>exact bits_ok h
 | andNot=>exact bits_ok h
 | shl=>
  have h':aBits .shl k a b=some v:=h;unfold aBits at h';split at h'
  · rename_i x y m hm;cases hc:(Nat.blt x m && Nat.blt y m) <;> rw[hc]at h' <;> cases h'
  · rename_i x y m hm;cases hc:(Nat.blt x m && Nat.blt y m) <;> rw[hc]at h' <;> cases h'
  · cases h'
 | shr=>
  have h':aBits .shr k a b=some v:=h;unfold aBits at h';split at h'
  · rename_i x y m hm;cases hc:(Nat.blt x m && Nat.blt y m) <;> rw[hc]at h' <;> cases h'
  · rename_i x y m hm;cases hc:(Nat.blt x m && Nat.blt y m) <;> rw[hc]at h' <;> cases h'
  · cases h'
theorem shift_ok{op:BinOp}{t:TypeId}{ox oy:Operand}{k k':IntKind}{a b:Int}{v:Value}(hop:op = .shl∨op = .shr)(h:aShift op k a b=some v) :
 (yU op t ox oy (.int k a) (.int k' b)).run P wd = .ok v wd:=by
 unfold aShift at h
 cases b with
 | negSucc m=>cases h
 | ofNat m =>
  dsimp only at h
  cases hc:Nat.blt m k.bits with
  | false=>rw [hc]at h;cases h
  | true=>
   rw[hc]at h;have hm:=zY hc;have hmin:min m k.bits=m:=by omega
   rcases hop with rfl|rfl
   · dsimp only[cond]at h;injection h with h;subst h
     have hn:¬((m:Int)<0):=by omega
     simp[yU,eqGuard,binOp,Op.shift,hmin,wB,hn]
   · dsimp only[cond]at h
     cases a with
     | negSucc x =>
      dsimp only at h;injection h with h;subst h
      have hn:¬((m:Int)<0):=by omega
      have hs':Int.fdiv (Int.negSucc x) (2 ^ m)=Int.negSucc (Nat.shiftRight x m):=by
       obtain⟨d,hd⟩:∃d,2 ^ m=d+1:=⟨2 ^ m - 1,by have:=Nat.two_pow_pos m;omega⟩;have:(2:Int) ^ m=((2 ^ m:Nat):Int):=by simp
       rw[this,show Nat.shiftRight x m=x / 2 ^ m from Nat.shiftRight_eq_div_pow x m,hd];rfl
      simp[yU,eqGuard,binOp,Op.shift,hmin,hn,hs']
     | ofNat x =>
      dsimp only at h;injection h with h;subst h
      have hn:¬((m:Int)<0):=by omega
      have hs:(Int.ofNat x).fdiv (2 ^ m)=Int.ofNat (Nat.shiftRight x m):=by
       have:(2:Int) ^ m=((2 ^ m:Nat):Int):=by simp
       rw[this];show Int.fdiv (x:Int) ((2 ^ m:Nat):Int)=((x >>> m:Nat):Int);rw [Nat.shiftRight_eq_div_pow,Int.fdiv_eq_ediv_of_nonneg _ (Int.natCast_nonneg _)];rfl
      have hs':Int.fdiv (x:Int) (2 ^ m)=((Nat.shiftRight x m:Nat):Int):=hs;simp [yU,eqGuard,binOp,Op.shift,hmin,hn,hs']
end
end Go.Ex
namespace Go.Ex
theorem str_append(a b:ByteArray):a++b=⟨⟨a.data.toList++b.data.toList⟩⟩:=by
 have h:(a++b).data=a.data++b.data:=ByteArray.data_append
 cases hs:a++b with
 | mk d =>
  rw[hs]at h
  cases d with
  | mk q =>
   have h2:q=a.data.toList++b.data.toList:=by
    have:=congrArg Array.toList h;simpa using this
   rw[h2]
section
variable {P:Program} {ng:Nat} {ρ : Inj} {base:Nat} {w0:World} {hp:zB} {n:Nat} {wd:World}
theorem eqNil_ok{t:TypeId}{d:TypeDesc}(hd:und P t=some d){x y x' y':Value}(hx:RV ρ x x')(hy:RV ρ y y'){r:Bool}(h:wH d x y=some r)(k:Nat) :
 (Op.equalIn (k+1) t x' y').run P wd = .ok r wd:=by
 unfold wH at h;split at h
 case h_1 a b=>
  injection h with h
  subst h;obtain rfl:=hx.of_bool;obtain rfl:=hy.of_bool;simp [Op.equalIn,zM hd];cases a <;> cases b <;> rfl
 all_goals first
  | (cases h;done)
  | (injection h with h;subst h;cases hx <;> cases hy <;> (rw [Op.equalIn,Sem.run_bind,zM hd];rfl))
theorem eqNil_bin{t:TypeId}{d:TypeDesc}(hd:und P t=some d){x y x' y':Value}(hx:RV ρ x x')(hy:RV ρ y y'){r:Bool}(h:wH d x y=some r) :
 (binOp .eql t x' y').run P wd = .ok (.bool r) wd∧(binOp .neq t x' y').run P wd = .ok (.bool (!r)) wd:=by
 have key:(Op.equal t x' y').run P wd = .ok r wd:=eqNil_ok hd hx hy h 9999
 have fin:binOp .eql t x' y'=(do let b ← Op.equal t x' y';pure (.bool b))→binOp .neq t x' y'=(do let b ← Op.equal t x' y';pure (.bool (!b)))→
  (binOp .eql t x' y').run P wd = .ok (.bool r) wd∧(binOp .neq t x' y').run P wd = .ok (.bool (!r)) wd:=fun e1 e2=>by
  rw[e1,e2];exact⟨by simp only[Sem.run_bind,key,Result.andThen_ok,Sem.run_pure],by simp only[Sem.run_bind,key,Result.andThen_ok,Sem.run_pure]⟩
 clear key;unfold wH at h;split at h
 all_goals first
  | (cases h;done)
  | (cases hx <;> cases hy <;> exact fin rfl rfl)
theorem asks_guard{op:BinOp}{t:TypeId}{ox oy:Operand}{x' y':Value}(h:(eqGuard .eql t ox oy x' y').run P wd = .ok () wd):(eqGuard op t ox oy x' y').run P wd = .ok () wd:=by
 cases op <;> first|exact h|rfl
theorem asks_ok{op:BinOp}{t:TypeId}{ox oy:Operand}{x y x' y':Value}(hx:RV ρ x x')(hy:RV ρ y y')(h:zS ox oy x y=true) :
 (eqGuard op t ox oy x' y').run P wd = .ok () wd:=by
 refine asks_guard ?_;cases hx <;> cases hy <;> first|rfl|(cases h;done)|skip
 simp only[zS]at h;cases ox <;> cases oy <;> first|rfl|cases h
theorem arith_plain{op:BinOp}{k:IntKind}{a b:Int}{v:Value}(h:aArith op k a b=some v):vC v=true:=by
  cases op <;> simp only[aArith]at h <;> first
    | (injection h with h;subst h;rfl)
    | (cases hc:ieqB b 0 <;> rw[hc]at h <;> cases h;rfl)
    | (unfold aBits at h
       split at h
       · rename_i x y m hm
         cases hc:(Nat.blt x m && Nat.blt y m) with
         | false=>rw [hc]at h;cases h
         | true =>
           rw[hc]at h;dsimp only[cond]at h
           cases hr:bitNat _ x y with
           | none=>rw [hr]at h;cases h
           | some r=>rw [hr]at h;injection h with h;subst h;rfl
       · rename_i x y m hm
         cases hc:(Nat.blt x m && Nat.blt y m) with
         | false=>rw [hc]at h;cases h
         | true =>
           rw[hc]at h;dsimp only[cond]at h;first|(cases h;done)|(injection h with h;subst h;rfl)
       · cases h)
theorem shift_plain{op:BinOp}{k:IntKind}{a b:Int}{v:Value}(h:aShift op k a b=some v):vC v=true:=by
 unfold aShift at h
 cases b with
 | negSucc m=>cases h
 | ofNat m =>
  dsimp only at h
  cases hc:Nat.blt m k.bits with
  | false=>rw [hc]at h;cases h
  | true =>
   rw[hc]at h
   cases op <;> dsimp only[cond]at h <;> first
    | (cases h;done)
    | (injection h with h;subst h;rfl)
    | (cases a <;> dsimp only at h <;> first|(cases h;done)|(injection h with h;subst h;rfl))
theorem wV{kd:TypeDesc}{e:TypeId}(hd:und P e=some kd){x:Value}(hx:wS kd x=true):P.plainKey e=true:=by
 unfold Program.plainKey;rw [xS hd];unfold wS at hx;split at hx <;> first|rfl|cases hx
theorem scalEq_run{kd:TypeDesc}{e:TypeId}(hd:und P e=some kd){x y:Value}(hx:wS kd x=true){r:Bool}(h:xQ x y=some r)(d:Nat):(Op.equalIn (d+1) e x y).run P wd = .ok r wd:=by
 unfold wS at hx;split at hx
 · rename_i k k2 a;cases y <;> simp only[xQ]at h <;> first|(cases h;done)|skip
   rename_i k3 b
   cases hq:xH k2 k3 with
   | false=>rw [hq]at h;cases h
   | true=>
    rw[hq]at h;injection h with h;subst h
    obtain rfl:=wP hq;rw [run_equalIn_int wd d e k2 k a b (xS hd),xI];rfl
 · rename_i s;cases y <;> simp only[xQ]at h <;> first|(cases h;done)|skip
   injection h with h;subst h
   rw[run_equalIn_string wd d e _ _ (xS hd),vL,ByteArray.toList_eq,ByteArray.toList_eq]
 · rename_i b;cases y <;> simp only[xQ]at h <;> first|(cases h;done)|skip
   rename_i b';injection h with h;subst h
   rw[run_equalIn_bool' wd d e b b' (xS hd)];cases b <;> cases b' <;> rfl
 · cases hx
theorem scal_rv{kd:TypeDesc}{x x':Value}(hx:wS kd x=true)(hr:RV ρ x x'):x'=x:=by
 unfold wS at hx;split at hx
 · exact hr.of_int
 · exact hr.of_string
 · exact hr.of_bool
 · cases hx
theorem scalEq_rv{x y y':Value}{r:Bool}(h:xQ x y=some r)(hr:RV ρ y y'):y'=y:=by
 cases x <;> cases y <;> simp only[xQ]at h <;> first|(cases h;done)|exact hr.of_bool|exact hr.of_int|exact hr.of_string
theorem rvs_at{l l':List Value}(h:RVs ρ l l'){i:Nat}{v:Value}(e:l[i]? = some v):∃v',l'[i]? = some v'∧RV ρ v v':=by
 have hlt:i<l.length:=by
  rcases Nat.lt_or_ge i l.length with h1|h1
  · exact h1
  · rw[List.getElem?_eq_none h1]at e;cases e
 refine⟨l'[i]'(h.1 ▸ hlt),List.getElem?_eq_getElem _,?_⟩;exact h.2 i _ _ e (List.getElem?_eq_getElem _)
theorem eqItems_run{kd:TypeDesc}{e:TypeId}(hd:und P e=some kd){ei:TypeInfo}(hi:inf? P e=some ei){xs ys:List Value}{xs' ys':Array Value}(hx:RVs ρ xs xs'.toList)(hy:RVs ρ ys ys'.toList)(d:Nat):∀(is:List Nat) {r:Bool},eqItemsA kd ei.size xs ys is=some r→
 (Op.eqItems (d+1) e (P.cellsOf e) xs' ys' is).run P wd = .ok r wd:=by
 have hc:P.cellsOf e=ei.size:=by simp[Program.cellsOf,(yX hi).2]
 intro is
 induction is with
 | nil=>intro r h;injection h with h;subst h;simp [Op.eqItems]
 | cons i is ih =>
  intro r h;simp only[eqItemsA]at h;split at h
  case h_2=>cases h
  rename_i x y ex ey
  cases hs:wS kd x with
  | false=>rw [hs]at h;cases h
  | true =>
   rw[hs]at h;dsimp only[cond]at h;obtain⟨x',ex',rx⟩:=rvs_at hx ex;obtain⟨y',ey',ry⟩:=rvs_at hy ey;have exx:=scal_rv hs rx;subst exx;have p1:=run_part_plain (P:=P) wd (wV hd hs) (xs:=xs') (off:=i*P.cellsOf e) (v:=x') (by rw[hc,← Array.getElem?_toList];exact ex')
   cases hq:xQ x' y with
   | none=>rw [hq]at h;cases h
   | some b =>
    rw[hq]at h;have eyy:=scalEq_rv hq ry;subst eyy;have p2:=run_part_plain (P:=P) wd (wV hd hs) (xs:=ys') (off:=i*P.cellsOf e) (v:=y') (by rw[hc,← Array.getElem?_toList];exact ey');have p3:=scalEq_run (wd:=wd) hd hs hq d
    cases b with
    | true=>
     simp only[Op.eqItems,Sem.run_bind,p1,p2,p3,Result.andThen_ok];simpa using ih h
    | false=>
     injection h with h;subst h
     simp only[Op.eqItems,Sem.run_bind,p1,p2,p3,Result.andThen_ok];simp
theorem eqFlds_run{xs ys:List Value}{xs' ys':Array Value}(hx:RVs ρ xs xs'.toList)(hy:RVs ρ ys ys'.toList)(d:Nat):∀(fs:List Field),fs.all (fldA P)=true→∀{r:Bool},eqFldsA P xs ys fs=some r→
 (Op.eqFields (d+1) xs' ys' fs).run P wd = .ok r wd:=by
 intro fs
 induction fs with
 | nil=>intro _ r h;injection h with h;subst h;simp [Op.eqFields]
 | cons f fs ih =>
  intro ha r h;rw [List.all_cons]at ha;obtain⟨g1,g2⟩:=Bool.and_eq_true_iff.1 ha
  have hn:f.name≠ "_" :=by
   have:=(Bool.and_eq_true_iff.1 g1).1;simpa using this
  simp only[eqFldsA]at h;split at h
  case h_2=>cases h
  rename_i kd x y hd ex ey
  cases hs:wS kd x with
  | false=>rw [hs]at h;cases h
  | true =>
   rw[hs]at h;dsimp only[cond]at h;obtain⟨x',ex',rx⟩:=rvs_at hx ex;obtain⟨y',ey',ry⟩:=rvs_at hy ey;have exx:=scal_rv hs rx;subst exx;have p1:=run_part_plain (P:=P) wd (wV hd hs) (xs:=xs') (off:=f.offset) (v:=x') (by rw[← Array.getElem?_toList];exact ex')
   cases hq:xQ x' y with
   | none=>rw [hq]at h;cases h
   | some b =>
    rw[hq]at h;have eyy:=scalEq_rv hq ry;subst eyy;have p2:=run_part_plain (P:=P) wd (wV hd hs) (xs:=ys') (off:=f.offset) (v:=y') (by rw[← Array.getElem?_toList];exact ey');have p3:=scalEq_run (wd:=wd) hd hs hq d
    cases b with
    | true=>
     simp only[Op.eqFields,if_pos hn,Sem.run_bind,p1,p2,p3,Result.andThen_ok];simpa using ih g2 h
    | false=>
     injection h with h;subst h
     simp only[Op.eqFields,if_pos hn,Sem.run_bind,p1,p2,p3,Result.andThen_ok];simp
theorem flds_guard{m:Nat}:∀(fs:List Field),fs.all (fldA P)=true→(fs.any fun f=>f.name != "_" && P.eqGuardType (m+1) f.type)=false:=by
 intro fs
 induction fs with
 | nil=>intro _;rfl
 | cons f fs ih =>
  intro ha;rw [List.all_cons]at ha;obtain⟨g1,g2⟩:=Bool.and_eq_true_iff.1 ha;rw [List.any_cons,ih g2];have g3:=(Bool.and_eq_true_iff.1 g1).2
  have:P.eqGuardType (m+1) f.type=false:=by
   unfold Program.eqGuardType
   cases hd:und P f.type with
   | none=>rw [hd]at g3;cases g3
   | some kd=>
    rw[hd]at g3;rw [xS hd];cases kd <;> first|rfl|cases g3
  rw[this];simp
theorem eqA_run{t:TypeId}{xs ys:List Value}{xs' ys':Array Value}(hx:RVs ρ xs xs'.toList)(hy:RVs ρ ys ys'.toList){r:Bool}(h:eqA P t xs ys=some r)(d:Nat) :
 (Op.equalIn (d+2) t (.agg xs') (.agg ys')).run P wd = .ok r wd∧P.eqGuardType P.depth t=false:=by
 obtain⟨m,hm⟩:∃m,P.depth=m+2:=⟨2*(P.types.size+Made.depth),rfl⟩;unfold eqA at h;split at h
 case h_3=>cases h
 · rename_i fs hd
   cases hc:(fs.toList.all (fldA P) && !P.stoodInHeld t) with
   | false=>rw [hc]at h;cases h
   | true=>
    rw[hc]at h;dsimp only[cond]at h;obtain⟨g1,g2⟩:=Bool.and_eq_true_iff.1 hc;have g3:P.stoodInHeld t=false:=by simpa using g2
    have hf:P.fieldsOf t=fs:=by unfold Program.fieldsOf;rw [xS hd]
    refine⟨?_,?_⟩
    · rw[run_equalIn_agg wd (d+1) t xs' ys' (by rw[hf];exact xS hd) g3,hf];exact eqFlds_run hx hy d _ g1 h
    · rw[hm];unfold Program.eqGuardType;rw [xS hd];dsimp only;rw [← Array.any_toList];exact flds_guard _ g1
 rename_i len e hd;split at h
 case h_2=>cases h
 rename_i kd ei hk hi
 cases hsd:scalD kd with
 | false=>rw [hsd]at h;cases h
 | true=>
 rw[hsd]at h;dsimp only[cond]at h;refine⟨?_,?_⟩
 · rw[run_equalIn_array wd (d+1) xs' ys' (xS hd) (yX hi).2];exact eqItems_run hk hi hx hy d _ h
 · rw[hm];unfold Program.eqGuardType;rw [xS hd];dsimp only;unfold Program.eqGuardType;rw [xS hk];cases kd <;> first|rfl|cases hsd
theorem bin_ok{op:BinOp}{t:TypeId}{ox oy:Operand}{x y x' y':Value}(hx:RV ρ x x')(hy:RV ρ y y'){v:Value}(h:aBin P op t ox oy x y=some v) :
 ∃v',(yU op t ox oy x' y').run P wd = .ok v' wd∧RV ρ v v':=by
 have plain:∀v:Value,vC v=true→(yU op t ox oy x' y').run P wd = .ok v wd→∃v',(yU op t ox oy x' y').run P wd = .ok v' wd∧RV ρ v v':=
  fun v hp he=>⟨v,he,RV.plain hp ρ⟩
 unfold aBin at h;split at h
 · rename_i k a k' b;obtain rfl:=hx.of_int;obtain rfl:=hy.of_int;split at h
   · exact plain v (shift_plain h) (shift_ok (.inl rfl) h)
   · exact plain v (shift_plain h) (shift_ok (.inr rfl) h)
   · cases hk:xH k k' with
     | false=>rw [hk]at h;cases h
     | true=>
      rw[hk]at h;obtain rfl:=wP hk;exact plain v (arith_plain h) (arith_ok h)
 · rename_i a b;obtain rfl:=hx.of_string;obtain rfl:=hy.of_string;split at h
   · injection h with h;subst h
     refine plain _ rfl ?_;simp [yU,eqGuard,binOp,Op.stringOp,vL,ByteArray.toList_eq]
   · injection h with h;subst h
     refine plain _ rfl ?_;simp [yU,eqGuard,binOp,Op.stringOp,vL,ByteArray.toList_eq]
   · cases hc:Nat.blt (Nat.add a.data.toList.length b.data.toList.length) 1000000 with
     | false=>rw [hc]at h;cases h
     | true =>
      rw[hc]at h;injection h with h;subst h
      refine plain _ rfl ?_;have h1:a.size+b.size<1000000:=zY hc
      have h2:¬(((a.size+b.size:Nat):Int) > IntKind.i64.max):=by
       have:IntKind.i64.max=9223372036854775807:=by decide
       rw[this];omega
      rw[← str_append];simp only[yU,eqGuard,binOp,Op.stringOp,Sem.run_bind,Sem.run_pure,if_neg h2];rfl
   · cases h
 · rename_i a b;obtain⟨a',rfl,ra⟩:=hx.of_agg;obtain⟨b',rfl,rb⟩:=hy.of_agg;split at h
   · cases hr:eqA P t a.toList b.toList with
     | none=>rw [hr]at h;cases h
     | some r=>
      rw[hr]at h;injection h with h;subst h
      obtain⟨q1,q2⟩:=eqA_run (wd:=wd) ra rb hr 9998;refine plain _ rfl ?_;simp only[yU,Sem.run_bind,run_eqGuard_agg wd .eql t ox oy a' b' q2,Result.andThen_ok,run_eql_struct,q1]
   · cases hr:eqA P t a.toList b.toList with
     | none=>rw [hr]at h;cases h
     | some r=>
      rw[hr]at h;injection h with h;subst h
      obtain⟨q1,q2⟩:=eqA_run (wd:=wd) ra rb hr 9998;refine plain _ rfl ?_;simp only[yU,Sem.run_bind,run_eqGuard_agg wd .neq t ox oy a' b' q2,Result.andThen_ok,run_neq_struct,q1]
   · cases h
 · split at h
   · rename_i d hd
     cases ha:zS ox oy x y with
     | false=>rw [ha]at h;cases h
     | true =>
      rw[ha]at h;dsimp only[cond]at h
      cases hr:wH d x y with
      | none=>rw [hr]at h;cases h
      | some r=>
       rw[hr]at h;injection h with h;subst h
       refine plain _ rfl ?_;simp only[yU,Sem.run_bind,asks_ok hx hy ha,Result.andThen_ok,(eqNil_bin hd hx hy hr).1]
   · rename_i d hd
     cases ha:zS ox oy x y with
     | false=>rw [ha]at h;cases h
     | true =>
      rw[ha]at h;dsimp only[cond]at h
      cases hr:wH d x y with
      | none=>rw [hr]at h;cases h
      | some r=>
       rw[hr]at h;injection h with h;subst h
       refine plain _ rfl ?_;simp only[yU,Sem.run_bind,asks_ok hx hy ha,Result.andThen_ok,(eqNil_bin hd hx hy hr).2]
   · cases h
end
end Go.Ex
namespace Go.Ex
section
variable {P:Program} {ng:Nat} {ρ : Inj} {base:Nat} {w0:World} {hp:zB} {n:Nat} {wd:World}
theorem un_ok{op:UnOp}{x x':Value}(hx:RV ρ x x'){v:Value}(h:aUn op x=some v):∃v',(Op.unary op x').run P wd = .ok v' wd∧RV ρ v v':=by
 unfold aUn at h;split at h
 · injection h with h;subst h
   obtain rfl:=hx.of_int;refine⟨_,?_,RV.int _ _⟩;simp [Op.unary,Op.intArith,wB,isub_eq]
 · injection h with h;subst h
   obtain rfl:=hx.of_bool;exact⟨_,rfl,RV.bool _⟩
 · cases h
theorem convert_ok{src dst:TypeId}{x x':Value}(hx:RV ρ x x')(hs:∃d,und P src=some d){v:Value}(h:vY P dst x=some v) :
 ∃v',(convert src dst x').run P wd = .ok v' wd∧RV ρ v v':=by
 obtain⟨d,hd⟩:=hs;unfold vY at h;split at h
 · rename_i k k' m hdst;injection h with h;subst h
   obtain rfl:=hx.of_int;refine⟨_,?_,RV.int _ _⟩;simp only[convert,Sem.run_bind,zM hd,zM hdst,Result.andThen_ok];cases d <;> simp[Conv.intToInt,wB]
 · rename_i s hdst;injection h with h;subst h
   obtain rfl:=hx.of_string;refine⟨_,?_,RV.string _⟩;simp only[convert,Sem.run_bind,zM hd,zM hdst,Result.andThen_ok];cases d <;> rfl
 · cases h
theorem scalEq_now{kd:TypeDesc}{k k':Value}{r:Bool}(hk:wS kd k=true)(h:xQ k k'=some r):Instr.sameNow kd k k'=some r:=by
 unfold wS at hk;split at hk
 · rename_i kk k2 a;cases k' <;> simp only[xQ]at h <;> first|(cases h;done)|skip
   rename_i k3 b
   cases hq:xH k2 k3 with
   | false=>rw [hq]at h;cases h
   | true=>
    rw[hq]at h;injection h with h;subst h
    obtain rfl:=wP hq;simp [Instr.sameNow,xI];rfl
 · rename_i s;cases k' <;> simp only[xQ]at h <;> first|(cases h;done)|skip
   injection h with h;subst h
   simp[Instr.sameNow,vL,beq_toListBytes,ByteArray.toList_eq]
 · rename_i b;cases k' <;> simp only[xQ]at h <;> first|(cases h;done)|skip
   injection h with h;subst h
   simp only[Instr.sameNow];rename_i b';cases b <;> cases b' <;> rfl
 · cases hk
def FR(ρ : Inj)(r r':Option (Nat×Value)):Prop:=
 match r,r' with
 | none,none=>True
 | some (i,v),some (j,v')=>i=j∧RV ρ v v'
 | _,_=>False
theorem keyEq_scal{k k':Value}(h:∀a,k≠.agg a):keyEq k k'=xQ k k':=by
 cases k <;> first|(exact absurd rfl (h _))|(cases k' <;> rfl)
theorem scal_noagg{kd:TypeDesc}{k:Value}(hk:wS kd k=true):∀a,k≠.agg a:=by
 intro a e;subst e;cases kd <;> cases hk
theorem uO{kd:TypeDesc}{k:Value}(h:keyT P kd k=true):wS kd k=true∨
 ∃len e cs ed ei,kd = .array len e∧k = .agg cs∧und P e=some ed∧inf? P e=some ei∧ei.size=1∧cs.toList.length=len∧∀x∈cs.toList,wS ed x=true:=by
 unfold keyT at h;split at h
 · rename_i len e cs;split at h
   · rename_i ed ei h1 h2;obtain⟨g1,g2⟩:=Bool.and_eq_true_iff.1 h;obtain⟨g2,g3⟩:=Bool.and_eq_true_iff.1 g2;exact .inr ⟨len,e,cs,ed,ei,rfl,rfl,h1,h2,zG g1,zG g2,List.all_eq_true.1 g3⟩
   · cases h
 · exact .inl h
theorem find_ok{kd:TypeDesc}{k:Value}(hk:wS kd k=true):∀{es es':List MapEntry},EsR ρ es es'→∀{i:Nat} {r:Option (Nat×Value)},findE k es i=some r→
 ∃r',Instr.findNow kd k es' i=some r'∧FR ρ r r':=by
 intro es
 induction es with
 | nil=>
  intro es' he i r h;have:es'=[]:=by have:=he.1;cases es' <;> simp_all
  subst this;simp only[findE]at h;injection h with h;subst h
  exact⟨none,rfl,trivial⟩
 | cons e es ih =>
  intro es' he i r h
  cases es' with
  | nil=>have:=he.1;simp at this
  | cons e' es' =>
   obtain⟨hk1,hv1,hb1⟩:=he.2 0 e e' rfl rfl;have he':EsR ρ es es':=⟨by have:=he.1;simpa using this,fun j a b h1 h2=>he.2 (j+1) a b (by simpa using h1) (by simpa using h2)⟩;simp only[findE]at h;rw [keyEq_scal (scal_noagg hk)]at h
   cases hs:xQ k e.key with
   | none=>rw [hs]at h;cases h
   | some b =>
    rw[hs]at h;have hn:=scalEq_now hk hs
    cases b with
    | true=>
     dsimp only at h;injection h with h;subst h
     refine⟨some (i,e'.val),?_,rfl,hv1⟩;simp only[Instr.findNow,hk1,hn]
    | false=>
     dsimp only at h;obtain⟨r',h1,h2⟩:=ih he' h;refine⟨r',?_,h2⟩;simp only[Instr.findNow,hk1,hn];exact h1
theorem scalsEq_items{ed:TypeDesc}{e:TypeId}(hd:und P e=some ed){xs ys:Array Value}(hx:∀x∈xs.toList,wS ed x=true):∀(j i:Nat),i+j=xs.toList.length→∀{r:Bool},scalsEq (xs.toList.drop i) (ys.toList.drop i)=some r→∀d,
 (Op.eqItems (d+1) e 1 xs ys (List.range' i j)).run P wd = .ok r wd:=by
 intro j
 induction j with
 | zero=>
  intro i hi r h d;rw [List.drop_eq_nil_of_le (by omega)]at h
  cases hy:ys.toList.drop i with
  | nil=>rw [hy]at h;injection h with h;subst h;simp [Op.eqItems]
  | cons _ _=>rw [hy]at h;cases h
 | succ j ih =>
  intro i hi r h d;have hlt:i<xs.toList.length:=by omega
  rw[List.drop_eq_getElem_cons hlt]at h
  cases hy:ys.toList.drop i with
  | nil=>rw [hy]at h;cases h
  | cons y yr =>
   have hlt2:i<ys.toList.length:=by
    rcases Nat.lt_or_ge i ys.toList.length with h1|h1
    · exact h1
    · rw[List.drop_eq_nil_of_le h1]at hy;cases hy
   rw[List.drop_eq_getElem_cons hlt2]at hy;injection hy with hy1 hy2
   rw[List.drop_eq_getElem_cons hlt2]at h;simp only[scalsEq]at h;have hs:=hx _ (List.getElem_mem hlt);have pk:=wV hd hs;have p1:=run_part_plain (P:=P) wd pk (xs:=xs) (off:=i*1) (by rw[Nat.mul_one,← Array.getElem?_toList];exact List.getElem?_eq_getElem hlt);have p2:=run_part_plain (P:=P) wd pk (xs:=ys) (off:=i*1) (by rw[Nat.mul_one,← Array.getElem?_toList];exact List.getElem?_eq_getElem hlt2)
   cases hq:xQ (xs.toList[i]) (ys.toList[i]) with
   | none=>rw [hq]at h;cases h
   | some b =>
    rw[hq]at h;have p3:=scalEq_run (wd:=wd) hd hs hq d;rw [List.range'_succ]
    cases b with
    | true=>
     simp only[Op.eqItems,Sem.run_bind,p1,p2,p3,Result.andThen_ok];simpa using ih (i+1) (by omega) h d
    | false=>
     injection h with h;subst h
     simp only[Op.eqItems,Sem.run_bind,p1,p2,p3,Result.andThen_ok];simp
theorem keyEq_run{len:Nat}{e kt:TypeId}{cs:Array Value}{ed:TypeDesc}{ei:TypeInfo}(hkt:und P kt=some (.array len e))(hd:und P e=some ed)(hi:inf? P e=some ei)(h1:ei.size=1)(hl:cs.toList.length=len)
(hx:∀x∈cs.toList,wS ed x=true){k':Value}{r:Bool}(h:keyEq (.agg cs) k'=some r):(Op.equal kt (.agg cs) k').run P wd = .ok r wd:=by
 cases k' <;> first|(cases h;done)|skip
 rename_i ys;have h':scalsEq cs.toList ys.toList=some r:=h;have:=scalsEq_items (wd:=wd) hd hx len 0 (by omega) (ys:=ys) h' 9998;have hc:P.cellsOf e=1:=by simp[Program.cellsOf,(yX hi).2,h1]
 show(Op.equalIn 10000 kt (.agg cs) (.agg ys)).run P wd=_;rw [run_equalIn_array wd 9999 cs ys (xS hkt) (yX hi).2,hc,List.range_eq_range'];exact this
theorem check_ok{kd:TypeDesc}{kt:TypeId}{k:Value}(hd:und P kt=some kd)(hk:keyT P kd k=true)(empty:Bool)(m:Nat):(Instr.checkKey empty (m+2) kt k).run P wd = .ok () wd:=by
 rcases uO hk with hk|⟨len,e,cs,ed,ei,rfl,rfl,h1,h2,h3,h4,h5⟩
 · unfold wS at hk;split at hk
   all_goals first
    | (cases hk;done)
    | simp[Instr.checkKey,zM hd]
 · rw[Instr.checkKey];simp only[Sem.run_bind,zM hd,Result.andThen_ok];simp only[Std.Legacy.Range.forIn_eq_forIn_range',Std.Legacy.Range.size,Nat.sub_zero,Nat.add_one_sub_one,Nat.div_one]
   have each:∀i∈List.range' 0 len,i<cs.toList.length:=fun i hi=>by
    have:=List.mem_range'_1.1 hi;omega
   generalize List.range' 0 len=is at each
   induction is with
   | nil=>simp
   | cons j is ih =>
    have hlt:=each j (by simp);have hs:=h5 _ (List.getElem_mem hlt);have hc:P.cellsOf e=1:=by simp[Program.cellsOf,(yX h2).2,h3]
    have p1:=run_part_plain (P:=P) wd (wV h1 hs) (xs:=cs) (off:=j*P.cellsOf e) (by rw[hc,Nat.mul_one,← Array.getElem?_toList];exact List.getElem?_eq_getElem hlt)
    have p2:(Instr.checkKey empty (m+1) e (cs.toList[j])).run P wd = .ok () wd:=by
     generalize cs.toList[j]=x at hs
     unfold wS at hs;split at hs
     all_goals first
      | (cases hs;done)
      | simp[Instr.checkKey,zM h1]
    simp only[List.forIn_cons,Sem.run_bind,run_sizeOf wd (yX h2).2,Result.andThen_ok,p1,p2,Sem.run_pure];exact ih (fun y hy=>each y (by simp[hy]))
theorem vM{kd:TypeDesc}{kt:TypeId}{k:Value}(hd:und P kt=some kd)(hk:keyT P kd k=true){es es':List MapEntry}(he:EsR ρ es es'){r:Option (Nat×Value)}(h:findE k es 0=some r) :
 ∃r',(Instr.findKey kt k es').run P wd = .ok r' wd∧FR ρ r r':=by
 rcases uO hk with hk|⟨len,e,cs,ed,ei,rfl,rfl,h1,h2,h3,h4,h5⟩
 · obtain⟨r',h1,h2⟩:=find_ok hk he h;exact⟨r',by simp[Instr.findKey,zM hd,h1],h2⟩
 · rw[run_findKey_eq wd (by rw[xS hd])]
   have key:∀{es es':List MapEntry},EsR ρ es es'→∀{i:Nat} {r:Option (Nat×Value)},findE (.agg cs) es i=some r→∃r',(Instr.findAsking kt (.agg cs) es' i).run P wd = .ok r' wd∧FR ρ r r':=by
    intro es
    induction es with
    | nil=>
     intro es' he i r h;have:es'=[]:=by have:=he.1;cases es' <;> simp_all
     subst this;simp only[findE]at h;injection h with h;subst h
     exact⟨none,by simp[Instr.findAsking],trivial⟩
    | cons f es ih =>
     intro es' he i r h
     cases es' with
     | nil=>have:=he.1;simp at this
     | cons f' es' =>
      obtain⟨hk1,hv1,hb1⟩:=he.2 0 f f' rfl rfl;have he':EsR ρ es es':=⟨by have:=he.1;simpa using this,fun j a b h1 h2=>he.2 (j+1) a b (by simpa using h1) (by simpa using h2)⟩;simp only[findE]at h
      cases hs:keyEq (.agg cs) f.key with
      | none=>rw [hs]at h;cases h
      | some b =>
       rw[hs]at h;have hn:=keyEq_run (wd:=wd) hd h1 h2 h3 h4 h5 hs
       cases b with
       | true=>
        dsimp only at h;injection h with h;subst h
        exact⟨some (i,f'.val),by simp[Instr.findAsking,hk1,hn],rfl,hv1⟩
       | false=>
        dsimp only at h;obtain⟨r',g1,g2⟩:=ih he' h;exact⟨r',by simp[Instr.findAsking,hk1,hn,g1],g2⟩
   exact key he h
theorem uP{kd:TypeDesc}{k k':Value}(hk:keyT P kd k=true)(hr:RV ρ k k'):k'=k:=by
 rcases uO hk with hk|⟨len,e,cs,ed,ei,rfl,rfl,h1,h2,h3,h4,h5⟩
 · exact scal_rv hk hr
 · obtain⟨c',rfl,hc⟩:=hr.of_agg
   have:c'.toList=cs.toList:=by
    apply List.ext_getElem?;intro i;rcases Nat.lt_or_ge i cs.toList.length with hlt|hlt
    · obtain⟨v',e1,e2⟩:=rvs_at hc (List.getElem?_eq_getElem hlt);rw [e1,List.getElem?_eq_getElem hlt,scal_rv (h5 _ (List.getElem_mem hlt)) e2]
    · rw[List.getElem?_eq_none (by rw[← hc.1];exact hlt),List.getElem?_eq_none hlt]
   rw[Array.toList_inj.1 this]
theorem map_at(hH:HeapR P ng ρ base w0 hp n wd){r:Nat}{B:Bl}(hb: ρ r=some B){es:List MapEntry}{clock:Nat}(hg:zF hp r = .map es clock) :
 ∃es',wd.heap[B.b]? = some (.map ⟨es'⟩ clock)∧EsR ρ es es'∧base≤B.b:=by
 obtain⟨o,e1,e2⟩:=hH.obj r B hb (by rw[hg];exact AObj.noConfusion);rw [hg]at e2
 cases e2 with
 | map he hb'=>exact⟨_,e1,he,hb'⟩
theorem xD{r:Nat}{es':List MapEntry}{clock:Nat}(h:wd.heap[r]? = some (.map ⟨es'⟩ clock)):(getObj r).run P wd = .ok (.map ⟨es'⟩ clock) wd:=by
 simp[getObj,Sem.run,h]
theorem lookup_ok(hP:yH ng P=true)(hH:HeapR P ng ρ base w0 hp n wd){ty:TypeId}{x x' k k':Value}{ok:Bool}(hx:RV ρ x x')(hk:RV ρ k k'){v:Value}(h:aLookup P hp ty x k ok=some v) :
 ∃v',(Instr.lookup ty x' k' ok).run P wd = .ok v' wd∧RV ρ v v':=by
 unfold aLookup at h;split at h
 case h_2=>cases h
 rename_i kt et hd;split at h
 case h_2=>cases h
 rename_i kd z hkd hz
 cases hs:keyT P kd k with
 | false=>rw [hs]at h;cases h
 | true =>
  rw[hs]at h;dsimp only[cond]at h;obtain rfl:=uP hs hk;have hzp:=wI hP hz
  have mk:∀(w w':Value) (b:Bool),RV ρ w w'→RV ρ (cond ok (.tuple #[w,.bool b]) w) (if ok=true then .tuple #[w',.bool b] else w'):=by
   intro w w' b hr
   cases ok with
   | true=>exact RV.mk_tuple (RVs.cons hr (RVs.cons (RV.bool b) (RVs.nil ρ)))
   | false=>exact hr
  split at h
  · injection h with h;subst h
    cases hx
    refine⟨_,?_,mk z z false (RV.plain hzp ρ)⟩;simp [Instr.lookup,zM hd,check_ok hkd hs true 9998,Instr.findKey,zM hkd,Instr.findNow,wA hz]
  · rename_i r;obtain⟨B,hb,rfl⟩:=hx.of_map;split at h
    · rename_i es clock hg;obtain⟨es',e1,he,_⟩:=map_at hH hb hg;have hck:=check_ok (wd:=wd) hkd hs;split at h
      · rename_i i w hf;injection h with h;subst h
        obtain⟨r',h1,h2⟩:=vM (wd:=wd) hkd hs he hf
        cases r' with
        | none=>exact h2.elim
        | some p=>
         obtain⟨j,w'⟩:=p;refine⟨_,?_,mk w w' true h2.2⟩;simp [Instr.lookup,zM hd,xD e1,hck _ 9998,h1]
      · rename_i hf;injection h with h;subst h
        obtain⟨r',h1,h2⟩:=vM (wd:=wd) hkd hs he hf
        cases r' with
        | some p=>exact h2.elim
        | none=>
         refine⟨_,?_,mk z z false (RV.plain hzp ρ)⟩;simp [Instr.lookup,zM hd,xD e1,hck _ 9998,h1,wA hz]
      · cases h
    · cases h
  · cases h
theorem typeAssert_ok(hP:yH ng P=true){x x':Value}{xt asserted:TypeId}{ok:Bool}(hx:RV ρ x x'){v:Value}(h:xV P x asserted ok=some v) :
 ∃v',(Instr.typeAssert x' xt asserted ok).run P wd = .ok v' wd∧RV ρ v v':=by
 unfold xV at h;split at h
 · cases h
 · rename_i d hnot hd;have hni:∀ms,d≠.interface ms:=fun ms e=>hnot ms e
   have zz:∀z,yT P asserted=some z→ok=true→v = .tuple #[z,.bool false]→RV ρ v (.tuple #[z,.bool false]):=by
    intro z hz _ hv;rw [hv];exact RV.mk_tuple (RVs.cons (RV.plain (wI hP hz) ρ) (RVs.cons (RV.bool _) (RVs.nil ρ)))
   split at h
   · rename_i t w
     cases hx with
     | iface hw =>
      rename_i w'
      cases hq:Nat.beq t asserted with
      | true=>
       rw[hq]at h;obtain rfl:=zG hq;dsimp only[cond]at h;injection h with h;subst h
       refine⟨if ok=true then .tuple #[w',.bool true] else w',?_,?_⟩
       · simp only[Instr.typeAssert,Sem.run_bind,zM hd,Result.andThen_ok];cases d <;> first|(exact absurd rfl (hni _))|simp
       · cases ok with
         | true=>exact RV.mk_tuple (RVs.cons hw (RVs.cons (RV.bool _) (RVs.nil ρ)))
         | false=>exact hw
      | false =>
       rw[hq]at h;have hne:¬t=asserted:=fun e=>by subst e;rw [Nat.beq_refl]at hq;cases hq
       cases ok with
       | false=>cases h
       | true =>
        dsimp only[cond]at h
        cases hz:yT P asserted with
        | none=>rw [hz]at h;cases h
        | some z=>
         rw[hz]at h;injection h with h
         refine⟨.tuple #[z,.bool false],?_,zz z hz rfl h.symm⟩;simp only[Instr.typeAssert,Sem.run_bind,zM hd,Result.andThen_ok];cases d <;> first|(exact absurd rfl (hni _))|simp [hne,wA hz]
   · cases hx
     cases ok with
     | false=>cases h
     | true =>
      dsimp only[cond]at h
      cases hz:yT P asserted with
      | none=>rw [hz]at h;cases h
      | some z=>
       rw[hz]at h;injection h with h
       refine⟨.tuple #[z,.bool false],?_,zz z hz rfl h.symm⟩;simp only[Instr.typeAssert,Sem.run_bind,zM hd,Result.andThen_ok];cases d <;> first|(exact absurd rfl (hni _))|simp [wA hz]
   · cases h
 · cases h
theorem len_ok(hH:HeapR P ng ρ base w0 hp n wd){ty rt:TypeId}{x x':Value}(hx:RV ρ x x'){v:Value}(h:aLen P hp ty x=some v)(tys:List TypeId)(rest:List Value) :
 ∃v',(Builtin.len_ ⟨ty::tys⟩ rt ⟨x'::rest⟩).run P wd = .ok v' wd∧RV ρ v v':=by
 unfold aLen at h;split at h
 · rename_i e a m c hd;injection h with h;subst h
   refine⟨.int .i64 (.ofNat m),?_,RV.int _ _⟩;cases hx <;> simp[Builtin.len_,zM hd,goInt]
 · rename_i s hd;injection h with h;subst h
   obtain rfl:=hx.of_string;refine⟨.int .i64 (.ofNat s.data.toList.length),?_,RV.int _ _⟩;simp [Builtin.len_,zM hd,goInt]
 · rename_i m e hd;injection h with h;subst h
   refine⟨.int .i64 (.ofNat m),?_,RV.int _ _⟩;simp [Builtin.len_,zM hd,goInt]
 · rename_i e1 e2 hd;injection h with h;subst h
   cases hx
   refine⟨.int .i64 (.ofNat 0),?_,RV.int _ _⟩;simp [Builtin.len_,zM hd,goInt]
 · rename_i e1 e2 r hd;obtain⟨B,hb,rfl⟩:=hx.of_map;split at h
   · rename_i es clock hg;injection h with h;subst h
     obtain⟨es',h1,he,_⟩:=map_at hH hb hg;refine⟨.int .i64 (.ofNat es.length),?_,RV.int _ _⟩;simp [Builtin.len_,zM hd,goInt,xD h1,he.1]
   · cases h
 · cases h
theorem cap_ok{ty rt:TypeId}{x x':Value}(hx:RV ρ x x'){v:Value}(h:aCap P ty x=some v)(tys:List TypeId)(rest:List Value) :
 ∃v',(Builtin.cap_ ⟨ty::tys⟩ rt ⟨x'::rest⟩).run P wd = .ok v' wd∧RV ρ v v':=by
 unfold aCap at h;split at h
 · rename_i e a m c hd
   cases hq:Nat.beq c inf with
   | true=>rw [hq]at h;cases h
   | false=>
    rw[hq]at h;dsimp only[cond]at h;injection h with h;subst h
    refine⟨.int .i64 (.ofNat c),?_,RV.int _ _⟩
    cases hx with
    | nilSlice=>simp [Builtin.cap_,zM hd,goInt]
    | slice=>simp [Builtin.cap_,zM hd,goInt]
    | slice0 _ a=>simp [Builtin.cap_,zM hd,goInt]
    | opened=>rw [Nat.beq_refl]at hq;cases hq
 · rename_i m e hd;injection h with h;subst h
   refine⟨.int .i64 (.ofNat m),?_,RV.int _ _⟩;simp [Builtin.cap_,zM hd,goInt]
 · cases h
theorem max_fold(big:Bool):∀{l l':List Value} {x v:Value},RVs ρ l l'→aMax big x l=some v→(l=[]∧v=x)∨∃k i r,x = .int k i∧v = .int k r∧
 (l'.foldlM (if big=true then Builtin.max2 else Builtin.min2) (.int k i)).run P wd = .ok (.int k r) wd:=by
 intro l
 induction l with
 | nil=>intro l' x v hl h;simp only[aMax]at h;injection h with h;exact .inl ⟨rfl,h.symm⟩
 | cons y l ih =>
  intro l' x v hl h;obtain⟨y',r',rfl,hy,hr⟩:=hl.of_cons;cases x <;> cases y <;> simp only[aMax]at h <;> first|(cases h;done)|skip
  rename_i k i k' j;obtain rfl:=hy.of_int
  cases hk:xH k k' with
  | false=>rw [hk]at h;cases h
  | true =>
   rw[hk]at h;obtain rfl:=wP hk;have h:aMax big (.int k (cond (cond big (iltB i j) (iltB j i)) j i)) l=some v:=h;right
   have step:((if big=true then Builtin.max2 else Builtin.min2) (.int k i) (.int k j)).run P wd = .ok (.int k (cond (cond big (iltB i j) (iltB j i)) j i)) wd:=by
    rw[iltB_eq,iltB_eq]
    cases big with
    | true=>
     by_cases hij:i<j <;> simp[Builtin.max2,hij]
    | false=>
     by_cases hij:j<i <;> simp[Builtin.min2,hij]
   rcases ih hr h with⟨rfl,rfl⟩|⟨k2,i2,r2,e1,e2,e3⟩
   · obtain rfl:=hr.of_nil;exact⟨k,i,_,rfl,rfl,by rw[List.foldlM_cons,Sem.run_bind,step,Result.andThen_ok];rfl⟩
   · injection e1 with e4 e5
     subst e4;refine⟨k,i,r2,rfl,e2,?_⟩;rw [List.foldlM_cons,Sem.run_bind,step,Result.andThen_ok,e5];exact e3
theorem max_ok{big:Bool}{x x':Value}{l l':List Value}(hx:RV ρ x x')(hl:RVs ρ l l'){v:Value}(h:aMax big x l=some v)(tys:Array TypeId)(rt:TypeId) :
 ∃v',((if big=true then Builtin.max_ else Builtin.min_) tys rt ⟨x'::l'⟩).run P wd = .ok v' wd∧RV ρ v v':=by
 rcases max_fold (P:=P) (wd:=wd) big hl h with⟨rfl,rfl⟩|⟨k,i,r,rfl,rfl,e⟩
 · obtain rfl:=hl.of_nil;refine⟨x',?_,hx⟩;cases big <;> rfl
 · obtain rfl:=hx.of_int;refine⟨_,?_,RV.int k r⟩;cases big <;> exact e
theorem aBin_int_plain{op:BinOp}{t:TypeId}{ox oy:Operand}{k k':IntKind}{a b:Int}{v:Value}(h:aBin P op t ox oy (.int k a) (.int k' b)=some v):vC v=true:=by
 unfold aBin at h;dsimp only at h;split at h
 · exact shift_plain h
 · exact shift_plain h
 · cases hk:xH k k' with
   | false=>rw [hk]at h;cases h
   | true=>rw [hk]at h;exact arith_plain h
theorem intOp_plain{op:BinOp}{k:IntKind}{a b:Int}{s:Option Value}{v:Value}(h:intOp op k a b s=some v):vC v=true∨s=some v:=by
 have hw:∀r:Int,(Int.rec (fun m=>some (Value.int k (.ofNat m))) (fun m=>some (Value.int k (.negSucc m))) r:Option Value)=some v→vC v=true:=by
  intro r h5;cases r <;> (injection h5 with h5;subst h5;rfl)
 cases op with
 | add=>exact .inl (hw _ h)
 | sub=>exact .inl (hw _ h)
 | eql=>left;injection h with h;subst h;rfl
 | neq=>left;injection h with h;subst h;rfl
 | lss=>left;injection h with h;subst h;rfl
 | leq=>left;injection h with h;subst h;rfl
 | gtr=>left;injection h with h;subst h;rfl
 | geq=>left;injection h with h;subst h;rfl
 | _=>exact .inr h
theorem binV_ok{op:BinOp}{t:TypeId}{ox oy:Operand}{x y x' y':Value}(hx:RV ρ x x')(hy:RV ρ y y'){v:Value}(h:binV P op t ox oy x y=some v) :
 ∃v',(yU op t ox oy x' y').run P wd = .ok v' wd∧RV ρ v v':=by
 unfold binV at h;rcases uL h with⟨k1,a,e1,h1⟩|h1
 · rcases uL h1 with⟨k2,b,e2,h2⟩|h2
   · cases hk:xH k1 k2 with
     | false=>rw [hk]at h2;exact bin_ok hx hy h2
     | true=>
      rw[hk]at h2;have h3:intOp op k1 a b (aBin P op t ox oy x y)=some v:=h2;obtain rfl:=wP hk;subst e1 e2;obtain rfl:=hx.of_int;obtain rfl:=hy.of_int;rcases intOp_ok (P:=P) (wd:=wd) (t:=t) (ox:=ox) (oy:=oy) h3 with h4|h4
      · refine⟨v,h4,?_⟩
        have:vC v=true:=by
         rcases intOp_plain h3 with h5|h5
         · exact h5
         · exact aBin_int_plain h5
        exact RV.plain this ρ
      · exact bin_ok (RV.int _ _) (RV.int _ _) h4
   · exact bin_ok hx hy h2
 · exact bin_ok hx hy h1
end
end Go.Ex
namespace Go.Ex
section
variable {P:Program} {ng:Nat} {ρ : Inj} {base:Nat} {w0:World} {hp:zB} {n:Nat} {wd:World} {N:Nat} {t:Fr} {a:Act}
theorem arr_map(f:Operand→Value)(l:Array Operand):l.map f=⟨l.toList.map f⟩:=by
 cases l;simp
theorem vS(f:Operand→Value)(b:Builtin)(args:Array Operand)(tys:Array TypeId)(ty:TypeId) :
 (resolve f ⟨.builtin b,args,tys⟩ ty).run P wd = .ok { target:=.builtin b tys ty (args.map fun | .const _=>true|_=>false),args:=args.map f } wd:=rfl
theorem quiet_ok(hP:yH ng P=true)(hH:HeapR P ng ρ base w0 hp n wd){o:Oper}(E:∀x,x∈o.op.operands.toList→RV ρ (ev t x) (a.eval x)){v:Value}(h:xB o.op P t hp=some v) :
 ∃v',(execOp a.eval o).run P wd = .ok (.value v') wd∧RV ρ v v':=by
 have val:∀{s:Sem Value} {v:Value},(∃v',s.run P wd = .ok v' wd∧RV ρ v v')→execOp a.eval o=(do pure (Next.value (← s)))→∃v',(execOp a.eval o).run P wd = .ok (.value v') wd∧RV ρ v v':=by
  intro s v ⟨v',e1,e2⟩ e3;refine⟨v',?_,e2⟩;rw [e3,Sem.run_bind,e1];rfl
 obtain⟨dst,op,type,pos,after,guard⟩:=o;dsimp only at h E val ⊢
 cases op with
 | move x=>
  have h':xA (ev t x) some=some v:=h;rw [yI]at h';injection h' with h';subst h'
  exact⟨_,rfl,E x (by simp[Op.operands])⟩
 | assign x=>
  have h':xA (ev t x) some=some v:=h;rw [yI]at h';injection h' with h';subst h'
  exact⟨_,rfl,E x (by simp[Op.operands])⟩
 | pick c x y =>
  have h':onBool (ev t c) (fun b=>xA (Bool.rec (ev t y) (ev t x) b) some) none=some v:=h;rcases onBool_some h' with⟨b,e1,e2⟩|e2
  case inr=>cases e2
  rw[yI]at e2;injection e2 with e2
  have hc:=E c (by simp[Op.operands]);rw [e1]at hc;have hcb:=hc.of_bool
  cases b with
  | true=>
   refine⟨a.eval x,?_,by rw[← e2];exact E x (by simp[Op.operands])⟩;simp [execOp,hcb,asBool]
  | false=>
   refine⟨a.eval y,?_,by rw[← e2];exact E y (by simp[Op.operands])⟩;simp [execOp,hcb,asBool]
 | build ty parts=>
  have h':aBuild P ty (parts.toList.map fun p=>(p.1,ev t p.2))=some v:=h;refine val (build_ok hP (ps':=parts.toList.map fun p=>(p.1,a.eval p.2)) (PsR.map _ _ _ fun p hp=>E p.2 ?_) h') ?_
  · simp only[Op.operands,List.mem_map];exact⟨p,hp,rfl⟩
  · have:(parts.map fun(x:Nat×Operand)=>(x.1,a.eval x.2))=⟨parts.toList.map fun p=>(p.1,a.eval p.2)⟩:=by cases parts;simp
    simp only[execOp];rw [← this]
 | load ty x=>exact val (load_ok hH (E x (by simp[Op.operands])) h) rfl
 | nilCheck x =>
  have hx:=E x (by simp[Op.operands])
  have h':(match ev t x with
   | .pointer (some p)=>some (.pointer (some p))
   | .func (.func f) fs cs=>some (.func (.func f) fs cs)
   | .func (.yield f) fs cs=>some (.func (.yield f) fs cs)
   | .map r=>some (.map r)
   | .slice p i c=>some (.slice p i c)
   | _=>none)=some v:=h
  have key:ev t x=v∧(∀u u',RV ρ u u'→u=v→(match u' with
   | .pointer none | .nilIface | .nilFunc=>False
   | .func (.method _) _ _=>False
   | _=>True)):=by
   split at h' <;> first
    | (cases h';done)
    | (rename_i e;injection h' with h';subst h';exact⟨e,fun u u' hu hv=>(by subst hv;cases hu <;> trivial)⟩)
  refine⟨a.eval x,?_,key.1 ▸ hx⟩;have hk:=key.2 _ _ hx key.1;simp only[execOp]
  split <;> first
   | (rename_i e;rw [e]at hk;exact hk.elim)
   | rfl
 | binOp op ty x y yt=>
  have h':binV P op ty x y (ev t x) (ev t y)=some v:=h;exact val (binV_ok (E x (by simp[Op.operands])) (E y (by simp[Op.operands])) h') rfl
 | unOp op ty x=>
  have h':aUn op (ev t x)=some v:=h;exact val (un_ok (E x (by simp[Op.operands])) h') rfl
 | convert src dst' x =>
  have h':(match und P src with
   | some _=>vY P dst' (ev t x)
   | none=>none)=some v:=h
  cases hs:und P src with
  | none=>rw [hs]at h';cases h'
  | some d=>rw [hs]at h';exact val (convert_ok (E x (by simp[Op.operands])) ⟨d,hs⟩ h') rfl
 | makeInterface ty x =>
  have h':(match und P ty with
   | some (.interface _)=>none
   | some _=>xA (ev t x) fun v=>some (.iface ty v)
   | none=>none)=some v:=h
  have hx:=E x (by simp[Op.operands]);refine val (s:=Instr.makeInterface ty (a.eval x)) (v:=v) ?_ rfl;split at h'
  · cases h'
  · rename_i d hni hd;rw [yI]at h';injection h' with h';subst h'
    refine⟨.iface ty (a.eval x),?_,.iface hx⟩;simp only[Instr.makeInterface,Sem.run_bind,zM hd,Result.andThen_ok];cases d <;> first|rfl|exact absurd rfl (hni _)
  · cases h'
 | makeFunc fn first cap =>
  cases fn with
  | func f=>
   have h':some (Value.func (.func f) ⟨first.toList.map (ev t)⟩ ⟨cap.toList.map (ev t)⟩)=some v:=h;injection h' with h';subst h'
   refine⟨.func (.func f) (first.map a.eval) (cap.map a.eval),rfl,?_⟩;rw [arr_map,arr_map];have h1:=RVs.map (ρ := ρ) (ev t) a.eval first.toList fun x hx=>E x (by simp[Op.operands,hx]);have h2:=RVs.map (ρ := ρ) (ev t) a.eval cap.toList fun x hx=>E x (by simp[Op.operands,hx]);exact .func (by intro l;exact Fn.noConfusion) h1.1 h2.1 h1.2 h2.2
  | _=>cases h
 | slice ty x lo hi mx =>
  have h':yZ P hp ty (ev t x) (lo.map (ev t)) (hi.map (ev t)) (mx.map (ev t))=some v:=h
  have orv:∀(z:Option Operand),(∀y,z=some y→y∈(Op.slice ty x lo hi mx).operands.toList)→ORV ρ (z.map (ev t)) (z.map a.eval):=by
   intro z hz
   cases z with
   | none=>trivial
   | some y=>exact E y (hz y rfl)
  refine val (slice_ok hH (E x (by simp[Op.operands])) (orv lo ?_) (orv hi ?_) (orv mx ?_) h') rfl
  · intro y e;subst e;simp [Op.operands]
  · intro y e;subst e;simp [Op.operands]
  · intro y e;subst e;simp [Op.operands]
 | fieldAddr ty x f =>
  have h':onPtr (ev t x) (fun b off=>Option.rec none (fun o=>some (.pointer (some ⟨b,Nat.add off o,none⟩))) (offOf P ty f)) none=some v:=h;have hx:=E x (by simp[Op.operands]);rcases uM h' with⟨b,off,e1,e2⟩|e2
  case inr=>cases e2
  cases hf:offOf P ty f with
  | none=>rw [hf]at e2;cases e2
  | some o=>
   rw[hf]at e2;have e2':some (Value.pointer (some ⟨b,Nat.add off o,none⟩))=some v:=e2;injection e2' with e2';subst e2'
   rw[e1]at hx;obtain⟨B,hb,_,hx'⟩:=hx.of_ptr;refine val (s:=Instr.fieldAt ty (a.eval x) f) ⟨.pointer (some ⟨B.b,off+o,none⟩),?_,RV.ptr hb⟩ rfl;rw [hx'];exact fieldAddr_ok hf
 | field ty x f=>
  have h':aField P ty (ev t x) f=some v:=h;exact val (field_ok (E x (by simp[Op.operands])) h') rfl
 | indexAddr ty x ix =>
  have h':onInt (ev t ix) (fun _ i=>Int.rec (fun i=>Ix.rec none
   (fun sz=>onSlice (ev t x) (fun b off len _=>Bool.rec none (some (.pointer (some ⟨b,Nat.add off (Nat.mul i sz),none⟩))) (Nat.blt i len)) none)
   (fun len sz=>onPtr (ev t x) (fun b off=>Bool.rec none (some (.pointer (some ⟨b,Nat.add off (Nat.mul i sz),none⟩))) (Nat.blt i len)) none) (ixOf P ty)) (fun _=>none) i) none=some v:=h
  rcases uL h' with⟨k,i,e1,e2⟩|e2
  case inr=>cases e2
  have hix:=E ix (by simp[Op.operands]);rw [e1]at hix;have hix':=hix.of_int;refine val (s:=Instr.indexAt ty (a.eval x) (a.eval ix)) ?_ rfl;rw [hix'];exact indexAddr_ok (E x (by simp[Op.operands])) e2
 | index ty x ix=>
  have h':aIndex P ty (ev t x) (ev t ix)=some v:=h;exact val (index_ok (E x (by simp[Op.operands])) (E ix (by simp[Op.operands])) h') rfl
 | lookup ty x key ok=>
  have h':aLookup P hp ty (ev t x) (ev t key) ok=some v:=h;exact val (lookup_ok hP hH (E x (by simp[Op.operands])) (E key (by simp[Op.operands])) h') rfl
 | typeAssert x xt asserted ok=>
  have h':xV P (ev t x) asserted ok=some v:=h;exact val (typeAssert_ok hP (E x (by simp[Op.operands])) h') rfl
 | extract x i =>
  have h':(match ev t x with
   | .tuple vs=>Option.rec none (fun v=>xA v some) (vs.toList[i]?)
   | _=>none)=some v:=h
  split at h'
  · rename_i vs e
    cases hv:vs.toList[i]? with
    | none=>rw [hv]at h';cases h'
    | some u=>
     rw[hv]at h';have h2:xA u some=some v:=h';rw [yI]at h2;injection h2 with h2;subst h2
     exact val (extract_ok (E x (by simp[Op.operands])) e hv) rfl
  · cases h'
 | call c =>
  obtain⟨callee,args,tys⟩:=c
  cases callee with
  | builtin b =>
   have h':quietB P b tys.toList (args.toList.map (ev t)) hp=some v:=h;have ha:=RVs.map (ρ := ρ) (ev t) a.eval args.toList fun x hx=>E x (by simp[Op.operands,Call.operands,hx])
   have run:∀{s:Sem Value},(∃v',s.run P wd = .ok v' wd∧RV ρ v v')→
    builtin b tys type (args.map fun | .const _=>true|_=>false) (args.map a.eval)=(do pure (Next.value (← s)))→
    ∃v',(execOp a.eval ⟨dst,.call ⟨.builtin b,args,tys⟩,type,pos,after,guard⟩).run P wd = .ok (.value v') wd∧RV ρ v v':=by
    intro s ⟨v',e1,e2⟩ e3;refine⟨v',?_,e2⟩;simp only[execOp,Sem.run_bind,vS,Result.andThen_ok,invoke];rw [e3,Sem.run_bind,e1];rfl
   have hargs:args.map a.eval=⟨args.toList.map a.eval⟩:=arr_map _ _;have htys:tys=⟨tys.toList⟩:=rfl;generalize args.toList.map (ev t)=l at h' ha
   unfold quietB at h';split at h'
   · split at h'
     · rename_i x r ty tr e2;obtain⟨x',r',e3,hx,hr⟩:=ha.of_cons;refine run (len_ok (rt:=type) hH hx h' tr r') ?_;rw [hargs,e3,htys,e2];rfl
     · cases h'
   · split at h'
     · rename_i x r ty tr e2;obtain⟨x',r',e3,hx,hr⟩:=ha.of_cons;refine run (cap_ok (rt:=type) hx h' tr r') ?_;rw [hargs,e3,htys,e2];rfl
     · cases h'
   · split at h'
     · rename_i x r;obtain⟨x',r',e3,hx,hr⟩:=ha.of_cons;refine run (max_ok (big:=true) hx hr h' tys type) ?_;rw [hargs,e3];rfl
     · cases h'
   · split at h'
     · rename_i x r;obtain⟨x',r',e3,hx,hr⟩:=ha.of_cons;refine run (max_ok (big:=false) hx hr h' tys type) ?_;rw [hargs,e3];rfl
     · cases h'
   · cases h'
  | _=>cases h
 | _=>cases h
end
end Go.Ex
