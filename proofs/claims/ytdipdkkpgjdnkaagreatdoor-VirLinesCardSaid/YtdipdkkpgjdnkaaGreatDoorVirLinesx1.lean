/- What the law leans on: an executor of the model that is sound, deduction over it, and the walks through the code (part 1 of 24). Conditions: those that each theorem states. -/
import GoSem.Step

set_option linter.unusedVariables false
set_option linter.unusedSimpArgs false
namespace Go.Ex
inductive Tr (α : Type) where
 | lF
 | nD (l:Tr α) (v: α) (r:Tr α)
namespace Tr
variable {α β : Type}
inductive Pa where
 | here
 | l (p:Pa)
 | r (p:Pa)
noncomputable def pa:Nat→Nat→Pa
 | 0,_=>.here
 | f+1,i=>Nat.rec .here (fun j _=>Bool.rec (.r (pa f (Nat.div j 2))) (.l (pa f (Nat.div j 2))) (Nat.beq (Nat.land j 1) 0)) i
noncomputable def getP(d: α)(p:Pa)(t:Tr α): α :=
 Pa.rec (motive:=fun _=>Tr α→α) (fun t=>Tr.rec d (fun _ v _ _ _=>v) t) (fun _ ih t=>Tr.rec d (fun l _ _ _ _=>ih l) t) (fun _ ih t=>Tr.rec d (fun _ _ r _ _=>ih r) t) p t
noncomputable def get(d: α)(t:Tr α)(i:Nat): α :=getP d (pa (Nat.succ i) i) t
noncomputable def setQ(d v: α):Pa→Tr α→Tr α
 | .here,.lF=>.nD .lF v .lF
 | .here,.nD l _ r=>.nD l v r
 | .l p,.lF=>.nD (setQ d v p .lF) d .lF
 | .l p,.nD l w r=>.nD (setQ d v p l) w r
 | .r p,.lF=>.nD .lF d (setQ d v p .lF)
 | .r p,.nD l w r=>.nD l w (setQ d v p r)
noncomputable def set(d v: α)(t:Tr α)(i:Nat):Tr α :=setQ d v (pa (Nat.succ i) i) t
noncomputable def setP(d v: α)(p:Pa)(t:Tr α)(k:Tr α→β): β :=
 Pa.rec (motive:=fun _=>Tr α→(Tr α→β)→β)
  (fun t k=>Tr.rec (k (.nD .lF v .lF)) (fun l _ r _ _=>k (.nD l v r)) t)
  (fun _ ih t k=>Tr.rec (ih .lF fun l=>k (.nD l d .lF)) (fun l w r _ _=>ih l fun l=>k (.nD l w r)) t)
  (fun _ ih t k=>Tr.rec (ih .lF fun r=>k (.nD .lF d r)) (fun l w r _ _=>ih r fun r=>k (.nD l w r)) t) p t k
noncomputable def setK(d v: α)(t:Tr α)(i:Nat)(k:Tr α→β): β :=setP d v (pa (Nat.succ i) i) t k
noncomputable def ofListFrom(d: α)(t:Tr α):Nat→List α→Tr α
 | _,[]=>t
 | i,v::l=>ofListFrom d (t.set d v i) (i+1) l
noncomputable def toListFrom(d: α)(t:Tr α):Nat→Nat→List α
 | _,0=>[]
 | i,n+1=>t.get d i::toListFrom d t (i+1) n
theorem setP_eq(d v: α)(p:Pa):∀(t:Tr α) (k:Tr α→β),setP d v p t k=k (setQ d v p t):=by
 induction p with
 | here=>intro t k;cases t <;> rfl
 | l p ih=>
  intro t k
  cases t with
  | lF=>exact ih .lF fun l=>k (.nD l d .lF)
  | nD l w r=>exact ih l fun l=>k (.nD l w r)
 | r p ih=>
  intro t k
  cases t with
  | lF=>exact ih .lF fun r=>k (.nD .lF d r)
  | nD l w r=>exact ih r fun r=>k (.nD l w r)
theorem setK_eq(d v: α)(t:Tr α)(i:Nat)(k:Tr α→β):setK d v t i k=k (set d v t i):=setP_eq d v _ t k
theorem vP(d: α)(p:Pa):getP d p .lF=d:=by cases p <;> rfl
theorem getP_setQ(d v: α)(p:Pa):∀(t:Tr α),getP d p (setQ d v p t)=v:=by
 induction p with
 | here=>intro t;cases t <;> rfl
 | l p ih=>
  intro t
  cases t with
  | lF=>exact ih .lF
  | nD l w r=>exact ih l
 | r p ih=>
  intro t
  cases t with
  | lF=>exact ih .lF
  | nD l w r=>exact ih r
theorem getP_setQ_ne(d v: α)(p:Pa):∀(q:Pa) (t:Tr α),p≠q→getP d q (setQ d v p t)=getP d q t:=by
 induction p with
 | here =>
  intro q t h
  cases q with
  | here=>exact absurd rfl h
  | l q=>cases t with
   | lF=>exact vP d q
   | nD l w r=>rfl
  | r q=>cases t with
   | lF=>exact vP d q
   | nD l w r=>rfl
 | l p ih =>
  intro q t h
  cases q with
  | here=>cases t <;> rfl
  | l q=>
   have h':p≠q:=fun e=>h (by rw[e])
   cases t with
   | lF=>exact(ih q .lF h').trans (vP d q)
   | nD l w r=>exact ih q l h'
  | r q=>cases t with
   | lF=>exact vP d q
   | nD l w r=>rfl
 | r p ih =>
  intro q t h
  cases q with
  | here=>cases t <;> rfl
  | l q=>cases t with
   | lF=>exact vP d q
   | nD l w r=>rfl
  | r q=>
   have h':p≠q:=fun e=>h (by rw[e])
   cases t with
   | lF=>exact(ih q .lF h').trans (vP d q)
   | nD l w r=>exact ih q r h'
theorem beq_land(j:Nat):Nat.beq (Nat.land j 1) 0=decide (j % 2=0):=by
 have h:Nat.land j 1=j % 2:=Nat.and_one_is_mod j;rw [h];rcases Nat.mod_two_eq_zero_or_one j with h|h <;> rw[h] <;> rfl
theorem pa_succ(f j:Nat):pa (f+1) (j+1)=if j % 2=0 then .l (pa f (j / 2)) else .r (pa f (j / 2)):=by
 show Bool.rec (motive:=fun _=>Pa) (.r (pa f (Nat.div j 2))) (.l (pa f (Nat.div j 2))) (Nat.beq (Nat.land j 1) 0)=_;rw [beq_land];by_cases h:j % 2=0
 · simp only[h,decide_true,if_true];rfl
 · simp only[h,decide_false,if_false];rfl
theorem pa_fuel(f:Nat):∀(g i:Nat),i<f→i<g→pa f i=pa g i:=by
 induction f with
 | zero=>intro g i h;omega
 | succ f ih =>
  intro g i hf hg
  cases g with
  | zero=>omega
  | succ g=>
   cases i with
   | zero=>rfl
   | succ j=>rw [pa_succ,pa_succ,ih g (j / 2) (by omega) (by omega)]
theorem pa_inj(f:Nat):∀(i j:Nat),i<f→j<f→pa f i=pa f j→i=j:=by
 induction f with
 | zero=>intro i j h;omega
 | succ f ih =>
  intro i j hi hj h
  cases i with
  | zero =>
   cases j with
   | zero=>rfl
   | succ j=>
    rw[pa_succ]at h;have h0:pa (f+1) 0 = .here:=rfl;rw [h0]at h;split at h <;> cases h
  | succ i =>
   cases j with
   | zero=>
    rw[pa_succ]at h;have h0:pa (f+1) 0 = .here:=rfl;rw [h0]at h;split at h <;> cases h
   | succ j=>
    rw[pa_succ,pa_succ]at h;split at h <;> split at h <;> first|cases h|skip
    · have e:=ih (i / 2) (j / 2) (by omega) (by omega) (by injection h);omega
    · have e:=ih (i / 2) (j / 2) (by omega) (by omega) (by injection h);omega
theorem pa_ne{i j:Nat}(h:i≠j):pa (Nat.succ i) i≠pa (Nat.succ j) j:=by
 intro e;rw [pa_fuel (i+1) (i+j+1) i (by omega) (by omega),pa_fuel (j+1) (i+j+1) j (by omega) (by omega)]at e;exact h (pa_inj (i+j+1) i j (by omega) (by omega) e)
theorem get_set(d v: α)(t:Tr α)(i:Nat):get d (set d v t i) i=v:=getP_setQ d v _ t
theorem get_set_ne(d v: α)(t:Tr α){i j:Nat}(h:i≠j):get d (set d v t i) j=get d t j:=getP_setQ_ne d v _ _ t (pa_ne h)
theorem get_set_if(d v: α)(t:Tr α)(i j:Nat):get d (set d v t i) j=if i=j then v else get d t j:=by
 by_cases h:i=j
 · subst h;simp [get_set]
 · simp[h,get_set_ne d v t h]
theorem get_leaf(d: α)(i:Nat):get d .lF i=d:=vP d _
theorem get_ofListFrom(d: α)(l:List α):∀(t:Tr α) (i j:Nat),get d (ofListFrom d t i l) j=if i≤j∧j<i+l.length then l.getD (j - i) d else get d t j:=by
 induction l with
 | nil=>intro t i j;simp [ofListFrom];omega
 | cons v l ih=>
  intro t i j;simp only[ofListFrom,ih,get_set_if,List.length_cons];by_cases h1:i=j
  · subst h1;have h2:¬(i+1≤i∧i<i+1+l.length):=by omega
    have h3:i≤i∧i<i+(l.length+1):=by omega
    rw[if_neg h2,if_pos h3];simp
  · by_cases h2:i+1≤j∧j<i+1+l.length
    · have h3:i≤j∧j<i+(l.length+1):=by omega
      simp only[h2,h3,and_self,if_true];have:j - i=(j - (i+1))+1:=by omega
      rw[this];rfl
    · have h3:¬(i≤j∧j<i+(l.length+1)):=by omega
      simp[h2,h3,h1]
theorem length_toListFrom(d: α)(t:Tr α):∀(n i:Nat),(toListFrom d t i n).length=n:=by
 intro n
 induction n with
 | zero=>intro i;rfl
 | succ n ih=>intro i;simp [toListFrom,ih]
theorem getElem?_toListFrom(d: α)(t:Tr α):∀(n i j:Nat),(toListFrom d t i n)[j]? = if j<n then some (get d t (i+j)) else none:=by
 intro n
 induction n with
 | zero=>intro i j;simp [toListFrom]
 | succ n ih =>
  intro i j
  cases j with
  | zero=>simp [toListFrom]
  | succ j=>
   simp only[toListFrom,List.getElem?_cons_succ,ih];have e:i+1+j=i+(j+1):=by omega
   by_cases h:j<n <;> simp[h,e]
end Tr
abbrev Fr:=Tr Value
def fr0:Fr:=.lF
noncomputable def fget(t:Fr)(i:Nat):Value:=Tr.get undef t i
noncomputable def fsetK{R:Type}(t:Fr)(i:Nat)(v:Value)(k:Fr→R):R:=Tr.setK undef v t i k
def inf:Nat:=1000000000000000000
inductive AObj where
 | dead
 | cells (c:Tr Value) (n:Nat) (z:Nat) (kd:Nat)
 | map (es:List MapEntry) (clock:Nat)
 | loop (l:Loop) (t:Fr)
 | deferred (ready:Bool)
 | siter (m:Option Nat) (since:Nat) (seen:List Nat) (last:Nat)
 | rows (c:Tr Value) (n:Nat)
abbrev zB:=Tr AObj
abbrev zJ:=List PanicEntry
structure W where
 d:List Deferred
 u:Option zJ
 h:zB
 n:Nat
structure Cx where
 fn:FuncId
 round:Option Nat
 df:Bool
inductive AX where
 | normal
 | exit (id:Nat)
 | goto (l:Nat)
 | ret
 | panic (c:zJ)
inductive Out where
 | ret (v:Value)
 | panic (c:zJ)
noncomputable def zF(h:zB)(b:Nat):AObj:=h.get .dead b
noncomputable def tget(t:Tr Value)(i:Nat):Value:=t.get undef i
noncomputable def ev(t:Fr)(x:Operand):Value:=
 Operand.rec (motive:=fun _=>Fr→Value) (fun i t=>fget t i) (fun v _=>v) (fun g _=>.pointer (some ⟨g,0,none⟩))
  (fun f _=>.func (.func f) #[] #[]) x t
noncomputable def tabFrom{α : Type}(t:Tr (Option α)):Nat→List α→Tr (Option α)
 | _,[]=>t
 | i,v::l=>tabFrom (t.set none (some v) i) (i+1) l
noncomputable def tyT(P:Program):Tr (Option TypeInfo):=tabFrom .lF 0 P.types.toList
noncomputable def fnT(P:Program):Tr (Option Func):=tabFrom .lF 0 P.funcs.toList
noncomputable def inf?(P:Program)(t:TypeId):Option TypeInfo:=Tr.get none (tyT P) t
noncomputable def und(P:Program)(t:TypeId):Option TypeDesc:=
 match inf? P t with
 | some i => match i.desc with
  | .named _ u=>match inf? P u with
   | some j=>some j.desc
   | none=>none
  | d=>some d
 | none=>none
noncomputable def ileB(x y:Int):Bool:=
 Int.rec (motive:=fun _=>Int→Bool)
  (fun a y=>Int.rec (motive:=fun _=>Nat→Bool) (fun b a=>Nat.ble a b) (fun _ _=>false) y a)
  (fun a y=>Int.rec (motive:=fun _=>Nat→Bool) (fun _ _=>true) (fun b a=>Nat.ble b a) y a) x y
noncomputable def ieqB(x y:Int):Bool:=
 Int.rec (motive:=fun _=>Int→Bool)
  (fun a y=>Int.rec (motive:=fun _=>Nat→Bool) (fun b a=>Nat.beq a b) (fun _ _=>false) y a)
  (fun a y=>Int.rec (motive:=fun _=>Nat→Bool) (fun _ _=>false) (fun b a=>Nat.beq b a) y a) x y
noncomputable def iltB(a b:Int):Bool:=Bool.rec true false (ileB b a)
noncomputable def subNN(m n:Nat):Int:=Bool.rec (.negSucc (Nat.pred (Nat.sub n m))) (.ofNat (Nat.sub m n)) (Nat.ble n m)
noncomputable def iadd(x y:Int):Int:=
 Int.rec (motive:=fun _=>Int→Int)
  (fun a y=>Int.rec (motive:=fun _=>Nat→Int) (fun b a=>.ofNat (Nat.add a b)) (fun b a=>subNN a (Nat.succ b)) y a)
  (fun a y=>Int.rec (motive:=fun _=>Nat→Int) (fun b a=>subNN b (Nat.succ a)) (fun b a=>.negSucc (Nat.succ (Nat.add a b))) y a) x y
noncomputable def isub(x y:Int):Int:=
 Int.rec (motive:=fun _=>Int→Int)
  (fun b x=>Int.rec (motive:=fun _=>Nat→Int) (fun a b=>subNN a b) (fun a b=>.negSucc (Nat.add a b)) x b)
  (fun b x=>Int.rec (motive:=fun _=>Nat→Int) (fun a b=>.ofNat (Nat.add a (Nat.succ b))) (fun a b=>subNN b a) x b) y x
noncomputable def wL(k:IntKind)(n:Int):Int:=
 match k with
 | .i64=>Int.rec (motive:=fun _=>Int) (fun m=>Bool.rec (IntKind.wrap .i64 (.ofNat m)) (.ofNat m) (Nat.blt m 9223372036854775808))
  (fun m=>Bool.rec (IntKind.wrap .i64 (.negSucc m)) (.negSucc m) (Nat.blt m 9223372036854775808)) n
 | .u64=>match n with
  | .ofNat m=>cond (Nat.blt m 18446744073709551616) n (k.wrap n)
  | .negSucc _=>k.wrap n
 | .u8=>match n with
  | .ofNat m=>cond (Nat.blt m 256) n (k.wrap n)
  | .negSucc _=>k.wrap n
 | _=>k.wrap n
def vG:List UInt8→List UInt8→Bool
 | [],[]=>true
 | a::x,b::y=>cond (Nat.beq a.toNat b.toNat) (vG x y) false
 | _,_=>false
def xH:IntKind→IntKind→Bool
 | .i8,.i8 | .i16,.i16 | .i32,.i32 | .i64,.i64 | .u8,.u8 | .u16,.u16 | .u32,.u32 | .u64,.u64=>true
 | _,_=>false
noncomputable def xQ:Value→Value→Option Bool
 | .bool a,.bool b=>some (cond a b (!b))
 | .int k a,.int k' b=>cond (xH k k') (some (ieqB a b)) none
 | .string a,.string b=>some (vG a.data.toList b.data.toList)
 | _,_=>none
noncomputable def scalsEq:List Value→List Value→Option Bool
 | [],[]=>some true
 | a::x,b::y=>match xQ a b with
  | some true=>scalsEq x y
  | some false=>some false
  | none=>none
 | _,_=>none
def bitNat(op:BinOp)(x y:Nat):Option Nat:=
 match op with
 | .and=>some (Nat.land x y)
 | .or=>some (Nat.lor x y)
 | .xor=>some (Nat.xor x y)
 | .andNot=>some (Nat.xor x (Nat.land x y))
 | _=>none
def bitLim:IntKind→Option Nat
 | .i64=>some 9223372036854775808
 | .u64=>some 18446744073709551616
 | .u32=>some 4294967296
 | .u16=>some 65536
 | .u8=>some 256
 | _=>none
noncomputable def aBits(op:BinOp)(k:IntKind)(a b:Int):Option Value:=
 match a,b,bitLim k with
 | .ofNat x,.ofNat y,some m=>cond (Nat.blt x m && Nat.blt y m) ((bitNat op x y).map fun r=>.int k (.ofNat r)) none
 | .negSucc x,.ofNat y,some m=>cond (Nat.blt x m && Nat.blt y m) (match op with
  | .and=>some (.int k (.ofNat (Nat.xor y (Nat.land y x))))
  | _=>none) none
 | _,_,_=>none
noncomputable def aArith(op:BinOp)(k:IntKind)(a b:Int):Option Value:=
 match op with
 | .add=>some (.int k (wL k (iadd a b)))
 | .sub=>some (.int k (wL k (isub a b)))
 | .mul=>some (.int k (wL k (Int.mul a b)))
 | .quo=>cond (ieqB b 0) none (some (.int k (wL k (Int.tdiv a b))))
 | .rem=>cond (ieqB b 0) none (some (.int k (Int.tmod a b)))
 | .eql=>some (.bool (ieqB a b))
 | .neq=>some (.bool (!ieqB a b))
 | .lss=>some (.bool (iltB a b))
 | .leq=>some (.bool (ileB a b))
 | .gtr=>some (.bool (iltB b a))
 | .geq=>some (.bool (ileB b a))
 | _=>aBits op k a b
noncomputable def aShift(op:BinOp)(k:IntKind)(a:Int)(b:Int):Option Value:=
 match b with
 | .ofNat m => cond (Nat.blt m k.bits) (match op with
  | .shl=>some (.int k (wL k (Int.mul a (.ofNat (Nat.pow 2 m)))))
  | .shr=>match a with
   | .ofNat x=>some (.int k (.ofNat (Nat.shiftRight x m)))
   | .negSucc x=>some (.int k (.negSucc (Nat.shiftRight x m)))
  | _=>none) none
 | _=>none
def isConst:Operand→Bool
 | .const _=>true
 | _=>false
def wS:TypeDesc→Value→Bool
 | .int k,.int k' _=>xH k k'
 | .string,.string _=>true
 | .bool,.bool _=>true
 | _,_=>false
def scalD:TypeDesc→Bool
 | .int _ | .string | .bool=>true
 | _=>false
noncomputable def eqItemsA(kd:TypeDesc)(n:Nat)(xs ys:List Value):List Nat→Option Bool
 | []=>some true
 | i :: is => match xs[Nat.mul i n]?, ys[Nat.mul i n]? with
  | some x,some y=>cond (wS kd x) (match xQ x y with
   | some true=>eqItemsA kd n xs ys is
   | some false=>some false
   | none=>none) none
  | _,_=>none
noncomputable def eqFldsA(P:Program)(xs ys:List Value):List Field→Option Bool
 | []=>some true
 | f :: fs => match und P f.type, xs[f.offset]?, ys[f.offset]? with
  | some kd,some x,some y=>cond (wS kd x) (match xQ x y with
   | some true=>eqFldsA P xs ys fs
   | some false=>some false
   | none=>none) none
  | _,_,_=>none
noncomputable def fldA(P:Program)(f:Field):Bool:=f.name != "_" && match und P f.type with
 | some kd=>scalD kd
 | none=>false
noncomputable def eqA(P:Program)(t:TypeId)(xs ys:List Value):Option Bool:=
 match und P t with
 | some (.struct fs)=>cond (fs.toList.all (fldA P) && !P.stoodInHeld t) (eqFldsA P xs ys fs.toList) none
 | some (.array len e)=>match und P e,inf? P e with
  | some kd,some ei=>cond (scalD kd) (eqItemsA kd ei.size xs ys (List.range len)) none
  | _,_=>none
 | _=>none
def wH(d:TypeDesc)(x y:Value):Option Bool:=
 match d,x,y with
 | .bool,.bool a,.bool b=>some (cond a b (!b))
 | .interface _,.nilIface,.nilIface=>some true
 | .interface _,.nilIface,.iface _ _=>some false
 | .interface _,.iface _ _,.nilIface=>some false
 | .pointer _,.pointer none,.pointer none=>some true
 | .pointer _,.pointer none,.pointer (some _)=>some false
 | .pointer _,.pointer (some _),.pointer none=>some false
 | .slice _,.slice none _ _,.slice none _ _=>some true
 | .slice _,.slice none _ _,.slice (some _) _ _=>some false
 | .slice _,.slice (some _) _ _,.slice none _ _=>some false
 | .map _ _,.map none,.map none=>some true
 | .map _ _,.map none,.map (some _)=>some false
 | .map _ _,.map (some _),.map none=>some false
 | .func _ _ _,.nilFunc,.nilFunc=>some true
 | .func _ _ _,.nilFunc,.func _ _ _=>some false
 | .func _ _ _,.func _ _ _,.nilFunc=>some false
 | _,_,_=>none
def zS(ox oy:Operand)(x y:Value):Bool:=
 match x,y with
 | .nilIface,.nilIface=>isConst ox || isConst oy
 | .agg _,.agg _=>false
 | _,_=>true
noncomputable def aBin(P:Program)(op:BinOp)(t:TypeId)(ox oy:Operand)(x y:Value):Option Value:=
 match x,y with
 | .int k a,.int k' b=>match op with
  | .shl=>aShift .shl k a b
  | .shr=>aShift .shr k a b
  | op=>cond (xH k k') (aArith op k a b) none
 | .string a,.string b=>match op with
  | .eql=>some (.bool (vG a.data.toList b.data.toList))
  | .neq=>some (.bool (!vG a.data.toList b.data.toList))
  | .add=>cond (Nat.blt (Nat.add a.data.toList.length b.data.toList.length) 1000000) (some (.string ⟨⟨a.data.toList++b.data.toList⟩⟩)) none
  | _=>none
 | .agg a,.agg b=>match op with
  | .eql=>(eqA P t a.toList b.toList).map .bool
  | .neq=>(eqA P t a.toList b.toList).map fun r=>.bool (!r)
  | _=>none
 | x,y=>match op,und P t with
  | .eql,some d=>cond (zS ox oy x y) ((wH d x y).map .bool) none
  | .neq,some d=>cond (zS ox oy x y) ((wH d x y).map fun b=>.bool (!b)) none
  | _,_=>none
noncomputable def aUn(op:UnOp)(x:Value):Option Value:=
 match op,x with
 | .neg,.int k n=>some (.int k (wL k (isub 0 n)))
 | .not,.bool b=>some (.bool (!b))
 | _,_=>none
noncomputable def vY(P:Program)(dst:TypeId)(x:Value):Option Value:=
 match und P dst,x with
 | some (.int k),.int _ n=>some (.int k (wL k n))
 | some .string,.string _=>some x
 | _,_=>none
def wM:Nat→Nat→List Value→List Value
 | _,0,_=>[]
 | 0,n+1,l=>match l with
  | []=>[]
  | v::r=>v::wM 0 n r
 | i+1,n,l=>match l with
  | []=>[]
  | _::r=>wM i n r
def aggT:TypeDesc→Bool
 | .struct _ | .array _ _=>true
 | _=>false
noncomputable def aPart(P:Program)(t:TypeId)(cs:List Value)(off:Nat):Option Value:=
 match und P t,inf? P t with
 | some d,some i=>cond (aggT d) (cond (Nat.ble (Nat.add off i.size) cs.length) (some (.agg ⟨wM off i.size cs⟩)) none) (cs[off]?)
 | _,_=>none
def far(a:Addr)(n:Nat):Addr:=⟨a.block,Nat.add a.off n,none⟩
noncomputable def aLoad(P:Program)(h:zB)(t:TypeId)(x:Value):Option Value:=
 match x with
 | .pointer (some ⟨b, off, none⟩) =>
  match zF h b with
  | .cells c n _ _ => match und P t with
   | some d => cond (aggT d)
    (match inf? P t with
     | some i=>cond (Nat.ble (Nat.add off i.size) n) (some (.agg ⟨c.toListFrom undef off i.size⟩)) none
     | none=>none)
    (cond (Nat.blt off n) (some (tget c off)) none)
   | none=>none
  | _=>none
 | _=>none
noncomputable def aFieldAddr(P:Program)(s:TypeId)(x:Value)(f:Nat):Option Value:=
 match und P s,x with
 | some (.struct fs), .pointer (some ⟨b, off, none⟩) => match fs[f]? with
  | some fd=>match inf? P fd.type with
   | some i=>cond (Nat.beq i.size 0) none (some (.pointer (some ⟨b,Nat.add off fd.offset,none⟩)))
   | none=>none
  | none=>none
 | _,_=>none
noncomputable def aIndexAddr(P:Program)(t:TypeId)(x ix:Value):Option Value:=
 match ix with
 | .int _ (.ofNat i) => match und P t, x with
  | some (.slice e),.slice (some ⟨b,off,none⟩) len _=>match inf? P e with
   | some ei=>cond (Nat.blt i len) (some (.pointer (some ⟨b,Nat.add off (Nat.mul i ei.size),none⟩))) none
   | none=>none
  | some (.array len e),.pointer (some ⟨b,off,none⟩)=>match inf? P e with
   | some ei=>cond (Nat.blt i len) (some (.pointer (some ⟨b,Nat.add off (Nat.mul i ei.size),none⟩))) none
   | none=>none
  | _,_=>none
 | _=>none
noncomputable def dropK(n:Nat)(s:List UInt8):List UInt8:=Nat.rec (motive:=fun _=>List UInt8→List UInt8) (fun s=>s) (fun _ ih s=>List.rec [] (fun _ r _=>ih r) s) n s
noncomputable def dropBlk(s:List UInt8)(k:Nat):List UInt8:=Nat.rec s (fun _ r=>dropK 64 r) k
noncomputable def dropB(s:List UInt8)(i:Nat):List UInt8:=dropK (Nat.mod i 64) (dropBlk s (Nat.div i 64))
noncomputable def takeK(n:Nat)(s:List UInt8):List UInt8:=Nat.rec (motive:=fun _=>List UInt8→List UInt8) (fun _=>[]) (fun _ ih s=>List.rec [] (fun a r _=>a::ih r) s) n s
noncomputable def cutS(s:List UInt8)(i n:Nat):List UInt8:=takeK n (dropB s i)
noncomputable def nthB(s:List UInt8)(i:Nat):Option UInt8:=List.rec none (fun a _ _=>some a) (dropB s i)
theorem dropK_eq:∀(n:Nat) (s:List UInt8),dropK n s=s.drop n:=by
 intro n
 induction n with
 | zero=>intro s;rfl
 | succ n ih=>
  intro s
  cases s with
  | nil=>rfl
  | cons a r=>exact ih r
theorem dropBlk_eq(s:List UInt8):∀k,dropBlk s k=s.drop (64*k):=by
 intro k
 induction k with
 | zero=>rfl
 | succ k ih=>
  show dropK 64 (dropBlk s k)=_;rw [dropK_eq,ih,List.drop_drop];congr 1
theorem dropB_eq(s:List UInt8)(i:Nat):dropB s i=s.drop i:=by
 unfold dropB;rw [dropK_eq,dropBlk_eq,List.drop_drop];congr 1
 exact Nat.div_add_mod i 64
theorem takeK_eq:∀(n:Nat) (s:List UInt8),takeK n s=s.take n:=by
 intro n
 induction n with
 | zero=>intro s;rw [List.take_zero];rfl
 | succ n ih=>
  intro s
  cases s with
  | nil=>rfl
  | cons a r=>show a::takeK n r=_;rw [ih,List.take_succ_cons]
theorem cutS_eq(s:List UInt8)(i n:Nat):cutS s i n=(s.drop i).take n:=by unfold cutS;rw [takeK_eq,dropB_eq]
theorem nthB_eq(s:List UInt8)(i:Nat):nthB s i=s[i]? :=by
 unfold nthB;rw [dropB_eq];have:s[i]? = (s.drop i)[0]? :=by simp
 rw[this];cases s.drop i <;> rfl
noncomputable def aIndex(P:Program)(t:TypeId)(x ix:Value):Option Value:=
 match ix with
 | .int _ (.ofNat i) => match und P t, x with
  | some (.array len e),.agg cs=>match inf? P e with
   | some ei=>cond (Nat.blt i len) (aPart P e cs.toList (Nat.mul i ei.size)) none
   | none=>none
  | some .string,.string s=>match nthB s.data.toList i with
   | some b=>some (.int .u8 (.ofNat b.toNat))
   | none=>none
  | _,_=>none
 | _=>none
def natOf:Value→Option Nat
 | .int _ (.ofNat n)=>some n
 | _=>none
def zX(d:Nat)(most:Nat):Option Value→Option Nat
 | none=>some d
 | some v=>match natOf v with
  | some n=>cond (Nat.ble n most) (some n) none
  | none=>none
def vI(a:Addr)(len cap size:Nat)(lo hi mx:Option Value):Option Value:=
 match zX cap cap mx with
 | none=>none
 | some m => match zX len m hi with
  | none=>none
  | some h=>match zX 0 h lo with
   | none=>none
   | some l=>cond (Nat.blt m inf && Nat.ble h m) (some (.slice (some (cond (Nat.beq m l) a (far a (Nat.mul l size)))) (Nat.sub h l) (Nat.sub m l))) none
def aSliceOp(a:Addr)(len size:Nat)(lo hi mx:Option Value):Option Value:=
 match mx with
 | none => match zX len len hi with
  | none=>none
  | some h=>match zX 0 h lo with
   | none=>none
   | some l=>some (.slice (some (far a (Nat.mul l size))) (Nat.sub h l) inf)
 | some _ => match zX len len mx with
  | none=>none
  | some m => match zX m m hi with
   | none=>none
   | some h=>match zX 0 h lo with
    | none=>none
    | some l=>cond (Nat.blt m inf) (some (.slice (some (cond (Nat.beq m l) a (far a (Nat.mul l size)))) (Nat.sub h l) (Nat.sub m l))) none
def fullOK(hi mx:Option Value):Bool:=
 match mx,hi with
 | some _,none=>false
 | _,_=>true
noncomputable def zc(e s:Nat):Nat:=Nat.add (Nat.mul (Nat.add e s) (Nat.add e s)) e
theorem zc_inj{e s e' s':Nat}(h:zc e s=zc e' s'):e=e'∧s=s':=by
 have h':(e+s)*(e+s)+e=(e'+s')*(e'+s')+e':=h
 have key:∀{a b x y:Nat},a≤x→b≤y→x<y→x*x+a=y*y+b→False:=by
  intro a b x y ha hb hlt he;have h1:(x+1)*(x+1)≤y*y:=Nat.mul_le_mul hlt hlt;have h2:(x+1)*(x+1)=x*x+2*x+1:=by rw[Nat.add_mul,Nat.mul_add];omega
  omega
 have hs:e+s=e'+s':=by
  rcases Nat.lt_trichotomy (e+s) (e'+s') with h1|h1|h1
  · exact(key (by omega) (by omega) h1 h').elim
  · exact h1
  · exact(key (by omega) (by omega) h1 h'.symm).elim
 rw[hs]at h';omega
noncomputable def yZ(P:Program)(hp:zB)(t:TypeId)(x:Value)(lo hi mx:Option Value):Option Value:=
 cond (fullOK hi mx) (match und P t,x with
  | some (.slice e),.slice none len cap=>cond (Nat.beq len 0 && Nat.beq cap 0) (match zX 0 0 mx,zX 0 0 hi,zX 0 0 lo,inf? P e with
   | some _,some _,some _,some _=>some (.slice none 0 0)
   | _,_,_,_=>none) none
  | some (.slice e), .slice (some ⟨b, off, none⟩) len cap => match inf? P e with
   | some ei => cond (Nat.beq cap inf)
    (match zF hp b with
     | .cells _ _ z 1=>cond (Nat.beq z (zc e ei.size) && Nat.ble 1 ei.size) (aSliceOp ⟨b,off,none⟩ len ei.size lo hi mx) none
     | _=>none)
    (vI ⟨b,off,none⟩ len cap ei.size lo hi mx)
   | none=>none
  | some (.array n e),.pointer (some ⟨b,off,none⟩)=>match inf? P e with
   | some ei=>vI ⟨b,off,none⟩ n n ei.size lo hi mx
   | none=>none
  | some (.pointer arr), .pointer (some ⟨b, off, none⟩) => match und P arr with
   | some (.array n e)=>match inf? P e with
    | some ei=>vI ⟨b,off,none⟩ n n ei.size lo hi mx
    | none=>none
   | _=>none
  | some .string, .string s => match mx with
   | some _=>none
   | none => match zX s.data.toList.length s.data.toList.length hi with
    | none=>none
    | some h=>match zX 0 h lo with
     | none=>none
     | some l=>some (.string ⟨⟨cutS s.data.toList l (Nat.sub h l)⟩⟩)
  | _,_=>none) none
def putAll(cs:List Value):Nat→List Value→List Value
 | _,[]=>cs
 | off,v::r=>putAll (cs.set off v) (off+1) r
def cellsOf:Value→List Value
 | .agg cs=>cs.toList
 | v=>[v]
def aFill(place:Nat→Option (Nat×Nat))(cells:List Value):List (Nat×Value)→Option (List Value)
 | []=>some cells
 | (i,v)::rest=>match place i with
  | none=>none
  | some (off,size)=>cond (Nat.beq (cellsOf v).length size && Nat.ble (Nat.add off size) cells.length) (aFill place (putAll cells off (cellsOf v)) rest) none
noncomputable def yT(P:Program)(t:TypeId):Option Value:=match inf? P t with
 | some i=>i.zero
 | none=>none
noncomputable def aField(P:Program)(t:TypeId)(x:Value)(f:Nat):Option Value:=
 match und P t,x with
 | some (.struct fs),.agg cs=>match fs[f]? with
  | some fd=>aPart P fd.type cs.toList fd.offset
  | none=>none
 | _,_=>none
noncomputable def aLen(P:Program)(h:zB)(t:TypeId)(x:Value):Option Value:=
 match und P t,x with
 | some (.slice _),.slice _ n _=>some (.int .i64 (.ofNat n))
 | some .string,.string s=>some (.int .i64 (.ofNat s.data.toList.length))
 | some (.array n _),_=>some (.int .i64 (.ofNat n))
 | some (.map _ _),.map none=>some (.int .i64 (.ofNat 0))
 | some (.map _ _),.map (some r)=>match zF h r with
  | .map es _=>some (.int .i64 (.ofNat es.length))
  | _=>none
 | _,_=>none
noncomputable def aCap(P:Program)(t:TypeId)(x:Value):Option Value:=
 match und P t,x with
 | some (.slice _),.slice _ _ n=>cond (Nat.beq n inf) none (some (.int .i64 (.ofNat n)))
 | some (.array n _),_=>some (.int .i64 (.ofNat n))
 | _,_=>none
noncomputable def aMax(big:Bool):Value→List Value→Option Value
 | x,[]=>some x
 | .int k x,.int k' y::r=>cond (xH k k') (aMax big (.int k (cond (cond big (iltB x y) (iltB y x)) y x)) r) none
 | _,_=>none
noncomputable def keyEq:Value→Value→Option Bool
 | .agg a,.agg b=>scalsEq a.toList b.toList
 | x,y=>xQ x y
noncomputable def keyT(P:Program)(kd:TypeDesc)(k:Value):Bool:=
 match kd,k with
 | .array len e,.agg cs=>match und P e,inf? P e with
  | some ed,some ei=>Nat.beq ei.size 1 && (Nat.beq cs.toList.length len && cs.toList.all (wS ed))
  | _,_=>false
 | kd,k=>wS kd k
noncomputable def findE(k:Value):List MapEntry→Nat→Option (Option (Nat×Value))
 | [],_=>some none
 | e::es,i=>match keyEq k e.key with
  | some true=>some (some (i,e.val))
  | some false=>findE k es (i+1)
  | none=>none
noncomputable def aLookup(P:Program)(h:zB)(t:TypeId)(x k:Value)(ok:Bool):Option Value:=
 match und P t with
 | some (.map kt et) => match und P kt, yT P et with
  | some kd, some z => cond (keyT P kd k)
   (match x with
    | .map none=>some (cond ok (.tuple #[z,.bool false]) z)
    | .map (some r) => match zF h r with
     | .map es _=>match findE k es 0 with
      | some (some (_,v))=>some (cond ok (.tuple #[v,.bool true]) v)
      | some none=>some (cond ok (.tuple #[z,.bool false]) z)
      | none=>none
     | _=>none
    | _=>none) none
  | _,_=>none
 | _=>none
noncomputable def xV(P:Program)(x:Value)(asserted:TypeId)(ok:Bool):Option Value:=
 match und P asserted with
 | some (.interface _)=>none
 | some _ => match x with
  | .iface t v => cond (Nat.beq t asserted) (some (cond ok (.tuple #[v, .bool true]) v))
   (cond ok (match yT P asserted with
    | some z=>some (.tuple #[z,.bool false])
    | none=>none) none)
  | .nilIface=>cond ok (match yT P asserted with
   | some z=>some (.tuple #[z,.bool false])
   | none=>none) none
  | _=>none
 | none=>none
def rep(z:List Value):Nat→List Value
 | 0=>[]
 | n+1=>z++rep z n
noncomputable def mkCells(cs:List Value)(kd:Nat):AObj:=.cells (Tr.ofListFrom undef .lF 0 cs) cs.length 0 kd
noncomputable def mkCellsT(cs:List Value)(el:Nat):AObj:=.cells (Tr.ofListFrom undef .lF 0 cs) cs.length (Nat.succ el) 0
noncomputable def xW(P:Program)(ty:TypeId)(len:Nat)(parts:List (Nat×Value)):Option AObj:=
 match und P ty with
 | some (.slice e) => match yT P e, inf? P e with
  | some z, some ei => cond (Nat.ble 1 ei.size && Nat.beq (cellsOf z).length ei.size && Nat.ble (Nat.mul len ei.size) 16777216)
   (match aFill (fun i=>some (Nat.mul i ei.size,ei.size)) (rep (cellsOf z) len) parts with
    | some cs=>some (mkCells cs 0)
    | none=>none) none
  | _,_=>none
 | _=>none
noncomputable def wT(P:Program)(ty:TypeId)(l c:Value):Option (AObj×Nat×Nat):=
 match und P ty,natOf l,natOf c with
 | some (.slice e), some n, some m => match yT P e, inf? P e with
  | some z,some ei=>cond (Nat.ble 1 ei.size && Nat.beq (cellsOf z).length ei.size && Nat.ble n m && Nat.blt m 100000 && Nat.blt ei.bytes 100000)
   (some (mkCells (rep (cellsOf z) m) 0,n,m)) none
  | _,_=>none
 | _,_,_=>none
inductive Sh where
 | bad
 | scal
 | agg (n:Nat)
noncomputable def yM(P:Program)(t:TypeId):Sh:=
 match und P t,inf? P t with
 | some d,some i=>cond (aggT d) (.agg i.size) (cond (Nat.beq i.size 1) .scal .bad)
 | _,_=>.bad
inductive Ix where
 | bad
 | slice (size:Nat)
 | array (len size:Nat)
noncomputable def ixOf(P:Program)(t:TypeId):Ix:=
 match und P t with
 | some (.slice e)=>match inf? P e with
  | some ei=>.slice ei.size
  | none=>.bad
 | some (.array len e)=>match inf? P e with
  | some ei=>.array len ei.size
  | none=>.bad
 | _=>.bad
noncomputable def placesOf(P:Program):List Field→Option (List (Nat×Nat))
 | []=>some []
 | f::fs=>match inf? P f.type,placesOf P fs with
  | some i,some l=>some ((f.offset,i.size)::l)
  | _,_=>none
noncomputable def structPlaces(P:Program)(t:TypeId):Option (List (Nat×Nat)):=
 match und P t with
 | some (.struct fs)=>placesOf P fs.toList
 | _=>none
noncomputable def aBuild(P:Program)(t:TypeId)(parts:List (Nat×Value)):Option Value:=
 match yT P t with
 | none=>none
 | some z => match structPlaces P t with
  | some pl=>(aFill (fun i=>pl[i]?) (cellsOf z) parts).map fun cs=>.agg ⟨cs⟩
  | none=>match ixOf P t with
   | .array _ size=>(aFill (fun i=>some (Nat.mul i size,size)) (cellsOf z) parts).map fun cs=>.agg ⟨cs⟩
   | _=>none
noncomputable def offOf(P:Program)(t:TypeId)(f:Nat):Option Nat:=
 match und P t with
 | some (.struct fs) => match fs[f]? with
  | some fd=>match inf? P fd.type with
   | some i=>cond (Nat.beq i.size 0) none (some fd.offset)
   | none=>none
  | none=>none
 | _=>none
noncomputable def onInt{R:Type}(v:Value)(f:IntKind→Int→R)(d:R):R:=
 Value.rec (motive_1:=fun _=>(IntKind→Int→R)→R→R) (motive_2:=fun _=>Unit) (motive_3:=fun _=>Unit)
  (fun _ _ d=>d) (fun k n f _=>f k n) (fun _ _ _ d=>d) (fun _ _ _ _ d=>d) (fun _ _ d=>d) (fun _ _ d=>d) (fun _ _ _ _ d=>d) (fun _ _ d=>d) (fun _ _ d=>d) (fun _ _ _ _ _ _ d=>d) (fun _ d=>d) (fun _ _ _ _ d=>d) (fun _ d=>d) (fun _ _ _ d=>d) (fun _ _ _ d=>d)
  (fun _ _=>()) () (fun _ _ _ _=>()) v f d
noncomputable def onBool{R:Type}(v:Value)(f:Bool→R)(d:R):R:=
 Value.rec (motive_1:=fun _=>(Bool→R)→R→R) (motive_2:=fun _=>Unit) (motive_3:=fun _=>Unit)
  (fun b f _=>f b) (fun _ _ _ d=>d) (fun _ _ _ d=>d) (fun _ _ _ _ d=>d) (fun _ _ d=>d) (fun _ _ d=>d) (fun _ _ _ _ d=>d) (fun _ _ d=>d) (fun _ _ d=>d) (fun _ _ _ _ _ _ d=>d) (fun _ d=>d) (fun _ _ _ _ d=>d) (fun _ d=>d) (fun _ _ _ d=>d) (fun _ _ _ d=>d)
  (fun _ _=>()) () (fun _ _ _ _=>()) v f d
noncomputable def onPtr{R:Type}(v:Value)(f:Nat→Nat→R)(d:R):R:=
 Value.rec (motive_1:=fun _=>(Nat→Nat→R)→R→R) (motive_2:=fun _=>Unit) (motive_3:=fun _=>Unit)
  (fun _ _ d=>d) (fun _ _ _ d=>d) (fun _ _ _ d=>d) (fun _ _ _ _ d=>d) (fun _ _ d=>d) (fun a f d=>Option.rec d (fun a=>Addr.rec (motive:=fun _=>(Nat→Nat→R)→R→R) (fun b off sp f d=>Option.rec (f b off) (fun _=>d) sp) a f d) a) (fun _ _ _ _ d=>d) (fun _ _ d=>d) (fun _ _ d=>d) (fun _ _ _ _ _ _ d=>d) (fun _ d=>d) (fun _ _ _ _ d=>d) (fun _ d=>d) (fun _ _ _ d=>d) (fun _ _ _ d=>d)
  (fun _ _=>()) () (fun _ _ _ _=>()) v f d
noncomputable def onSlice{R:Type}(v:Value)(f:Nat→Nat→Nat→Nat→R)(d:R):R:=
 Value.rec (motive_1:=fun _=>(Nat→Nat→Nat→Nat→R)→R→R) (motive_2:=fun _=>Unit) (motive_3:=fun _=>Unit)
  (fun _ _ d=>d) (fun _ _ _ d=>d) (fun _ _ _ d=>d) (fun _ _ _ _ d=>d) (fun _ _ d=>d) (fun _ _ d=>d) (fun a n m f d=>Option.rec d (fun a=>Addr.rec (motive:=fun _=>Nat→Nat→(Nat→Nat→Nat→Nat→R)→R→R) (fun b off sp n m f d=>Option.rec (f b off n m) (fun _=>d) sp) a n m f d) a) (fun _ _ d=>d) (fun _ _ d=>d) (fun _ _ _ _ _ _ d=>d) (fun _ d=>d) (fun _ _ _ _ d=>d) (fun _ d=>d) (fun _ _ _ d=>d) (fun _ _ _ d=>d)
  (fun _ _=>()) () (fun _ _ _ _=>()) v f d
noncomputable def xA{R:Type}(v:Value)(k:Value→R):R:=
 Value.rec (motive_1:=fun _=>(Value→R)→R) (motive_2:=fun _=>Unit) (motive_3:=fun _=>Unit)
  (fun b k=>k (.bool b)) (fun n i k=>k (.int n i)) (fun a b k=>k (.float a b)) (fun a b c k=>k (.complex a b c)) (fun s k=>k (.string s)) (fun a k=>k (.pointer a)) (fun a n m k=>k (.slice a n m)) (fun r k=>k (.map r)) (fun r k=>k (.chan r)) (fun a b c _ _ k=>k (.func a b c)) (fun k=>k .nilFunc) (fun t v _ k=>k (.iface t v)) (fun k=>k .nilIface) (fun c _ k=>k (.agg c)) (fun c _ k=>k (.tuple c))
  (fun _ _=>()) () (fun _ _ _ _=>()) v k
noncomputable def forceOne(v:Value)(k:Value→Bool):Bool:=
 Value.rec (motive_1:=fun _=>(Value→Bool)→Bool) (motive_2:=fun _=>Unit) (motive_3:=fun _=>Unit)
  (fun b k=>k (.bool b)) (fun n i k=>k (.int n i)) (fun a b k=>k (.float a b)) (fun a b c k=>k (.complex a b c)) (fun s k=>k (.string s)) (fun a k=>k (.pointer a)) (fun a n m k=>k (.slice a n m)) (fun r k=>k (.map r)) (fun r k=>k (.chan r)) (fun a b c _ _ k=>k (.func a b c)) (fun k=>k .nilFunc) (fun t v _ k=>k (.iface t v)) (fun k=>k .nilIface) (fun _ _ _=>false) (fun _ _ _=>false)
  (fun _ _=>()) () (fun _ _ _ _=>()) v k
noncomputable def onCells{R:Type}(o:AObj)(f:Tr Value→Nat→Nat→Nat→R)(d:R):R:=
 AObj.rec (motive:=fun _=>(Tr Value→Nat→Nat→Nat→R)→R→R) (fun _ d=>d) (fun c n el kd f _=>f c n el kd) (fun _ _ _ d=>d) (fun _ _ _ d=>d) (fun _ _ d=>d) (fun _ _ _ _ _ d=>d) (fun _ _ _ d=>d) o f d
def isU:Value→Bool
 | .tuple _=>true
 | _=>false
noncomputable def uJ(v:Value):Option Value:=Bool.rec (xA v some) none (isU v)
noncomputable def knownL(l:List Value):Option (List Value):=Bool.rec (some l) none (l.any isU)
noncomputable def uK(l:List Value):Option Value:=Bool.rec (some (.agg ⟨l⟩)) none (l.any isU)
noncomputable def onRows{R:Type}(o:AObj)(f:Tr Value→Nat→R)(g:Tr Value→Nat→R)(d:R):R:=
 AObj.rec (motive:=fun _=>(Tr Value→Nat→R)→(Tr Value→Nat→R)→R→R) (fun _ _ d=>d) (fun c n _ _ f _ _=>f c n) (fun _ _ _ _ d=>d) (fun _ _ _ _ d=>d) (fun _ _ _ d=>d) (fun _ _ _ _ _ _ d=>d) (fun c n _ g _=>g c n) o f g d
end Go.Ex
