/- What the law leans on: an executor of the model that is sound, deduction over it, and the walks through the code (part 1 of 13). Conditions: those that each theorem states. -/
import GoSem.Step

set_option linter.unusedVariables false
set_option linter.unusedSimpArgs false
namespace Go.Ex
inductive Tr (α : Type) where
 | lF
 | nD (l:Tr α) (v: α) (r:Tr α)
namespace Tr
variable {α β : Type}
inductive Pa where
 | here
 | l (p:Pa)
 | r (p:Pa)
noncomputable def pa:Nat→Nat→Pa
 | 0,_=>.here
 | f+1,i=>Nat.rec .here (fun j _=>Bool.rec (.r (pa f (Nat.div j 2))) (.l (pa f (Nat.div j 2))) (Nat.beq (Nat.land j 1) 0)) i
noncomputable def getP(d: α)(p:Pa)(t:Tr α): α :=
 Pa.rec (motive:=fun _=>Tr α→α) (fun t=>Tr.rec d (fun _ v _ _ _=>v) t) (fun _ ih t=>Tr.rec d (fun l _ _ _ _=>ih l) t) (fun _ ih t=>Tr.rec d (fun _ _ r _ _=>ih r) t) p t
noncomputable def get(d: α)(t:Tr α)(i:Nat): α :=getP d (pa (Nat.succ i) i) t
noncomputable def setQ(d v: α):Pa→Tr α→Tr α
 | .here,.lF=>.nD .lF v .lF
 | .here,.nD l _ r=>.nD l v r
 | .l p,.lF=>.nD (setQ d v p .lF) d .lF
 | .l p,.nD l w r=>.nD (setQ d v p l) w r
 | .r p,.lF=>.nD .lF d (setQ d v p .lF)
 | .r p,.nD l w r=>.nD l w (setQ d v p r)
noncomputable def set(d v: α)(t:Tr α)(i:Nat):Tr α :=setQ d v (pa (Nat.succ i) i) t
noncomputable def setP(d v: α)(p:Pa)(t:Tr α)(k:Tr α→β): β :=
 Pa.rec (motive:=fun _=>Tr α→(Tr α→β)→β)
  (fun t k=>Tr.rec (k (.nD .lF v .lF)) (fun l _ r _ _=>k (.nD l v r)) t)
  (fun _ ih t k=>Tr.rec (ih .lF fun l=>k (.nD l d .lF)) (fun l w r _ _=>ih l fun l=>k (.nD l w r)) t)
  (fun _ ih t k=>Tr.rec (ih .lF fun r=>k (.nD .lF d r)) (fun l w r _ _=>ih r fun r=>k (.nD l w r)) t) p t k
noncomputable def setK(d v: α)(t:Tr α)(i:Nat)(k:Tr α→β): β :=setP d v (pa (Nat.succ i) i) t k
noncomputable def ofListFrom(d: α)(t:Tr α):Nat→List α→Tr α
 | _,[]=>t
 | i,v::l=>ofListFrom d (t.set d v i) (i+1) l
noncomputable def toListFrom(d: α)(t:Tr α):Nat→Nat→List α
 | _,0=>[]
 | i,n+1=>t.get d i::toListFrom d t (i+1) n
theorem setP_eq(d v: α)(p:Pa):∀(t:Tr α) (k:Tr α→β),setP d v p t k=k (setQ d v p t):=by
 induction p with
 | here=>intro t k;cases t <;> rfl
 | l p ih=>
  intro t k
  cases t with
  | lF=>exact ih .lF fun l=>k (.nD l d .lF)
  | nD l w r=>exact ih l fun l=>k (.nD l w r)
 | r p ih=>
  intro t k
  cases t with
  | lF=>exact ih .lF fun r=>k (.nD .lF d r)
  | nD l w r=>exact ih r fun r=>k (.nD l w r)
theorem setK_eq(d v: α)(t:Tr α)(i:Nat)(k:Tr α→β):setK d v t i k=k (set d v t i):=setP_eq d v _ t k
theorem getP_leaf(d: α)(p:Pa):getP d p .lF=d:=by cases p <;> rfl
theorem getP_setQ(d v: α)(p:Pa):∀(t:Tr α),getP d p (setQ d v p t)=v:=by
 induction p with
 | here=>intro t;cases t <;> rfl
 | l p ih=>
  intro t
  cases t with
  | lF=>exact ih .lF
  | nD l w r=>exact ih l
 | r p ih=>
  intro t
  cases t with
  | lF=>exact ih .lF
  | nD l w r=>exact ih r
theorem getP_setQ_ne(d v: α)(p:Pa):∀(q:Pa) (t:Tr α),p≠q→getP d q (setQ d v p t)=getP d q t:=by
 induction p with
 | here =>
  intro q t h
  cases q with
  | here=>exact absurd rfl h
  | l q=>cases t with
   | lF=>exact getP_leaf d q
   | nD l w r=>rfl
  | r q=>cases t with
   | lF=>exact getP_leaf d q
   | nD l w r=>rfl
 | l p ih =>
  intro q t h
  cases q with
  | here=>cases t <;> rfl
  | l q=>
   have h':p≠q:=fun e=>h (by rw[e])
   cases t with
   | lF=>exact(ih q .lF h').trans (getP_leaf d q)
   | nD l w r=>exact ih q l h'
  | r q=>cases t with
   | lF=>exact getP_leaf d q
   | nD l w r=>rfl
 | r p ih =>
  intro q t h
  cases q with
  | here=>cases t <;> rfl
  | l q=>cases t with
   | lF=>exact getP_leaf d q
   | nD l w r=>rfl
  | r q=>
   have h':p≠q:=fun e=>h (by rw[e])
   cases t with
   | lF=>exact(ih q .lF h').trans (getP_leaf d q)
   | nD l w r=>exact ih q r h'
theorem beq_land(j:Nat):Nat.beq (Nat.land j 1) 0=decide (j % 2=0):=by
 have h:Nat.land j 1=j % 2:=Nat.and_one_is_mod j;rw [h];rcases Nat.mod_two_eq_zero_or_one j with h|h <;> rw[h] <;> rfl
theorem pa_succ(f j:Nat):pa (f+1) (j+1)=if j % 2=0 then .l (pa f (j / 2)) else .r (pa f (j / 2)):=by
 show Bool.rec (motive:=fun _=>Pa) (.r (pa f (Nat.div j 2))) (.l (pa f (Nat.div j 2))) (Nat.beq (Nat.land j 1) 0)=_;rw [beq_land];by_cases h:j % 2=0
 · simp only[h,decide_true,if_true];rfl
 · simp only[h,decide_false,if_false];rfl
theorem pa_fuel(f:Nat):∀(g i:Nat),i<f→i<g→pa f i=pa g i:=by
 induction f with
 | zero=>intro g i h;omega
 | succ f ih =>
  intro g i hf hg
  cases g with
  | zero=>omega
  | succ g=>
   cases i with
   | zero=>rfl
   | succ j=>rw [pa_succ,pa_succ,ih g (j / 2) (by omega) (by omega)]
theorem pa_inj(f:Nat):∀(i j:Nat),i<f→j<f→pa f i=pa f j→i=j:=by
 induction f with
 | zero=>intro i j h;omega
 | succ f ih =>
  intro i j hi hj h
  cases i with
  | zero =>
   cases j with
   | zero=>rfl
   | succ j=>
    rw[pa_succ]at h;have h0:pa (f+1) 0 = .here:=rfl;rw [h0]at h;split at h <;> cases h
  | succ i =>
   cases j with
   | zero=>
    rw[pa_succ]at h;have h0:pa (f+1) 0 = .here:=rfl;rw [h0]at h;split at h <;> cases h
   | succ j=>
    rw[pa_succ,pa_succ]at h;split at h <;> split at h <;> first|cases h|skip
    · have e:=ih (i / 2) (j / 2) (by omega) (by omega) (by injection h);omega
    · have e:=ih (i / 2) (j / 2) (by omega) (by omega) (by injection h);omega
theorem pa_ne{i j:Nat}(h:i≠j):pa (Nat.succ i) i≠pa (Nat.succ j) j:=by
 intro e;rw [pa_fuel (i+1) (i+j+1) i (by omega) (by omega),pa_fuel (j+1) (i+j+1) j (by omega) (by omega)]at e;exact h (pa_inj (i+j+1) i j (by omega) (by omega) e)
theorem get_set(d v: α)(t:Tr α)(i:Nat):get d (set d v t i) i=v:=getP_setQ d v _ t
theorem get_set_ne(d v: α)(t:Tr α){i j:Nat}(h:i≠j):get d (set d v t i) j=get d t j:=getP_setQ_ne d v _ _ t (pa_ne h)
theorem get_set_if(d v: α)(t:Tr α)(i j:Nat):get d (set d v t i) j=if i=j then v else get d t j:=by
 by_cases h:i=j
 · subst h;simp [get_set]
 · simp[h,get_set_ne d v t h]
theorem get_leaf(d: α)(i:Nat):get d .lF i=d:=getP_leaf d _
theorem get_ofListFrom(d: α)(l:List α):∀(t:Tr α) (i j:Nat),get d (ofListFrom d t i l) j=if i≤j∧j<i+l.length then l.getD (j - i) d else get d t j:=by
 induction l with
 | nil=>intro t i j;simp [ofListFrom];omega
 | cons v l ih=>
  intro t i j;simp only[ofListFrom,ih,get_set_if,List.length_cons];by_cases h1:i=j
  · subst h1;have h2:¬(i+1≤i∧i<i+1+l.length):=by omega
    have h3:i≤i∧i<i+(l.length+1):=by omega
    rw[if_neg h2,if_pos h3];simp
  · by_cases h2:i+1≤j∧j<i+1+l.length
    · have h3:i≤j∧j<i+(l.length+1):=by omega
      simp only[h2,h3,and_self,if_true];have:j - i=(j - (i+1))+1:=by omega
      rw[this];rfl
    · have h3:¬(i≤j∧j<i+(l.length+1)):=by omega
      simp[h2,h3,h1]
theorem length_toListFrom(d: α)(t:Tr α):∀(n i:Nat),(toListFrom d t i n).length=n:=by
 intro n
 induction n with
 | zero=>intro i;rfl
 | succ n ih=>intro i;simp [toListFrom,ih]
theorem getElem?_toListFrom(d: α)(t:Tr α):∀(n i j:Nat),(toListFrom d t i n)[j]? = if j<n then some (get d t (i+j)) else none:=by
 intro n
 induction n with
 | zero=>intro i j;simp [toListFrom]
 | succ n ih =>
  intro i j
  cases j with
  | zero=>simp [toListFrom]
  | succ j=>
   simp only[toListFrom,List.getElem?_cons_succ,ih];have e:i+1+j=i+(j+1):=by omega
   by_cases h:j<n <;> simp[h,e]
end Tr
abbrev Fr:=Tr Value
def fr0:Fr:=.lF
noncomputable def fget(t:Fr)(i:Nat):Value:=Tr.get undef t i
noncomputable def fsetK{R:Type}(t:Fr)(i:Nat)(v:Value)(k:Fr→R):R:=Tr.setK undef v t i k
def inf:Nat:=1000000000000000000
inductive AObj where
 | dead
 | cells (c:Tr Value) (n:Nat) (z:Nat) (kd:Nat)
 | map (es:List MapEntry) (clock:Nat)
 | loop (l:Loop) (t:Fr)
 | deferred (ready:Bool)
 | siter (m:Option Nat) (since:Nat) (seen:List Nat) (last:Nat)
 | rows (c:Tr Value) (n:Nat)
abbrev zB:=Tr AObj
abbrev zE:=List PanicEntry
structure W where
 d:List Deferred
 u:Option zE
 h:zB
 n:Nat
structure Cx where
 fn:FuncId
 round:Option Nat
 df:Bool
inductive AX where
 | normal
 | exit (id:Nat)
 | goto (l:Nat)
 | ret
 | panic (c:zE)
inductive Out where
 | ret (v:Value)
 | panic (c:zE)
noncomputable def zF(h:zB)(b:Nat):AObj:=h.get .dead b
noncomputable def tget(t:Tr Value)(i:Nat):Value:=t.get undef i
noncomputable def ev(t:Fr)(x:Operand):Value:=
 Operand.rec (motive:=fun _=>Fr→Value) (fun i t=>fget t i) (fun v _=>v) (fun g _=>.pointer (some ⟨g,0,none⟩))
  (fun f _=>.func (.func f) #[] #[]) x t
noncomputable def tabFrom{α : Type}(t:Tr (Option α)):Nat→List α→Tr (Option α)
 | _,[]=>t
 | i,v::l=>tabFrom (t.set none (some v) i) (i+1) l
noncomputable def tyT(P:Program):Tr (Option TypeInfo):=tabFrom .lF 0 P.types.toList
noncomputable def fnT(P:Program):Tr (Option Func):=tabFrom .lF 0 P.funcs.toList
noncomputable def inf?(P:Program)(t:TypeId):Option TypeInfo:=Tr.get none (tyT P) t
noncomputable def und(P:Program)(t:TypeId):Option TypeDesc:=
 match inf? P t with
 | some i => match i.desc with
  | .named _ u=>match inf? P u with
   | some j=>some j.desc
   | none=>none
  | d=>some d
 | none=>none
noncomputable def ileB(x y:Int):Bool:=
 Int.rec (motive:=fun _=>Int→Bool)
  (fun a y=>Int.rec (motive:=fun _=>Nat→Bool) (fun b a=>Nat.ble a b) (fun _ _=>false) y a)
  (fun a y=>Int.rec (motive:=fun _=>Nat→Bool) (fun _ _=>true) (fun b a=>Nat.ble b a) y a) x y
noncomputable def ieqB(x y:Int):Bool:=
 Int.rec (motive:=fun _=>Int→Bool)
  (fun a y=>Int.rec (motive:=fun _=>Nat→Bool) (fun b a=>Nat.beq a b) (fun _ _=>false) y a)
  (fun a y=>Int.rec (motive:=fun _=>Nat→Bool) (fun _ _=>false) (fun b a=>Nat.beq b a) y a) x y
noncomputable def iltB(a b:Int):Bool:=Bool.rec true false (ileB b a)
noncomputable def subNN(m n:Nat):Int:=Bool.rec (.negSucc (Nat.pred (Nat.sub n m))) (.ofNat (Nat.sub m n)) (Nat.ble n m)
noncomputable def iadd(x y:Int):Int:=
 Int.rec (motive:=fun _=>Int→Int)
  (fun a y=>Int.rec (motive:=fun _=>Nat→Int) (fun b a=>.ofNat (Nat.add a b)) (fun b a=>subNN a (Nat.succ b)) y a)
  (fun a y=>Int.rec (motive:=fun _=>Nat→Int) (fun b a=>subNN b (Nat.succ a)) (fun b a=>.negSucc (Nat.succ (Nat.add a b))) y a) x y
noncomputable def isub(x y:Int):Int:=
 Int.rec (motive:=fun _=>Int→Int)
  (fun b x=>Int.rec (motive:=fun _=>Nat→Int) (fun a b=>subNN a b) (fun a b=>.negSucc (Nat.add a b)) x b)
  (fun b x=>Int.rec (motive:=fun _=>Nat→Int) (fun a b=>.ofNat (Nat.add a (Nat.succ b))) (fun a b=>subNN b a) x b) y x
noncomputable def wC(k:IntKind)(n:Int):Int:=
 match k with
 | .i64=>Int.rec (motive:=fun _=>Int) (fun m=>Bool.rec (IntKind.wrap .i64 (.ofNat m)) (.ofNat m) (Nat.blt m 9223372036854775808))
  (fun m=>Bool.rec (IntKind.wrap .i64 (.negSucc m)) (.negSucc m) (Nat.blt m 9223372036854775808)) n
 | .u64=>match n with
  | .ofNat m=>cond (Nat.blt m 18446744073709551616) n (k.wrap n)
  | .negSucc _=>k.wrap n
 | .u8=>match n with
  | .ofNat m=>cond (Nat.blt m 256) n (k.wrap n)
  | .negSucc _=>k.wrap n
 | _=>k.wrap n
def wE:List UInt8→List UInt8→Bool
 | [],[]=>true
 | a::x,b::y=>cond (Nat.beq a.toNat b.toNat) (wE x y) false
 | _,_=>false
def wN:IntKind→IntKind→Bool
 | .i8,.i8 | .i16,.i16 | .i32,.i32 | .i64,.i64 | .u8,.u8 | .u16,.u16 | .u32,.u32 | .u64,.u64=>true
 | _,_=>false
noncomputable def yX:Value→Value→Option Bool
 | .bool a,.bool b=>some (cond a b (!b))
 | .int k a,.int k' b=>cond (wN k k') (some (ieqB a b)) none
 | .string a,.string b=>some (wE a.data.toList b.data.toList)
 | _,_=>none
noncomputable def scalsEq:List Value→List Value→Option Bool
 | [],[]=>some true
 | a::x,b::y=>match yX a b with
  | some true=>scalsEq x y
  | some false=>some false
  | none=>none
 | _,_=>none
def bitNat(op:BinOp)(x y:Nat):Option Nat:=
 match op with
 | .and=>some (Nat.land x y)
 | .or=>some (Nat.lor x y)
 | .xor=>some (Nat.xor x y)
 | .andNot=>some (Nat.xor x (Nat.land x y))
 | _=>none
def bitLim:IntKind→Option Nat
 | .i64=>some 9223372036854775808
 | .u64=>some 18446744073709551616
 | .u32=>some 4294967296
 | .u16=>some 65536
 | .u8=>some 256
 | _=>none
noncomputable def aBits(op:BinOp)(k:IntKind)(a b:Int):Option Value:=
 match a,b,bitLim k with
 | .ofNat x,.ofNat y,some m=>cond (Nat.blt x m && Nat.blt y m) ((bitNat op x y).map fun r=>.int k (.ofNat r)) none
 | .negSucc x,.ofNat y,some m=>cond (Nat.blt x m && Nat.blt y m) (match op with
  | .and=>some (.int k (.ofNat (Nat.xor y (Nat.land y x))))
  | _=>none) none
 | _,_,_=>none
noncomputable def aArith(op:BinOp)(k:IntKind)(a b:Int):Option Value:=
 match op with
 | .add=>some (.int k (wC k (iadd a b)))
 | .sub=>some (.int k (wC k (isub a b)))
 | .mul=>some (.int k (wC k (Int.mul a b)))
 | .quo=>cond (ieqB b 0) none (some (.int k (wC k (Int.tdiv a b))))
 | .rem=>cond (ieqB b 0) none (some (.int k (Int.tmod a b)))
 | .eql=>some (.bool (ieqB a b))
 | .neq=>some (.bool (!ieqB a b))
 | .lss=>some (.bool (iltB a b))
 | .leq=>some (.bool (ileB a b))
 | .gtr=>some (.bool (iltB b a))
 | .geq=>some (.bool (ileB b a))
 | _=>aBits op k a b
noncomputable def aShift(op:BinOp)(k:IntKind)(a:Int)(b:Int):Option Value:=
 match b with
 | .ofNat m => cond (Nat.blt m k.bits) (match op with
  | .shl=>some (.int k (wC k (Int.mul a (.ofNat (Nat.pow 2 m)))))
  | .shr=>match a with
   | .ofNat x=>some (.int k (.ofNat (Nat.shiftRight x m)))
   | .negSucc x=>some (.int k (.negSucc (Nat.shiftRight x m)))
  | _=>none) none
 | _=>none
def isConst:Operand→Bool
 | .const _=>true
 | _=>false
def wF:TypeDesc→Value→Bool
 | .int k,.int k' _=>wN k k'
 | .string,.string _=>true
 | .bool,.bool _=>true
 | _,_=>false
def scalD:TypeDesc→Bool
 | .int _ | .string | .bool=>true
 | _=>false
noncomputable def eqItemsA(kd:TypeDesc)(n:Nat)(xs ys:List Value):List Nat→Option Bool
 | []=>some true
 | i :: is => match xs[Nat.mul i n]?, ys[Nat.mul i n]? with
  | some x,some y=>cond (wF kd x) (match yX x y with
   | some true=>eqItemsA kd n xs ys is
   | some false=>some false
   | none=>none) none
  | _,_=>none
noncomputable def eqFldsA(P:Program)(xs ys:List Value):List Field→Option Bool
 | []=>some true
 | f :: fs => match und P f.type, xs[f.offset]?, ys[f.offset]? with
  | some kd,some x,some y=>cond (wF kd x) (match yX x y with
   | some true=>eqFldsA P xs ys fs
   | some false=>some false
   | none=>none) none
  | _,_,_=>none
noncomputable def fldA(P:Program)(f:Field):Bool:=f.name != "_" && match und P f.type with
 | some kd=>scalD kd
 | none=>false
noncomputable def eqA(P:Program)(t:TypeId)(xs ys:List Value):Option Bool:=
 match und P t with
 | some (.struct fs)=>cond (fs.toList.all (fldA P) && !P.stoodInHeld t) (eqFldsA P xs ys fs.toList) none
 | some (.array len e)=>match und P e,inf? P e with
  | some kd,some ei=>cond (scalD kd) (eqItemsA kd ei.size xs ys (List.range len)) none
  | _,_=>none
 | _=>none
def xZ(d:TypeDesc)(x y:Value):Option Bool:=
 match d,x,y with
 | .bool,.bool a,.bool b=>some (cond a b (!b))
 | .interface _,.nilIface,.nilIface=>some true
 | .interface _,.nilIface,.iface _ _=>some false
 | .interface _,.iface _ _,.nilIface=>some false
 | .pointer _,.pointer none,.pointer none=>some true
 | .pointer _,.pointer none,.pointer (some _)=>some false
 | .pointer _,.pointer (some _),.pointer none=>some false
 | .slice _,.slice none _ _,.slice none _ _=>some true
 | .slice _,.slice none _ _,.slice (some _) _ _=>some false
 | .slice _,.slice (some _) _ _,.slice none _ _=>some false
 | .map _ _,.map none,.map none=>some true
 | .map _ _,.map none,.map (some _)=>some false
 | .map _ _,.map (some _),.map none=>some false
 | .func _ _ _,.nilFunc,.nilFunc=>some true
 | .func _ _ _,.nilFunc,.func _ _ _=>some false
 | .func _ _ _,.func _ _ _,.nilFunc=>some false
 | _,_,_=>none
def zO(ox oy:Operand)(x y:Value):Bool:=
 match x,y with
 | .nilIface,.nilIface=>isConst ox || isConst oy
 | .agg _,.agg _=>false
 | _,_=>true
noncomputable def aBin(P:Program)(op:BinOp)(t:TypeId)(ox oy:Operand)(x y:Value):Option Value:=
 match x,y with
 | .int k a,.int k' b=>match op with
  | .shl=>aShift .shl k a b
  | .shr=>aShift .shr k a b
  | op=>cond (wN k k') (aArith op k a b) none
 | .string a,.string b=>match op with
  | .eql=>some (.bool (wE a.data.toList b.data.toList))
  | .neq=>some (.bool (!wE a.data.toList b.data.toList))
  | .add=>cond (Nat.blt (Nat.add a.data.toList.length b.data.toList.length) 1000000) (some (.string ⟨⟨a.data.toList++b.data.toList⟩⟩)) none
  | _=>none
 | .agg a,.agg b=>match op with
  | .eql=>(eqA P t a.toList b.toList).map .bool
  | .neq=>(eqA P t a.toList b.toList).map fun r=>.bool (!r)
  | _=>none
 | x,y=>match op,und P t with
  | .eql,some d=>cond (zO ox oy x y) ((xZ d x y).map .bool) none
  | .neq,some d=>cond (zO ox oy x y) ((xZ d x y).map fun b=>.bool (!b)) none
  | _,_=>none
noncomputable def aUn(op:UnOp)(x:Value):Option Value:=
 match op,x with
 | .neg,.int k n=>some (.int k (wC k (isub 0 n)))
 | .not,.bool b=>some (.bool (!b))
 | _,_=>none
noncomputable def vH(P:Program)(dst:TypeId)(x:Value):Option Value:=
 match und P dst,x with
 | some (.int k),.int _ n=>some (.int k (wC k n))
 | some .string,.string _=>some x
 | _,_=>none
def xS:Nat→Nat→List Value→List Value
 | _,0,_=>[]
 | 0,n+1,l=>match l with
  | []=>[]
  | v::r=>v::xS 0 n r
 | i+1,n,l=>match l with
  | []=>[]
  | _::r=>xS i n r
def aggT:TypeDesc→Bool
 | .struct _ | .array _ _=>true
 | _=>false
noncomputable def aPart(P:Program)(t:TypeId)(cs:List Value)(off:Nat):Option Value:=
 match und P t,inf? P t with
 | some d,some i=>cond (aggT d) (cond (Nat.ble (Nat.add off i.size) cs.length) (some (.agg ⟨xS off i.size cs⟩)) none) (cs[off]?)
 | _,_=>none
def far(a:Addr)(n:Nat):Addr:=⟨a.block,Nat.add a.off n,none⟩
noncomputable def aLoad(P:Program)(h:zB)(t:TypeId)(x:Value):Option Value:=
 match x with
 | .pointer (some ⟨b, off, none⟩) =>
  match zF h b with
  | .cells c n _ _ => match und P t with
   | some d => cond (aggT d)
    (match inf? P t with
     | some i=>cond (Nat.ble (Nat.add off i.size) n) (some (.agg ⟨c.toListFrom undef off i.size⟩)) none
     | none=>none)
    (cond (Nat.blt off n) (some (tget c off)) none)
   | none=>none
  | _=>none
 | _=>none
noncomputable def aFieldAddr(P:Program)(s:TypeId)(x:Value)(f:Nat):Option Value:=
 match und P s,x with
 | some (.struct fs), .pointer (some ⟨b, off, none⟩) => match fs[f]? with
  | some fd=>match inf? P fd.type with
   | some i=>cond (Nat.beq i.size 0) none (some (.pointer (some ⟨b,Nat.add off fd.offset,none⟩)))
   | none=>none
  | none=>none
 | _,_=>none
noncomputable def aIndexAddr(P:Program)(t:TypeId)(x ix:Value):Option Value:=
 match ix with
 | .int _ (.ofNat i) => match und P t, x with
  | some (.slice e),.slice (some ⟨b,off,none⟩) len _=>match inf? P e with
   | some ei=>cond (Nat.blt i len) (some (.pointer (some ⟨b,Nat.add off (Nat.mul i ei.size),none⟩))) none
   | none=>none
  | some (.array len e),.pointer (some ⟨b,off,none⟩)=>match inf? P e with
   | some ei=>cond (Nat.blt i len) (some (.pointer (some ⟨b,Nat.add off (Nat.mul i ei.size),none⟩))) none
   | none=>none
  | _,_=>none
 | _=>none
noncomputable def dropK(n:Nat)(s:List UInt8):List UInt8:=Nat.rec (motive:=fun _=>List UInt8→List UInt8) (fun s=>s) (fun _ ih s=>List.rec [] (fun _ r _=>ih r) s) n s
noncomputable def dropBlk(s:List UInt8)(k:Nat):List UInt8:=Nat.rec s (fun _ r=>dropK 64 r) k
noncomputable def dropB(s:List UInt8)(i:Nat):List UInt8:=dropK (Nat.mod i 64) (dropBlk s (Nat.div i 64))
noncomputable def takeK(n:Nat)(s:List UInt8):List UInt8:=Nat.rec (motive:=fun _=>List UInt8→List UInt8) (fun _=>[]) (fun _ ih s=>List.rec [] (fun a r _=>a::ih r) s) n s
noncomputable def cutS(s:List UInt8)(i n:Nat):List UInt8:=takeK n (dropB s i)
noncomputable def nthB(s:List UInt8)(i:Nat):Option UInt8:=List.rec none (fun a _ _=>some a) (dropB s i)
theorem dropK_eq:∀(n:Nat) (s:List UInt8),dropK n s=s.drop n:=by
 intro n
 induction n with
 | zero=>intro s;rfl
 | succ n ih=>
  intro s
  cases s with
  | nil=>rfl
  | cons a r=>exact ih r
theorem dropBlk_eq(s:List UInt8):∀k,dropBlk s k=s.drop (64*k):=by
 intro k
 induction k with
 | zero=>rfl
 | succ k ih=>
  show dropK 64 (dropBlk s k)=_;rw [dropK_eq,ih,List.drop_drop];congr 1
theorem dropB_eq(s:List UInt8)(i:Nat):dropB s i=s.drop i:=by
 unfold dropB;rw [dropK_eq,dropBlk_eq,List.drop_drop];congr 1
 exact Nat.div_add_mod i 64
theorem takeK_eq:∀(n:Nat) (s:List UInt8),takeK n s=s.take n:=by
 intro n
 induction n with
 | zero=>intro s;rw [List.take_zero];rfl
 | succ n ih=>
  intro s
  cases s with
  | nil=>rfl
  | cons a r=>show a::takeK n r=_;rw [ih,List.take_succ_cons]
theorem cutS_eq(s:List UInt8)(i n:Nat):cutS s i n=(s.drop i).take n:=by unfold cutS;rw [takeK_eq,dropB_eq]
theorem nthB_eq(s:List UInt8)(i:Nat):nthB s i=s[i]? :=by
 unfold nthB;rw [dropB_eq];have:s[i]? = (s.drop i)[0]? :=by simp
 rw[this];cases s.drop i <;> rfl
noncomputable def aIndex(P:Program)(t:TypeId)(x ix:Value):Option Value:=
 match ix with
 | .int _ (.ofNat i) => match und P t, x with
  | some (.array len e),.agg cs=>match inf? P e with
   | some ei=>cond (Nat.blt i len) (aPart P e cs.toList (Nat.mul i ei.size)) none
   | none=>none
  | some .string,.string s=>match nthB s.data.toList i with
   | some b=>some (.int .u8 (.ofNat b.toNat))
   | none=>none
  | _,_=>none
 | _=>none
def natOf:Value→Option Nat
 | .int _ (.ofNat n)=>some n
 | _=>none
def zT(d:Nat)(most:Nat):Option Value→Option Nat
 | none=>some d
 | some v=>match natOf v with
  | some n=>cond (Nat.ble n most) (some n) none
  | none=>none
def wT(a:Addr)(len cap size:Nat)(lo hi mx:Option Value):Option Value:=
 match zT cap cap mx with
 | none=>none
 | some m => match zT len m hi with
  | none=>none
  | some h=>match zT 0 h lo with
   | none=>none
   | some l=>cond (Nat.blt m inf && Nat.ble h m) (some (.slice (some (cond (Nat.beq m l) a (far a (Nat.mul l size)))) (Nat.sub h l) (Nat.sub m l))) none
def aSliceOp(a:Addr)(len size:Nat)(lo hi mx:Option Value):Option Value:=
 match mx with
 | none => match zT len len hi with
  | none=>none
  | some h=>match zT 0 h lo with
   | none=>none
   | some l=>some (.slice (some (far a (Nat.mul l size))) (Nat.sub h l) inf)
 | some _ => match zT len len mx with
  | none=>none
  | some m => match zT m m hi with
   | none=>none
   | some h=>match zT 0 h lo with
    | none=>none
    | some l=>cond (Nat.blt m inf) (some (.slice (some (cond (Nat.beq m l) a (far a (Nat.mul l size)))) (Nat.sub h l) (Nat.sub m l))) none
def fullOK(hi mx:Option Value):Bool:=
 match mx,hi with
 | some _,none=>false
 | _,_=>true
noncomputable def zc(e s:Nat):Nat:=Nat.add (Nat.mul (Nat.add e s) (Nat.add e s)) e
theorem zc_inj{e s e' s':Nat}(h:zc e s=zc e' s'):e=e'∧s=s':=by
 have h':(e+s)*(e+s)+e=(e'+s')*(e'+s')+e':=h
 have key:∀{a b x y:Nat},a≤x→b≤y→x<y→x*x+a=y*y+b→False:=by
  intro a b x y ha hb hlt he;have h1:(x+1)*(x+1)≤y*y:=Nat.mul_le_mul hlt hlt;have h2:(x+1)*(x+1)=x*x+2*x+1:=by rw[Nat.add_mul,Nat.mul_add];omega
  omega
 have hs:e+s=e'+s':=by
  rcases Nat.lt_trichotomy (e+s) (e'+s') with h1|h1|h1
  · exact(key (by omega) (by omega) h1 h').elim
  · exact h1
  · exact(key (by omega) (by omega) h1 h'.symm).elim
 rw[hs]at h';omega
noncomputable def wS(P:Program)(hp:zB)(t:TypeId)(x:Value)(lo hi mx:Option Value):Option Value:=
 cond (fullOK hi mx) (match und P t,x with
  | some (.slice e),.slice none len cap=>cond (Nat.beq len 0 && Nat.beq cap 0) (match zT 0 0 mx,zT 0 0 hi,zT 0 0 lo,inf? P e with
   | some _,some _,some _,some _=>some (.slice none 0 0)
   | _,_,_,_=>none) none
  | some (.slice e), .slice (some ⟨b, off, none⟩) len cap => match inf? P e with
   | some ei => cond (Nat.beq cap inf)
    (match zF hp b with
     | .cells _ _ z 1=>cond (Nat.beq z (zc e ei.size) && Nat.ble 1 ei.size) (aSliceOp ⟨b,off,none⟩ len ei.size lo hi mx) none
     | _=>none)
    (wT ⟨b,off,none⟩ len cap ei.size lo hi mx)
   | none=>none
  | some (.array n e),.pointer (some ⟨b,off,none⟩)=>match inf? P e with
   | some ei=>wT ⟨b,off,none⟩ n n ei.size lo hi mx
   | none=>none
  | some (.pointer arr), .pointer (some ⟨b, off, none⟩) => match und P arr with
   | some (.array n e)=>match inf? P e with
    | some ei=>wT ⟨b,off,none⟩ n n ei.size lo hi mx
    | none=>none
   | _=>none
  | some .string, .string s => match mx with
   | some _=>none
   | none => match zT s.data.toList.length s.data.toList.length hi with
    | none=>none
    | some h=>match zT 0 h lo with
     | none=>none
     | some l=>some (.string ⟨⟨cutS s.data.toList l (Nat.sub h l)⟩⟩)
  | _,_=>none) none
def putAll(cs:List Value):Nat→List Value→List Value
 | _,[]=>cs
 | off,v::r=>putAll (cs.set off v) (off+1) r
def cellsOf:Value→List Value
 | .agg cs=>cs.toList
 | v=>[v]
def aFill(place:Nat→Option (Nat×Nat))(cells:List Value):List (Nat×Value)→Option (List Value)
 | []=>some cells
 | (i,v)::rest=>match place i with
  | none=>none
  | some (off,size)=>cond (Nat.beq (cellsOf v).length size && Nat.ble (Nat.add off size) cells.length) (aFill place (putAll cells off (cellsOf v)) rest) none
noncomputable def zZ(P:Program)(t:TypeId):Option Value:=match inf? P t with
 | some i=>i.zero
 | none=>none
noncomputable def aField(P:Program)(t:TypeId)(x:Value)(f:Nat):Option Value:=
 match und P t,x with
 | some (.struct fs),.agg cs=>match fs[f]? with
  | some fd=>aPart P fd.type cs.toList fd.offset
  | none=>none
 | _,_=>none
noncomputable def aLen(P:Program)(h:zB)(t:TypeId)(x:Value):Option Value:=
 match und P t,x with
 | some (.slice _),.slice _ n _=>some (.int .i64 (.ofNat n))
 | some .string,.string s=>some (.int .i64 (.ofNat s.data.toList.length))
 | some (.array n _),_=>some (.int .i64 (.ofNat n))
 | some (.map _ _),.map none=>some (.int .i64 (.ofNat 0))
 | some (.map _ _),.map (some r)=>match zF h r with
  | .map es _=>some (.int .i64 (.ofNat es.length))
  | _=>none
 | _,_=>none
noncomputable def aCap(P:Program)(t:TypeId)(x:Value):Option Value:=
 match und P t,x with
 | some (.slice _),.slice _ _ n=>cond (Nat.beq n inf) none (some (.int .i64 (.ofNat n)))
 | some (.array n _),_=>some (.int .i64 (.ofNat n))
 | _,_=>none
noncomputable def aMax(big:Bool):Value→List Value→Option Value
 | x,[]=>some x
 | .int k x,.int k' y::r=>cond (wN k k') (aMax big (.int k (cond (cond big (iltB x y) (iltB y x)) y x)) r) none
 | _,_=>none
noncomputable def keyEq:Value→Value→Option Bool
 | .agg a,.agg b=>scalsEq a.toList b.toList
 | x,y=>yX x y
noncomputable def keyT(P:Program)(kd:TypeDesc)(k:Value):Bool:=
 match kd,k with
 | .array len e,.agg cs=>match und P e,inf? P e with
  | some ed,some ei=>Nat.beq ei.size 1 && (Nat.beq cs.toList.length len && cs.toList.all (wF ed))
  | _,_=>false
 | kd,k=>wF kd k
noncomputable def vA(k:Value):List MapEntry→Nat→Option (Option (Nat×Value))
 | [],_=>some none
 | e::es,i=>match keyEq k e.key with
  | some true=>some (some (i,e.val))
  | some false=>vA k es (i+1)
  | none=>none
noncomputable def yH(P:Program)(h:zB)(t:TypeId)(x k:Value)(ok:Bool):Option Value:=
 match und P t with
 | some (.map kt et) => match und P kt, zZ P et with
  | some kd, some z => cond (keyT P kd k)
   (match x with
    | .map none=>some (cond ok (.tuple #[z,.bool false]) z)
    | .map (some r) => match zF h r with
     | .map es _=>match vA k es 0 with
      | some (some (_,v))=>some (cond ok (.tuple #[v,.bool true]) v)
      | some none=>some (cond ok (.tuple #[z,.bool false]) z)
      | none=>none
     | _=>none
    | _=>none) none
  | _,_=>none
 | _=>none
noncomputable def xB(P:Program)(x:Value)(asserted:TypeId)(ok:Bool):Option Value:=
 match und P asserted with
 | some (.interface _)=>none
 | some _ => match x with
  | .iface t v => cond (Nat.beq t asserted) (some (cond ok (.tuple #[v, .bool true]) v))
   (cond ok (match zZ P asserted with
    | some z=>some (.tuple #[z,.bool false])
    | none=>none) none)
  | .nilIface=>cond ok (match zZ P asserted with
   | some z=>some (.tuple #[z,.bool false])
   | none=>none) none
  | _=>none
 | none=>none
def rep(z:List Value):Nat→List Value
 | 0=>[]
 | n+1=>z++rep z n
noncomputable def mkCells(cs:List Value)(kd:Nat):AObj:=.cells (Tr.ofListFrom undef .lF 0 cs) cs.length 0 kd
noncomputable def mkCellsT(cs:List Value)(el:Nat):AObj:=.cells (Tr.ofListFrom undef .lF 0 cs) cs.length (Nat.succ el) 0
noncomputable def xC(P:Program)(ty:TypeId)(len:Nat)(parts:List (Nat×Value)):Option AObj:=
 match und P ty with
 | some (.slice e) => match zZ P e, inf? P e with
  | some z, some ei => cond (Nat.ble 1 ei.size && Nat.beq (cellsOf z).length ei.size && Nat.ble (Nat.mul len ei.size) 16777216)
   (match aFill (fun i=>some (Nat.mul i ei.size,ei.size)) (rep (cellsOf z) len) parts with
    | some cs=>some (mkCells cs 0)
    | none=>none) none
  | _,_=>none
 | _=>none
noncomputable def xE(P:Program)(ty:TypeId)(l c:Value):Option (AObj×Nat×Nat):=
 match und P ty,natOf l,natOf c with
 | some (.slice e), some n, some m => match zZ P e, inf? P e with
  | some z,some ei=>cond (Nat.ble 1 ei.size && Nat.beq (cellsOf z).length ei.size && Nat.ble n m && Nat.blt m 100000 && Nat.blt ei.bytes 100000)
   (some (mkCells (rep (cellsOf z) m) 0,n,m)) none
  | _,_=>none
 | _,_,_=>none
inductive Sh where
 | bad
 | scal
 | agg (n:Nat)
noncomputable def zY(P:Program)(t:TypeId):Sh:=
 match und P t,inf? P t with
 | some d,some i=>cond (aggT d) (.agg i.size) (cond (Nat.beq i.size 1) .scal .bad)
 | _,_=>.bad
inductive Ix where
 | bad
 | slice (size:Nat)
 | array (len size:Nat)
noncomputable def ixOf(P:Program)(t:TypeId):Ix:=
 match und P t with
 | some (.slice e)=>match inf? P e with
  | some ei=>.slice ei.size
  | none=>.bad
 | some (.array len e)=>match inf? P e with
  | some ei=>.array len ei.size
  | none=>.bad
 | _=>.bad
noncomputable def placesOf(P:Program):List Field→Option (List (Nat×Nat))
 | []=>some []
 | f::fs=>match inf? P f.type,placesOf P fs with
  | some i,some l=>some ((f.offset,i.size)::l)
  | _,_=>none
noncomputable def structPlaces(P:Program)(t:TypeId):Option (List (Nat×Nat)):=
 match und P t with
 | some (.struct fs)=>placesOf P fs.toList
 | _=>none
noncomputable def aBuild(P:Program)(t:TypeId)(parts:List (Nat×Value)):Option Value:=
 match zZ P t with
 | none=>none
 | some z => match structPlaces P t with
  | some pl=>(aFill (fun i=>pl[i]?) (cellsOf z) parts).map fun cs=>.agg ⟨cs⟩
  | none=>match ixOf P t with
   | .array _ size=>(aFill (fun i=>some (Nat.mul i size,size)) (cellsOf z) parts).map fun cs=>.agg ⟨cs⟩
   | _=>none
noncomputable def offOf(P:Program)(t:TypeId)(f:Nat):Option Nat:=
 match und P t with
 | some (.struct fs) => match fs[f]? with
  | some fd=>match inf? P fd.type with
   | some i=>cond (Nat.beq i.size 0) none (some fd.offset)
   | none=>none
  | none=>none
 | _=>none
noncomputable def onInt{R:Type}(v:Value)(f:IntKind→Int→R)(d:R):R:=
 Value.rec (motive_1:=fun _=>(IntKind→Int→R)→R→R) (motive_2:=fun _=>Unit) (motive_3:=fun _=>Unit)
  (fun _ _ d=>d) (fun k n f _=>f k n) (fun _ _ _ d=>d) (fun _ _ _ _ d=>d) (fun _ _ d=>d) (fun _ _ d=>d) (fun _ _ _ _ d=>d) (fun _ _ d=>d) (fun _ _ d=>d) (fun _ _ _ _ _ _ d=>d) (fun _ d=>d) (fun _ _ _ _ d=>d) (fun _ d=>d) (fun _ _ _ d=>d) (fun _ _ _ d=>d)
  (fun _ _=>()) () (fun _ _ _ _=>()) v f d
noncomputable def onBool{R:Type}(v:Value)(f:Bool→R)(d:R):R:=
 Value.rec (motive_1:=fun _=>(Bool→R)→R→R) (motive_2:=fun _=>Unit) (motive_3:=fun _=>Unit)
  (fun b f _=>f b) (fun _ _ _ d=>d) (fun _ _ _ d=>d) (fun _ _ _ _ d=>d) (fun _ _ d=>d) (fun _ _ d=>d) (fun _ _ _ _ d=>d) (fun _ _ d=>d) (fun _ _ d=>d) (fun _ _ _ _ _ _ d=>d) (fun _ d=>d) (fun _ _ _ _ d=>d) (fun _ d=>d) (fun _ _ _ d=>d) (fun _ _ _ d=>d)
  (fun _ _=>()) () (fun _ _ _ _=>()) v f d
noncomputable def onPtr{R:Type}(v:Value)(f:Nat→Nat→R)(d:R):R:=
 Value.rec (motive_1:=fun _=>(Nat→Nat→R)→R→R) (motive_2:=fun _=>Unit) (motive_3:=fun _=>Unit)
  (fun _ _ d=>d) (fun _ _ _ d=>d) (fun _ _ _ d=>d) (fun _ _ _ _ d=>d) (fun _ _ d=>d) (fun a f d=>Option.rec d (fun a=>Addr.rec (motive:=fun _=>(Nat→Nat→R)→R→R) (fun b off sp f d=>Option.rec (f b off) (fun _=>d) sp) a f d) a) (fun _ _ _ _ d=>d) (fun _ _ d=>d) (fun _ _ d=>d) (fun _ _ _ _ _ _ d=>d) (fun _ d=>d) (fun _ _ _ _ d=>d) (fun _ d=>d) (fun _ _ _ d=>d) (fun _ _ _ d=>d)
  (fun _ _=>()) () (fun _ _ _ _=>()) v f d
noncomputable def onSlice{R:Type}(v:Value)(f:Nat→Nat→Nat→Nat→R)(d:R):R:=
 Value.rec (motive_1:=fun _=>(Nat→Nat→Nat→Nat→R)→R→R) (motive_2:=fun _=>Unit) (motive_3:=fun _=>Unit)
  (fun _ _ d=>d) (fun _ _ _ d=>d) (fun _ _ _ d=>d) (fun _ _ _ _ d=>d) (fun _ _ d=>d) (fun _ _ d=>d) (fun a n m f d=>Option.rec d (fun a=>Addr.rec (motive:=fun _=>Nat→Nat→(Nat→Nat→Nat→Nat→R)→R→R) (fun b off sp n m f d=>Option.rec (f b off n m) (fun _=>d) sp) a n m f d) a) (fun _ _ d=>d) (fun _ _ d=>d) (fun _ _ _ _ _ _ d=>d) (fun _ d=>d) (fun _ _ _ _ d=>d) (fun _ d=>d) (fun _ _ _ d=>d) (fun _ _ _ d=>d)
  (fun _ _=>()) () (fun _ _ _ _=>()) v f d
noncomputable def yN{R:Type}(v:Value)(k:Value→R):R:=
 Value.rec (motive_1:=fun _=>(Value→R)→R) (motive_2:=fun _=>Unit) (motive_3:=fun _=>Unit)
  (fun b k=>k (.bool b)) (fun n i k=>k (.int n i)) (fun a b k=>k (.float a b)) (fun a b c k=>k (.complex a b c)) (fun s k=>k (.string s)) (fun a k=>k (.pointer a)) (fun a n m k=>k (.slice a n m)) (fun r k=>k (.map r)) (fun r k=>k (.chan r)) (fun a b c _ _ k=>k (.func a b c)) (fun k=>k .nilFunc) (fun t v _ k=>k (.iface t v)) (fun k=>k .nilIface) (fun c _ k=>k (.agg c)) (fun c _ k=>k (.tuple c))
  (fun _ _=>()) () (fun _ _ _ _=>()) v k
noncomputable def forceOne(v:Value)(k:Value→Bool):Bool:=
 Value.rec (motive_1:=fun _=>(Value→Bool)→Bool) (motive_2:=fun _=>Unit) (motive_3:=fun _=>Unit)
  (fun b k=>k (.bool b)) (fun n i k=>k (.int n i)) (fun a b k=>k (.float a b)) (fun a b c k=>k (.complex a b c)) (fun s k=>k (.string s)) (fun a k=>k (.pointer a)) (fun a n m k=>k (.slice a n m)) (fun r k=>k (.map r)) (fun r k=>k (.chan r)) (fun a b c _ _ k=>k (.func a b c)) (fun k=>k .nilFunc) (fun t v _ k=>k (.iface t v)) (fun k=>k .nilIface) (fun _ _ _=>false) (fun _ _ _=>false)
  (fun _ _=>()) () (fun _ _ _ _=>()) v k
noncomputable def onCells{R:Type}(o:AObj)(f:Tr Value→Nat→Nat→Nat→R)(d:R):R:=
 AObj.rec (motive:=fun _=>(Tr Value→Nat→Nat→Nat→R)→R→R) (fun _ d=>d) (fun c n el kd f _=>f c n el kd) (fun _ _ _ d=>d) (fun _ _ _ d=>d) (fun _ _ d=>d) (fun _ _ _ _ _ d=>d) (fun _ _ _ d=>d) o f d
def isU:Value→Bool
 | .tuple _=>true
 | _=>false
noncomputable def vN(v:Value):Option Value:=Bool.rec (yN v some) none (isU v)
noncomputable def knownL(l:List Value):Option (List Value):=Bool.rec (some l) none (l.any isU)
noncomputable def vO(l:List Value):Option Value:=Bool.rec (some (.agg ⟨l⟩)) none (l.any isU)
noncomputable def onRows{R:Type}(o:AObj)(f:Tr Value→Nat→R)(g:Tr Value→Nat→R)(d:R):R:=
 AObj.rec (motive:=fun _=>(Tr Value→Nat→R)→(Tr Value→Nat→R)→R→R) (fun _ _ d=>d) (fun c n _ _ f _ _=>f c n) (fun _ _ _ _ d=>d) (fun _ _ _ _ d=>d) (fun _ _ _ d=>d) (fun _ _ _ _ _ _ d=>d) (fun c n _ g _=>g c n) o f g d
end Go.Ex
namespace Go.Ex
abbrev KV:=W→Value→Bool
abbrev KP:=zE→W→Bool
abbrev KX:=AX→Fr→W→Bool
abbrev KO:=Out→Option zE→zB→Nat→Bool
structure Lo where
 code:Code→Cx→Fr→W→KX→Bool
 call:FuncId→List Value→Bool→Option zE→zB→Nat→KO→Bool
 round:Nat→List Value→zB→Nat→(Out→zB→Nat→Bool)→Bool
 leave:Func→Option zE→Fr→W→KO→Bool
def Lo.bot:Lo:=⟨fun _ _ _ _ _=>false,fun _ _ _ _ _ _ _=>false,fun _ _ _ _ _=>false,fun _ _ _ _ _=>false⟩
noncomputable def yW(c:Tr Value)(i:Nat)(l:List Value)(k:Tr Value→Bool):Bool:=
 List.rec (motive:=fun _=>Tr Value→Nat→(Tr Value→Bool)→Bool) (fun c _ k=>k c)
  (fun v _ ih c i k=>forceOne v fun v=>c.setK undef v i fun c'=>ih c' (Nat.succ i) k) l c i k
noncomputable def storeAt(h:zB)(b off:Nat)(vs:List Value)(k:zB→Bool):Bool:=
 onCells (zF h b) (fun c n z kd=>Bool.rec (Bool.rec false (yW c off vs fun c'=>h.setK .dead (.cells c' n z kd) b k) (Nat.ble (Nat.add off vs.length) n)) false (Nat.beq kd 2)) false
noncomputable def rowOf(h:zB)(size n:Nat):Value→Option (List Value)
 | .slice none _ _=>cond (Nat.beq n 0) (some []) none
 | .slice (some ⟨b,off,none⟩) len _=>match zF h b with
  | .cells c kn _ _=>cond (Nat.ble n len && Nat.ble (Nat.add off (Nat.mul n size)) kn) (some (c.toListFrom undef off (Nat.mul n size))) none
  | .rows c kn=>cond (Nat.ble n len && Nat.ble (Nat.add off (Nat.mul n size)) kn) (knownL (c.toListFrom undef off (Nat.mul n size))) none
  | _=>none
 | .string s=>some ((s.data.toList.take n).map fun b=>.int .u8 (.ofNat b.toNat))
 | _=>none
def lenV:Value→Option Nat
 | .slice _ n _=>some n
 | .string s=>some s.data.toList.length
 | _=>none
def strFits(size:Nat):Value→Bool
 | .string _=>Nat.beq size 1
 | _=>true
noncomputable def zL(h:zB)(n:Nat)(o:AObj)(k:zB→Nat→Bool):Bool:=h.setK .dead o n fun h'=>k h' (Nat.succ n)
noncomputable def xF(P:Program)(h:zB)(e:TypeId)(size:Nat)(xd:TypeDesc)(x:Value):Option (Nat×List Value):=
 match xd with
 | .int _=>match natOf x,zZ P e with
  | some m,some z=>cond (Nat.blt m 100000 && Nat.beq (cellsOf z).length size) (some (m,rep (cellsOf z) m)) none
  | _,_=>none
 | _ => match lenV x with
  | some m=>cond (strFits size x) (match rowOf h size m x with
   | some l=>some (m,l)
   | none=>none) none
  | none=>none
noncomputable def growOpen(h:zB)(n b sLen m size zz:Nat)(new:List Value)(k:Value→zB→Nat→Bool):Bool:=
 match zF h b with
 | .cells c kn z 1 => cond (Nat.beq z zz)
  (cond (Nat.ble (Nat.mul (Nat.add sLen m) size) kn)
   (storeAt h b (Nat.mul sLen size) new fun h'=>k (.slice (some ⟨b,0,none⟩) (Nat.add sLen m) inf) h' n)
   (cond (Nat.ble (Nat.mul sLen size) kn)
    (yW c (Nat.mul sLen size) new fun c'=>h.setK .dead .dead b fun h1=>
     zL h1 n (.cells c' (Nat.mul (Nat.add sLen m) size) z 1) fun h' n'=>k (.slice (some ⟨n,0,none⟩) (Nat.add sLen m) inf) h' n')
    false)) false
 | _=>false
noncomputable def growEx(h:zB)(n:Nat)(base:Option Addr)(sLen cap m size zz:Nat)(new:List Value)(k:Value→zB→Nat→Bool):Bool:=
 cond (Nat.ble (Nat.add sLen m) cap)
  (match base with
   | some ⟨b,off,none⟩=>storeAt h b (Nat.add off (Nat.mul sLen size)) new fun h'=>k (.slice base (Nat.add sLen m) cap) h' n
   | none=>cond (Nat.beq m 0) (k (.slice base sLen cap) h n) false
   | _=>false)
  (match rowOf h size sLen (.slice base sLen cap) with
   | some old=>yW .lF 0 (old++new) fun c=>zL h n (.cells c (Nat.mul (Nat.add sLen m) size) zz 1) fun h' n'=>k (.slice (some ⟨n,0,none⟩) (Nat.add sLen m) inf) h' n'
   | none=>false)
noncomputable def xappend(P:Program)(tys:List TypeId)(args:List Value)(h:zB)(n:Nat)(k:Value→zB→Nat→Bool):Bool:=
 match tys,args with
 | sT :: xT :: _, .slice base sLen cap :: x :: _ =>
  match und P sT,und P xT with
  | some (.slice e), some xd => match inf? P e, zZ P e with
   | some ei, some z => match xF P h e ei.size xd x with
    | none=>false
    | some (m, new) => cond (Nat.beq ei.size 0 || !Nat.beq (cellsOf z).length ei.size || !Nat.blt (Nat.add sLen m) 1000000 || !Nat.blt ei.bytes 100000) false <|
     cond (Nat.beq m 0 && !Nat.beq cap 0 && (Nat.beq cap inf || Nat.ble sLen cap)) (k (.slice base sLen cap) h n) <| cond (Nat.beq cap inf)
     (match base with
      | some ⟨b,0,none⟩=>growOpen h n b sLen m ei.size (zc e ei.size) new k
      | _=>false)
     (growEx h n base sLen cap m ei.size (zc e ei.size) new k)
   | _,_=>false
  | _,_=>false
 | _,_=>false
noncomputable def xclear(P:Program)(tys:List TypeId)(args:List Value)(h:zB)(k:zB→Bool):Bool:=
 match tys,args with
 | t :: _, x :: _ => match und P t, x with
  | some (.slice _),.slice none _ _=>k h
  | some (.slice e),.slice (some ⟨b,off,none⟩) n _=>match zZ P e with
   | some z=>cond (Nat.beq n 0) (k h) (storeAt h b off (rep (cellsOf z) n) k)
   | none=>false
  | _,_=>false
 | _,_=>false
def putE(k v:Value):Nat→List MapEntry→List MapEntry
 | _,[]=>[]
 | 0,e::es=>{ e with key:=k,val:=v }::es
 | i+1,e::es=>e::putE k v i es
def dropE:Nat→List MapEntry→List MapEntry
 | _,[]=>[]
 | 0,_::es=>es
 | i+1,e::es=>e::dropE i es
noncomputable def xG(P:Program)(t:TypeId)(x key v:Value)(h:zB)(k:zB→Bool):Bool:=
 match und P t,x with
 | some (.map kt _), .map (some r) => match und P kt, zF h r with
  | some kd, .map es clock => cond (keyT P kd key)
   (match vA key es 0 with
    | some (some (i,_))=>h.setK .dead (.map (putE key v i es) clock) r k
    | some none=>h.setK .dead (.map (es++[{ key,val:=v,born:=clock }]) (Nat.succ clock)) r k
    | none=>false) false
  | _,_=>false
 | _,_=>false
noncomputable def xdelete(P:Program)(tys:List TypeId)(args:List Value)(h:zB)(k:zB→Bool):Bool:=
 match tys,args with
 | t :: _, x :: key :: _ => match und P t, x with
  | some (.map kt _),.map none=>match und P kt with
   | some kd=>cond (keyT P kd key) (k h) false
   | none=>false
  | some (.map kt _), .map (some r) => match und P kt, zF h r with
   | some kd, .map es clock => cond (keyT P kd key)
    (match vA key es 0 with
     | some (some (i,_))=>h.setK .dead (.map (dropE i es) clock) r k
     | some none=>h.setK .dead (.map es clock) r k
     | none=>false) false
   | _,_=>false
  | _,_=>false
 | _,_=>false
noncomputable def xinvoke(lo:Lo)(f:Value)(args:List Value)(h:zB)(n:Nat)(k:Value→zB→Nat→Bool)(kp:zE→zB→Nat→Bool):Bool:=
 match f with
 | .func (.func g) first cap=>lo.call g (first.toList++(args++cap.toList)) false none h n fun o _ h n=>Out.rec (fun v=>k v h n) (fun c=>kp c h n) o
 | .func (.yield l) first _=>lo.round l (first.toList++args) h n fun o h n=>Out.rec (fun v=>k v h n) (fun c=>kp c h n) o
 | _=>false
noncomputable def intOp(op:BinOp)(kd:IntKind)(a b:Int)(slow:Option Value):Option Value:=
 BinOp.rec (motive:=fun _=>IntKind→Int→Int→Option Value→Option Value)
  (fun kd a b _=>Int.rec (fun m=>some (.int kd (.ofNat m))) (fun m=>some (.int kd (.negSucc m))) (wC kd (iadd a b)))
  (fun kd a b _=>Int.rec (fun m=>some (.int kd (.ofNat m))) (fun m=>some (.int kd (.negSucc m))) (wC kd (isub a b)))
  (fun _ _ _ s=>s) (fun _ _ _ s=>s) (fun _ _ _ s=>s) (fun _ _ _ s=>s) (fun _ _ _ s=>s) (fun _ _ _ s=>s) (fun _ _ _ s=>s) (fun _ _ _ s=>s) (fun _ _ _ s=>s)
  (fun _ a b _=>some (.bool (ieqB a b)))
  (fun _ a b _=>some (.bool (Bool.rec true false (ieqB a b))))
  (fun _ a b _=>some (.bool (iltB a b)))
  (fun _ a b _=>some (.bool (ileB a b)))
  (fun _ a b _=>some (.bool (iltB b a)))
  (fun _ a b _=>some (.bool (ileB b a))) op kd a b slow
noncomputable def binV(P:Program)(op:BinOp)(ty:TypeId)(ox oy:Operand)(x y:Value):Option Value:=
 onInt x (fun k1 a=>onInt y (fun k2 b=>Bool.rec (aBin P op ty ox oy x y) (intOp op k1 a b (aBin P op ty ox oy x y)) (wN k1 k2))
  (aBin P op ty ox oy x y)) (aBin P op ty ox oy x y)
noncomputable def quietB(P:Program)(b:Builtin)(tys:List TypeId)(args:List Value)(h:zB):Option Value:=
 match b with
 | .len=>match args,tys with
  | x::_,ty::_=>aLen P h ty x
  | _,_=>none
 | .cap=>match args,tys with
  | x::_,ty::_=>aCap P ty x
  | _,_=>none
 | .max=>match args with
  | x::r=>aMax true x r
  | _=>none
 | .min=>match args with
  | x::r=>aMax false x r
  | _=>none
 | _=>none
noncomputable def builtinK(P:Program)(cx:Cx)(b:Builtin)(tys:List TypeId)(args:List Value)(w:W)(k:KV):Bool:=
 match w with
 | ⟨d, u, h, n⟩ => match b with
  | .append=>xappend P tys args h n fun v h n=>k ⟨d,u,h,n⟩ v
  | .clear=>xclear P tys args h fun h=>k ⟨d,u,h,n⟩ (.tuple #[])
  | .delete=>xdelete P tys args h fun h=>k ⟨d,u,h,n⟩ (.tuple #[])
  | .recover => match cx.round with
   | some _=>false
   | none => cond cx.df
    (match u with
     | some (⟨v,false,false⟩::older)=>k ⟨d,some (⟨v,true,false⟩::older),h,n⟩ v
     | none=>k ⟨d,u,h,n⟩ .nilIface
     | _=>false)
    (k ⟨d,u,h,n⟩ .nilIface)
  | _=>false
noncomputable def yO(o:Op)(P:Program)(t:Fr)(h:zB):Option Value:=
 Op.rec (motive:=fun _=>Program→Fr→zB→Option Value)
  (fun x _ t _=>yN (ev t x) some)
  (fun x _ t _=>yN (ev t x) some)
  (fun c x y _ t _=>onBool (ev t c) (fun b=>yN (Bool.rec (ev t y) (ev t x) b) some) none)
  (fun _ _ _ _=>none) (fun _ _ _ _ _=>none)
  (fun ty parts P t _=>aBuild P ty (parts.toList.map fun p=>(p.1,ev t p.2)))
  (fun _ _ _ _ _ _=>none) (fun _ _ _ _ _ _ _=>none)
  (fun ty x P t h=>onPtr (ev t x) (fun b off=>onRows (zF h b) (fun c kn=>
   Sh.rec none (Bool.rec none (yN (Tr.get undef c off) some) (Nat.blt off kn))
    (fun sz=>Bool.rec none (some (.agg ⟨c.toListFrom undef off sz⟩)) (Nat.ble (Nat.add off sz) kn)) (zY P ty)) (fun c kn=>
   Sh.rec none (Bool.rec none (vN (Tr.get undef c off)) (Nat.blt off kn))
    (fun sz=>Bool.rec none (vO (c.toListFrom undef off sz)) (Nat.ble (Nat.add off sz) kn)) (zY P ty)) none) none)
  (fun _ _ _ _ _ _=>none) (fun _ _ _ _=>none) (fun _ _ _ _=>none)
  (fun x _ t _=>match ev t x with
   | .pointer (some p)=>some (.pointer (some p))
   | .func (.func f) fs cs=>some (.func (.func f) fs cs)
   | .func (.yield f) fs cs=>some (.func (.yield f) fs cs)
   | .map r=>some (.map r)
   | .slice p i c=>some (.slice p i c)
   | _=>none)
  (fun op ty x y _ P t _=>binV P op ty x y (ev t x) (ev t y))
  (fun op _ x _ t _=>aUn op (ev t x))
  (fun src dst x P t _=>match und P src with
   | some _=>vH P dst (ev t x)
   | none=>none)
  (fun _ _ _ _ _=>none)
  (fun ty x P t _=>match und P ty with
   | some (.interface _)=>none
   | some _=>yN (ev t x) fun v=>some (.iface ty v)
   | none=>none)
  (fun fn first cap _ t _=>match fn with
   | .func f=>some (.func (.func f) ⟨first.toList.map (ev t)⟩ ⟨cap.toList.map (ev t)⟩)
   | _=>none)
  (fun _ _ _ _ _=>none) (fun _ _ _ _ _=>none) (fun _ _ _ _ _ _=>none)
  (fun ty x lo hi mx P t h=>wS P h ty (ev t x) (lo.map (ev t)) (hi.map (ev t)) (mx.map (ev t)))
  (fun ty x f P t _=>onPtr (ev t x) (fun b off=>Option.rec none (fun o=>some (.pointer (some ⟨b,Nat.add off o,none⟩))) (offOf P ty f)) none)
  (fun ty x f P t _=>aField P ty (ev t x) f)
  (fun ty x ix P t _=>onInt (ev t ix) (fun _ i=>Int.rec (fun i=>Ix.rec none
   (fun sz=>onSlice (ev t x) (fun b off len _=>Bool.rec none (some (.pointer (some ⟨b,Nat.add off (Nat.mul i sz),none⟩))) (Nat.blt i len)) none)
   (fun len sz=>onPtr (ev t x) (fun b off=>Bool.rec none (some (.pointer (some ⟨b,Nat.add off (Nat.mul i sz),none⟩))) (Nat.blt i len)) none) (ixOf P ty)) (fun _=>none) i) none)
  (fun ty x ix P t _=>aIndex P ty (ev t x) (ev t ix))
  (fun ty x key ok P t h=>yH P h ty (ev t x) (ev t key) ok)
  (fun _ _ _ _ _ _ _=>none) (fun _ _ _ _ _ _=>none) (fun _ _ _ _ _ _ _=>none) (fun _ _ _ _ _=>none) (fun _ _ _ _ _=>none) (fun _ _ _ _=>none)
  (fun x _ asserted ok P t _=>xB P (ev t x) asserted ok)
  (fun x i _ t _=>match ev t x with
   | .tuple vs=>Option.rec none (fun v=>yN v some) (vs.toList[i]?)
   | _=>none)
  (fun c P t h=>Call.rec (fun callee args tys=>Callee.rec (fun _=>none) (fun _ _=>none) (fun b=>quietB P b tys.toList (args.toList.map (ev t)) h) callee) c)
  (fun _ _ _ _=>none) (fun _ _ _ _=>none) (fun _ _ _ _=>none) (fun _ _ _ _ _=>none) (fun _ _ _ _ _ _=>none) (fun _ _ _ _ _=>none) o P t h
noncomputable def nextE(es:List MapEntry)(seen:List Nat)(since:Nat):Option (Option MapEntry):=
 match es.filter fun e=> !(seen.any fun b=>Nat.beq b e.born) with
 | []=>some none
 | [e]=>cond (Nat.blt e.born since) (some (some e)) none
 | _=>none
noncomputable def keyPlain:Value→Bool
 | .agg cs=>cs.toList.all fun v=>match v with
  | .bool _ | .int _ _ | .string _=>true
  | _=>false
 | .bool _ | .int _ _ | .string _=>true
 | _=>false
noncomputable def xrangeM(P:Program)(ty:TypeId)(x:Value)(h:zB)(n:Nat)(k:Value→zB→Nat→Bool):Bool:=
 match und P ty,x with
 | some (.map _ _),.map none=>zL h n (.siter none 0 [] 0) fun h' n'=>k (.pointer (some ⟨n,0,none⟩)) h' n'
 | some (.map _ _),.map (some r)=>match zF h r with
  | .map _ clock=>zL h n (.siter (some r) clock [] clock) fun h' n'=>k (.pointer (some ⟨n,0,none⟩)) h' n'
  | _=>false
 | _,_=>false
noncomputable def xnextM(x:Value)(h:zB)(k:Value→zB→Bool):Bool:=
 match x with
 | .pointer (some ⟨b, 0, none⟩) => match zF h b with
  | .siter none _ _ _=>k (.tuple ⟨[.bool false]⟩) h
  | .siter (some m) since seen last => match zF h m with
   | .map es clock => cond ((!seen.isEmpty && !es.isEmpty) && es.all fun e => Nat.ble last e.born) false
    (match nextE es seen since with
     | some none=>k (.tuple ⟨[.bool false]⟩) h
     | some (some e)=>cond (keyPlain e.key) (h.setK .dead (.siter (some m) since (seen++[e.born]) clock) b fun h'=>k (.tuple ⟨[.bool true,e.key,e.val]⟩) h') false
     | none=>false)
   | _=>false
  | _=>false
 | _=>false
noncomputable def xentryM(x:Value)(h:zB)(k:Value→Bool):Bool:=
 match x with
 | .pointer (some ⟨b, 0, none⟩) => match zF h b with
  | .siter (some m) _ seen last => match zF h m, seen.getLast? with
   | .map es clock,some st=>cond (Nat.beq clock last) (match es.find? fun e=>Nat.beq e.born st with
    | some e=>cond (keyPlain e.key) (k (.tuple ⟨[e.key,e.val]⟩)) false
    | none=>false) false
   | _,_=>false
  | _=>false
 | _=>false
abbrev HV:=Program→Lo→Cx→Fr→W→KV→KP→Bool
noncomputable def yR(w:W)(f:zB→Nat→(zB→Nat→W)→Bool):Bool:=W.rec (fun d u h n=>f h n (W.mk d u)) w
noncomputable def eff(o:Op):HV:=
 match o with
 | .alloc el=>fun P _ _ _ w k _=>yR w fun h n mk=>Option.rec false (fun z=>zL h n (mkCellsT (cellsOf z) el) fun h' n'=>k (mk h' n') (.pointer (some ⟨n,0,none⟩))) (zZ P el)
 | .box el x=>fun _ _ _ t w k _=>yR w fun h n mk=>yW .lF 0 (cellsOf (ev t x)) fun c=>
  zL h n (.cells c (cellsOf (ev t x)).length (Nat.succ el) 0) fun h' n'=>k (mk h' n') (.pointer (some ⟨n,0,none⟩))
 | .buildSlice ty len parts=>fun P _ _ t w k _=>yR w fun h n mk=>Option.rec false (fun ob=>zL h n ob fun h' n'=>k (mk h' n') (.slice (some ⟨n,0,none⟩) len len))
  (xC P ty len (parts.toList.map fun p=>(p.1,ev t p.2)))
 | .insert ty m key v=>fun P _ _ t w k _=>yR w fun h n mk=>xG P ty (ev t m) (ev t key) (ev t v) h fun h=>k (mk h n) undef
 | .store ty x v=>fun P _ _ t w k _=>yR w fun h n mk=>onPtr (ev t x) (fun b off=>Sh.rec false
  (Bool.rec false (storeAt h b off (cellsOf (ev t v)) fun h'=>k (mk h' n) undef) (Nat.beq (cellsOf (ev t v)).length 1))
  (fun sz=>Bool.rec false (storeAt h b off (cellsOf (ev t v)) fun h'=>k (mk h' n) undef) (Nat.beq (cellsOf (ev t v)).length sz)) (zY P ty)) false
 | .makeMap _ r=>fun _ _ _ _ w k _=>yR w fun h n mk=>match r with
  | none=>zL h n (.map [] 0) fun h' n'=>k (mk h' n') (.map (some n))
  | some _=>false
 | .makeSlice ty l c=>fun P _ _ t w k _=>yR w fun h n mk=>match xE P ty (ev t l) (ev t c) with
  | some (ob,i,m)=>zL h n ob fun h' n'=>k (mk h' n') (.slice (some ⟨n,0,none⟩) i m)
  | none=>false
 | .mapUpdate ty m key v=>fun P _ _ t w k _=>yR w fun h n mk=>xG P ty (ev t m) (ev t key) (ev t v) h fun h=>k (mk h n) undef
 | .range ty x=>fun P _ _ t w k _=>yR w fun h n mk=>xrangeM P ty (ev t x) h n fun v h n=>k (mk h n) v
 | .next x s=>fun _ _ _ t w k _=>yR w fun h n mk=>cond s false (xnextM (ev t x) h fun v h=>k (mk h n) v)
 | .entry x=>fun _ _ _ t w k _=>yR w fun h n mk=>xentryM (ev t x) h fun v=>k (mk h n) v
 | .call c=>fun P lo cx t w k kp=>Call.rec (fun callee args tys=>Callee.rec
  (fun f=>yR w fun h n mk=>xinvoke lo (ev t f) (args.toList.map (ev t)) h n (fun v h n=>k (mk h n) v) (fun c h n=>kp c (mk h n)))
  (fun _ _=>false)
  (fun b=>builtinK P cx b tys.toList (args.toList.map (ev t)) w k) callee) c
 | .defer c => fun _ _ cx t w k _ => match c, cx.round, w with
  | ⟨.value f,args,_⟩,none,⟨d,u,h,n⟩=>match ev t f with
   | .func (.func g) first cap=>k ⟨{ target:=.fn (.func g) cap,args:=⟨first.toList++args.toList.map (ev t)⟩ }::d,u,h,n⟩ undef
   | _=>false
  | _,_,_=>false
 | .panic x=>fun _ _ _ t w _ kp=>match ev t x with
  | .iface ty v=>kp [⟨.iface ty v,false,false⟩] w
  | _=>false
 | _=>fun _ _ _ _ _ _ _=>false
noncomputable def putT(t:Fr)(dst:Option Tmp)(v:Value)(k:Fr→Bool):Bool:=
 Option.rec (k t) (fun i=>fsetK t i v k) dst
def dstOf(ops:Array Oper)(g:Nat):Option Tmp:=
 match ops[g]? with
 | some o=>o.dst
 | none=>none
noncomputable def wants(ops:Array Oper)(t:Fr)(g:Nat)(b:Bool):Bool:=
 Option.rec false (fun d=>onBool (fget t d) (fun z=>Bool.rec (Bool.rec true false b) b z) false) (dstOf ops g)
noncomputable def wanted(ops:Array Oper)(t:Fr)(g:Option (Nat×Bool)):Bool:=
 Option.rec true (fun g=>wants ops t g.1 g.2) g
noncomputable def xops(P:Program)(lo:Lo)(cx:Cx)(all:Array Oper)(l:List Oper)(t:Fr)(w:W)(k:KX):Bool:=
 List.rec (motive:=fun _=>Program→Lo→Cx→Array Oper→Fr→W→KX→Bool)
  (fun _ _ _ _ t w k=>k .normal t w)
  (fun o _ ih P lo cx all t w k=>
   (fun kv:KV=>Bool.rec (kv w undef) (Option.rec (eff o.op P lo cx t w kv fun c w=>k (.panic c) t w) (kv w) (yO o.op P t w.h)) (wanted all t o.guard))
    (fun w v=>putT t o.dst v fun t=>ih P lo cx all t w k)) l P lo cx all t w k
def zK:Op→Nat
 | .move _ | .assign _ | .pick .. | .build .. | .nilCheck _ | .binOp .. | .unOp .. | .convert .. | .makeInterface .. | .makeFunc ..
 | .fieldAddr .. | .field .. | .indexAddr .. | .index .. | .typeAssert .. | .extract .. =>0
 | .load .. | .lookup .. | .slice .. =>1
 | .call ⟨.builtin b,_,_⟩=>match b with
  | .len | .cap | .max | .min=>1
  | _=>3
 | .alloc _ | .box .. | .buildSlice .. | .makeSlice .. =>2
 | .makeMap _ none=>2
 | _=>3
noncomputable def zN(m i:Nat):Bool:=Nat.beq (Nat.land (Nat.shiftRight m i) 1) 1
noncomputable def xU(acc:Tr Nat)(j:Nat):List Edge→Nat→Option Nat
 | [],m=>some m
 | e::es,m=>match e.ground with
  | .textOnly _ | .gcOnly _=>xU acc j es m
  | _=>Bool.rec none (xU acc j es (Nat.lor m (Nat.lor (Nat.shiftLeft 1 e.on) (Tr.get 0 acc e.on)))) (Nat.blt e.on j)
noncomputable def tmpMask:List Operand→Nat→Nat
 | [],m=>m
 | x::xs,m=>tmpMask xs (Operand.rec (motive:=fun _=>Nat→Nat) (fun t r=>Nat.lor r (Nat.shiftLeft 1 t)) (fun _ r=>r) (fun _ r=>r) (fun _ r=>r) x m)
structure XOp where
 o:Oper
 i:Nat
 kd:Nat
 m:Nat
 lk:Nat
 ds:Nat
noncomputable def dstMask(d:Option Tmp):Nat:=Option.rec 0 (fun t=>Nat.shiftLeft 1 t) d
noncomputable def xlist(all:Array Oper):List Oper→Nat→Tr Nat→Option (List XOp)
 | [],_,_=>some []
 | o :: r, j, acc => match xU acc j o.after.toList 0 with
  | none=>none
  | some m => match (match o.guard with
   | none=>some 0
   | some (g,_)=>Bool.rec none (some (dstMask (dstOf all g))) (zN m g):Option Nat) with
   | none=>none
   | some gm=>match xlist all r (Nat.succ j) (Tr.set 0 m acc j) with
    | none=>none
    | some l=>some (⟨o,j,zK o.op,m,tmpMask o.op.operands.toList gm,dstMask o.dst⟩::l)
noncomputable def pairOK(x y:XOp):Bool:=
 Bool.rec (Nat.beq x.i y.i || (Nat.beq (Nat.land x.ds y.ds) 0 && (zN y.m x.i || zN x.m y.i))) true (Nat.beq (Nat.land x.ds (Nat.lor y.lk y.ds)) 0)
noncomputable def allB{α : Type}(f: α→Bool)(l:List α):Bool:=
 List.rec (motive:=fun _=>(α→Bool)→Bool) (fun _=>true) (fun x _ ih f=>Bool.rec false (ih f) (f x)) l f
noncomputable def pairsOK(l:List XOp):Bool:=allB (fun x=>allB (fun y=>pairOK x y) l) (l.filter fun x=> !Nat.beq x.ds 0)
noncomputable def actsOK(l:List XOp):Bool:=allB (fun x=>allB (fun y=>Nat.beq x.i y.i || zN y.m x.i || zN x.m y.i) l) l
structure DOp where
 o:Oper
 i:Nat
 kd:Nat
 low:Nat
 high:Nat
 solo:Bool
 un:List Nat
noncomputable def dopOf(l acts:List XOp)(x:XOp):DOp:=
 ⟨x.o,x.i,x.kd,(acts.filter fun c=>zN x.m c.i).length,(acts.filter fun c=> !zN c.m x.i && !Nat.beq c.i x.i).length,
  l.all fun y=>Nat.beq x.i y.i || zN x.m y.i || zN y.m x.i,
  cond (Nat.beq x.kd 3) ((l.filter fun y=> !(Nat.beq x.i y.i || zN x.m y.i || zN y.m x.i)).map fun y=>y.i) []⟩
noncomputable def wO:List XOp→List XOp→List XOp
 | rest,[]=>rest
 | rest,c::cs=>(rest.filter fun x=>zN c.m x.i)++c::wO (rest.filter fun x=> !zN c.m x.i && !Nat.beq x.i c.i) cs
noncomputable def sigB:List XOp→Nat→Nat→Bool
 | [],_,_=>true
 | x::r,sm,pm=>Bool.rec false (Bool.rec (Bool.rec
  (sigB r (Nat.lor sm (Nat.shiftLeft 1 x.i)) (Nat.lor pm (Nat.shiftLeft 1 x.i)))
  (Bool.rec false (sigB r (Nat.lor sm (Nat.shiftLeft 1 x.i)) 0) (Nat.beq (Nat.land x.m pm) pm)) (Nat.beq x.kd 3)) false (zN sm x.i)) (Nat.beq (Nat.land x.m sm) x.m)
noncomputable def transOK(l:List XOp):Bool:=allB (fun x=>allB (fun y=>Bool.rec true (Nat.beq (Nat.land y.m x.m) y.m) (zN x.m y.i)) l) l
def dryOf(un:List Nat)(r:List DOp):List DOp:=r.filter fun y=>un.any fun i=>Nat.beq i y.i
noncomputable def planOf(n:Nat)(l acts s:List XOp):Option (List DOp):=
 cond (pairsOK l && actsOK acts && Nat.beq s.length n && sigB s 0 0 && transOK l) (some (s.map (dopOf l (s.filter fun x=>Nat.beq x.kd 3)))) none
noncomputable def plan(ops:Array Oper):Option (List DOp):=
 match xlist ops ops.toList 0 .lF with
 | none=>none
 | some l=>planOf ops.toList.length l (l.filter fun x=>Nat.beq x.kd 3) (wO l (l.filter fun x=>Nat.beq x.kd 3))
structure Look where
 o:Op
 t:Fr
 v:Value
 low:Nat
 high:Nat
noncomputable def scalB(v v':Value):Bool:=
 match v,v' with
 | .bool a,.bool b=>cond a b (!b)
 | .int k a,.int k' b=>wN k k' && ieqB a b
 | .string a,.string b=>wE a.data.toList b.data.toList
 | .pointer none,.pointer none=>true
 | .pointer (some ⟨b,o,none⟩),.pointer (some ⟨b',o',none⟩)=>Nat.beq b b' && Nat.beq o o'
 | .slice none l c,.slice none l' c'=>Nat.beq l l' && Nat.beq c c'
 | .slice (some ⟨b,o,none⟩) l c,.slice (some ⟨b',o',none⟩) l' c'=>Nat.beq b b' && Nat.beq o o' && Nat.beq l l' && Nat.beq c c'
 | .map none,.map none=>true
 | .map (some a),.map (some b)=>Nat.beq a b
 | .nilFunc,.nilFunc=>true
 | .nilIface,.nilIface=>true
 | _,_=>false
noncomputable def vI:List Value→List Value→Bool
 | [],[]=>true
 | a::l,b::l'=>scalB a b && vI l l'
 | _,_=>false
noncomputable def sameB(v v':Value):Bool:=
 match v,v' with
 | .agg a,.agg b=>vI a.toList b.toList
 | .tuple a,.tuple b=>vI a.toList b.toList
 | .func (.func f) a b,.func (.func g) c d=>Nat.beq f g && (vI a.toList c.toList && vI b.toList d.toList)
 | a,b=>scalB a b
noncomputable def blkLt(n:Nat)(v:Value):Bool:=
 match v with
 | .pointer (some a)=>Nat.blt a.block n
 | .slice (some a) _ _=>Nat.blt a.block n
 | .map (some r)=>Nat.blt r n
 | _=>true
noncomputable def lookLt(n:Nat)(o:Op)(t:Fr):Bool:=
 match o with
 | .load _ x=>blkLt n (ev t x)
 | .lookup _ x _ _=>blkLt n (ev t x)
 | .slice _ x _ _ _=>blkLt n (ev t x)
 | .call ⟨_,args,_⟩=>match args.toList with
  | x::_=>blkLt n (ev t x)
  | []=>true
 | _=>false
noncomputable def vJ(P:Program)(l:Look):Nat→List W→Bool
 | _,[]=>true
 | k,w::hs=>(cond (Nat.ble l.low (Nat.pred k) && Nat.ble (Nat.pred k) l.high) (lookLt w.n l.o l.t && (match yO l.o P l.t w.h with
  | some v=>sameB v l.v
  | none=>false)) true) && vJ P l (Nat.pred k) hs
noncomputable def yP(P:Program)(k:Nat)(hs:List W):List Look→Bool
 | []=>true
 | l::ls=>vJ P l k hs && yP P k hs ls
noncomputable def xK(P:Program)(lo:Lo)(cx:Cx)(all:Array Oper)(pan:DOp→List DOp→Fr→W→List W→List Look→zE→W→Bool):List DOp→Fr→W→List W→List Look→KX→Bool
 | [],t,w,hs,ls,k=>k .normal t w && yP P hs.length hs ls
 | x :: r, t, w, hs, ls, k => match wanted all t x.o.guard with
  | false=>putT t x.o.dst undef fun t'=>xK P lo cx all pan r t' w (cond (Nat.beq x.kd 3) (w::hs) hs) ls k
  | true => match x.kd with
   | 0=>match yO x.o.op P t w.h with
    | some v=>putT t x.o.dst v fun t'=>xK P lo cx all pan r t' w hs ls k
    | none=>false
   | 1=>match yO x.o.op P t w.h with
    | some v=>putT t x.o.dst v fun t'=>xK P lo cx all pan r t' w hs (cond (Nat.beq x.low x.high) ls (⟨x.o.op,t,v,x.low,x.high⟩::ls)) k
    | none=>false
   | 2=>eff x.o.op P lo cx t w (fun w' v=>putT t x.o.dst v fun t'=>xK P lo cx all pan r t' w' hs ls k) fun _ _=>false
   | _=>eff x.o.op P lo cx t w (fun w' v=>cond (Nat.ble w.n w'.n) (putT t x.o.dst v fun t'=>xK P lo cx all pan r t' w' (w'::hs) ls k) false)
    fun c w'=>pan x r t w hs ls c w'
noncomputable def panD(P:Program)(lo:Lo)(cx:Cx)(all:Array Oper)(k:KX)(x:DOp)(r:List DOp)(t:Fr)(w:W)(hs:List W)(ls:List Look)(c:zE)(w':W):Bool:=
 cond x.solo (cond (yP P hs.length hs ls) (k (.panic c) t w') false) (match w'.d with
  | []=>xK P lo cx all (fun _ _ _ _ _ _ _ _=>false) (dryOf x.un r) t w hs ls fun e _ _=>match e with
   | .normal=>k (.panic c) t w'
   | _=>false
  | _=>false)
noncomputable def xdraw(P:Program)(lo:Lo)(cx:Cx)(all:Array Oper)(l:List DOp)(t:Fr)(w:W)(hs:List W)(ls:List Look)(k:KX):Bool:=xK P lo cx all (panD P lo cx all k) l t w hs ls k
noncomputable def xdrawn(P:Program)(lo:Lo)(cx:Cx)(ops:Array Oper)(t:Fr)(w:W)(k:KX):Bool:=
 match plan ops with
 | some l=>xdraw P lo cx ops l t w [w] [] k
 | none=>false
noncomputable def xrange(lo:Lo)(f:Operand)(params:Array Tmp)(assign body:Code)(cx:Cx)(t:Fr)(d:List Deferred)(u:Option zE)(h:zB)(n:Nat)(blk:Nat)(k:KX):Bool:=
 zL h n (.loop { state:=.ready,pending:=none,fn:=cx.fn,tmps:= #[],params,assign,body,defers:=blk } t) fun h' n'=>
  xinvoke lo (ev t f) [.func (.yield n) #[] #[]] h' n'
   (fun _ h2 n2=>match zF h2 n with
    | .loop l t0 => match l.state with
     | .busy=>false
     | _=>h2.setK .dead (.loop { l with state:=.exhausted } t0) n fun h3=>match l.pending with
      | none=>k .normal t ⟨d,u,h3,n2⟩
      | some j=>lo.code j cx t ⟨d,u,h3,n2⟩ k
    | _=>false)
   (fun c h2 n2=>k (.panic c) t ⟨d,u,h2,n2⟩)
noncomputable def xcode(P:Program)(lo:Lo)(c:Code):Cx→Fr→W→KX→Bool:=
 Code.rec (motive:=fun _=>Program→Lo→Cx→Fr→W→KX→Bool)
  (fun _ _ _ t w k=>k .normal t w)
  (fun _ ops draw P lo cx t w k=>Bool.rec (xops P lo cx ops ops.toList t w k) (xdrawn P lo cx ops t w k) draw)
  (fun _ _ iha ihb P lo cx t w k=>iha P lo cx t w fun x t w=>AX.rec (ihb P lo cx t w k) (fun i=>k (.exit i) t w) (fun i=>k (.goto i) t w) (k .ret t w) (fun c=>k (.panic c) t w) x)
  (fun c _ _ ih1 ih2 P lo cx t w k=>onBool (ev t c) (fun b=>Bool.rec (ih2 P lo cx t w k) (ih1 P lo cx t w k) b) false)
  (fun id _ ih P lo cx t w k=>ih P lo cx t w fun x t w=>AX.rec (k .normal t w) (fun i=>Bool.rec (k (.exit i) t w) (k .normal t w) (Nat.beq i id)) (fun i=>k (.goto i) t w) (k .ret t w) (fun c=>k (.panic c) t w) x)
  (fun b ih P lo cx t w k=>ih P lo cx t w fun x t w=>AX.rec (lo.code (.loop b) cx t w k) (fun i=>k (.exit i) t w) (fun i=>k (.goto i) t w) (k .ret t w) (fun c=>k (.panic c) t w) x)
  (fun f params assign body _ _ _ lo cx t w k=>match cx.round,w with
   | none,⟨d,u,h,n⟩=>zL h n (.deferred true) fun h' n'=>xrange lo f params assign body cx t ({ target:=.collected n,args:= #[] }::d) u h' n' n k
   | some l,⟨d,u,h,n⟩=>match zF h l with
    | .loop ll _=>xrange lo f params assign body cx t d u h n ll.defers k
    | _=>false)
  (fun id _ _ _ t w k=>k (.exit id) t w)
  (fun _ ih P lo cx t w k=>ih P lo cx t w fun x t w=>AX.rec (k .normal t w) (fun i=>k (.exit i) t w) (fun _=>false) (k .ret t w) (fun c=>k (.panic c) t w) x)
  (fun _ _ _ _ t w k=>k .normal t w)
  (fun l _ _ _ t w k=>k (.goto l) t w)
  (fun _ _ _ t w k=>k .ret t w)
  (fun _ _ _ _ _ _ _=>false)
  c P lo
noncomputable def ldV(P:Program)(h:zB)(ty:TypeId)(x:Value):Option Value:=
 onPtr x (fun b off=>onRows (zF h b) (fun c kn=>
  Sh.rec none (Bool.rec none (yN (Tr.get undef c off) some) (Nat.blt off kn))
   (fun sz=>Bool.rec none (some (.agg ⟨c.toListFrom undef off sz⟩)) (Nat.ble (Nat.add off sz) kn)) (zY P ty)) (fun c kn=>
  Sh.rec none (Bool.rec none (vN (Tr.get undef c off)) (Nat.blt off kn))
   (fun sz=>Bool.rec none (vO (c.toListFrom undef off sz)) (Nat.ble (Nat.add off sz) kn)) (zY P ty)) none) none
noncomputable def yC(P:Program)(t:Fr)(h:zB):List ResultVar→Option (List Value)
 | []=>some []
 | .tmp i::r=>match yC P t h r with
  | some l=>some (fget t i::l)
  | none=>none
 | .cell x ty::r=>match ldV P h ty (fget t x),yC P t h r with
  | some v,some l=>some (v::l)
  | _,_=>none
def vB:List Value→Value
 | [v]=>v
 | l=>.tuple ⟨l⟩
noncomputable def xleave(P:Program)(lo:Lo)(fn:Func)(mode:Option zE)(t:Fr)(w:W)(k:KO):Bool:=
 match w with
 | ⟨d, u0, h, n⟩ => match d with
  | [] => match mode with
   | none=>match yC P t h fn.results.toList with
    | some l=>yN (vB l) fun v=>k (.ret v) u0 h n
    | none=>false
   | some c=>k (.panic c) u0 h n
  | ⟨.collected r,_⟩::ds=>match zF h r with
   | .deferred true=>h.setK .dead (.deferred false) r fun h=>lo.leave fn mode t ⟨ds,u0,h,n⟩ k
   | _=>false
  | ⟨.fn (.func g) cap, args⟩ :: ds => lo.call g (args.toList ++ cap.toList) true mode h n fun o u h n => match o with
   | .panic _=>false
   | .ret _=>match u with
    | some (⟨_,true,_⟩::older)=>cond (older.all fun e=> !e.goexit) (lo.leave fn none t ⟨ds,u0,h,n⟩ k) false
    | u=>lo.leave fn u t ⟨ds,u0,h,n⟩ k
  | _=>false
noncomputable def bodyOf(P:Program)(f:FuncId):Option (Func×Code):=
 match Tr.get none (fnT P) f with
 | some fn=>match fn.body with
  | some body=>some (fn,body)
  | none=>none
 | none=>none
noncomputable def args0(t:Fr)(i:Nat)(l:List Value)(k:Fr→Bool):Bool:=
 List.rec (motive:=fun _=>Fr→Nat→(Fr→Bool)→Bool) (fun t _ k=>k t)
  (fun v _ ih t i k=>yN v fun v=>fsetK t i v fun t=>ih t (Nat.succ i) k) l t i k
noncomputable def xcall(P:Program)(lo:Lo)(f:FuncId)(args:List Value)(df:Bool)(u:Option zE)(h:zB)(n:Nat)(k:KO):Bool:=
 Option.rec false (fun fb=>Prod.rec (fun fn body=>Bool.rec false (args0 fr0 0 args fun t=>
  lo.code body ⟨f,none,df⟩ t ⟨[],u,h,n⟩ fun x t w=>AX.rec (lo.leave fn none t w k) (fun _=>false) (fun _=>false) (lo.leave fn none t w k) (fun c=>lo.leave fn (some c) t w k) x) (Nat.ble args.length fn.ntmps)) fb) (bodyOf P f)
noncomputable def vC(t:Fr):List Tmp→List Value→(Fr→Bool)→Bool
 | i::is,v::vs,k=>yN v fun v=>fsetK t i v fun t'=>vC t' is vs k
 | [],[],k=>k t
 | _,_,_=>false
noncomputable def endRound(l:Nat)(j:Option Code)(h:zB)(n:Nat)(k:Out→zB→Nat→Bool):Bool:=
 match zF h l with
 | .loop l2 t2=>h.setK .dead (.loop { l2 with state:=(match j with|none=>.ready|some _=>.done),pending:=j } t2) l fun h2=>
  k (.ret (.bool (match j with|none=>true|some _=>false))) h2 n
 | _=>false
noncomputable def xround(lo:Lo)(l:Nat)(args:List Value)(h:zB)(n:Nat)(k:Out→zB→Nat→Bool):Bool:=
 match zF h l with
 | .loop ll t => vC t ll.params.toList args fun t' =>
  lo.code ll.assign ⟨ll.fn,some l,false⟩ t' ⟨[],none,h,n⟩ fun x t w=>match x,w with
   | .normal, ⟨d, u, h, n⟩ => match zF h l with
    | .loop l1 t1 => match l1.state with
     | .ready => h.setK .dead (.loop { l1 with state := .busy } t1) l fun h1 =>
      lo.code ll.body ⟨ll.fn,some l,false⟩ t ⟨d,u,h1,n⟩ fun x _ w=>match w with
       | ⟨[],_,h,n⟩=>match x with
        | .normal=>endRound l none h n k
        | .ret=>endRound l (some .ret) h n k
        | .exit id=>endRound l (some (.exit id)) h n k
        | .goto id=>endRound l (some (.goto id)) h n k
        | .panic c=>k (.panic c) h n
       | _=>false
     | _=>false
    | _=>false
   | _,_=>false
 | _=>false
noncomputable def Lo.next(P:Program)(lo:Lo):Lo:=⟨xcode P lo,xcall P lo,xround lo,xleave P lo⟩
noncomputable def run(P:Program)(fuel:Nat):Lo:=Nat.rec Lo.bot (fun _ lo=>Lo.next P lo) fuel
end Go.Ex
